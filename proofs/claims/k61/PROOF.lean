import PyProof.Rows.All
import Wide.All
import OpenK.AllK
import Wide.FinOn
import PyProof.EqAt
import PyProof.EqKinds
import PyProof.TupleCall
import HandS.Base
import HandS.Call
import HandS.List
import HandS.Set
import HandS.SetFor
import HandS.Strs
import HandS.ForMost
import HandS.IsInst
import HandS.WideBits
import HandS.Walk
import HandS.Codes
import HandS.Defaults
import HandS.HeadEnd
import HandS.Iter
import HandS.Style
import HandS.OwnEq
import HandS.SlotsOwn
import PyProof.InstEq
import HandS.HeadHook2
import PyProof.ReprRoads
import PyProof.ReprReads
import HandS.Star
import PyProof.ZipIter
import HandS.Zip0
import HandS.Zip
import HandS.Deep
import PyProof.Rows.SortShell
import PyProof.Rows.SortKey
import KE.KSortTup
import PyProof.IsInstanceT
import PyProof.IsiTuple
import PyProof.DictWalks
import PyProof.DictRoads
import PyProof.DictStraight
import KE.SortData
import HandS.Dict
import HandS.More
import PyProof.Rows.FactsN_isinstance
import KE.KStateDown
import HandS.WordsExc
import HandS.Head0
import HandS.Head1
import HandS.Head2
import HandS.HeadHook1
import PySem.Challenge.RW_panelfairs_k61_whole_several_cards_and_l
set_option Elab.async false
set_option linter.all false
set_option maxRecDepth 100000
set_option maxHeartbeats 0
namespace TX
open L2
open PySem PySem.Spec PyProof.Rows

def tkeyOf (e : Int × Value) : Str := match e.2 with | .str k _ => k | _ => Str.empty
def GoodT (w : World) (e : Int × Value) : Prop := ∃ k tk, e.2 = Value.str k tk ∧ e.1 = hashStr w k

/-- the set of ints at a: S its members, n their number; its table rises and can be walked -/
def SetTx (w : World) (h : Heap) (a : Addr) (S : Str → Bool) (n : Nat) : Prop :=
  ∃ o es ep t, h.get? a = some o ∧ o.ExactSet ∧ o.data = .set es ep t ∧ (∀ e ∈ es.toList, GoodT w e) ∧ (es.toList.map tkeyOf).Nodup ∧ (∀ k, S k = true ↔ k ∈ es.toList.map tkeyOf) ∧
    es.size < scanBound ∧ t.fits es.size = true ∧ es.size = n ∧ Ris t.place.toList ∧ (w.params.followText "set-order" = true ∨ t.led = true)

section
variable {P : Program} {w : World} {h h' : Heap} {a : Addr} {S : Str → Bool} {n : Nat}

theorem SetTx.at (R : SetTx w h a S n) (k : ∀ o, h.get? a = some o → h'.get? a = some o) : SetTx w h' a S n := by
  obtain ⟨o, es, ep, t, ho, r⟩ := R
  exact ⟨o, es, ep, t, k o ho, r⟩
theorem SetTx.lt (R : SetTx w h a S n) : a < h.objs.size := by
  obtain ⟨o, es, ep, t, ho, r⟩ := R
  exact Heap.lt_size ho
theorem SetTx.congr {S' : Str → Bool} (R : SetTx w h a S n) (e : ∀ k, S' k = S k) : SetTx w h a S' n := by
  have q : S' = S := funext e
  rw [q]; exact R
theorem goodT_elems {l : List (Int × Value)} (g : ∀ e ∈ l, GoodT w e) : ElemsOf (strKind P w) l := fun e he => by
  obtain ⟨k, tk, h1, h2⟩ := g e he
  exact ⟨⟨k, by rw [h1]; exact strKind_is P w k tk, h2⟩, by rw [h1] <;> rfl⟩
theorem goodT_is {e : Int × Value} (g : GoodT w e) (k : Str) : (strKind P w).is k e.2 = true ↔ tkeyOf e = k := by
  obtain ⟨k0, tk, h1, _⟩ := g
  unfold tkeyOf
  rw [h1]
  show (Value.isStrOf k (.str k0 tk) = true) ↔ k0 = k
  simp [Value.isStrOf]
theorem goodT_mem {l : List (Int × Value)} (g : ∀ e ∈ l, GoodT w e) (k : Str) : k ∈ l.map tkeyOf ↔ ∃ e ∈ l, (strKind P w).is k e.2 = true := by
  rw [List.mem_map]
  constructor
  · rintro ⟨e, he, q⟩
    exact ⟨e, he, (goodT_is (g e he) k).2 q⟩
  · rintro ⟨e, he, q⟩
    exact ⟨e, he, (goodT_is (g e he) k).1 q⟩
theorem SetTx.setOf (R : SetTx w h a S n) : h.SetOf (strKind P w) a S n := by
  obtain ⟨o, es, ep, t, ho, hx, hd, g, nd, hm, hb, hf, hn, _⟩ := R
  exact ⟨o, es, ep, t, ho, hx, hd, goodT_elems g, fun k => (hm k).trans (goodT_mem g k), hb, hf, hn⟩
end

section
variable {P : Program} {w : World} {A : Around} {E : Value → Shared → Prop} {s : Shared} {a : Addr} {S : Str → Bool} {n : Nat}

theorem storeT_at {h : Heap} {a : Addr} {o : Obj} {es es' : Array (Int × Value)} {ep : Nat} {t t' : SetTable} (ho : h.get? a = some o) (hd : o.data = .set es ep t) :
    (h.update a (Obj.putSet es' t')).get? a = some { o with data := .set es' (ep + 1) t' } := by
  have q := Heap.get?_update_self (Obj.putSet es' t') ho (by rw [putSet_of es' t' hd]; rfl)
  rw [putSet_of es' t' hd] at q
  exact q

theorem setTx_add_tail {g : Bool → Sem Unit} (hg : ∀ (b : Bool) (s₁ : Shared) (Q' : Unit → Shared → Prop), Q' () s₁ → wpAny (model P w) A (g b) Q' E s₁)
    {o : Obj} {es : Array (Int × Value)} {ep : Nat} {t : SetTable} (ho : s.heap.get? a = some o) (hex : o.ExactSet) (hd : o.data = .set es ep t)
    {es1 : Array (Int × Value)} {t2 : SetTable} {S' : Str → Bool} (g1 : ∀ e ∈ es1.toList, GoodT w e) (nd1 : (es1.toList.map tkeyOf).Nodup) (m1 : ∀ k, S' k = true ↔ k ∈ es1.toList.map tkeyOf)
    (hb1 : es1.size < scanBound) (hf2 : t2.fits es1.size = true) (hr : Ris t2.place.toList) (hl : w.params.followText "set-order" = true ∨ t2.led = true) {wasDummy : Bool} {R : Option Bool → Shared → Prop}
    (hR : ∀ h', Heap.SameBut a s.heap h' → SetTx w h' a S' es1.size → R (some true) { s with heap := h' }) :
    wpAny (model P w) A (do
        storeSet a es1 t2
        if (!wasDummy && t2.tooFull) = true then do
            g (relayAll t2 es1 (SetTable.grown es1.size)).2.2
            storeSet a (relayAll t2 es1 (SetTable.grown es1.size)).1 (relayAll t2 es1 (SetTable.grown es1.size)).2.1
            pure (some true)
          else pure (some true)) R E s := by
  refine wpAny_bind (wpAny_storeSet_of ho hd ?_ (fits_of_scanBound hb1))
  have ho1 := storeT_at (es' := es1) (t' := t2) ho hd
  have sb1 := Heap.SameBut.update s.heap a (Obj.putSet es1 t2)
  split
  · have pm := relayAll_perm t2 es1 (SetTable.grown es1.size)
    have hf3 := relayAll_fits t2 es1 (SetTable.grown es1.size)
    have hr3 := relayAll_ris t2 es1 (SetTable.grown es1.size)
    have hl3 := relayAll_led t2 es1 (SetTable.grown es1.size)
    generalize relayAll t2 es1 (SetTable.grown es1.size) = Z at pm hf3 hr3 hl3 ⊢
    obtain ⟨es2, t3, gave⟩ := Z
    dsimp only at pm hf3 hr3 hl3 ⊢
    have hsz : es2.size = es1.size := by rw [← Array.length_toList, pm.length_eq, Array.length_toList]
    have hb2 : es2.size < scanBound := by rw [hsz]; exact hb1
    refine wpAny_bind (hg _ _ _ ?_)
    refine wpAny_bind (wpAny_storeSet_of ho1 rfl ?_ (fits_of_scanBound hb2))
    have ho2 := storeT_at (es' := es2) (t' := t3) ho1 rfl
    refine wpAny_pure (hR _ (sb1.trans (Heap.SameBut.update _ a _)) ?_)
    exact ⟨_, es2, _, t3, ho2, hex, rfl, fun e he => g1 e (pm.mem_iff.mp he), (pm.map tkeyOf).nodup_iff.mpr nd1, fun k => (m1 k).trans (pm.map tkeyOf).mem_iff.symm, hb2, hf3, hsz, hr3,
      hl.imp id fun z => by rw [hl3]; exact z⟩
  · exact wpAny_pure (hR _ sb1 ⟨_, es1, _, t2, ho1, hex, rfl, g1, nd1, m1, hb1, hf2, rfl, hr, hl⟩)

theorem setTx_add_hashed {k : Str} {tk : Tok} {Q : Bool → Shared → Prop} (R : SetTx w s.heap a S n) (room : n + 1 < scanBound)
    (hQ : ∀ h', Heap.SameBut a s.heap h' → SetTx w h' a (fun j => S j || decide (j = k)) (if S k = true then n else n + 1) → Q (!S k) { s with heap := h' }) :
    wpAny (model P w) A (setAddHashed a (.str k tk) ((strKind P w).hash k)) Q E s := by
  obtain ⟨o, es, ep, t, ho, hex, hd, g, nd, hm, hb, hf, hn, hr, hl⟩ := R
  have hkey : (strKind P w).is k (.str k tk) = true := strKind_is P w k tk
  have hsc : (Value.str k tk).scannable = true := rfl
  have hel : ElemsOf (strKind P w) es.toList := goodT_elems g
  unfold setAddHashed setAddHashedIn
  refine wpAny_holding (wpAny_bind (wpAny_setState_of ho hd hf ?_))
  dsimp only
  rw [byScan_of hsc hb hel]
  simp only [↓reduceIte]
  unfold setAddByScan
  refine wpAny_bind ?_
  refine wpAny_bind (wpAny_rule ?_)
  refine wpAny_bind (wpAny_setScan_of hkey ho hd hf hel ?_)
  cases hfi : List.findIdx? (fun e => (strKind P w).is k e.2) es.toList with
  | some j =>
    dsimp only
    obtain ⟨hj, pj, _⟩ := List.findIdx?_eq_some_iff_getElem.mp hfi
    have hSk : S k = true := (hm k).2 ((goodT_mem (P := P) (w := w) g k).2 ⟨es.toList[j], List.getElem_mem hj, pj⟩)
    refine wpAny_pure (wpAny_pure ?_)
    have q := hQ s.heap (Heap.SameBut.refl a s.heap) ⟨o, es, ep, t, ho, hex, hd, g, nd, fun i => by
      rw [Bool.or_eq_true, decide_eq_true_eq, ← hm i]
      exact ⟨fun z => z.elim id (fun e => e ▸ hSk), .inl⟩, hb, hf, by rw [if_pos hSk]; exact hn, hr, hl⟩
    rw [hSk] at q
    exact q
  | none =>
    dsimp only
    have hnk : k ∉ es.toList.map tkeyOf := fun z => by
      obtain ⟨e, he, q⟩ := (goodT_mem (P := P) (w := w) g k).1 z
      have c := List.findIdx?_eq_none_iff.mp hfi e he
      rw [q] at c
      cases c
    have hSk : S k = false := by
      cases q : S k with
      | false => rfl
      | true => exact absurd ((hm k).1 q) hnk
    have hgw : ∀ (b : Bool) {s₁ : Shared} {Q' : Unit → Shared → Prop}, Q' () s₁ → wpAny (model P w) A (match b with | true => rule "set.scan.the-table-gave-way" | false => pure ()) Q' E s₁ :=
      fun b s₁ Q' q => by cases b <;> first | exact wpAny_pure q | exact wpAny_rule q
    have pm := layNew_perm t es ((strKind P w).hash k) (.str k tk)
    have hf1 := layNew_fits t es ((strKind P w).hash k) (.str k tk)
    have hr1 := layNew_ris t es ((strKind P w).hash k) (.str k tk) hr
    have hl1 := layNew_led t es ((strKind P w).hash k) (.str k tk)
    generalize layNew t es ((strKind P w).hash k) (.str k tk) = Z at pm hf1 hr1 hl1 ⊢
    obtain ⟨es1, t1, wasDummy, gave⟩ := Z
    dsimp only at pm hf1 hr1 hl1 ⊢
    rw [Array.toList_push] at pm
    have pc : es1.toList.Perm (((strKind P w).hash k, Value.str k tk) :: es.toList) := pm.trans (List.perm_append_singleton _ _)
    have pk : (es1.toList.map tkeyOf).Perm (k :: es.toList.map tkeyOf) := pc.map tkeyOf
    have g1 : ∀ e ∈ es1.toList, GoodT w e := fun e he => by
      rcases List.mem_cons.mp (pc.mem_iff.mp he) with z | z
      · rw [z]; exact ⟨k, tk, rfl, rfl⟩
      · exact g e z
    have nd1 : (es1.toList.map tkeyOf).Nodup := pk.nodup_iff.mpr (List.nodup_cons.mpr ⟨hnk, nd⟩)
    have m1 : ∀ i, (S i || decide (i = k)) = true ↔ i ∈ es1.toList.map tkeyOf := fun i => by
      rw [Bool.or_eq_true, decide_eq_true_eq, hm i, pk.mem_iff, List.mem_cons]
      exact Or.comm
    have hsz : es1.size = n + 1 := by rw [← Array.length_toList, pc.length_eq, List.length_cons, Array.length_toList, hn]
    have hb1 : es1.size < scanBound := by rw [hsz]; exact room
    have hled : w.params.followText "set-order" = true ∨ t1.led = true := hl.imp id fun z => by rw [hl1]; exact z
    have fin : ∀ h', Heap.SameBut a s.heap h' → SetTx w h' a (fun j => S j || decide (j = k)) es1.size → Q true { s with heap := h' } := fun h' sb r => by
      have q := hQ h' sb
      rw [hSk] at q
      rw [hsz] at r
      exact q r
    refine wpAny_bind (hgw _ ?_)
    split
    · refine wpAny_bind ?_
      rw [hashByValue_scannable 8 hsc]
      refine wpAny_pure ?_
      refine setTx_add_tail ?_ ho hex hd g1 nd1 m1 hb1 ?_ ?_ ?_ ?_
      · intro b s₁ Q' q; cases b <;> first | exact wpAny_pure q | exact wpAny_rule q
      · first | (split <;> first | exact hf1 | exact SetTable.fits_plain_off hf1) | exact hf1
      · first | (split <;> exact hr1) | exact hr1
      · first | (split <;> exact hled) | exact hled
      · intro h' sb r; dsimp only; exact wpAny_pure (fin h' sb r)
    · refine wpAny_bind (wpAny_pure ?_)
      simp only [↓reduceIte]
      refine setTx_add_tail ?_ ho hex hd g1 nd1 m1 hb1 hf1 hr1 hled ?_
      · intro b s₁ Q' q; cases b <;> first | exact wpAny_pure q | exact wpAny_rule q
      · intro h' sb r; dsimp only; exact wpAny_pure (fin h' sb r)

end
theorem setTx_new_at {w : World} {h : Heap} {a : Addr} {ns : List Str} (ho : h.get? a = some { cls := .type "set", dict := none, data := .set #[] 0 (.fresh 0 0 (!w.params.followText "set-order")) }) : SetTx w h a (fun j => decide (j ∈ ns.take 0)) 0 :=
  ⟨_, #[], 0, _, ho, ⟨rfl, rfl, rfl⟩, rfl, (fun e he => by simp at he), (by simp), (fun k => by simp), (by decide), (by rfl), rfl, List.Pairwise.nil, by
    show _ ∨ (!w.params.followText "set-order") = true
    cases w.params.followText "set-order"
    · exact .inr rfl
    · exact .inl rfl⟩
section
variable {P : Program} {w : World} {A : Around} {E : Value → Shared → Prop} {s : Shared}
theorem set_update_strs {I : Addr} {fp wr : List Addr} {G : Array GenState → Array GenState → Prop} {n : Nat} {Pv : Nat → Value → Prop} {St : Nat → Shared → Prop} {R : Result → Shared → Prop}
    (W : WalksS P w A.in1 I fp wr G n Pv St) (S : Addr) (hSf : S ∉ fp) (ns : List Str) (hn : n = ns.length) (hb : ns.length + 1 < scanBound) (hval : ∀ i v, Pv i v → ∃ k t, ns[i]? = some k ∧ v = .str k t) :
    ∀ (k i : Nat) (s : Shared), n - i = k → i ≤ n → St i s → (∃ c, c ≤ i ∧ SetTx w s.heap S (fun j => decide (j ∈ ns.take i)) c) →
      (∀ s' c, Moved (S :: wr) G s s' → c ≤ n → SetTx w s'.heap S (fun j => decide (j ∈ ns)) c → R (.ok (.ret .none)) s') →
      codeAny (model P w) A (.builtin "set.update.loop" ⟨[.ref S, .ref I], []⟩) R s := by
  have hSw : S ∉ wr := fun h => hSf (W.sub _ h)
  have hsub : ∀ b ∈ wr, b ∈ S :: wr := fun b hb => List.mem_cons_of_mem _ hb
  intro k
  induction k with
  | zero =>
    intro i s hk' hi hst ⟨c, hc, hS⟩ hR
    have hin : i = n := by omega
    subst hin
    refine codeAny_builtin F.entry_set_update_loop ?_
    rw [Around.under_plainId F.plain_set_update_loop _]
    show wpAny _ A.in1 (pyNext (.ref I) >>= _) _ _ s
    refine wpAny_bind (W.done s _ _ hst fun s' hm => ?_)
    show wpAny _ A.in1 (ret Value.none) _ _ s'
    have e : ns.take i = ns := List.take_of_length_le (by omega)
    rw [e] at hS
    exact wpAny_pure (hR s' c (hm.mono hsub) hc (hS.at fun o e => hm.heap S o hSw e))
  | succ k ih =>
    intro i s hk' hi hst ⟨c, hc, hS⟩ hR
    have hlt : i < n := by omega
    refine codeAny_builtin F.entry_set_update_loop ?_
    rw [Around.under_plainId F.plain_set_update_loop _]
    show wpAny _ A.in1 (pyNext (.ref I) >>= _) _ _ s
    refine wpAny_bind (W.item i s _ _ hlt hst fun v s' hP hst' hm => ?_)
    obtain ⟨z, t, hz, rfl⟩ := hval i v hP
    have hS' : SetTx w s'.heap S (fun j => decide (j ∈ ns.take i)) c := hS.at fun o e => hm.heap S o hSw e
    show wpAny _ A.in1 (holding [Value.str z t] (setAdd S (.str z t)) >>= _) _ _ s'
    refine wpAny_bind (wpAny_holding ?_)
    unfold setAdd
    refine wpAny_holding ?_
    refine wpAny_bind ((strKind P w).pyHash (k := z) (strKind_is _ _ _ _) ?_)
    refine setTx_add_hashed (s := { s' with toks := s'.toks + 1 }) hS' (by omega) fun h' hsb hS2 => ?_
    have hS3 : SetTx w h' S (fun j => decide (j ∈ ns.take (i + 1))) (if decide (z ∈ ns.take i) = true then c else c + 1) := hS2.congr fun j => by
      rw [List.take_add_one, hz]
      simp [List.mem_append]
    have hc3 : (if decide (z ∈ ns.take i) = true then c else c + 1) ≤ i + 1 := by
      split <;> omega
    refine wpAny_pure ⟨plainId_quiet F.plain_set_update_loop _, ih (i + 1) _ (by omega) hlt (W.frame _ s' _ _ hst' (Nat.le_succ _) fun b hb o e => ?_) ⟨_, hc3, hS3⟩ fun s'' c2 hm'' hc'' hS'' => ?_⟩
    · rw [hsb.2 b (fun h : b = S => hSf (by rw [← h]; exact hb))]; exact e
    · refine hR s'' c2 (Moved.trans W.gtrans ((hm.mono hsub).then_heap (Nat.le_succ _) fun b o hb e => ?_) hm'') hc'' hS''
      rw [hsb.2 b (fun h : b = S => hb (by rw [h]; exact List.mem_cons_self))]; exact e

theorem call_set_texts {l : Addr} {items : Array Value} (ns : List Str) {Q : Value → Shared → Prop} (hh : A.handled = none) (hl : s.heap.IsList l items) (hit : StrsAre items.toList ns) (hb : ns.length + 1 < scanBound)
    (h : ∀ (h' : Heap) (tk c : Nat), SetTx w h' s.heap.objs.size (fun j => decide (j ∈ ns)) c → c ≤ ns.length → (∀ b o, s.heap.get? b = some o → h'.get? b = some o) → Q (.ref s.heap.objs.size) { s with heap := h', toks := tk }) :
    wpAny (model P w) A (call (.type "set") [.ref l]) Q E s := by
  have hisz : items.size = ns.length := by
    have q := StrsAre.length hit
    rw [Array.length_toList] at q
    exact q
  obtain ⟨c, tl, hmro⟩ := F.called_set.mro
  have hmade := F.called_set.made
  have hsub := F.called_set.sub
  refine wpAny_call (codeAny_of_tree ?_)
  show wpAny _ _ (callAny (.type "set") _) _ _ _
  refine wpAny_pure ⟨Code.quiet_builtin _ (by decide +kernel), codeAny_builtin F.entry_type_call ?_⟩
  rw [Around.under_plain (weight_type_call_type "set" [.ref l] []) rfl]
  have h1 := F.called_set.notType
  have h2 := F.called_set.canCreate
  have hct := F.typeCall_set_1 (.ref l)
  repeat (any_goals (first | assumption | wp_step))

  refine codeAny_mono (code_set_led1 (.ref l) (E := E) (Q₁ := fun obj s₁ => obj = .ref s.heap.objs.size ∧ s₁ = { s with heap := s.heap.push { cls := .type "set", dict := none, data := .set #[] 0 (.fresh 0 0 (!w.params.followText "set-order")) } }) ⟨rfl, rfl⟩) fun r s₁ hr => ?_
  cases r with
  | error e => exact hr
  | ok fl =>
    cases fl with
    | ret obj =>
      obtain ⟨rfl, rfl⟩ := hr
      have hS : (s.heap.push { cls := .type "set", dict := none, data := .set #[] 0 (.fresh 0 0 (!w.params.followText "set-order")) }).get? s.heap.objs.size = some { cls := .type "set", dict := none, data := .set #[] 0 (.fresh 0 0 (!w.params.followText "set-order")) } := Heap.get?_push_size _ rfl
      have hT : Shared.TypeIs { s with heap := s.heap.push { cls := .type "set", dict := none, data := .set #[] 0 (.fresh 0 0 (!w.params.followText "set-order")) } } (.ref s.heap.objs.size) "set" := ⟨_, hS, rfl⟩
      have hli := F.called_set.init.lookup
      have hbi := F.called_set.init.bind (.ref s.heap.objs.size)
      repeat (any_goals (first | assumption | wp_step))

      refine codeAny_mono (codeAny_call_builtin (R := wants (fun r s₂ => r = .none ∧ ∃ h' tk c, s₂ = { s with heap := h', toks := tk } ∧ SetTx w h' s.heap.objs.size (fun j => decide (j ∈ ns)) c ∧ c ≤ ns.length ∧
          (∀ b o, s.heap.get? b = some o → h'.get? b = some o)) E) F.called_set.init.plain F.entry_set_init (check_set_init_1 hT ?_)) fun r₂ s₂ hr₂ => ?_
      · obtain ⟨ol, hol, hcl, nl, hdl⟩ := hl
        obtain ⟨ocls, odict, odata, oslots⟩ := ol
        simp only at hcl hdl
        subst hcl; subst hdl
        have hol' : (s.heap.push { cls := .type "set", dict := none, data := .set #[] 0 (.fresh 0 0 (!w.params.followText "set-order")) }).get? l = some { cls := .type "list", dict := odict, data := .seq items nl, slots := oslots } := Heap.get?_push_of_some _ hol
        have hsls := F.sub_list_set
        have hslf := F.sub_list_frozenset
        have hne : (Value.type "list" == Value.type "dict") = false := by decide
        have hl1 : (s.heap.push { cls := .type "set", dict := none, data := .set #[] 0 (.fresh 0 0 (!w.params.followText "set-order")) }).IsList l items := ⟨_, hol', rfl, nl, rfl⟩
        unfold Builtin.«set.__init__» noKeywords Builtin.Frozenset.updateFrom
        generalize hPI : pyIter = PI
        wp_walk
        subst hPI

        refine wpAny_pyIter_list hl1 ?_
        refine wpAny_bind (wpAny_runValue ?_)
        have hlS : l < s.heap.objs.size := Heap.lt_size hol
        have hh3 : A.in1.in1.in1.handled = none := by simp [hh]
        have hz1 : (s.heap.push { cls := .type "set", dict := none, data := .set #[] 0 (.fresh 0 0 (!w.params.followText "set-order")) }).objs.size = s.heap.objs.size + 1 := Heap.size_push ..
        have hneI : l ≠ (s.heap.push { cls := .type "set", dict := none, data := .set #[] 0 (.fresh 0 0 (!w.params.followText "set-order")) }).objs.size := by
          rw [Heap.size_push]; exact Nat.ne_of_lt (Nat.lt_succ_of_lt hlS)
        have hSf : s.heap.objs.size ∉ [(s.heap.push { cls := .type "set", dict := none, data := .set #[] 0 (.fresh 0 0 (!w.params.followText "set-order")) }).objs.size, l] := by
          rw [Heap.size_push]; simp only [List.mem_cons, List.mem_singleton, List.not_mem_nil, or_false, not_or]
          exact ⟨Nat.ne_of_lt (Nat.lt_succ_self _), Nat.ne_of_gt hlS⟩
        have hval : ∀ (i : Nat) (v : Value), items[i]? = some v → ∃ k t, ns[i]? = some k ∧ v = .str k t := fun i v hv => by
          have hi : i < ns.length := by rw [← hisz]; exact (Array.getElem?_eq_some_iff.mp hv).1
          obtain ⟨t, e⟩ := SS.strs_at hit i v (by rw [Array.getElem?_toList]; exact hv)
          refine ⟨ns[i], t, List.getElem?_eq_getElem hi, ?_⟩
          rw [e, List.getD_eq_getElem?_getD, List.getElem?_eq_getElem hi] <;> rfl
        refine set_update_strs ((Walks.list hh3 _ l hneI items).toS) s.heap.objs.size
          hSf ns hisz hb hval (items.size - 0) 0 _ (by omega) (Nat.zero_le _)
          ⟨⟨_, Heap.get?_push_size _ rfl, rfl, rfl⟩, (hl1.push _)⟩ ?hS0 ?hR
        case hS0 =>
          have hget : ((s.heap.push { cls := .type "set", dict := none, data := .set #[] 0 (.fresh 0 0 (!w.params.followText "set-order")) }).push { cls := .type "list_iterator", data := .fields #[.ref l, .int 0 0] }).get? s.heap.objs.size
              = some { cls := .type "set", dict := none, data := .set #[] 0 (.fresh 0 0 (!w.params.followText "set-order")) } := Heap.get?_push_of_some _ hS
          exact ⟨0, Nat.le_refl 0, setTx_new_at hget⟩
        case hR =>
          intro s' c' hm hc' hS'
          obtain ⟨h', g2, d', tk', os'⟩ := s'
          have eg : g2 = s.gens := hm.gens
          have ed : d' = s.drawn := hm.drawn
          have eo : os' = s.os := hm.os
          subst eg; subst ed; subst eo
          show wpAny _ _ _ _ _ _
          refine wpAny_pure ?_
          show wpAny _ _ (ret Value.none) _ _ _
          rw [hisz] at hc'
          refine wpAny_pure ⟨rfl, h', tk', c', rfl, hS', hc', fun b o e => ?_⟩
          have hb0 : b < s.heap.objs.size := Heap.lt_size e
          have hb1 : b ≠ s.heap.objs.size := Nat.ne_of_lt hb0
          have hb2 : b ≠ (s.heap.push { cls := .type "set", dict := none, data := .set #[] 0 (.fresh 0 0 (!w.params.followText "set-order")) }).objs.size := by
            rw [Heap.size_push]; exact Nat.ne_of_lt (Nat.lt_succ_of_lt hb0)
          exact hm.heap b o (by simp only [List.mem_cons, List.mem_singleton, List.not_mem_nil, or_false, not_or]; exact ⟨hb1, hb2⟩) (Heap.get?_push_of_some _ (Heap.get?_push_of_some _ e))

      · cases r₂ with
        | error e => exact hr₂
        | ok fl₂ =>
          cases fl₂ with
          | ret r =>
            obtain ⟨rfl, h', tk, c', rfl, hS', hc', hk'⟩ := hr₂
            repeat (any_goals (first | assumption | wp_step))
            exact h _ _ _ hS' hc' hk'
          | _ => exact hr₂.elim
    | _ => exact hr.elim
end

section
variable {P : Program} {w : World} {A : Around} {E : Value → Shared → Prop} {s : Shared} {a : Addr}
theorem strs_of_all : ∀ (l : List Value), (∀ v ∈ l, ∃ k tk, v = Value.str k tk) → StrsAre l (l.map strOf)
  | [], _ => .nil
  | v :: l, h => by
    obtain ⟨k, tk, rfl⟩ := h v List.mem_cons_self
    exact .cons k tk (strs_of_all l fun u hu => h u (List.mem_cons_of_mem _ hu))
theorem tkey_strOf (e : Int × Value) : tkeyOf e = strOf e.2 := by
  obtain ⟨h, v⟩ := e
  cases v <;> rfl
theorem sortedTx_set {S : Str → Bool} {n : Nat} {Q : Value → Shared → Prop} (R : SetTx w s.heap a S n) (hh : A.handled = none) (h64 : n < 64)
    (hQ : ∀ s' p (out : Array Value) (c : Nat) (ns : List Str), (∀ b o, s.heap.get? b = some o → s'.heap.get? b = some o) → s'.gens = s.gens → s'.os = s.os → s.heap.objs.size ≤ p →
      s'.heap.get? p = some (seqObj "list" out c) → StrsAre out.toList ns → ns.Nodup → sortedS ns = true → (∀ k, k ∈ ns ↔ S k = true) → ns.length = n → Q (.ref p) s') :
    wpAny (model P w) A (call (.builtin "sorted") [.ref a]) Q E s := by
  obtain ⟨o, es, ep, t, ho, hex, hd, g, nd, hm, hb, hf, hn, hr, hl⟩ := R
  refine Calls.call_function_entry kind_sorted plain_sorted entry_sorted (args_sorted1 _) ?_
  unfold Builtin.«sorted»
  refine wpAny_bind (m := checkCount "sorted" 1 1 _) (wpAny_pure ?_)
  refine wpAny_bind (collect_set (A := A.in1) hh ⟨o, ho, hex.1, hd⟩ hf hb hr hl fun s1 vs k1 hz g1 o1 pm => ?_)
  have hvl : vs.length = n := by rw [pm.length_eq, List.length_map, Array.length_toList]; exact hn
  have hI : StrsAre vs (vs.map strOf) := strs_of_all vs fun v hv => by
    obtain ⟨e, he, q⟩ := List.mem_map.mp (pm.mem_iff.mp hv)
    obtain ⟨k, tk, h1, _⟩ := g e he
    exact ⟨k, tk, by rw [← q]; exact h1⟩
  have pk : (vs.map strOf).Perm (es.toList.map tkeyOf) := by
    have q := pm.map strOf
    rw [List.map_map] at q
    have e : (es.toList.map tkeyOf) = es.toList.map (strOf ∘ fun x => x.2) := List.map_congr_left fun e _ => tkey_strOf e
    rw [e]
    exact q
  refine wpAny_bind (wpAny_newList ?_ (by rw [hvl, sizeLine_eq]; omega))
  have hoL : (s1.heap.push (seqObj "list" vs.toArray 0)).get? s1.heap.objs.size = some (seqObj "list" vs.toArray 0) := Heap.get?_push_size _ rfl
  refine wpAny_bind (wpAny_holding (wpAny_call_entry slot_list_sort ⟨_, hoL, rfl⟩ entry_list_sort (list_sort_treeK strKind_oneLt hoL hI.keysOf (fun v₁ v₂ rest e => keyKind_strs (by rw [← e]; exact hI)) (by rw [hvl]; exact h64) fun st' hp hs => ⟨_, rfl, ?_⟩) (args_list_sort _)))
  obtain ⟨ns', a1, a2, a3⟩ := sorted_out_str hI hp hs
  obtain ⟨c, hc⟩ := sortedHeap_at (vs := vs) (out := (arrOf st').map (·.2)) hoL
  have pn : ns'.Perm (es.toList.map tkeyOf) := a2.trans pk
  refine wpAny_pure ⟨_, rfl, hQ _ s1.heap.objs.size _ c ns' (fun b u e => ?_) g1 o1 hz hc a1 (pn.nodup_iff.mpr nd) a3 (fun k => by rw [pn.mem_iff, ← hm k]) ?_⟩
  · have q := k1 b u e
    have hlt := Heap.lt_size q
    show (sortedHeap (s1.heap.push (seqObj "list" vs.toArray 0)) s1.heap.objs.size vs ((arrOf st').map (·.2))).get? b = some u
    rw [sortedHeap_old (Nat.ne_of_lt hlt) (by rw [size_push']; exact Nat.lt_succ_of_lt hlt)]
    exact Heap.get?_push_of_some _ q
  · rw [pn.length_eq, List.length_map, Array.length_toList]; exact hn
end

theorem SetTx.list {w : World} {h : Heap} {a : Addr} {S : Str → Bool} {n : Nat} (R : SetTx w h a S n) : ∃ L : List Str, L.Nodup ∧ (∀ k, k ∈ L ↔ S k = true) ∧ L.length = n := by
  obtain ⟨o, es, ep, t, ho, hex, hd, g, nd, hm, hb, hf, hn, hr, hl⟩ := R
  exact ⟨_, nd, fun k => (hm k).symm, by rw [List.length_map, Array.length_toList]; exact hn⟩
/-- at a: a set of texts, L its members, each once -/
def SetTO (w : World) (a : Addr) (L : List Str) : HO := .ext fun h => SetTx w h a (fun j => decide (j ∈ L)) L.length
theorem setTO_new {P : Program} {w : World} {H : Hp} {h : Heap} {a : Addr} {L : List Str} (R : SetTx w h a (fun j => decide (j ∈ L)) L.length) : ObjOk P w H h a (SetTO w a L) :=
  ⟨R, (by obtain ⟨o, es, ep, t, ho, r⟩ := R; exact ⟨o, ho⟩), fun h1 h2 z k => z.at k⟩
theorem strs_of_vals : ∀ {ss : List Str} {us : List Value}, Vals (ss.map V.str) us → StrsAre us ss
  | [], _, .nil => .nil
  | x :: xs, _, .cons r t => by
    obtain ⟨k, rfl⟩ := r
    exact .cons x k (strs_of_vals t)
section
variable {X : Cx} {pins : List (Addr × Obj)} {σ : L2.St} {H : Hp} {s : Shared} {a : Addr}
theorem setTO_get {L : List Str} (I : Inv X pins σ H s) (ha : H a = some (SetTO X.w a L)) : SetTx X.w s.heap a (fun j => decide (j ∈ L)) L.length := (I.hok a _ ha).1
/-- set(xs), xs a list of texts -/
def rSetOfS (K : PySem.W.Frag) (w : World) : List V → Hp → VK → Prop := fun xs H Q => ∃ (l : Addr) (ss : List Str), xs = [V.ref l] ∧ SqL K H l (ss.map V.str) ∧ ss.length + 1 < scanBound ∧
  ∀ (p : Addr) (L : List Str), L.Nodup → (∀ k, k ∈ L ↔ k ∈ ss) → H p = none → Q (.ref p) (upd H p (SetTO w p L))
theorem cr_setOfS (hc : X.calm = true) : CallR X (.type "set") (rSetOfS X.K X.w) := by
  intro pins s σ H vs us Q I r h
  obtain ⟨l, ss, rfl, hq, hl, q⟩ := h
  rw [Vals.ref1 r]
  obtain ⟨its, rv, pl, _⟩ := I.list hq
  refine call_set_texts ss (I.ok.hd hc) pl.isList (by simpa using strs_of_vals rv) hl fun h' tk c hS _ hk => ?_
  have hn : H s.heap.objs.size = none := I.hok.fresh (Nat.le_refl _)
  obtain ⟨L, l1, l2, l3⟩ := hS.list
  have l4 : ∀ k, k ∈ L ↔ k ∈ ss := fun k => (l2 k).trans decide_eq_true_iff
  have hS2 : SetTx X.w h' s.heap.objs.size (fun j => decide (j ∈ L)) L.length := by
    rw [l3]
    exact hS.congr fun k => by rw [decide_eq_decide]; exact l4 k
  exact ⟨.ref _, _, I.laid (t' := tk) hk (Nat.le_refl _) (setTO_new hS2), rfl, q _ L l1 l4 hn⟩
theorem perm_of_nodups {α : Type} [DecidableEq α] {A B : List α} (ha : A.Nodup) (hb : B.Nodup) (h : ∀ k, k ∈ A ↔ k ∈ B) : A.Perm B := by
  rw [List.perm_iff_count]
  intro x
  have one : ∀ {l : List α}, l.Nodup → l.count x = if x ∈ l then 1 else 0 := by
    intro l hl
    induction l with
    | nil => rfl
    | cons y l ih =>
      obtain ⟨h1, h2⟩ := List.nodup_cons.mp hl
      rw [List.count_cons, ih h2]
      by_cases e : y = x
      · subst e
        rw [if_neg h1, if_pos (List.mem_cons_self ..)]
        simp
      · have e1 : (y == x) = false := by simpa using e
        rw [e1]
        have e2 : (x ∈ y :: l) ↔ x ∈ l := by
          rw [List.mem_cons]
          exact ⟨fun z => z.elim (fun q => absurd q.symm e) id, Or.inr⟩
        simp [e2]
  rw [one ha, one hb]
  by_cases e : x ∈ A
  · rw [if_pos e, if_pos ((h x).1 e)]
  · rw [if_neg e, if_neg fun z => e ((h x).2 z)]
/-- sorted(s), s a set of texts -/
def rSortSetS (w : World) : List V → Hp → VK → Prop := fun vs H Q => ∃ (a : Addr) (L : List Str), vs = [V.ref a] ∧ H a = some (SetTO w a L) ∧ L.Nodup ∧ L.length < 64 ∧
  ∀ (ns : List Str) (p : Addr), ns.Perm L → sortedS ns = true → H p = none → Q (.ref p) (upd H p (.lst (ns.map V.str)))
theorem vals_strs : ∀ {out : List Value} {ns : List Str}, StrsAre out ns → Vals (ns.map V.str) out
  | _, _, .nil => .nil
  | _, _, .cons x t r => .cons ⟨t, rfl⟩ (vals_strs r)
theorem cr_sortSetS (hc : X.calm = true) : CallR X (.builtin "sorted") (rSortSetS X.w) := by
  intro pins s σ H vs us Q I r h
  obtain ⟨a, L, rfl, ha, hLn, h64, q⟩ := h
  have R := setTO_get I ha
  obtain ⟨L2, l1, l2, l3⟩ := R.list
  rw [Vals.ref1 r]
  refine sortedTx_set R (I.ok.hd hc) h64 fun s' p out c ns k g o hp hg hi hnd hs hm hl => ?_
  have hlen : (ns.map V.str).length ≤ sizeLine := by rw [List.length_map, hl, sizeLine_eq]; omega
  have hn : H p = none := I.hok.fresh hp
  have J : Inv X pins σ (upd H p (.lst (ns.map V.str))) { s with heap := s'.heap, gens := s'.gens, drawn := s'.drawn, toks := s'.toks } :=
    I.call (ch := []) (Un.laid k hp hn) (I.hok.laid k hp ⟨hlen, out.toList, c, vals_strs hi, hg⟩) (by rw [g]; exact I.bare) (fun _ z => nomatch z)
  have e : s' = { s with heap := s'.heap, gens := s'.gens, drawn := s'.drawn, toks := s'.toks } := by
    cases s'
    cases s
    cases o
    rfl
  rw [e]
  have pL : ns.Perm L := by
    have m : ∀ k, k ∈ ns ↔ k ∈ L := fun k => (hm k).trans decide_eq_true_iff
    exact perm_of_nodups hnd hLn m
  exact ⟨.ref p, _, J, rfl, q ns p pL hs hn⟩
/-- len(s) -/
def rLenSetS (w : World) : List V → Hp → VK → Prop := fun vs H Q => ∃ (a : Addr) (L : List Str), vs = [V.ref a] ∧ H a = some (SetTO w a L) ∧ Q (.int (L.length : Nat)) H
theorem cr_lenSetS : CallR X (.builtin "len") (rLenSetS X.w) := by
  intro pins s σ H vs us Q I r h
  obtain ⟨a, L, rfl, ha, q⟩ := h
  have R := setTO_get I ha
  rw [Vals.ref1 r]
  obtain ⟨o, es, ep, t, ho, hex, hd, g, nd, hm, hb, hf, hn, hr, hl⟩ := R
  exact call_len_set ho hex hd hf (by unfold scanBound at hb; omega) ⟨.int (L.length : Nat), H, I.tok _, ⟨_, by rw [← hn]⟩, q⟩
end
end TX

namespace Dn
open PySem PySem.Spec PyProof.Rows L2
structure Rm (k : Nat) (A : Around) : Prop where
  room : Room k A
  gd : A.guards = some []
section
variable {j k : Nat} {A : Around}
theorem Rm.mono (r : Rm k A) (h : j ≤ k) : Rm j A := ⟨r.room.mono h, r.gd⟩
theorem Rm.units (r : Rm k A) : A.units + 64 < cLine := r.room.units
theorem Rm.make (r : Rm (k + 1) A) (C : Addr) (us : List Value) (kw : List (Str × Value)) : Rm k (A.under (.builtin "type.__call__" ⟨.ref C :: us, kw⟩)) :=
  ⟨r.room.make C us kw, by
    have g := r.gd
    show (A.under (.builtin "type.__call__" ⟨.ref C :: us, kw⟩)).guards = some []
    simp [Around.under, g, pushGuards, Code.guards, Code.isGuard, guardIds]⟩
end
structure FnG (P : Program) (w : World) (K : PySem.W.Frag) (mg : Str → Option Value) (base : Heap) (CX : CXT) (k : Nat) (f : Addr) (fd : FuncData) (ps : List Str) (sp : Sp) : Prop where
  len : ∀ vs H Q E, sp vs H Q E → vs.length = ps.length
  run : ∀ (A : Around) (outer : List Env) (s : Shared) (H : Hp) (args : PySem.Args) (us : List Value) (vs : List V) (Q : VK) (E : XK), Rm k A → Env0 P w K mg base A outer s H → BindsTo s fd args (ps.zip us) → Vals vs us → sp vs H Q E →
    codeAny (model P w) A (.call (.ref f) args) (CR CX outer P w H s Q E) s
theorem FnG.mono {P : Program} {w : World} {K : PySem.W.Frag} {mg : Str → Option Value} {base : Heap} {CX : CXT} {j k : Nat} {f : Addr} {fd : FuncData} {ps : List Str} {sp : Sp} (F : FnG P w K mg base CX j f fd ps sp) (h : j ≤ k) :
    FnG P w K mg base CX k f fd ps sp := ⟨F.len, fun A outer s H args us vs Q E hr => F.run A outer s H args us vs Q E (hr.mono h)⟩
theorem FnG.imp {P : Program} {w : World} {K : PySem.W.Frag} {mg : Str → Option Value} {base : Heap} {CX : CXT} {k : Nat} {f : Addr} {fd : FuncData} {ps : List Str} {sp sp' : Sp} (F : FnG P w K mg base CX k f fd ps sp)
    (h : ∀ vs H Q E, sp' vs H Q E → sp vs H Q E) : FnG P w K mg base CX k f fd ps sp' :=
  ⟨fun vs H Q E q => F.len vs H Q E (h _ _ _ _ q), fun A outer s H args us vs Q E hr he hb hv hs => F.run A outer s H args us vs Q E hr he hb hv (h _ _ _ _ hs)⟩
section
variable {X : Cx} {CX : CXT} {k : Nat} {f C : Addr} {fd : FuncData} {ps : List Str} {sp : Sp} {dvs : List V} {ds : List Value} {E : XK} {x m : Str} {p pos apos : Pos} {e o : Expr} {es : List Expr} {ta : TE} {t : TA}
theorem run_fnG {pins : List (Addr × Obj)} {σ : L2.St} {H : Hp} {s : Shared} {Q : VK} {us : List Value} {vs : List V} (F : FnG X.prog X.w X.K X.mg X.base CX k f fd ps sp) (hr : Rm k X.A) (hb : Binds X.K fd ps ds) (hd : Vals dvs ds) (hx : Passes CX X E)
    (I : Inv X pins σ H s) (r : Vals vs us) (h : sp (vs ++ dvs) H Q E) : wpAny (model X.prog X.w) X.A (call (.ref f) us) (EP X pins σ Q) X.xe s := by
  have r2 : Vals (vs ++ dvs) (us ++ ds) := r.append hd
  have hl : (us ++ ds).length = ps.length := by rw [← r2.length]; exact F.len _ _ _ _ h
  refine wpAny_call (codeAny_mono (F.run X.A X.stack s H ⟨us, []⟩ (us ++ ds) (vs ++ dvs) Q E hr I.env0 (hb s us I.kIn hl) r2 h) fun r s' hq => ?_)
  match r, hq with
  | .error e, hq => exact hx pins σ H s e s' I hq
  | .ok (.ret u), hq => exact I.after hq
theorem pe_callG (F : FnG X.prog X.w X.K X.mg X.base CX k f fd ps sp) (hr : Rm k X.A) (hg : Gl X x) (hm : X.mg x = some (.ref f)) (hk : PySem.W.keepIn X.K (.ref f) = true) (hb : Binds X.K fd ps ds) (hd : Vals dvs ds) (hx : Passes CX X E)
    (ha : PA X (e :: es) t) (hdb : (x == ("__debug__" : Str)) = false := by decide) (he : starEach (e :: es) X.env = (false, eval e X.env) :: starEach es X.env := by rfl) (hpl : (backTo pos (starEach es X.env)).any (·.1) = false := by rfl) :
    PE X (.Call (.Name x p) (e :: es) [] pos) (tCall sp dvs E t) :=
  ⟨fun pins s σ H Q I h => wpAny_Call_Name_kw (ld_glob I hg hm (PySem.W.callWith_K (h₀ := X.base) I.ok.mod.kin hk (thn (ha.run pos pins s σ H _ I h) fun us s1 ⟨vs, H1, I1, r, q⟩ => ⟨I1.kIn, run_fnG F hr hb hd hx I1 r q⟩) he hpl) hdb)⟩
theorem pe_call0G (F : FnG X.prog X.w X.K X.mg X.base CX k f fd ps sp) (hr : Rm k X.A) (hg : Gl X x) (hm : X.mg x = some (.ref f)) (hk : PySem.W.keepIn X.K (.ref f) = true) (hb : Binds X.K fd ps ds) (hd : Vals dvs ds) (hx : Passes CX X E)
    (hdb : (x == ("__debug__" : Str)) = false := by decide) : PE X (.Call (.Name x p) [] [] pos) (tCall sp dvs E tNil) :=
  ⟨fun pins s σ H Q I h => wpAny_Call_Name_kw (ld_glob I hg hm (PySem.W.callWith_K0 I.kIn hk (run_fnG (us := []) F hr hb hd hx I .nil h)) hdb)⟩
theorem pe_methG {pl : Sem Bool} (he : PE X o ta) (c : Cls X.K C) (hm : Meth X.K C m f) (F : FnG X.prog X.w X.K X.mg X.base CX k f fd ps sp) (hr : Rm k X.A) (hb : Binds X.K fd ps ds) (hd : Vals dvs ds) (hx : Passes CX X E) (ha : PA X (e :: es) t)
    (hst : starEach (e :: es) X.env = (false, eval e X.env) :: starEach es X.env := by rfl) (hpl : (backTo pos (starEach es X.env)).any (·.1) = false := by rfl)
    (ht : eval (.Call (.Attribute o m apos) (e :: es) [] pos) X.env = (do
      let ov ← eval o X.env
      standAt apos.atName
      let (f, first) ← holding [ov] (getMethod ov m pl)
      callWith pos f first (backTo pos (starEach (e :: es) X.env)) (backToKw pos (keywordEach [] X.env))) := by rfl) :
    PE X (.Call (.Attribute o m apos) (e :: es) [] pos) (tMeth C m sp dvs E ta t) := by
  refine ⟨fun pins s σ H Q I h => PySem.W.methodCall_KW (pl := pl) (thn (he.run pins s σ H _ I h) fun u s1 ⟨x, H1, I1, rx, a, dx, fs, ex, ea, l, q⟩ => ?_) ht⟩
  subst ex
  obtain rfl : u = Value.ref a := rx
  exact getmeth_ok I1 ea c hm l (PySem.W.callWith_K (first := [.ref a]) (h₀ := X.base) I.ok.mod.kin hm.kp (thn (ha.run pos pins s1 σ H1 _ I1 q) fun us s2 ⟨vs, H2, I2, r, q2⟩ => ⟨I2.kIn, run_fnG (us := .ref a :: us) (vs := .ref a :: vs) F hr hb hd hx I2 (.cons rfl r) q2⟩) hst hpl)
theorem pe_meth0G {pl : Sem Bool} (he : PE X o ta) (c : Cls X.K C) (hm : Meth X.K C m f) (F : FnG X.prog X.w X.K X.mg X.base CX k f fd ps sp) (hr : Rm k X.A) (hb : Binds X.K fd ps ds) (hd : Vals dvs ds) (hx : Passes CX X E)
    (ht : eval (.Call (.Attribute o m apos) [] [] pos) X.env = (do
      let ov ← eval o X.env
      standAt apos.atName
      let (f, first) ← holding [ov] (getMethod ov m pl)
      callWith pos f first (backTo pos (starEach [] X.env)) (backToKw pos (keywordEach [] X.env))) := by rfl) :
    PE X (.Call (.Attribute o m apos) [] [] pos) (tMeth C m sp dvs E ta tNil) := by
  refine ⟨fun pins s σ H Q I h => PySem.W.methodCall_KW (pl := pl) (thn (he.run pins s σ H _ I h) fun u s1 ⟨x, H1, I1, rx, a, dx, fs, ex, ea, l, q⟩ => ?_) ht⟩
  subst ex
  obtain rfl : u = Value.ref a := rx
  exact getmeth_ok I1 ea c hm l (PySem.W.callWith_K0 (first := [.ref a]) I1.kIn hm.kp (run_fnG (us := [.ref a]) (vs := [.ref a]) F hr hb hd hx I1 (.cons rfl .nil) q))
theorem run_makeG {pins : List (Addr × Obj)} {σ : L2.St} {H : Hp} {s : Shared} {Q : VK} {us : List Value} {vs : List V} (M : Mk X.K C f) (F : FnG X.prog X.w X.K X.mg X.base CX k f fd ps sp) (hr : Rm (k + 1) X.A) (hb : Binds X.K fd ps ds) (hd : Vals dvs ds)
    (hx : Passes CX X E) (I : Inv X pins σ H s) (r : Vals vs us)
    (h : ∀ x dx, H x = none → H dx = none → dx ≠ x → sp (.ref x :: (vs ++ dvs)) (upd (upd H dx (.own x)) x (.ins C dx [])) (fun v H2 => v = .non ∧ Q (.ref x) H2) E) :
    wpAny (model X.prog X.w) X.A (call (.ref C) us) (EP X pins σ Q) X.xe s := by
  have hq := h (s.heap.objs.size + 1) s.heap.objs.size (I.hok.fresh (Nat.le_succ _)) (I.hok.fresh (Nat.le_refl _)) (Nat.ne_of_lt (Nat.lt_succ_self _))
  have I2 := Inv.made (C := C) I
  have r2 : Vals (V.ref (s.heap.objs.size + 1) :: (vs ++ dvs)) (Value.ref (s.heap.objs.size + 1) :: (us ++ ds)) := .cons rfl (r.append hd)
  have hl : (Value.ref (s.heap.objs.size + 1) :: us ++ ds).length = ps.length := (r2.length.symm.trans (F.len _ _ _ _ hq))
  refine wpAny_call (make_map (f := f) I.kIn M.makes M.init (beq_iff_eq.mp M.fn) (codeAny_mono (F.run _ X.stack _ _ ⟨Value.ref (s.heap.objs.size + 1) :: us, []⟩ (Value.ref (s.heap.objs.size + 1) :: (us ++ ds)) _ _ E (hr.make C us [])
    (I2.env0.make C us []) (hb _ (Value.ref (s.heap.objs.size + 1) :: us) I2.kIn hl) r2 hq) fun r s' hq' => ?_))
  match r, hq' with
  | .error e, hq' => exact hx pins σ _ _ e s' I2 hq'
  | .ok (.ret u), hq' =>
    obtain ⟨v, H', I3, rv, ev, q3⟩ := I2.after hq'
    subst ev
    exact ⟨rv, ⟨V.ref (s.heap.objs.size + 1), H', I3, rfl, q3⟩⟩
theorem pe_makeG (M : Mk X.K C f) (F : FnG X.prog X.w X.K X.mg X.base CX k f fd ps sp) (hr : Rm (k + 1) X.A) (hg : Gl X x) (hm : X.mg x = some (.ref C)) (hb : Binds X.K fd ps ds) (hd : Vals dvs ds) (hx : Passes CX X E)
    (ha : PA X (e :: es) t) (hdb : (x == ("__debug__" : Str)) = false := by decide) (he : starEach (e :: es) X.env = (false, eval e X.env) :: starEach es X.env := by rfl) (hpl : (backTo pos (starEach es X.env)).any (·.1) = false := by rfl) :
    PE X (.Call (.Name x p) (e :: es) [] pos) (tMake C sp dvs E t) :=
  ⟨fun pins s σ H Q I h => wpAny_Call_Name_kw (ld_glob I hg hm (PySem.W.callWith_K (h₀ := X.base) I.ok.mod.kin M.kp (thn (ha.run pos pins s σ H _ I h) fun us s1 ⟨vs, H1, I1, r, q⟩ => ⟨I1.kIn, run_makeG M F hr hb hd hx I1 r q⟩) he hpl) hdb)⟩
end
/-- a def of the text, by its body -/
theorem fnG_of {CX : CXT} {P : Program} {w : World} {K : PySem.W.Frag} {mg : Str → Option Value} {base : Heap} {k : Nat} {f : Addr} {name qual : Str} {params : Arguments} {body : List Stmt} {scope : Scope} {dV kV doc pm cdv ct oc : Value} {an od : Option Addr}
    {osl : Array (Option Value)} {N ps : List Str} {sp : Sp} (lk : K.lookup f = some ⟨oc, od, .func (PySem.W.fnOf name qual params body scope dV kV doc pm an cdv ct), osl⟩) (hcd : PySem.W.codeIn K cdv qual = true) (S : FnScope N ps scope)
    (len : ∀ vs H Q E, sp vs H Q E → vs.length = ps.length)
    (hbody : ∀ (A : Around) (outer : List Env) (s : Shared) (H : Hp) (vs : List V) (Q : VK) (E : XK), Rm k (A.deeper (envOfC qual scope s.heap.objs.size f cdv)) → sp vs H Q E →
      ∃ t, PSs (cxOf CX P w K mg base N qual scope f cdv A outer s H E) body t ∧ t { nx := fun _ H' => Q .non H', rt := Q } (start N vs) H) :
    FnG P w K mg base CX (k + 1) f (PySem.W.fnOf name qual params body scope dV kV doc pm an cdv ct) ps sp := by
  refine ⟨len, fun A outer s H args us vs Q E hr e0 hb r hsp => ?_⟩
  have hl := len _ _ _ _ hsp
  have KX : K.In s.heap := e0.mod.kin.keeps fun b o e => (e0.bs b o e).1
  have lim : s.heap.NoLimit := e0.mod.nolimit.keeps fun b o e => (e0.bs b o e).1
  have hkind : ∀ y ∈ ps.zip us, scope.names.lookup y.1 = some .local ∨ (scope.names.lookup y.1 = some .cell ∧ ((cellsFrom (s.heap.objs.size + 1) scope.names []).lookup y.1).isSome = true) := fun ⟨n, v⟩ hy => by
    rcases S.par n (List.of_mem_zip hy).1 with q | q
    · exact .inl q
    · exact .inr ⟨q, PySem.W.cellsFrom_some _ _ _ (.inl q)⟩
  refine codeAny_call_function hr.room.depth (KX _ _ lk) rfl S.co S.gen rfl (PySem.W.codeRec_of KX hcd) (hb _ _ _ _ ?_)
  refine wpAny_newFunctionEnv_cells S.kind hkind fun env he s1 x => ?_
  subst he
  refine ⟨lim.keeps x.toInCall.keep, codeAny_func ?_⟩
  obtain ⟨t, ht, hq⟩ := hbody A outer s H vs Q E ⟨hr.room.deeper _, hr.gd⟩ hsp
  have I : Inv (cxOf CX P w K mg base N qual scope f cdv A outer s H E) [] (start N vs) H s1 := inv_start S hr.room.hd e0 hl r x
  refine wpAny_mono (ht.run [] s1 (start N vs) H _ I hq) (fun fl s' hs => ?_) fun e s' hs => hs
  have fin : ∀ {σ' : L2.St} {H' : Hp} {v : V} {u : Value}, Inv (cxOf CX P w K mg base N qual scope f cdv A outer s H E) [] σ' H' s' → RelV v u → Q v H' → CE outer P w H s Q u s' :=
    fun {σ' H' v u} J rv q => ⟨v, H', J.os, J.bare, J.base, J.hok, rv, q⟩
  cases fl with
  | ret u =>
    obtain ⟨v, σ', H', J, rv, q⟩ := hs
    exact fin J rv q
  | next =>
    obtain ⟨σ', H', J, q⟩ := hs
    exact fin (v := V.non) (u := Value.none) J rfl q
  | brk =>
    obtain ⟨_, _, _, q⟩ := hs
    exact False.elim q
  | cont =>
    obtain ⟨_, _, _, q⟩ := hs
    exact False.elim q
theorem okG {K : PySem.W.Frag} {x qual : Str} {params : Arguments} {body : List Stmt} {scope : Scope} {dvs : List V} {kws : List (Str × V)} {f : Addr} {fd : FuncData} {P : Program} {w : World} {mg : Str → Option Value} {base : Heap} {CX : CXT} {N ps : List Str} {k : Nat} {sp : Sp} (F : FunD K x qual params body scope dvs kws f fd) (S : FnScope N ps scope) (len : ∀ vs H Q E, sp vs H Q E → vs.length = ps.length)
    (hbody : ∀ (cdv : Value) (A : Around) (outer : List Env) (s : Shared) (H : Hp) (vs : List V) (Q : VK) (E : XK), Rm k (A.deeper (envOfC qual scope s.heap.objs.size f cdv)) → sp vs H Q E →
      ∃ t, PSs (cxOf CX P w K mg base N qual scope f cdv A outer s H E) body t ∧ t { nx := fun _ H' => Q .non H', rt := Q } (start N vs) H) : FnG P w K mg base CX (k + 1) f fd ps sp := by
  obtain ⟨oc, od, dV, kV, doc, pm, an, cdv, ct, osl, rfl, lk, hcd, _, _⟩ := F.ex
  exact fnG_of lk hcd S len fun A outer s H vs Q E hr hsp => hbody cdv A outer s H vs Q E hr hsp
/-- the law's promise at the heap behind the top -/
theorem law_callG {P : Program} {w : World} {K : PySem.W.Frag} {mg mb : Str → Option Value} {CX : CXT} {k : Nat} {fa a : Addr} {x : Str} {sp : Sp} {s₁ : Shared} {vs : List Value} {ns : List Int}
    (KX : K.In s₁.heap) (hns : s₁.heap.Ns mainGlobals mg) (hb : s₁.heap.Ns builtinsNs mb) (hbb : ∀ x : Str, x ≠ "__name__" → mb x = bootBuiltins x) (hlim : s₁.heap.NoLimit) (hg : s₁.gens = #[])
    (ha : s₁.heap.get? a = some { cls := .type "list", data := .seq vs.toArray }) (hi : IntsAre vs ns) (hl : ns.length ≤ sizeLine) (hr : Rm k callerA)
    (F : ∀ base : Heap, K.In base → base.Ns mainGlobals mg → ∃ fd, Binds K fd [x] [] ∧ FnG P w K mg base CX k fa fd [x] sp)
    (hsp : ∀ H : Hp, Only H → SqL K H a (ns.map V.int) → sp [.ref a] H (fun v _ => v = .bl true) fun _ _ _ => False)
    (hCX : ∀ H e s', CX [] H s₁ (fun _ _ _ => False) e s' → False) :
    codeAny (model P w) callerA (.call (.ref fa) ⟨[.ref a], []⟩) (fun r s' => r = .ok (.ret (.bool true)) ∧ OldK s₁.heap s'.heap ∧ s'.os = s₁.os ∧ AllBare s'.gens) s₁ := by
  have rv := vals_ints hi
  have lenV := hi.length
  have core : ∀ H : Hp, Only H → SqL K H a (ns.map V.int) → HOk P w H s₁.heap → (∀ b, H b ≠ none → b = a) → (H a ≠ none → K.lookup a = none) →
      codeAny (model P w) callerA (.call (.ref fa) ⟨[.ref a], []⟩) (fun r s' => r = .ok (.ret (.bool true)) ∧ OldK s₁.heap s'.heap ∧ s'.os = s₁.os ∧ AllBare s'.gens) s₁ := by
    intro H hO hS hok hA hK
    have at_a : ∀ {b : Addr} {u : HO}, H b = some u → b = a := fun {b u} q => hA b (by rw [q]; simp)
    have base_of : ∀ {b : Addr} {o : Obj}, s₁.heap.get? b = some o → H b = none → (hidT s₁.heap H).get? b = some o := fun e n => hidT_get e n
    have noA : ∀ {b : Addr} {o : Obj} {es : Array DictEntry} {ep : Nat}, s₁.heap.get? b = some o → o.data = .dict es ep → H b = none := fun {b o es ep} e d => by
      cases q : H b with
      | none => rfl
      | some u =>
        have e' := at_a q
        subst e'
        rw [ha] at e; cases e
        have d' : Data.seq vs.toArray _ = Data.dict es ep := d
        cases d'
    have nsK : ∀ {b : Addr} {m : Str → Option Value}, s₁.heap.Ns b m → (hidT s₁.heap H).Ns b m := fun {b m} ⟨o, es, ep, e, d, r⟩ => ⟨o, es, ep, base_of e (noA e d), d, r⟩
    have hKb : K.In (hidT s₁.heap H) := fun b o e => base_of (KX b o e) (by
      cases q : H b with
      | none => rfl
      | some u =>
        have e' := at_a q
        subst e'
        rw [hK (by rw [q]; simp)] at e; cases e)
    have hM : Mod K mg (hidT s₁.heap H) := ⟨hKb, nsK hns, ⟨mb, nsK hb, hbb⟩, let ⟨mc, h1, h2⟩ := hlim; ⟨mc, nsK h1, h2⟩⟩
    have e0 : Env0 P w K mg (hidT s₁.heap H) callerA [] s₁ H := ⟨rfl, hM, fun b o e => of_hidT e, Nat.le_of_eq (hidT_size _ _), trivial, fun b hb => absurd (show b ∈ ([] : List Addr) from hb) (by simp), hok, .of_eq hg⟩
    obtain ⟨fd, hbd, hF⟩ := F _ hKb (nsK hns)
    refine codeAny_mono (hF.run callerA [] s₁ H ⟨[.ref a], []⟩ [.ref a] [.ref a] _ _ hr e0 (hbd s₁ [.ref a] KX rfl) (.cons rfl .nil) (hsp H hO hS)) fun r s' h => ?_
    match r, h with
    | .error e, h => exact (hCX H e s' h).elim
    | .ok (.ret u), ⟨v, H', os, bare, un, hok', r', q⟩ =>
      have q' : v = .bl true := q
      subst q'
      obtain rfl : u = Value.bool true := r'
      refine ⟨rfl, OldK.of_keep fun b o e => ?_, os, bare⟩
      cases q : H b with
      | none => exact un.keep b o e q (by intro z; exact absurd (show b ∈ ([] : List Addr) from z) (by simp)) (by simp)
      | some u =>
        rcases hO b with z | ⟨ob, xs, z⟩
        · rw [q] at z; cases z
        · have z2 := un.frzs b ob _ z
          obtain ⟨e1, _⟩ := hok b _ z
          obtain ⟨e2, _⟩ := hok' b _ z2
          rw [e] at e1; cases e1
          exact e2
  cases hk : K.lookup a with
  | some o =>
    have e := KX a o hk
    rw [ha] at e
    cases e
    exact core (fun _ => none) (fun _ => .inl rfl) (.inr ⟨_, vs.toArray, _, hk, rfl, rfl, rfl, by rw [List.size_toArray, lenV]; exact hl, by simpa using rv⟩) (fun b u z => by have z' : (none : Option HO) = some u := z; cases z') (fun b z => absurd rfl z) fun z => absurd rfl z
  | none =>
    refine core (fun b => if b = a then some (.frz { cls := .type "list", data := .seq vs.toArray } (.lst (ns.map V.int))) else none) (fun b => ?_) (.inl (.inr ⟨{ cls := .type "list", data := .seq vs.toArray }, if_pos rfl⟩)) (fun b u z => ?_) (fun b z => ?_) fun _ => hk
    · by_cases hb : b = a
      · exact .inr ⟨_, _, if_pos hb⟩
      · exact .inl (if_neg hb)
    · by_cases hb : b = a
      · have z' := (if_pos hb).symm.trans z
        cases z'
        subst hb
        exact ⟨ha, by rw [List.length_map]; exact hl, vs, _, rv, ha⟩
      · have z' := (if_neg hb).symm.trans z
        cases z'
    · by_cases hb : b = a
      · exact hb
      · exact absurd (if_neg hb) z
theorem walk_ofG {l : PySem.W.OpenLaw} {n k : Nat} {q : Program} {loose : List Str} {XP : (Str → Option Value) → Heap → Prop} {YP : World → Heap → Prop} {d : DefRec} {CX : CXT} {x : Str}
    (hn : l.most = some n) (hn2 : n ≤ sizeLine) (hdf : d.params.defaults = []) (hr : Rm k callerA)
    (F : ∀ (w : World) (mg : Str → Option Value) (fa : Addr) (h : Heap), YP w h → h.Ns mainGlobals mg → mg d.name = some (.ref fa) →
      ∃ (K : PySem.W.Frag) (sp : Sp), K.In h ∧
        (∀ (H : Hp) (a : Addr) (ns : List Int), ns.length ≤ n → Only H → SqL K H a (ns.map V.int) → sp [.ref a] H (fun v _ => v = .bl true) fun _ _ _ => False) ∧
        ∀ base : Heap, K.In base → base.Ns mainGlobals mg → ∃ fd, Binds K fd [x] [] ∧ FnG l.prog w K mg base CX k fa fd [x] sp)
    (hCX : ∀ (H : Hp) (s : Shared) (e : Value) (s' : Shared), CX [] H s (fun _ _ _ => False) e s' → False) :
    PySem.W.WalkO q loose XP YP l.row.toRowW d [] (fun f vs => PySem.call f vs) := by
  refine Att.attach_call hn hdf fun w s₀ s₁ mg mb fa o pm cd doc a vs ns G Y ho hd hcd hmg hobj hints hlen hg => ?_
  obtain ⟨K, sp, KX, hsp, hF⟩ := F w mg fa _ Y G.T.g hmg
  exact law_callG KX G.T.g G.T.b G.T.builtins G.T.nolimit hg hobj hints (Nat.le_trans hlen hn2) hr hF (fun H hO hS => hsp H a ns hlen hO hS) fun H e s' => hCX H s₁ e s'
end Dn

/-! Dn: a layer of my own over the hand layer: what an expression is worth as plain data.
G: the known part of the heap (it only grows), H: the heap, G within H. -/
namespace Dn
open PySem L2

abbrev Ex (H H' : Hp) : Prop := ∀ a o, H a = some o → H' a = some o
theorem Ex.refl (H : Hp) : Ex H H := fun _ _ h => h
theorem Ex.trans {H H1 H2 : Hp} (a : Ex H H1) (b : Ex H1 H2) : Ex H H2 := fun x o h => b x o (a x o h)
theorem Ex.fresh {H H' : Hp} (e : Ex H H') {p : Addr} (h : H' p = none) : H p = none := by
  cases q : H p with
  | none => rfl
  | some o => rw [e p o q] at h; cases h
theorem Ex.new {H : Hp} {p : Addr} {o : HO} (h : H p = none) : Ex H (upd H p o) := fun a u e => by
  rw [upd_ne (ne_of_none e h)]; exact e
theorem Ex.mut {H H' : Hp} {p : Addr} {o : HO} (e : Ex H H') (h : H p = none) : Ex H (upd H' p o) := fun a u q => by
  rw [upd_ne (ne_of_none q h)]; exact e a u q

/-- from (G, H) to (G', H'): what was tracked stays but for M; what is newly known was not tracked before -/
structure Gr (M : List Addr) (G H G' H' : Hp) : Prop where
  keep : ∀ a o, H a = some o → a ∉ M → H' a = some o
  dom : ∀ a, H' a = none → H a = none
  gg : Ex G G'
  gh : Ex G' H'
  fr : ∀ a o, G' a = some o → G a = none → H a = none
section
variable {M M' : List Addr} {G H G1 H1 G2 H2 : Hp} {p : Addr} {o : HO}
theorem Gr.refl (h : Ex G H) : Gr M G H G H := ⟨fun _ _ e _ => e, fun _ e => e, Ex.refl G, h, fun a o h1 h2 => by rw [h1] at h2; cases h2⟩
theorem Gr.trans (a : Gr M G H G1 H1) (b : Gr M' G1 H1 G2 H2) (hM : ∀ x ∈ M', x ∈ M ∨ H x = none) : Gr M G H G2 H2 := by
  refine ⟨fun x u e n => b.keep x u (a.keep x u e n) fun hx => ?_, fun x e => a.dom x (b.dom x e), a.gg.trans b.gg, b.gh, fun x u h1 h2 => ?_⟩
  · rcases hM x hx with k | k
    · exact n k
    · rw [k] at e; cases e
  · cases q : G1 x with
    | none => exact a.dom x (b.fr x u h1 q)
    | some v => exact a.fr x v q h2
theorem Gr.and (a : Gr M G H G1 H1) (b : Gr [] G1 H1 G2 H2) : Gr M G H G2 H2 := a.trans b fun _ h => nomatch h
theorem Gr.and' (a : Gr M G H G1 H1) (b : Gr M G1 H1 G2 H2) : Gr M G H G2 H2 := a.trans b fun _ h => Or.inl h
theorem Gr.up (a : Gr [] G H G1 H1) : Gr M G H G1 H1 := ⟨fun x o e _ => a.keep x o e (fun z => nomatch z), a.dom, a.gg, a.gh, a.fr⟩
theorem Gr.hh (a : Gr [] G H G1 H1) : Ex H H1 := fun x o e => a.keep x o e (fun z => nomatch z)
theorem Gr.of_ex (e : Ex G H) (x : Ex H H1) : Gr M G H G H1 := ⟨fun a o h _ => x a o h, fun _ h => Ex.fresh x h, Ex.refl G, e.trans x, fun a o h1 h2 => by rw [h1] at h2; cases h2⟩
/-- a new known object -/
theorem Gr.new (h : Ex G H) (hp : H p = none) : Gr M G H (upd G p o) (upd H p o) := by
  refine ⟨fun x u e _ => Ex.new hp x u e, fun x e => ?_, Ex.new (Ex.fresh h hp), fun x u e => ?_, fun x u h1 h2 => ?_⟩
  · by_cases q : x = p
    · subst q; rw [upd_same] at e; cases e
    · rwa [upd_ne q] at e
  · by_cases q : x = p
    · subst q; rw [upd_same] at e ⊢; exact e
    · rw [upd_ne q] at e ⊢; exact h x u e
  · by_cases q : x = p
    · subst q; exact hp
    · rw [upd_ne q, h2] at h1; cases h1
/-- a new object of one's own -/
theorem Gr.own (h : Ex G H) (hp : H p = none) : Gr M G H G (upd H p o) := Gr.of_ex h (Ex.new hp)
/-- an object of one's own gets known -/
theorem Gr.freeze (g : Gr M G H G1 H1) (h : H1 p = some o) (hp : H p = none) : Gr M G H (upd G1 p o) H1 := by
  have e1 : Ex G1 (upd G1 p o) := fun x u e => by
    by_cases q : x = p
    · subst q; rw [g.gh x u e] at h; cases h; exact upd_same
    · rw [upd_ne q]; exact e
  refine ⟨g.keep, g.dom, g.gg.trans e1, fun x u e => ?_, fun x u h1 h2 => ?_⟩
  · by_cases q : x = p
    · subst q; rw [upd_same] at e; cases e; exact h
    · rw [upd_ne q] at e; exact g.gh x u e
  · by_cases q : x = p
    · subst q; exact hp
    · rw [upd_ne q] at h1; exact g.fr x u h1 h2
/-- one's own object changes -/
theorem Gr.set (g : Gr M G H G1 H1) (hm : p ∈ M ∨ H p = none) (hg : G1 p = none) : Gr M G H G1 (upd H1 p o) := by
  refine ⟨fun x u e n => ?_, fun x e => ?_, g.gg, Ex.mut g.gh hg, g.fr⟩
  · have q : x ≠ p := fun z => by
      subst z
      rcases hm with k | k
      · exact n k
      · rw [k] at e; cases e
    rw [upd_ne q]; exact g.keep x u e n
  · by_cases q : x = p
    · subst q; rw [upd_same] at e; cases e
    · rw [upd_ne q] at e; exact g.dom x e
/-- a thing of one's own stays unknown -/
theorem Gr.unk (g : Gr M G H G1 H1) (h : H p = some o) (hg : G p = none) : G1 p = none := by
  cases q : G1 p with
  | none => rfl
  | some u => rw [g.fr p u q hg] at h; cases h
end

class Rep (α : Type) where
  rep : Hp → V → α → Prop
  mono : ∀ {G G' : Hp} {v : V} {a : α}, Ex G G' → rep G v a → rep G' v a
open Rep (rep)
abbrev Reps {α : Type} [Rep α] (G : Hp) : List V → List α → Prop := Paired (rep G)
theorem Reps.mono {α : Type} [Rep α] {G G' : Hp} (e : Ex G G') : ∀ {vs : List V} {l : List α}, Reps G vs l → Reps G' vs l
  | _, _, .nil => .nil
  | _, _, .cons r t => .cons (Rep.mono e r) (Reps.mono e t)
theorem Reps.get {α : Type} [Rep α] {G : Hp} : ∀ {vs : List V} {l : List α} {i : Nat} {v : V}, Reps G vs l → vs[i]? = some v → ∃ a, l[i]? = some a ∧ rep G v a
  | _, _, 0, _, .cons r _, e => by simp at e; subst e; exact ⟨_, rfl, r⟩
  | _, _, i + 1, v, .cons _ t, e => by
    obtain ⟨a, h1, h2⟩ := Reps.get (i := i) (v := v) t (by simpa using e)
    exact ⟨a, by simpa using h1, h2⟩
theorem Reps.get' {α : Type} [Rep α] {G : Hp} : ∀ {vs : List V} {l : List α} {i : Nat} {a : α}, Reps G vs l → l[i]? = some a → ∃ v, vs[i]? = some v ∧ rep G v a
  | _, _, 0, _, .cons r _, e => by simp at e; subst e; exact ⟨_, rfl, r⟩
  | _, _, i + 1, v, .cons _ t, e => by
    obtain ⟨a, h1, h2⟩ := Reps.get' (i := i) (a := v) t (by simpa using e)
    exact ⟨a, by simpa using h1, h2⟩
theorem Reps.app {α : Type} [Rep α] {G : Hp} : ∀ {vs ws : List V} {l m : List α}, Reps G vs l → Reps G ws m → Reps G (vs ++ ws) (l ++ m)
  | _, _, _, _, .nil, s => s
  | _, _, _, _, .cons r t, s => .cons r (Reps.app t s)
theorem Reps.take {α : Type} [Rep α] {G : Hp} : ∀ {vs : List V} {l : List α} (n : Nat), Reps G vs l → Reps G (vs.take n) (l.take n)
  | _, _, 0, _ => .nil
  | _, _, _ + 1, .nil => .nil
  | _, _, n + 1, .cons r t => .cons r (Reps.take n t)
theorem Reps.drop {α : Type} [Rep α] {G : Hp} : ∀ {vs : List V} {l : List α} (n : Nat), Reps G vs l → Reps G (vs.drop n) (l.drop n)
  | _, _, 0, r => r
  | _, _, _ + 1, .nil => .nil
  | _, _, n + 1, .cons _ t => Reps.drop n t
theorem Reps.set {α : Type} [Rep α] {G : Hp} {v : V} {a : α} (r : rep G v a) : ∀ {vs : List V} {l : List α} (i : Nat), Reps G vs l → Reps G (vs.set i v) (l.set i a)
  | _, _, _, .nil => .nil
  | _, _, 0, .cons _ t => .cons r t
  | _, _, i + 1, .cons q t => .cons q (Reps.set r i t)
theorem Reps.len {α : Type} [Rep α] {G : Hp} {vs : List V} {l : List α} (h : Reps G vs l) : vs.length = l.length := Paired.length h

/-- a text within the line, of true signs -/
def StrW (a : Str) : Prop := a.length ≤ sizeLine ∧ PyData.canLay0 (.str a) = true
instance : Rep Int := ⟨fun _ v a => v = .int a, fun _ h => h⟩
instance : Rep Bool := ⟨fun _ v a => v = .bl a, fun _ h => h⟩
instance : Rep Unit := ⟨fun _ v _ => v = .non, fun _ h => h⟩
instance : Rep Str := ⟨fun _ v a => v = .str a ∧ StrW a, fun _ h => h⟩
/-- a number that is not negative -/
instance : Rep Nat := ⟨fun _ v a => v = .int (a : Int), fun _ h => h⟩
instance instRepList {α : Type} [Rep α] : Rep (List α) where
  rep := fun G v l => ∃ p vs, v = .ref p ∧ G p = some (.lst vs) ∧ vs.length ≤ sizeLine ∧ Reps G vs l
  mono := fun e ⟨p, vs, h1, h2, h3, h4⟩ => ⟨p, vs, h1, e _ _ h2, h3, Reps.mono e h4⟩
instance instRepProd {α β : Type} [Rep α] [Rep β] : Rep (α × β) where
  rep := fun G v x => ∃ p u w, v = .ref p ∧ G p = some (.tup [u, w]) ∧ rep G u x.1 ∧ rep G w x.2
  mono := fun e ⟨p, u, w, h1, h2, h3, h4⟩ => ⟨p, u, w, h1, e _ _ h2, Rep.mono e h3, Rep.mono e h4⟩
/-- a dict with keys that are texts -/
structure Dict (α : Type) where
  kvs : List (Str × α)
instance instRepDict {α : Type} [Rep α] : Rep (Dict α) where
  rep := fun G v d => ∃ p kv od, v = .ref p ∧ G p = some (.frz od (.dK kv)) ∧ kv.map (·.1) = d.kvs.map (fun q => Sum.inr q.1) ∧ Reps G (kv.map (·.2)) (d.kvs.map (·.2)) ∧ d.kvs.length ≤ sizeLine ∧ ∀ q ∈ d.kvs, StrW q.1
  mono := fun e ⟨p, kv, od, h1, h2, h3, h4, h5, h6⟩ => ⟨p, kv, od, h1, e _ _ h2, h3, Reps.mono e h4, h5, h6⟩

section
variable (X : Cx)
def WE (e : Expr) (σ : L2.St) (H : Hp) (Q : VK) : Prop := ∃ t, PE X e t ∧ t σ H Q
def WT (e : Expr) (σ : L2.St) (H : Hp) (Q : Bool → Hp → Prop) : Prop := ∃ t, PT X e t ∧ t σ H Q
def WA (es : List Expr) (σ : L2.St) (H : Hp) (Q : List V → Hp → Prop) : Prop := ∃ t, PA X es t ∧ t σ H Q
def WS (sts : List Stmt) (D : Ends) (σ : L2.St) (H : Hp) : Prop := ∃ t, PSs X sts t ∧ t D σ H
end
section
variable {X : Cx} {e : Expr} {es : List Expr} {sts : List Stmt}
theorem WE.pe : PE X e (WE X e) := ⟨fun pins s σ H Q I ⟨_, h, q⟩ => h.run pins s σ H Q I q⟩
theorem WT.pt : PT X e (WT X e) := ⟨fun pins s σ H Q I ⟨_, h, q⟩ => h.run pins s σ H Q I q⟩
theorem WA.pa : PA X es (WA X es) := ⟨fun pos pins s σ H Q I ⟨_, h, q⟩ => h.run pos pins s σ H Q I q⟩
theorem WS.pss : PSs X sts (WS X sts) := ⟨fun pins s σ H D I ⟨_, h, q⟩ => h.run pins s σ H D I q⟩
end
section
variable (X : Cx) {α : Type} [Rep α]
def DE (e : Expr) (σ : L2.St) (G : Hp) (a : α) : Prop :=
  ∀ G1 H1, Ex G G1 → Ex G1 H1 → ∀ Q : VK, (∀ v G2 H2, Gr [] G1 H1 G2 H2 → rep G2 v a → Q v H2) → WE X e σ H1 Q
/-- a list of one's own -/
def DO (e : Expr) (σ : L2.St) (G : Hp) (l : List α) : Prop :=
  ∀ G1 H1, Ex G G1 → Ex G1 H1 → ∀ Q : VK, (∀ p vs G2 H2, Gr [] G1 H1 G2 H2 → H1 p = none → G2 p = none → H2 p = some (.lst vs) → vs.length ≤ sizeLine → Reps G2 vs l → Q (.ref p) H2) → WE X e σ H1 Q
def DT (e : Expr) (σ : L2.St) (G : Hp) (b : Bool) : Prop :=
  ∀ G1 H1, Ex G G1 → Ex G1 H1 → ∀ Q : Bool → Hp → Prop, (∀ G2 H2, Gr [] G1 H1 G2 H2 → Q b H2) → WT X e σ H1 Q
/-- items one by one, all of one kind -/
def DEs (es : List Expr) (σ : L2.St) (G : Hp) (l : List α) : Prop :=
  ∀ G1 H1, Ex G G1 → Ex G1 H1 → ∀ Q : List V → Hp → Prop, (∀ vs G2 H2, Gr [] G1 H1 G2 H2 → Reps G2 vs l → Q vs H2) → WA X es σ H1 Q
end
section
variable {X : Cx} {α β γ : Type} [Rep α] [Rep β] [Rep γ] {e a b c : Expr} {es : List Expr} {σ : L2.St} {G G' : Hp} {pos pos' : Pos}
theorem DE.mono {x : α} (q : Ex G G') (h : DE X e σ G x) : DE X e σ G' x := fun G1 H1 e1 e2 Q k => h G1 H1 (q.trans e1) e2 Q k
theorem DO.mono {x : List α} (q : Ex G G') (h : DO X e σ G x) : DO X e σ G' x := fun G1 H1 e1 e2 Q k => h G1 H1 (q.trans e1) e2 Q k
theorem DT.mono {x : Bool} (q : Ex G G') (h : DT X e σ G x) : DT X e σ G' x := fun G1 H1 e1 e2 Q k => h G1 H1 (q.trans e1) e2 Q k
theorem DE.cast {x y : α} (h : DE X e σ G x) (q : x = y) : DE X e σ G y := q ▸ h
theorem DO.cast {x y : List α} (h : DO X e σ G x) (q : x = y) : DO X e σ G y := q ▸ h
theorem DT.cast {x y : Bool} (h : DT X e σ G x) (q : x = y) : DT X e σ G y := q ▸ h
theorem DO.de {l : List α} (h : DO X e σ G l) : DE X e σ G l := fun G1 H1 e1 e2 Q k => h G1 H1 e1 e2 Q fun p vs G2 H2 g n _ hp hl r => by
  refine k _ (upd G2 p (.lst vs)) H2 (g.freeze hp n) ⟨p, vs, rfl, upd_same, hl, Reps.mono (fun x u q => ?_) r⟩
  by_cases z : x = p
  · subst z; rw [g.gh x u q] at hp; cases hp; exact upd_same
  · rw [upd_ne z]; exact q
theorem de_var {x : Str} {v : V} {d : α} (i : Nat) (hr : rep G v d) (hN : X.N[i]? = some x := by rfl) (hs : σ[i]? = some (some v) := by rfl) (hv : Vis X.env.scope x := by first | exact Or.inl rfl | exact Or.inr (Or.inl rfl) | exact Or.inr (Or.inr rfl))
    (hd : (x == ("__debug__" : Str)) = false := by decide) (hcd : (x == ("__classdict__" : Str)) = false := by decide) : DE X (.Name x pos) σ G d := fun G1 H1 e1 e2 Q k =>
  ⟨_, pe_var hN hv hd hcd, v, hs, k v G1 H1 (Gr.refl e2) (Rep.mono e1 hr)⟩
theorem de_int {i : Int} {j} : DE X (.Constant (.int i) j pos) σ G i := fun G1 H1 e1 e2 Q k => ⟨_, pe_int, k _ G1 H1 (Gr.refl e2) rfl⟩
theorem de_nat {i : Nat} {j} : DE X (.Constant (.int (i : Int)) j pos) σ G i := fun G1 H1 e1 e2 Q k => ⟨_, pe_int, k _ G1 H1 (Gr.refl e2) rfl⟩
theorem de_bl {i : Bool} {j} : DE X (.Constant (.bool i) j pos) σ G i := fun G1 H1 e1 e2 Q k => ⟨_, pe_bl, k _ G1 H1 (Gr.refl e2) rfl⟩
theorem de_str {i : Str} {j} (h : StrW i := by exact ⟨by decide +kernel, by decide +kernel⟩) : DE X (.Constant (.str i) j pos) σ G i := fun G1 H1 e1 e2 Q k => ⟨_, pe_str, k _ G1 H1 (Gr.refl e2) ⟨rfl, h⟩⟩
theorem de_non {j} : DE X (.Constant .none j pos) σ G () := fun G1 H1 e1 e2 Q k => ⟨_, pe_non, k _ G1 H1 (Gr.refl e2) rfl⟩
/-- a number as one that is not negative, and back -/
theorem DE.nat {i : Int} {n : Nat} (h : DE X e σ G i) (q : i = (n : Int)) : DE X e σ G n := fun G1 H1 e1 e2 Q k => h G1 H1 e1 e2 Q fun v G2 H2 g r => k v G2 H2 g (by show v = .int (n : Int); rw [← q]; exact r)
theorem DE.int {i : Int} {n : Nat} (h : DE X e σ G n) (q : i = (n : Int)) : DE X e σ G i := fun G1 H1 e1 e2 Q k => h G1 H1 e1 e2 Q fun v G2 H2 g r => k v G2 H2 g (by show v = .int i; rw [q]; exact r)

/-- two operands, by values -/
def R2D (r : R2) (x : α) (y : β) (z : γ) : Prop := ∀ G H u v, Ex G H → rep G u x → rep G v y → ∀ Q : VK, (∀ w G' H', Gr [] G H G' H' → rep G' w z → Q w H') → r u v H Q
theorem de_two {r : R2} {x : α} {y : β} {z : γ} (ha : DE X a σ G x) (hb : DE X b σ G y) (hr : R2D r x y z) (G1 H1 : Hp) (e1 : Ex G G1) (e2 : Ex G1 H1) (Q : VK) (k : ∀ v G2 H2, Gr [] G1 H1 G2 H2 → rep G2 v z → Q v H2) :
    WE X a σ H1 fun u H2 => WE X b σ H2 fun v H3 => r u v H3 Q :=
  ha G1 H1 e1 e2 _ fun u G2 H2 g2 r2 => hb G2 H2 (e1.trans g2.gg) g2.gh _ fun v G3 H3 g3 r3 => hr G3 H3 u v g3.gh (Rep.mono g3.gg r2) r3 Q fun w G4 H4 g4 r4 => k w G4 H4 ((g2.and g3).and g4) r4
theorem de_op {op : Operator} {r : R2} {x : α} {y : β} {z : γ} (ho : OpR X (binaryOp op) r) (hr : R2D r x y z) (ha : DE X a σ G x) (hb : DE X b σ G y) : DE X (.BinOp a op b pos) σ G z := fun G1 H1 e1 e2 Q k =>
  ⟨_, pe_op ho WE.pe WE.pe, de_two ha hb hr G1 H1 e1 e2 Q k⟩
/-- a comparison: as a value and as a test -/
structure DC (X : Cx) (op : CmpOp) (a b : Expr) (σ : L2.St) (G : Hp) (z : Bool) : Prop where
  de : ∀ {pos : Pos}, DE X (.Compare a [op] [b] pos) σ G z
  dt : ∀ {pos : Pos}, DT X (.Compare a [op] [b] pos) σ G z
theorem DC.cast {op : CmpOp} {x y : Bool} (h : DC X op a b σ G x) (q : x = y) : DC X op a b σ G y := q ▸ h
theorem dc_cmp {op : CmpOp} {r : R2} {x : α} {y : β} {z : Bool} (ho : OpR X (compareOp op) r) (hr : R2D r x y z) (ha : DE X a σ G x) (hb : DE X b σ G y) (hm : behindInMarks op b = false := by first | exact nomark _ | rfl) : DC X op a b σ G z :=
  ⟨fun {_} G1 H1 e1 e2 Q k => ⟨_, pe_cmpR ho WE.pe WE.pe hm, de_two ha hb hr G1 H1 e1 e2 Q k⟩,
    fun {_} G1 H1 e1 e2 Q k => ⟨_, pt_cmpR ho WE.pe WE.pe hm, de_two ha hb hr G1 H1 e1 e2 _ fun v G2 H2 g r => ⟨z, r, k G2 H2 g⟩⟩⟩
theorem r2_I0 {g : Int → Int → V} {i j : Int} {z : γ} (h : ∀ G, rep G (g i j) z) : R2D (rI0 g) i j z := fun G H u v e r1 r2 Q k => ⟨i, j, r1, r2, k _ G H (Gr.refl e) (h G)⟩
theorem r2_I {C : Int → Int → Prop} {g : Int → Int → V} {i j : Int} {z : γ} (hc : C i j) (h : ∀ G, rep G (g i j) z) : R2D (rI C g) i j z := fun G H u v e r1 r2 Q k => ⟨i, j, r1, r2, hc, k _ G H (Gr.refl e) (h G)⟩
section
variable {i j : Int}
theorem de_add (ha : DE X a σ G i) (hb : DE X b σ G j) : DE X (.BinOp a .Add b pos) σ G (i + j) := de_op op_add (r2_I0 fun _ => rfl) ha hb
theorem de_sub (ha : DE X a σ G i) (hb : DE X b σ G j) : DE X (.BinOp a .Sub b pos) σ G (i - j) := de_op op_sub (r2_I0 fun _ => rfl) ha hb
theorem de_mul (ha : DE X a σ G i) (hb : DE X b σ G j) (h : CMul i j) : DE X (.BinOp a .Mult b pos) σ G (i * j) := de_op op_mul (r2_I h fun _ => rfl) ha hb
theorem de_mod (ha : DE X a σ G i) (hb : DE X b σ G j) (h : 0 < j) : DE X (.BinOp a .Mod b pos) σ G (i % j) := de_op op_mod (r2_I h fun _ => rfl) ha hb
theorem de_fdiv (ha : DE X a σ G i) (hb : DE X b σ G j) (h : 0 < j) (h2 : j < 1073741824) : DE X (.BinOp a .FloorDiv b pos) σ G (i / j) :=
  de_op op_fdivN (r2_I (⟨by omega, by omega⟩ : CDivN i j) fun _ => congrArg V.int (Int.fdiv_eq_ediv_of_nonneg i (by omega))) ha hb
theorem dc_lt (ha : DE X a σ G i) (hb : DE X b σ G j) : DC X .Lt a b σ G (decide (i < j)) := dc_cmp op_lt (r2_I0 fun _ => rfl) ha hb
theorem dc_le (ha : DE X a σ G i) (hb : DE X b σ G j) : DC X .LtE a b σ G (decide (i ≤ j)) := dc_cmp op_le (r2_I0 fun _ => rfl) ha hb
theorem dc_gt (ha : DE X a σ G i) (hb : DE X b σ G j) : DC X .Gt a b σ G (decide (j < i)) := dc_cmp op_gt (r2_I0 fun _ => rfl) ha hb
theorem dc_ge (ha : DE X a σ G i) (hb : DE X b σ G j) : DC X .GtE a b σ G (decide (j ≤ i)) := dc_cmp op_ge (r2_I0 fun _ => rfl) ha hb
theorem dc_eqI (ha : DE X a σ G i) (hb : DE X b σ G j) : DC X .Eq a b σ G (decide (i = j)) :=
  dc_cmp op_eq (fun G H u v e r1 r2 Q k => by cases r1; cases r2; exact ⟨rfl, k _ G H (Gr.refl e) (by show V.bl _ = V.bl _; simp)⟩) ha hb
theorem dc_neI (ha : DE X a σ G i) (hb : DE X b σ G j) : DC X .NotEq a b σ G (!decide (i = j)) :=
  dc_cmp op_ne (fun G H u v e r1 r2 Q k => by cases r1; cases r2; exact ⟨rfl, k _ G H (Gr.refl e) (by show V.bl _ = V.bl _; simp)⟩) ha hb
end
end

class Dat (α : Type) [Rep α] where
  dat : α → PyData
  dp : ∀ (K : PySem.W.Frag) {G : Hp} {v : V} {a : α}, rep G v a → Dp K G v (dat a)
  lay : ∀ {G : Hp} {v : V} {a : α}, rep G v a → (dat a).canLay0 = true
  dep : Nat
  depth : ∀ a : α, (dat a).depth ≤ dep
  inj : ∀ {a b : α}, PyData.eqv (dat a) (dat b) = true ↔ a = b
section
instance : Dat Int := ⟨.int, fun _ _ _ a h => by cases h; exact .int a, fun _ => by simp [PyData.canLay0], 0, fun _ => by simp [PyData.depth], fun {a b} => by simp [PyData.eqv]⟩
instance : Dat Nat := ⟨fun n => .int n, fun _ _ _ a h => by cases h; exact .int _, fun _ => by simp [PyData.canLay0], 0, fun _ => by simp [PyData.depth], fun {a b} => by simp [PyData.eqv]; omega⟩
instance : Dat Bool := ⟨.bool, fun _ _ _ a h => by cases h; exact .bl a, fun _ => by simp [PyData.canLay0], 0, fun _ => by simp [PyData.depth], fun {a b} => by simp [PyData.eqv]⟩
instance : Dat Unit := ⟨fun _ => .none, fun _ _ _ a h => by cases h; exact .non, fun _ => by simp [PyData.canLay0], 0, fun _ => by simp [PyData.depth], fun {a b} => by simp [PyData.eqv]⟩
instance : Dat Str := ⟨.str, fun _ _ _ a h => by cases h.1; exact .str a, fun h => h.2.2, 0, fun _ => by simp [PyData.depth], fun {a b} => by simp [PyData.eqv]⟩
variable {α β : Type} [Rep α] [Rep β] [Dat α] [Dat β]
theorem dpAll (K : PySem.W.Frag) {G : Hp} : ∀ {vs : List V} {l : List α}, Reps G vs l → DpAll K G vs (l.map Dat.dat)
  | _, _, .nil => .nil
  | _, _, .cons r t => .cons (Dat.dp K r) (dpAll K t)
theorem layAll {G : Hp} : ∀ {vs : List V} {l : List α}, Reps G vs l → PyData.canLayAll0 (l.map Dat.dat) = true
  | _, _, .nil => by simp [PyData.canLayAll0]
  | _, _, .cons r t => by simp [PyData.canLayAll0, Dat.lay r, layAll t]
theorem depthAll : ∀ l : List α, PyData.depthAll (l.map Dat.dat) ≤ Dat.dep α
  | [] => by simp [PyData.depthAll]
  | a :: l => by
    have h1 := Dat.depth a
    have h2 := depthAll l
    simp only [List.map_cons, PyData.depthAll]
    omega
theorem injAll : ∀ {l m : List α}, PyData.eqvAll (l.map Dat.dat) (m.map Dat.dat) = true ↔ l = m
  | [], [] => by simp [PyData.eqvAll]
  | [], _ :: _ => by simp [PyData.eqvAll]
  | _ :: _, [] => by simp [PyData.eqvAll]
  | a :: l, b :: m => by simp [PyData.eqvAll, Dat.inj, injAll (l := l) (m := m)]
instance instDatList : Dat (List α) := ⟨fun l => .list (l.map Dat.dat), fun K _ _ a h => by obtain ⟨p, vs, rfl, hp, _, r⟩ := h; exact .lst (.inl (.inl hp)) (dpAll K r), fun h => by obtain ⟨p, vs, rfl, hp, _, r⟩ := h; simpa [PyData.canLay0] using layAll r,
  Dat.dep α + 1, fun l => by have := depthAll l; simp only [PyData.depth]; omega, fun {a b} => by simp [PyData.eqv, injAll]⟩
instance instDatProd : Dat (α × β) := ⟨fun x => .tuple [Dat.dat x.1, Dat.dat x.2], fun K _ _ a h => by obtain ⟨p, u, w, rfl, hp, r1, r2⟩ := h; exact .tup (.inl (.inl hp)) (.cons (Dat.dp K r1) (.cons (Dat.dp K r2) .nil)),
  fun h => by obtain ⟨p, u, w, rfl, hp, r1, r2⟩ := h; simp [PyData.canLay0, PyData.canLayAll0, Dat.lay r1, Dat.lay r2],
  max (Dat.dep α) (Dat.dep β) + 1, fun x => by have h1 := Dat.depth x.1; have h2 := Dat.depth x.2; simp only [PyData.depth, PyData.depthAll]; omega, fun {a b} => by
    obtain ⟨a1, a2⟩ := a; obtain ⟨b1, b2⟩ := b
    simp [PyData.eqv, PyData.eqvAll, Dat.inj]⟩
end

section
variable {X : Cx} {α β γ : Type} [Rep α] [Rep β] [Rep γ] {e a b c : Expr} {es : List Expr} {σ : L2.St} {G G' : Hp} {pos pos' : Pos}
theorem shaped_of [Dat α] {G : Hp} {v : V} {x : α} (r : rep G v x) (h : Dat.dep α ≤ 64) : SeqAt.shaped (Dat.dat x) = true := by
  unfold SeqAt.shaped
  rw [Dat.lay r, decide_eq_true (Nat.le_trans (Dat.depth x) h)] <;> rfl
theorem eqv_dec [Dat α] [DecidableEq α] (x y : α) : PyData.eqv (Dat.dat x) (Dat.dat y) = decide (x = y) := by
  rw [Bool.eq_iff_iff, Dat.inj, decide_eq_true_iff]
theorem dc_eq [Dat α] [DecidableEq α] {x y : α} (hu : X.A.units + 64 < cLine) (ha : DE X a σ G x) (hb : DE X b σ G y) (hd : Dat.dep α ≤ 64 := by decide) : DC X .Eq a b σ G (decide (x = y)) :=
  dc_cmp (op_eqD hu) (fun G H u v e r1 r2 Q k => by
    have f1 := Rep.mono e r1
    have f2 := Rep.mono e r2
    exact ⟨_, _, Dat.dp X.K f1, Dat.dp X.K f2, shaped_of f1 hd, shaped_of f2 hd, k _ G H (Gr.refl e) (congrArg V.bl (eqv_dec x y))⟩) ha hb
theorem dc_ne [Dat α] [DecidableEq α] {x y : α} (hu : X.A.units + 64 < cLine) (ha : DE X a σ G x) (hb : DE X b σ G y) (hd : Dat.dep α ≤ 64 := by decide) : DC X .NotEq a b σ G (!decide (x = y)) :=
  dc_cmp (op_neD hu) (fun G H u v e r1 r2 Q k => by
    have f1 := Rep.mono e r1
    have f2 := Rep.mono e r2
    exact ⟨_, _, Dat.dp X.K f1, Dat.dp X.K f2, shaped_of f1 hd, shaped_of f2 hd, k _ G H (Gr.refl e) (congrArg (fun z => V.bl (!z)) (eqv_dec x y))⟩) ha hb
/-- flat items -/
class Flat (α : Type) [Rep α] where
  flat : ∀ {G : Hp} {v : V} {a : α}, rep G v a → flatV v = true
  eqf : ∀ {G : Hp} {v w : V} {a b : α}, rep G v a → rep G w b → (eqV v w = true ↔ a = b)
instance : Flat Str := ⟨fun h => by cases h.1; rfl, fun h1 h2 => by cases h1.1; cases h2.1; simp [eqV]⟩
instance : Flat Int := ⟨fun h => by cases h; rfl, fun h1 h2 => by cases h1; cases h2; simp [eqV]⟩
instance : Flat Nat := ⟨fun h => by cases h; rfl, fun h1 h2 => by cases h1; cases h2; simp [eqV]; omega⟩
theorem flats [Flat α] {G : Hp} : ∀ {vs : List V} {l : List α}, Reps G vs l → vs.all flatV = true
  | _, _, .nil => rfl
  | _, _, .cons r t => by simp only [List.all_cons, Flat.flat r, flats t, Bool.and_self]
theorem inV_mem [Flat α] [DecidableEq α] {G : Hp} {v : V} {x : α} (r : rep G v x) : ∀ {vs : List V} {l : List α}, Reps G vs l → inV v vs = decide (x ∈ l)
  | _, _, .nil => by simp [inV]
  | _, _, .cons (a := w) (b := y) q t => by
    have ih := inV_mem r t
    unfold inV at ih ⊢
    rw [List.any_cons, ih, Bool.eq_iff_iff]
    simp only [Bool.or_eq_true, decide_eq_true_eq, List.mem_cons, Flat.eqf q r]
    constructor
    · rintro (h | h)
      · exact Or.inl h.symm
      · exact Or.inr h
    · rintro (h | h)
      · exact Or.inl h.symm
      · exact Or.inr h
theorem dc_in [Flat α] [DecidableEq α] {x : α} {l : List α} (ha : DE X a σ G x) (hb : DE X b σ G l) (hm : behindInMarks .In b = false := by rfl) : DC X .In a b σ G (decide (x ∈ l)) :=
  dc_cmp op_in_seq (fun G H u v e r1 r2 Q k => by
    obtain ⟨p, vs, rfl, hp, _, r⟩ := r2
    exact ⟨p, vs, rfl, .inl (.inl (.inl (e _ _ hp))), Flat.flat r1, flats r, k _ G H (Gr.refl e) (congrArg V.bl (inV_mem r1 r))⟩) ha hb hm
theorem dc_nin [Flat α] [DecidableEq α] {x : α} {l : List α} (ha : DE X a σ G x) (hb : DE X b σ G l) (hm : behindInMarks .NotIn b = false := by rfl) : DC X .NotIn a b σ G (!decide (x ∈ l)) :=
  dc_cmp op_notIn_seq (fun G H u v e r1 r2 Q k => by
    obtain ⟨p, vs, rfl, hp, _, r⟩ := r2
    exact ⟨p, vs, rfl, .inl (.inl (.inl (e _ _ hp))), Flat.flat r1, flats r, k _ G H (Gr.refl e) (congrArg (fun z => V.bl (!z)) (inV_mem r1 r))⟩) ha hb hm

theorem de_one {op : BoolOp} {p : Bool} (ha : DE X a σ G p) : DE X (.BoolOp op [a] pos) σ G p := fun G1 H1 e1 e2 Q k => ⟨_, pe_one WE.pe, ha G1 H1 e1 e2 Q k⟩
theorem de_and {rest : List Expr} {p q : Bool} (ha : DE X a σ G p) (hb : p = true → DE X (.BoolOp .And (b :: rest) pos) σ G q) : DE X (.BoolOp .And (a :: b :: rest) pos) σ G (p && q) := fun G1 H1 e1 e2 Q k =>
  ⟨_, pe_and WE.pe WE.pe, ha G1 H1 e1 e2 _ fun v G2 H2 g r => ⟨p, r, by
    cases p with
    | true => exact iteT (hb rfl G2 H2 (e1.trans g.gg) g.gh Q fun w G3 H3 g3 r3 => k w G3 H3 (g.and g3) r3)
    | false => exact iteF (k _ G2 H2 g rfl)⟩⟩
theorem de_or {rest : List Expr} {p q : Bool} (ha : DE X a σ G p) (hb : p = false → DE X (.BoolOp .Or (b :: rest) pos) σ G q) : DE X (.BoolOp .Or (a :: b :: rest) pos) σ G (p || q) := fun G1 H1 e1 e2 Q k =>
  ⟨_, pe_or WE.pe WE.pe, ha G1 H1 e1 e2 _ fun v G2 H2 g r => ⟨p, r, by
    cases p with
    | true => exact iteT (k _ G2 H2 g rfl)
    | false => exact iteF (hb rfl G2 H2 (e1.trans g.gg) g.gh Q fun w G3 H3 g3 r3 => k w G3 H3 (g.and g3) r3)⟩⟩
theorem de_not {p : Bool} (ha : DE X a σ G p) : DE X (.UnaryOp .Not a pos) σ G (!p) := fun G1 H1 e1 e2 Q k =>
  ⟨_, pe_not WE.pe, ha G1 H1 e1 e2 _ fun v G2 H2 g r => ⟨p, r, k _ G2 H2 g rfl⟩⟩
theorem dt_val {p : Bool} (h : DE X e σ G p) (he : ∀ whole, isTrue e X.env whole = (do let v ← whole; standAt e.pos; holding [v] (truthy v)) := by intro _; rfl) : DT X e σ G p := fun G1 H1 e1 e2 Q k =>
  ⟨_, pt_val WE.pe he, h G1 H1 e1 e2 _ fun v G2 H2 g r => ⟨p, r, k G2 H2 g⟩⟩
theorem dt_not {p : Bool} (h : DT X a σ G p) : DT X (.UnaryOp .Not a pos) σ G (!p) := fun G1 H1 e1 e2 Q k => ⟨_, pt_not WT.pt, h G1 H1 e1 e2 _ fun G2 H2 g => k G2 H2 g⟩
/-- and, or within a test -/
def DW (X : Cx) (e : Expr) (σ : L2.St) (G : Hp) (b : Bool) : Prop :=
  ∀ G1 H1, Ex G G1 → Ex G1 H1 → ∀ Q : Bool → Hp → Prop, (∀ G2 H2, Gr [] G1 H1 G2 H2 → Q b H2) → ∃ t, PW X e t ∧ t σ H1 Q
theorem DW.dt {p : Bool} (h : DW X e σ G p) : DT X e σ G p := fun G1 H1 e1 e2 Q k => by
  obtain ⟨t, h1, h2⟩ := h G1 H1 e1 e2 Q k
  exact ⟨t, h1.pt, h2⟩
def WW (X : Cx) (e : Expr) (σ : L2.St) (H : Hp) (Q : Bool → Hp → Prop) : Prop := ∃ t, PW X e t ∧ t σ H Q
theorem WW.pw : PW X e (WW X e) := ⟨fun wh pins s σ H Q I ⟨_, h, q⟩ => h.run wh pins s σ H Q I q⟩
theorem dw_and1 {p : Bool} (h : DT X a σ G p) : DW X (.BoolOp .And [a] pos) σ G p := fun G1 H1 e1 e2 Q k => ⟨_, pw_and1 WT.pt, h G1 H1 e1 e2 Q k⟩
theorem dw_or1 {p : Bool} (h : DT X a σ G p) : DW X (.BoolOp .Or [a] pos) σ G p := fun G1 H1 e1 e2 Q k => ⟨_, pw_or1 WT.pt, h G1 H1 e1 e2 Q k⟩
theorem dw_and {rest : List Expr} {p q : Bool} (ha : DT X a σ G p) (hb : p = true → DW X (.BoolOp .And (b :: rest) pos) σ G q) : DW X (.BoolOp .And (a :: b :: rest) pos) σ G (p && q) := fun G1 H1 e1 e2 Q k =>
  ⟨_, pw_and WT.pt WW.pw, ha G1 H1 e1 e2 _ fun G2 H2 g => by
    cases p with
    | true => exact iteT (hb rfl G2 H2 (e1.trans g.gg) g.gh Q fun G3 H3 g3 => k G3 H3 (g.and g3))
    | false => exact iteF (k G2 H2 g)⟩
theorem dw_or {rest : List Expr} {p q : Bool} (ha : DT X a σ G p) (hb : p = false → DW X (.BoolOp .Or (b :: rest) pos) σ G q) : DW X (.BoolOp .Or (a :: b :: rest) pos) σ G (p || q) := fun G1 H1 e1 e2 Q k =>
  ⟨_, pw_or WT.pt WW.pw, ha G1 H1 e1 e2 _ fun G2 H2 g => by
    cases p with
    | true => exact iteT (k G2 H2 g)
    | false => exact iteF (hb rfl G2 H2 (e1.trans g.gg) g.gh Q fun G3 H3 g3 => k G3 H3 (g.and g3))⟩
theorem de_if {p : Bool} {x y : α} (hc : DT X c σ G p) (ha : p = true → DE X a σ G x) (hb : p = false → DE X b σ G y) : DE X (.IfExp c a b pos) σ G (if p = true then x else y) := fun G1 H1 e1 e2 Q k =>
  ⟨_, pe_ifExp WT.pt WE.pe WE.pe, hc G1 H1 e1 e2 _ fun G2 H2 g => by
    cases p with
    | true => exact iteT (ha rfl G2 H2 (e1.trans g.gg) g.gh Q fun w G3 H3 g3 r3 => k w G3 H3 (g.and g3) r3)
    | false => exact iteF (hb rfl G2 H2 (e1.trans g.gg) g.gh Q fun w G3 H3 g3 r3 => k w G3 H3 (g.and g3) r3)⟩

theorem des_nil : DEs X [] σ G ([] : List α) := fun G1 H1 e1 e2 Q k => ⟨_, pa_nil, k _ G1 H1 (Gr.refl e2) .nil⟩
theorem des_cons {x : α} {l : List α} (ha : DE X a σ G x) (hs : DEs X es σ G l) (h : starEach (a :: es) X.env = (false, eval a X.env) :: starEach es X.env := by rfl) : DEs X (a :: es) σ G (x :: l) := fun G1 H1 e1 e2 Q k =>
  ⟨_, pa_cons WE.pe WA.pa h, ha G1 H1 e1 e2 _ fun v G2 H2 g r => hs G2 H2 (e1.trans g.gg) g.gh _ fun vs G3 H3 g3 r3 => k _ G3 H3 (g.and g3) (.cons (Rep.mono g3.gg r) r3)⟩
theorem do_list {l : List α} (h : DEs X es σ G l) (hl : l.length ≤ sizeLine := by decide) : DO X (.List es pos) σ G l := fun G1 H1 e1 e2 Q k =>
  ⟨_, pe_lst WA.pa, h G1 H1 e1 e2 _ fun vs G2 H2 g r => ⟨by rw [r.len]; exact hl, fun p hp => k p vs G2 _ (g.trans (Gr.own (M := []) g.gh hp) fun _ z => nomatch z) (g.dom p hp) (Ex.fresh g.gh hp) upd_same (by rw [r.len]; exact hl) r⟩⟩
theorem de_tup {x : α} {y : β} {k} (ha : DE X a σ G x) (hb : DE X b σ G y) (h : starEach [a, b] X.env = (false, eval a X.env) :: starEach [b] X.env := by rfl) (h' : starEach [b] X.env = (false, eval b X.env) :: starEach [] X.env := by rfl) :
    DE X (.Tuple [a, b] k pos) σ G (x, y) := fun G1 H1 e1 e2 Q q =>
  ⟨_, pe_tup (pa_cons WE.pe (pa_cons WE.pe pa_nil h') h), ha G1 H1 e1 e2 _ fun v G2 H2 g r => hb G2 H2 (e1.trans g.gg) g.gh _ fun w G3 H3 g3 r3 => ⟨by show 2 ≤ sizeLine; decide, fun p hp =>
    q _ _ _ ((g.and g3).and (Gr.new (M := []) g3.gh hp)) ⟨p, v, w, rfl, upd_same, Rep.mono (g3.gg.trans (Ex.new (Ex.fresh g3.gh hp))) r, Rep.mono (Ex.new (Ex.fresh g3.gh hp)) r3⟩⟩⟩
end

section
variable {X : Cx} {α β γ : Type} [Rep α] [Rep β] [Rep γ] {e a b c : Expr} {es : List Expr} {σ : L2.St} {G G' : Hp} {pos pos' p2 : Pos}
theorem de_ixr {r : R2} {x : α} {y : β} {z : γ} (hi : IxR X r) (hr : R2D r x y z) (ha : DE X a σ G x) (hb : DE X b σ G y) (hs : PlainIx b) : DE X (.Subscript a b pos) σ G z := fun G1 H1 e1 e2 Q k =>
  ⟨_, pe_ix hi WE.pe WE.pe hs, de_two ha hb hr G1 H1 e1 e2 Q k⟩
theorem de_ix {l : List α} {n : Nat} {x : α} (ha : DE X a σ G l) (hb : DE X b σ G n) (h : l[n]? = some x) (hs : PlainIx b := by exact fun _ _ => rfl) : DE X (.Subscript a b pos) σ G x :=
  de_ixr ix_list (fun G H u v e r1 r2 Q k => by
    obtain ⟨p, vs, rfl, hp, _, r⟩ := r1
    obtain ⟨w, h1, h2⟩ := r.get' h
    exact ⟨p, vs, n, w, rfl, r2, .inl (.inl (e _ _ hp)), atI_nat h1, k w G H (Gr.refl e) h2⟩) ha hb hs
theorem de_ixL {l : List α} {x : α} (i : Int) (ha : DE X a σ G l) (hb : DE X b σ G i) (h : atI l i = some x) (hs : PlainIx b := by exact fun _ _ => rfl) : DE X (.Subscript a b pos) σ G x :=
  de_ixr ix_list (fun G H u v e r1 r2 Q k => by
    obtain ⟨p, vs, rfl, hp, _, r⟩ := r1
    unfold atI at h
    cases q : ixN l.length i with
    | none => rw [q] at h; cases h
    | some j =>
      rw [q] at h
      obtain ⟨w, h1, h2⟩ := r.get' (i := j) h
      refine ⟨p, vs, i, w, rfl, r2, .inl (.inl (e _ _ hp)), ?_, k w G H (Gr.refl e) h2⟩
      unfold atI
      rw [r.len, q]
      exact h1) ha hb hs
theorem de_fst {x : α × β} (ha : DE X a σ G x) (hb : DE X b σ G (0 : Int)) (hs : PlainIx b := by exact fun _ _ => rfl) : DE X (.Subscript a b pos) σ G x.1 :=
  de_ixr ix_tup (fun G H u v e r1 r2 Q k => by
    obtain ⟨p, v1, v2, rfl, hp, h1, h2⟩ := r1
    exact ⟨p, _, 0, v1, rfl, r2, .inl (.inl (e _ _ hp)), rfl, k _ G H (Gr.refl e) h1⟩) ha hb hs
theorem de_snd {x : α × β} (ha : DE X a σ G x) (hb : DE X b σ G (1 : Int)) (hs : PlainIx b := by exact fun _ _ => rfl) : DE X (.Subscript a b pos) σ G x.2 :=
  de_ixr ix_tup (fun G H u v e r1 r2 Q k => by
    obtain ⟨p, v1, v2, rfl, hp, h1, h2⟩ := r1
    exact ⟨p, _, 1, v2, rfl, r2, .inl (.inl (e _ _ hp)), rfl, k _ G H (Gr.refl e) h2⟩) ha hb hs
/-- one sign of a text -/
theorem de_sign {z : Str} {n : Nat} {ch : Nat} (ha : DE X a σ G z) (hb : DE X b σ G n) (h : z.cps.toList[n]? = some ch) (hs : PlainIx b := by exact fun _ _ => rfl) : DE X (.Subscript a b pos) σ G (⟨#[ch]⟩ : Str) :=
  de_ixr (x := z) (y := n) ix_str (fun G H u v e r1 r2 Q k => by
    obtain ⟨q1, q2, h2⟩ : u = .str z ∧ StrW z := r1
    refine ⟨z, n, ch, q1, r2, q2, atI_nat h, k _ G H (Gr.refl e) ⟨rfl, by show 1 ≤ sizeLine; decide, ?_⟩⟩
    have hm : ch ∈ z.cps := by
      have q := List.mem_of_getElem? h
      simpa using q
    simp only [PyData.canLay0, PyData.strOk, Array.all_eq_true_iff_forall_mem] at h2 ⊢
    intro x hx
    have : x = ch := by simpa using hx
    subst this
    exact h2 x hm) ha hb hs
/-- a part of a slice -/
def DP (X : Cx) (e : Option Expr) (σ : L2.St) (G : Hp) (o : Option Int) : Prop :=
  ∀ G1 H1, Ex G G1 → Ex G1 H1 → ∀ Q : Option Int → Hp → Prop, (∀ G2 H2, Gr [] G1 H1 G2 H2 → Q o H2) → ∃ t, PO X e t ∧ t σ H1 Q
theorem dp_none : DP X none σ G none := fun G1 H1 e1 e2 Q k => ⟨_, po_none, k G1 H1 (Gr.refl e2)⟩
theorem dp_some {i : Int} (h : DE X e σ G i) : DP X (some e) σ G (some i) := fun G1 H1 e1 e2 Q k => ⟨_, po_some WE.pe, h G1 H1 e1 e2 _ fun v G2 H2 g r => ⟨i, r, k G2 H2 g⟩⟩
theorem dp_nat {i : Nat} (h : DE X e σ G i) : DP X (some e) σ G (some (i : Int)) := dp_some (h.int rfl)
def WO (X : Cx) (e : Option Expr) (σ : L2.St) (H : Hp) (Q : Option Int → Hp → Prop) : Prop := ∃ t, PO X e t ∧ t σ H Q
theorem WO.po {e : Option Expr} : PO X e (WO X e) := ⟨fun pins s σ H Q I ⟨_, h, q⟩ => h.run pins s σ H Q I q⟩
def cut (l : List α) (lo hi : Option Int) : List α := (l.drop (HT.sIx l.length 0 lo)).take (HT.sIx l.length l.length hi - HT.sIx l.length 0 lo)
theorem do_slice {l : List α} {lo hi : Option Expr} {i j : Option Int} (ha : DE X a σ G l) (hl : DP X lo σ G i) (hh : DP X hi σ G j) : DO X (.Subscript a (.Slice lo hi none p2) pos) σ G (cut l i j) := fun G1 H1 e1 e2 Q k =>
  ⟨_, pe_slice sl_list WE.pe WO.po WO.po, ha G1 H1 e1 e2 _ fun v G2 H2 g2 r2 => hl G2 H2 (e1.trans g2.gg) g2.gh _ fun G3 H3 g3 => hh G3 H3 (e1.trans (g2.gg.trans g3.gg)) g3.gh _ fun G4 H4 g4 => by
    obtain ⟨p, vs, rfl, hp, hz, r⟩ := Rep.mono (g3.gg.trans g4.gg) r2
    refine ⟨p, vs, rfl, .inl (.inl (g4.gh _ _ hp)), fun q hq => k q _ G4 _ (((g2.and g3).and g4).and (Gr.own (M := []) g4.gh hq)) (g2.dom _ (g3.dom _ (g4.dom _ hq))) (Ex.fresh g4.gh hq) upd_same (Nat.le_trans (cutV_length vs _ _) hz) ?_⟩
    unfold cutV cut
    rw [r.len]
    exact Reps.take _ (Reps.drop _ r)⟩
theorem do_cat {l m : List α} (ha : DE X a σ G l) (hb : DE X b σ G m) (hl : l.length + m.length ≤ sizeLine) : DO X (.BinOp a .Add b pos) σ G (l ++ m) := fun G1 H1 e1 e2 Q k =>
  ⟨_, pe_op op_cat WE.pe WE.pe, ha G1 H1 e1 e2 _ fun v G2 H2 g2 r2 => hb G2 H2 (e1.trans g2.gg) g2.gh _ fun w G3 H3 g3 r3 => by
    obtain ⟨p, vs, rfl, hp, hz, r⟩ := Rep.mono g3.gg r2
    obtain ⟨q, ws, rfl, hq, hw, r'⟩ := r3
    have hlen : vs.length + ws.length ≤ sizeLine := by rw [r.len, r'.len]; exact hl
    exact ⟨p, q, vs, ws, rfl, rfl, g3.gh _ _ hp, g3.gh _ _ hq, hlen, fun t ht => k t _ G3 _ ((g2.and g3).and (Gr.own (M := []) g3.gh ht)) (g2.dom _ (g3.dom _ ht)) (Ex.fresh g3.gh ht) upd_same (by rw [List.length_append]; exact hlen) (r.app r')⟩⟩

def R1D (r : List V → Hp → VK → Prop) (x : α) (z : β) : Prop := ∀ G H u, Ex G H → rep G u x → ∀ Q : VK, (∀ w G' H', Gr [] G H G' H' → rep G' w z → Q w H') → r [u] H Q
def R1O (r : List V → Hp → VK → Prop) (x : α) (z : List β) : Prop := ∀ G H u, Ex G H → rep G u x → ∀ Q : VK, (∀ p vs G' H', Gr [] G H G' H' → H p = none → G' p = none → H' p = some (.lst vs) → vs.length ≤ sizeLine → Reps G' vs z → Q (.ref p) H') → r [u] H Q
section
variable {x : Str} {p : Pos} {id : String} {r : List V → Hp → VK → Prop} {y : α} {z : β} {zs : List β}
theorem de_callB (hc : CallR X (.builtin id) r) (hr : R1D r y z) (hm : X.mg x = none) (ha : DE X a σ G y) (hg : Gl X x := by rfl) (hv : bootBuiltins x = some (.builtin id) := by decide +kernel) (hn : x ≠ "__name__" := by decide) (hdb : (x == ("__debug__" : Str)) = false := by decide)
    (he : starEach [a] X.env = (false, eval a X.env) :: starEach [] X.env := by rfl) (hpl : (backTo pos (starEach [] X.env)).any (·.1) = false := by rfl) : DE X (.Call (.Name x p) [a] [] pos) σ G z := fun G1 H1 e1 e2 Q k =>
  ⟨_, pe_callB hc hg hm hv (pa_cons WE.pe pa_nil he) hn hdb he hpl, ha G1 H1 e1 e2 _ fun v G2 H2 g r => hr G2 H2 v g.gh r Q fun w G3 H3 g3 r3 => k w G3 H3 (g.and g3) r3⟩
theorem do_callB (hc : CallR X (.builtin id) r) (hr : R1O r y zs) (hm : X.mg x = none) (ha : DE X a σ G y) (hg : Gl X x := by rfl) (hv : bootBuiltins x = some (.builtin id) := by decide +kernel) (hn : x ≠ "__name__" := by decide) (hdb : (x == ("__debug__" : Str)) = false := by decide)
    (he : starEach [a] X.env = (false, eval a X.env) :: starEach [] X.env := by rfl) (hpl : (backTo pos (starEach [] X.env)).any (·.1) = false := by rfl) : DO X (.Call (.Name x p) [a] [] pos) σ G zs := fun G1 H1 e1 e2 Q k =>
  ⟨_, pe_callB hc hg hm hv (pa_cons WE.pe pa_nil he) hn hdb he hpl, ha G1 H1 e1 e2 _ fun v G2 H2 g r => hr G2 H2 v g.gh r Q fun q vs G3 H3 g3 n1 n2 h3 hl r3 => k q vs G3 H3 (g.and g3) (g.dom _ n1) n2 h3 hl r3⟩
theorem de_callTy (hc : CallR X (.type id) r) (hr : R1D r y z) (hm : X.mg x = none) (ha : DE X a σ G y) (hg : Gl X x := by rfl) (hv : bootBuiltins x = some (.type id) := by decide +kernel) (hn : x ≠ "__name__" := by decide) (hdb : (x == ("__debug__" : Str)) = false := by decide)
    (he : starEach [a] X.env = (false, eval a X.env) :: starEach [] X.env := by rfl) (hpl : (backTo pos (starEach [] X.env)).any (·.1) = false := by rfl) : DE X (.Call (.Name x p) [a] [] pos) σ G z := fun G1 H1 e1 e2 Q k =>
  ⟨_, pe_callTy hc hg hm hv (pa_cons WE.pe pa_nil he) hn hdb he hpl, ha G1 H1 e1 e2 _ fun v G2 H2 g r => hr G2 H2 v g.gh r Q fun w G3 H3 g3 r3 => k w G3 H3 (g.and g3) r3⟩
theorem do_callTy (hc : CallR X (.type id) r) (hr : R1O r y zs) (hm : X.mg x = none) (ha : DE X a σ G y) (hg : Gl X x := by rfl) (hv : bootBuiltins x = some (.type id) := by decide +kernel) (hn : x ≠ "__name__" := by decide) (hdb : (x == ("__debug__" : Str)) = false := by decide)
    (he : starEach [a] X.env = (false, eval a X.env) :: starEach [] X.env := by rfl) (hpl : (backTo pos (starEach [] X.env)).any (·.1) = false := by rfl) : DO X (.Call (.Name x p) [a] [] pos) σ G zs := fun G1 H1 e1 e2 Q k =>
  ⟨_, pe_callTy hc hg hm hv (pa_cons WE.pe pa_nil he) hn hdb he hpl, ha G1 H1 e1 e2 _ fun v G2 H2 g r => hr G2 H2 v g.gh r Q fun q vs G3 H3 g3 n1 n2 h3 hl r3 => k q vs G3 H3 (g.and g3) (g.dom _ n1) n2 h3 hl r3⟩
end
theorem de_len {p : Pos} {l : List α} (hm : X.mg ("len" : Str) = none) (ha : DE X a σ G l) (hg : Gl X "len" := by rfl)
    (he : starEach [a] X.env = (false, eval a X.env) :: starEach [] X.env := by rfl) (hpl : (backTo pos (starEach [] X.env)).any (·.1) = false := by rfl) : DE X (.Call (.Name "len" p) [a] [] pos) σ G l.length :=
  de_callB call_len_seq (fun G H u e r1 Q k => by
    obtain ⟨p, vs, rfl, hp, _, r⟩ := r1
    exact ⟨p, vs, rfl, .inl (.inl (.inl (e _ _ hp))), k _ G H (Gr.refl e) (by show V.int _ = V.int _; rw [r.len])⟩) hm ha hg (by decide +kernel) (by decide) (by decide) he hpl
theorem de_lenS {p : Pos} {z : Str} (hm : X.mg ("len" : Str) = none) (ha : DE X a σ G z) (hg : Gl X "len" := by rfl)
    (he : starEach [a] X.env = (false, eval a X.env) :: starEach [] X.env := by rfl) (hpl : (backTo pos (starEach [] X.env)).any (·.1) = false := by rfl) : DE X (.Call (.Name "len" p) [a] [] pos) σ G z.length :=
  de_callB (y := z) (z := z.length) call_len_str (fun G H u e (r1 : u = .str z ∧ StrW z) Q k => ⟨z, by rw [r1.1], r1.2.1, k _ G H (Gr.refl e) rfl⟩) hm ha hg (by decide +kernel) (by decide) (by decide) he hpl
/-- list(xs) -/
theorem do_listOf {p : Pos} {l : List α} (hm : X.mg ("list" : Str) = none) (ha : DE X a σ G l) (hg : Gl X "list" := by rfl)
    (he : starEach [a] X.env = (false, eval a X.env) :: starEach [] X.env := by rfl) (hpl : (backTo pos (starEach [] X.env)).any (·.1) = false := by rfl) : DO X (.Call (.Name "list" p) [a] [] pos) σ G l :=
  do_callTy call_list_of (fun G H u e r1 Q k => by
    obtain ⟨p, vs, rfl, hp, hz, r⟩ := r1
    exact ⟨p, vs, rfl, .inl (.inl (.inl (e _ _ hp))), fun q hq => k q vs G _ (Gr.own e hq) hq (Ex.fresh e hq) upd_same hz r⟩) hm ha hg (by decide +kernel) (by decide) (by decide) he hpl
theorem reps_strs {G : Hp} : ∀ {vs : List V} {l : List Str}, Reps G vs l → vs = l.map V.str ∧ ∀ x ∈ l, StrW x
  | _, _, .nil => ⟨rfl, fun _ h => by cases h⟩
  | _, _, .cons r t => by
    obtain ⟨h1, h2⟩ := reps_strs t
    refine ⟨by rw [r.1, h1] <;> rfl, fun x hx => ?_⟩
    rcases List.mem_cons.mp hx with q | q
    · rw [q]; exact r.2
    · exact h2 x q
theorem strs_reps {G : Hp} : ∀ {l : List Str}, (∀ x ∈ l, StrW x) → Reps G (l.map V.str) l
  | [], _ => .nil
  | x :: l, h => .cons ⟨rfl, h x (List.mem_cons_self ..)⟩ (strs_reps fun y hy => h y (List.mem_cons_of_mem _ hy))
end
end Dn

namespace Dn
open Dn.Rep (rep)
open PySem L2
open PyProof.Rows (sortedS risingS ltCps_eq)
open PySem.Spec (ltCps)

def leS (a b : Str) : Bool := !ltCps b.cps.toList a.cps.toList
theorem leS_iff {a b : Str} : leS a b = true ↔ ¬ b.cps.toList < a.cps.toList := by unfold leS; rw [ltCps_eq]; simp
theorem leS_total (a b : Str) : leS a b = true ∨ leS b a = true := by
  rw [leS_iff, leS_iff]
  by_cases h : b.cps.toList < a.cps.toList
  · exact .inr fun z => List.lt_irrefl _ (List.lt_trans h z)
  · exact .inl h
theorem leS_trans {a b c : Str} (h1 : leS a b = true) (h2 : leS b c = true) : leS a c = true := by
  rw [leS_iff] at *
  exact List.not_lt.mpr (List.le_trans (List.not_lt.mp h1) (List.not_lt.mp h2))
theorem str_ext {a b : Str} (h : a.cps.toList = b.cps.toList) : a = b := by
  cases a; cases b
  simpa using h
theorem leS_anti {a b : Str} (h1 : leS a b = true) (h2 : leS b a = true) : a = b := by
  rw [leS_iff] at *
  exact str_ext (List.le_antisymm (List.not_lt.mp h1) (List.not_lt.mp h2))
theorem leS_refl (a : Str) : leS a a = true := (leS_total a a).elim id id
def insS (x : Str) : List Str → List Str
  | [] => [x]
  | y :: l => if leS x y then x :: y :: l else y :: insS x l
def srt : List Str → List Str
  | [] => []
  | x :: l => insS x (srt l)
theorem insS_perm (x : Str) : ∀ l, (insS x l).Perm (x :: l)
  | [] => .refl _
  | y :: l => by
    unfold insS
    split
    · exact .refl _
    · exact ((insS_perm x l).cons y).trans (.swap x y l)
theorem srt_perm : ∀ l, (srt l).Perm l
  | [] => .refl _
  | x :: l => (insS_perm x (srt l)).trans ((srt_perm l).cons x)
abbrev Asc (l : List Str) : Prop := l.Pairwise fun a b => leS a b = true
theorem insS_asc (x : Str) : ∀ {l}, Asc l → Asc (insS x l)
  | [], _ => List.pairwise_singleton _ _
  | y :: l, h => by
    unfold insS
    obtain ⟨h1, h2⟩ := List.pairwise_cons.mp h
    split
    · rename_i e
      exact List.pairwise_cons.mpr ⟨fun z hz => by
        rcases List.mem_cons.mp hz with q | q
        · rw [q]; exact e
        · exact leS_trans e (h1 z q), h⟩
    · rename_i e
      refine List.pairwise_cons.mpr ⟨fun z hz => ?_, insS_asc x h2⟩
      rcases List.mem_cons.mp ((insS_perm x l).mem_iff.mp hz) with q | q
      · rw [q]; exact (leS_total x y).resolve_left e
      · exact h1 z q
theorem srt_asc : ∀ l, Asc (srt l)
  | [] => .nil
  | x :: l => insS_asc x (srt_asc l)
theorem asc_unique : ∀ {l m : List Str}, l.Perm m → Asc l → Asc m → l = m
  | [], m, p, _, _ => by rw [List.nil_perm.mp p]
  | x :: l, [], p, _, _ => by have := p.length_eq; cases this
  | x :: l, y :: m, p, h1, h2 => by
    obtain ⟨a1, a2⟩ := List.pairwise_cons.mp h1
    obtain ⟨b1, b2⟩ := List.pairwise_cons.mp h2
    have e : x = y := by
      have hx : x ∈ y :: m := p.mem_iff.mp (List.mem_cons_self ..)
      have hy : y ∈ x :: l := p.mem_iff.mpr (List.mem_cons_self ..)
      rcases List.mem_cons.mp hx with q | q
      · exact q
      · rcases List.mem_cons.mp hy with r | r
        · exact r.symm
        · exact leS_anti (a1 y r) (b1 x q)
    subst e
    rw [asc_unique (List.Perm.cons_inv p) a2 b2]
theorem sortedS_asc : ∀ {l : List Str}, sortedS l = true → Asc l
  | [], _ => .nil
  | x :: l, h => by
    have key : ∀ (l : List Str) (x : Str), risingS x l = true → Asc (x :: l) := by
      intro l
      induction l with
      | nil => intro x _; exact List.pairwise_singleton _ _
      | cons y l ih =>
        intro x h
        have h' : (!ltCps y.cps.toList x.cps.toList && risingS y l) = true := h
        rw [Bool.and_eq_true] at h'
        have q := ih y h'.2
        refine List.pairwise_cons.mpr ⟨fun z hz => ?_, q⟩
        have hxy : leS x y = true := h'.1
        rcases List.mem_cons.mp hz with r | r
        · rw [r]; exact hxy
        · exact leS_trans hxy ((List.pairwise_cons.mp q).1 z r)
    exact key l x h
theorem srt_of {l m : List Str} (p : m.Perm l) (h : sortedS m = true) : m = srt l := asc_unique (p.trans (srt_perm l).symm) (sortedS_asc h) (srt_asc l)
theorem srt_congr {l m : List Str} (p : l.Perm m) : srt l = srt m := asc_unique ((srt_perm l).trans (p.trans (srt_perm m).symm)) (srt_asc l) (srt_asc m)
theorem srt_id {l : List Str} (h : Asc l) : srt l = l := asc_unique (srt_perm l) (srt_asc l) h
theorem srt_len (l : List Str) : (srt l).length = l.length := (srt_perm l).length_eq
theorem mem_srt {l : List Str} {x : Str} : x ∈ srt l ↔ x ∈ l := (srt_perm l).mem_iff
theorem srt_nodup {l : List Str} : (srt l).Nodup ↔ l.Nodup := (srt_perm l).nodup_iff
/-- each once -/
def ddp : List Str → List Str
  | [] => []
  | x :: l => if x ∈ l then ddp l else x :: ddp l
theorem mem_ddp {x : Str} : ∀ {l}, x ∈ ddp l ↔ x ∈ l
  | [] => Iff.rfl
  | y :: l => by
    unfold ddp
    split
    · rename_i h
      rw [mem_ddp, List.mem_cons]
      exact ⟨.inr, fun z => z.elim (fun e => e ▸ h) id⟩
    · rw [List.mem_cons, List.mem_cons, mem_ddp]
theorem ddp_nodup : ∀ l, (ddp l).Nodup
  | [] => List.nodup_nil
  | x :: l => by
    unfold ddp
    split
    · exact ddp_nodup l
    · rename_i h
      exact List.nodup_cons.mpr ⟨fun z => h (mem_ddp.mp z), ddp_nodup l⟩
theorem ddp_id : ∀ {l}, l.Nodup → ddp l = l
  | [], _ => rfl
  | x :: l, h => by
    obtain ⟨h1, h2⟩ := List.nodup_cons.mp h
    unfold ddp
    rw [if_neg h1, ddp_id h2]
theorem ddp_len_le : ∀ l, (ddp l).length ≤ l.length
  | [] => Nat.le_refl _
  | x :: l => by
    unfold ddp
    have := ddp_len_le l
    split <;> simp only [List.length_cons] <;> omega
theorem ddp_len : ∀ {l}, (ddp l).length = l.length → l.Nodup
  | [], _ => List.nodup_nil
  | x :: l, h => by
    unfold ddp at h
    have q := ddp_len_le l
    split at h
    · simp only [List.length_cons] at h; omega
    · rename_i e
      simp only [List.length_cons] at h
      exact List.nodup_cons.mpr ⟨e, ddp_len (by omega)⟩
theorem ddp_perm_of {l m : List Str} (h : m.Nodup) (q : ∀ k, k ∈ m ↔ k ∈ l) : m.Perm (ddp l) := TX.perm_of_nodups h (ddp_nodup l) fun k => (q k).trans mem_ddp.symm

section
variable {X : Cx} {α β γ : Type} [Rep α] [Rep β] [Rep γ] {e a b c : Expr} {es : List Expr} {σ : L2.St} {G G' : Hp} {pos pos' p2 p : Pos}
/-- sorted(xs), texts -/
theorem do_sorted {l : List Str} (hm : X.mg ("sorted" : Str) = none) (ha : DE X a σ G l) (h64 : l.length < 64) (hg : Gl X "sorted" := by rfl)
    (he : starEach [a] X.env = (false, eval a X.env) :: starEach [] X.env := by rfl) (hpl : (backTo pos (starEach [] X.env)).any (·.1) = false := by rfl) : DO X (.Call (.Name "sorted" p) [a] [] pos) σ G (srt l) :=
  do_callB cr_sortedS (fun G H u e r1 Q k => by
    obtain ⟨p, vs, rfl, hp, hz, r⟩ := r1
    obtain ⟨rfl, hw⟩ := reps_strs r
    refine ⟨p, l, rfl, .inl (.inl (e _ _ hp)), h64, fun ys q hpm hs hq => ?_⟩
    have eq := srt_of hpm hs
    subst eq
    exact k q _ G _ (Gr.own e hq) hq (Ex.fresh e hq) upd_same (by rw [List.length_map, srt_len, ← List.length_map (f := V.str)]; exact hz) (strs_reps fun x hx => hw x (mem_srt.mp hx))) hm ha hg (by decide +kernel) (by decide) (by decide) he hpl
/-- set(xs), texts: at an address of its own -/
theorem we_set {l : List Str} {H : Hp} {Q : VK} (hm : X.mg ("set" : Str) = none) (hc : X.calm = true) (ha : DE X a σ G l) (eG : Ex G H) (hl : l.length < 4000)
    (k : ∀ (p : Addr) (L : List Str) (G1 H1 : Hp), Gr [] G H G1 H1 → H1 p = none → L.Perm (ddp l) → (∀ x ∈ l, StrW x) → Q (.ref p) (upd H1 p (TX.SetTO X.w p L))) (hg : Gl X "set" := by rfl)
    (he : starEach [a] X.env = (false, eval a X.env) :: starEach [] X.env := by rfl) (hpl : (backTo pos (starEach [] X.env)).any (·.1) = false := by rfl) : WE X (.Call (.Name "set" p) [a] [] pos) σ H Q :=
  ⟨_, pe_callTy (TX.cr_setOfS hc) hg hm (by decide +kernel) (pa_cons WE.pe pa_nil he) (by decide) (by decide) he hpl, ha G H (Ex.refl G) eG _ fun v G2 H2 g r => by
    obtain ⟨q, vs, rfl, hp, hz, r⟩ := r
    obtain ⟨rfl, hw⟩ := reps_strs r
    exact ⟨q, l, rfl, .inl (.inl (g.gh _ _ hp)), by unfold scanBound; omega, fun s L hn hm hs => k s L G2 H2 g hs (ddp_perm_of hn hm) hw⟩⟩
/-- len(set(xs)) -/
theorem de_lenSet {p3 p4 : Pos} {l : List Str} (hm1 : X.mg ("len" : Str) = none) (hm : X.mg ("set" : Str) = none) (hc : X.calm = true) (ha : DE X a σ G l) (hl : l.length < 4000) (hg1 : Gl X "len" := by rfl) (hg : Gl X "set" := by rfl)
    (he : starEach [a] X.env = (false, eval a X.env) :: starEach [] X.env := by rfl) (hpl : (backTo p3 (starEach [] X.env)).any (·.1) = false := by rfl)
    (he2 : starEach [.Call (.Name "set" p2) [a] [] p3] X.env = (false, eval (.Call (.Name "set" p2) [a] [] p3) X.env) :: starEach [] X.env := by rfl) (hpl2 : (backTo pos (starEach [] X.env)).any (·.1) = false := by rfl) :
    DE X (.Call (.Name "len" p) [.Call (.Name "set" p2) [a] [] p3] [] pos) σ G (ddp l).length := fun G1 H1 e1 e2 Q k =>
  ⟨_, pe_callB TX.cr_lenSetS hg1 hm1 (by decide +kernel) (pa_cons WE.pe pa_nil he2) (by decide) (by decide) he2 hpl2, we_set hm hc (ha.mono e1) e2 hl (fun q L G2 H2 g hq pm _ => ⟨q, L, rfl, upd_same, by
    rw [pm.length_eq]
    exact k _ G2 _ (g.and (Gr.own (M := []) g.gh hq)) rfl⟩) hg he hpl⟩
/-- sorted(set(xs)) -/
theorem do_sortSet {p3 p4 : Pos} {l : List Str} (hm1 : X.mg ("sorted" : Str) = none) (hm : X.mg ("set" : Str) = none) (hc : X.calm = true) (ha : DE X a σ G l) (hl : l.length < 64) (hg1 : Gl X "sorted" := by rfl) (hg : Gl X "set" := by rfl)
    (he : starEach [a] X.env = (false, eval a X.env) :: starEach [] X.env := by rfl) (hpl : (backTo p3 (starEach [] X.env)).any (·.1) = false := by rfl)
    (he2 : starEach [.Call (.Name "set" p2) [a] [] p3] X.env = (false, eval (.Call (.Name "set" p2) [a] [] p3) X.env) :: starEach [] X.env := by rfl) (hpl2 : (backTo pos (starEach [] X.env)).any (·.1) = false := by rfl) :
    DO X (.Call (.Name "sorted" p) [.Call (.Name "set" p2) [a] [] p3] [] pos) σ G (srt (ddp l)) := fun G1 H1 e1 e2 Q k =>
  ⟨_, pe_callB (TX.cr_sortSetS hc) hg1 hm1 (by decide +kernel) (pa_cons WE.pe pa_nil he2) (by decide) (by decide) he2 hpl2, we_set hm hc (ha.mono e1) e2 (by omega) (fun q L G2 H2 g hq pm hw => by
    have l1 := ddp_len_le l
    have l2 := pm.length_eq
    refine ⟨q, L, rfl, upd_same, pm.nodup_iff.mpr (ddp_nodup l), by omega, fun ys s hpm hs hn => ?_⟩
    have eq : ys = srt (ddp l) := srt_of (hpm.trans pm) hs
    subst eq
    have g2 := g.and (Gr.own (M := []) (o := TX.SetTO X.w q L) g.gh hq)
    exact k s _ G2 _ (g2.and (Gr.own (M := []) g2.gh hn)) (g2.dom _ hn) (Ex.fresh g2.gh hn) upd_same (by rw [List.length_map, srt_len, sizeLine_eq]; omega) (strs_reps fun x hx => hw x (mem_ddp.mp (mem_srt.mp hx)))) hg he hpl⟩

theorem de_isTy {x : α} {nm : Str} {t t' : String} {r : Bool} (hm : X.mg ("isinstance" : Str) = none) (hm2 : X.mg nm = none) (ha : DE X a σ G x) (ht : ∀ G H v, Ex G H → rep G v x → TyOf X.K H v (.type t)) (hk : PySem.W.kitOne X.K (.type t) (.type t') = some r)
    (hv2 : bootBuiltins nm = some (.type t') := by decide +kernel) (hg : Gl X "isinstance" := by rfl) (hg2 : Gl X nm := by rfl) (hn2 : nm ≠ "__name__" := by decide) (hd2 : (nm == ("__debug__" : Str)) = false := by decide)
    (he : starEach [a, .Name nm p2] X.env = (false, eval a X.env) :: starEach [.Name nm p2] X.env := by rfl) (he2 : starEach [.Name nm p2] X.env = (false, eval (.Name nm p2) X.env) :: starEach [] X.env := by rfl) (hpl : (backTo pos (starEach [.Name nm p2] X.env)).any (·.1) = false := by rfl) :
    DE X (.Call (.Name "isinstance" p) [a, .Name nm p2] [] pos) σ G r := fun G1 H1 e1 e2 Q k =>
  ⟨_, pe_callB call_isi hg hm (by decide +kernel) (pa_cons WE.pe (pa_cons (pe_bltn hg2 hm2 hv2 (show RelV (.ty t') (.type t') from rfl) hn2 hd2) pa_nil he2) he) (by decide) (by decide) he hpl, ha G1 H1 e1 e2 _ fun v G2 H2 g r1 =>
    ⟨v, .ty t', .type t, .type t', r, rfl, .ty t', .base (ht G2 H2 v g.gh r1), hk, k _ G2 H2 g rfl⟩⟩
theorem ty_str {K : PySem.W.Frag} (x : Str) : ∀ G H v, Ex G H → rep G v x → TyOf K H v (.type "str") := fun G H v _ r => by rw [r.1]; exact .str x
theorem ty_int {K : PySem.W.Frag} (x : Int) : ∀ G H v, Ex G H → rep G v x → TyOf K H v (.type "int") := fun G H v _ r => by cases r; exact .int x
theorem ty_nat {K : PySem.W.Frag} (x : Nat) : ∀ G H v, Ex G H → rep G v x → TyOf K H v (.type "int") := fun G H v _ r => by cases r; exact .int x
theorem ty_list {K : PySem.W.Frag} (x : List α) : ∀ G H v, Ex G H → rep G v x → TyOf K H v (.type "list") := fun G H v e r => by
  obtain ⟨p, vs, rfl, hp, _⟩ := r
  exact .lst (e _ _ hp)
/-- isinstance(e, dict), e a dict -/
theorem de_isDict {d : Dict α} {nm : Str} {t' : String} {r : Bool} (hm : X.mg ("isinstance" : Str) = none) (hm2 : X.mg nm = none) (ha : DE X a σ G d) (hk : PySem.W.kitOne X.K (.type "dict") (.type t') = some r)
    (hv2 : bootBuiltins nm = some (.type t') := by decide +kernel) (hg : Gl X "isinstance" := by rfl) (hg2 : Gl X nm := by rfl) (hn2 : nm ≠ "__name__" := by decide) (hd2 : (nm == ("__debug__" : Str)) = false := by decide)
    (he : starEach [a, .Name nm p2] X.env = (false, eval a X.env) :: starEach [.Name nm p2] X.env := by rfl) (he2 : starEach [.Name nm p2] X.env = (false, eval (.Name nm p2) X.env) :: starEach [] X.env := by rfl) (hpl : (backTo pos (starEach [.Name nm p2] X.env)).any (·.1) = false := by rfl) :
    DE X (.Call (.Name "isinstance" p) [a, .Name nm p2] [] pos) σ G r := fun G1 H1 e1 e2 Q k =>
  ⟨_, pe_callB call_isi hg hm (by decide +kernel) (pa_cons WE.pe (pa_cons (pe_bltn hg2 hm2 hv2 (show RelV (.ty t') (.type t') from rfl) hn2 hd2) pa_nil he2) he) (by decide) (by decide) he hpl, ha G1 H1 e1 e2 _ fun v G2 H2 g r1 => by
    obtain ⟨q, kv, od, rfl, hp, _⟩ := r1
    exact ⟨.ref q, .ty t', .type "dict", .type t', r, rfl, .ty t', .fDict (g.gh _ _ hp), hk, k _ G2 H2 g rfl⟩⟩
end
end Dn

namespace Dn
open Dn.Rep (rep)
open PySem L2

/-- the module's def x stands at f, may be called with the parameters ps, keeps sp -/
structure Has (P : Program) (w : World) (K : PySem.W.Frag) (mg : Str → Option Value) (base : Heap) (x : Str) (f : Addr) (lvl : Nat) (ps : List Str) (sp : Sp) : Prop where
  ex : ∃ fd, mg x = some (.ref f) ∧ PySem.W.keepIn K (.ref f) = true ∧ Binds K fd ps [] ∧ FnG P w K mg base CX0 lvl f fd ps sp
section
variable {X : Cx} {α β γ δ : Type} [Rep α] [Rep β] [Rep γ] [Rep δ] {e a b c : Expr} {es : List Expr} {σ : L2.St} {G G' : Hp} {pos pos' p2 p : Pos} {x : Str} {f : Addr} {lvl : Nat} {ps : List Str} {sp : Sp}
theorem we_call {k : Nat} {H : Hp} {Q : VK} (F : Has X.prog X.w X.K X.mg X.base x f lvl ps sp) (hr : Rm k X.A) (h : WA X (e :: es) σ H fun vs H1 => sp vs H1 Q E0) (hl : lvl ≤ k := by decide) (hg : Gl X x := by rfl)
    (hdb : (x == ("__debug__" : Str)) = false := by decide) (he : starEach (e :: es) X.env = (false, eval e X.env) :: starEach es X.env := by rfl) (hpl : (backTo pos (starEach es X.env)).any (·.1) = false := by rfl) : WE X (.Call (.Name x p) (e :: es) [] pos) σ H Q := by
  obtain ⟨fd, hm, hk, hb, F⟩ := F.ex
  refine ⟨_, pe_callG F (hr.mono hl) hg hm hk hb .nil pass0 WA.pa hdb he hpl, ?_⟩
  obtain ⟨t, h1, h2⟩ := h
  exact ⟨_, h1, by simpa using h2⟩
end

section
variable {X : Cx} {α β γ : Type} [Rep α] [Rep β] [Rep γ] {e a b c tg : Expr} {es : List Expr} {σ : L2.St} {G G' : Hp} {pos pos' p2 p : Pos}
/-- walking iter gives the items l, one by one, known by then -/
def DI (X : Cx) (tg iter : Expr) (σ : L2.St) (G : Hp) (l : List α) : Prop :=
  ∀ G1 H1, Ex G G1 → Ex G1 H1 → ∀ R : It → Hp → Prop,
    (∀ (J : It) (Gw : Hp → Prop) (Y : Nat → Hp → V → Hp → Prop) (G2 H2 : Hp), Gr [] G1 H1 G2 H2 → Walk J l.length Gw Y → (∀ H3, Ex G2 H3 → Gw H3) →
      (∀ i G3 H3 x H', i < l.length → Ex G2 G3 → Ex G3 H3 → Y i H3 x H' → ∃ y G4, l[i]? = some y ∧ Gr [] G3 H3 G4 H' ∧ rep G4 x y) → l.length ≤ sizeLine → R J H2) → ∃ wi, PI X tg iter wi ∧ wi σ H1 R
theorem DI.cast {l m : List α} (h : DI X tg e σ G l) (q : l = m) : DI X tg e σ G m := q ▸ h
theorem di_list {l : List α} (h : DE X e σ G l) : DI X tg e σ G l := fun G1 H1 e1 e2 R k =>
  ⟨_, pi_list WE.pe, h G1 H1 e1 e2 _ fun v G2 H2 g r => by
    obtain ⟨p, vs, rfl, hp, hz, r⟩ := r
    refine ⟨p, rfl, ⟨vs, .inl (.inl (g.gh _ _ hp))⟩, ?_⟩
    refine k (Itl X.K p) (fun H => SqL X.K H p vs) _ G2 H2 g (by rw [← r.len]; exact walk_list (xs := vs)) (fun H3 e3 => .inl (.inl (e3 _ _ hp))) (fun i G3 H3 x H' hi e3 e4 y => ?_) (by rw [← r.len]; exact hz)
    obtain ⟨rfl, hy⟩ := y
    obtain ⟨q, h1, h2⟩ := r.get hy
    exact ⟨q, G3, h1, Gr.refl e4, Rep.mono e3 h2⟩⟩
/-- range(n) -/
theorem di_range {n : Nat} (hm : X.mg ("range" : Str) = none) (h : DE X e σ G n) (hn : n ≤ sizeLine) (hg : Gl X "range" := by rfl) (he : starEach [e] X.env = (false, eval e X.env) :: starEach [] X.env := by rfl) (hs : starEach [e] X.env = [(false, eval e X.env)] := by rfl) :
    DI X tg (.Call (.Name "range" p) [e] [] pos) σ G (List.range n) := fun G1 H1 e1 e2 R k =>
  ⟨_, pi_range1 hg hm (pa_cons WE.pe pa_nil he) hs, h G1 H1 e1 e2 _ fun v G2 H2 g r => by
    have hz : n ≤ 2 ^ 24 := hn
    refine ⟨(n : Int), by rw [r] <;> rfl, by omega, by omega, ?_⟩
    refine k _ (fun _ => True) _ G2 H2 g (by rw [List.length_range, Int.toNat_natCast]; exact walk_range) (fun _ _ => trivial) (fun i G3 H3 x H' hi e3 e4 y => ?_) (by rw [List.length_range]; exact hn)
    obtain ⟨rfl, hy⟩ := y
    rw [List.length_range] at hi
    exact ⟨i, G3, by rw [List.getElem?_range hi], Gr.refl e4, by show x = .int (i : Int); rw [hy]; simp⟩⟩
/-- a sign of a text -/
structure Sign where
  c : Nat
  deriving DecidableEq
instance : Rep Sign := ⟨fun _ v s => v = .str ⟨#[s.c]⟩ ∧ StrW ⟨#[s.c]⟩, fun _ h => h⟩
instance : Dat Sign := ⟨fun s => .str ⟨#[s.c]⟩, fun _ _ _ a h => by cases h.1; exact .str _, fun h => h.2.2, 0, fun _ => by simp [PyData.depth], fun {a b} => by cases a; cases b; simp [PyData.eqv]⟩
def signs (z : Str) : List Sign := z.cps.toList.map Sign.mk
theorem di_str {z : Str} (h : DE X e σ G z) : DI X tg e σ G (signs z) := fun G1 H1 e1 e2 R k =>
  ⟨_, pi_str WE.pe, h G1 H1 e1 e2 _ fun v G2 H2 g (r : v = .str z ∧ StrW z) => by
    have hlen : (signs z).length = z.cps.size := by unfold signs; rw [List.length_map, Array.length_toList]
    refine ⟨z, r.1, k (Its z) (fun _ => True) _ G2 H2 g (by rw [hlen]; exact walk_str) (fun _ _ => trivial) (fun i G3 H3 x H' hi e3 e4 y => ?_) (by rw [hlen]; exact r.2.1)⟩
    obtain ⟨rfl, c, hc, rfl⟩ := y
    have h2 := r.2.2
    have hm : c ∈ z.cps := Array.mem_of_getElem? hc
    refine ⟨⟨c⟩, G3, by unfold signs; rw [List.getElem?_map, Array.getElem?_toList, hc]; rfl, Gr.refl e4, rfl, by show 1 ≤ sizeLine; decide, ?_⟩
    simp only [PyData.canLay0, PyData.strOk, Array.all_eq_true_iff_forall_mem] at h2 ⊢
    intro x hx
    have : x = c := by simpa using hx
    subst this
    exact h2 x hm⟩
theorem dc_ninSign {s : Sign} {z : Str} (ha : DE X a σ G s) (hb : DE X b σ G z) (hm : behindInMarks .NotIn b = false := by rfl) : DC X .NotIn a b σ G (!decide (s.c ∈ z.cps.toList)) :=
  dc_cmp (x := s) (y := z) op_notIn_sign (fun G H u v e (r1 : u = .str ⟨#[s.c]⟩ ∧ _) (r2 : v = .str z ∧ _) Q k => ⟨s.c, z, r1.1, r2.1, k _ G H (Gr.refl e) rfl⟩) ha hb hm
/-- for i, x in enumerate(xs) -/
def enum (l : List α) : List (Nat × α) := (List.range l.length).zip l
theorem enum_len (l : List α) : (enum l).length = l.length := by unfold enum; rw [List.length_zip, List.length_range, Nat.min_self]
theorem enum_get {l : List α} {i : Nat} {x : α} (h : l[i]? = some x) : (enum l)[i]? = some (i, x) := by
  have hi := (List.getElem?_eq_some_iff.mp h).1
  unfold enum
  rw [List.getElem?_zip_eq_some]
  exact ⟨List.getElem?_range hi, h⟩
theorem di_enum {l : List α} {elts : List Expr} {kk : Nat} {tpos : Pos} (hm : X.mg ("enumerate" : Str) = none) (h : DE X e σ G l) (hg : Gl X "enumerate" := by rfl) (he : starEach [e] X.env = (false, eval e X.env) :: starEach [] X.env := by rfl) (hs : starEach [e] X.env = [(false, eval e X.env)] := by rfl) :
    DI X (.Tuple elts kk tpos) (.Call (.Name "enumerate" p) [e] [] pos) σ G (enum l) := fun G1 H1 e1 e2 R k =>
  ⟨_, pi_enum hg hm (pa_cons WE.pe pa_nil he) hs, h G1 H1 e1 e2 _ fun v G2 H2 g r => by
    obtain ⟨p, vs, rfl, hp, hz, r⟩ := r
    refine ⟨p, vs, rfl, .inl (.inl (g.gh _ _ hp)), ?_⟩
    refine k (Ite X.K p) (fun H => SqL X.K H p vs) _ G2 H2 g (by rw [enum_len, ← r.len]; exact walk_enum (xs := vs)) (fun H3 e3 => .inl (.inl (e3 _ _ hp))) (fun i G3 H3 x H' hi e3 e4 y => ?_) (by rw [enum_len, ← r.len]; exact hz)
    obtain ⟨T, x1, x2, rfl, hT, rfl, q1, q2⟩ := y
    cases q1
    obtain ⟨q, h1, h2⟩ := r.get q2
    exact ⟨(i, q), _, enum_get h1, Gr.new e4 hT, T, _, x2, rfl, upd_same, rfl, Rep.mono (e3.trans (Ex.new (Ex.fresh e4 hT))) h2⟩⟩
end

section
variable {X : Cx} {α β γ : Type} [Rep α] [Rep β] [Rep γ] {e a b c tg iter elt : Expr} {ifs : List Expr} {σ : L2.St} {G G' : Hp} {pos pos' p2 p : Pos} {scope : Scope}
/-- the tests of a comprehension -/
def DF (X : Cx) (ifs : List Expr) (σ : L2.St) (G : Hp) (b : Bool) : Prop :=
  ∀ G1 H1, Ex G G1 → Ex G1 H1 → ∀ Q : Bool → Hp → Prop, (∀ G2 H2, Gr [] G1 H1 G2 H2 → Q b H2) → ∃ t, PTs X ifs t ∧ t σ H1 Q
theorem df_nil : DF X [] σ G true := fun G1 H1 e1 e2 Q k => ⟨_, pts_nil, k G1 H1 (Gr.refl e2)⟩
theorem df_one {q : Bool} (h : DT X c σ G q) : DF X [c] σ G q := fun G1 H1 e1 e2 Q k => ⟨_, pts_one WT.pt, h G1 H1 e1 e2 Q k⟩
def WF (X : Cx) (ifs : List Expr) (σ : L2.St) (H : Hp) (Q : Bool → Hp → Prop) : Prop := ∃ t, PTs X ifs t ∧ t σ H Q
theorem WF.pts : PTs X ifs (WF X ifs) := ⟨fun pins s σ H Q I ⟨_, h, q⟩ => h.run pins s σ H Q I q⟩
/-- the context of a comprehension's block -/
structure InBlk (X : Cx) (scope : Scope) (Y : Cx) : Prop where
  ex : ∃ s H C cl fp, Y = X.blk s H scope (compEnvC scope cl C X.env) fp
/-- how a target takes an item: the slots behind it, and what of it is known there -/
structure DG (X : Cx) (scope : Scope) (tg : Expr) (vs : List Nat) (T : α → L2.St → Hp → L2.St → Prop) : Prop where
  ex : ∃ g, (∀ (s : Shared) (H : Hp) (C : Addr) (cl : List (Str × Addr)) (fp : List Addr), PG (X.blk s H scope (compEnvC scope cl C X.env) fp) tg g) ∧
    ∀ (v : V) (y : α) (σ : L2.St) (G H : Hp), Ex G H → rep G v y → ∀ Q : L2.St → Hp → Prop, (∀ σ2, T y (wipe σ vs) G σ2 → wipe σ2 vs = wipe σ vs → Q σ2 H) → g v (wipe σ vs) H Q
theorem dg_name {x : Str} {j : Nat} (hN : X.N.Nodup) (hi : X.N[j]? = some x := by rfl) (hx : L2.Loc (relabel scope X.env) x := by first | exact Or.inl rfl | exact Or.inr rfl) (hf : (scope.names.lookup x == some .cell) = true ∨ (relabel scope X.env).names.lookup x = some .local := by first | exact .inr rfl | exact .inl rfl) :
    DG (α := α) X scope (.Name x pos) [j] fun y σ G σ2 => ∃ v, rep G v y ∧ σ2 = σ.set j (some v) :=
  ⟨gName j, fun s H C cl fp => pg_name hN hi hx hf, fun v y σ G H e r Q k => k _ ⟨v, r, rfl⟩ (by simp [wipe, List.set_set])⟩
theorem dg_pair {x y : Str} {j k kk : Nat} {pos1 pos2 : Pos} (hN : X.N.Nodup) (hc : X.calm = true) (hi : X.N[j]? = some x := by rfl) (hk : X.N[k]? = some y := by rfl) (hx : L2.Loc (relabel scope X.env) x := by first | exact Or.inl rfl | exact Or.inr rfl) (hy : L2.Loc (relabel scope X.env) y := by first | exact Or.inl rfl | exact Or.inr rfl)
    (hf : (scope.names.lookup x == some .cell) = true ∨ (relabel scope X.env).names.lookup x = some .local := by first | exact .inr rfl | exact .inl rfl)
    (hf2 : (scope.names.lookup y == some .cell) = true ∨ (relabel scope X.env).names.lookup y = some .local := by first | exact .inr rfl | exact .inl rfl)
    (hn : ∀ env, (assignEach [.Name x pos1, .Name y pos2] env).length = 2 := by intro _; rfl) (hst : ∀ env, (assignEach [.Name x pos1, .Name y pos2] env).findIdx? (·.1) = none := by intro _; rfl) :
    DG (α := α × β) X scope (.Tuple [.Name x pos1, .Name y pos2] kk pos) [j, k] fun z σ G σ2 => ∃ v w, rep G v z.1 ∧ rep G w z.2 ∧ σ2 = (σ.set j (some v)).set k (some w) :=
  ⟨gTup X.K 2 (gCons (gName j) (gCons (gName k) gNil)), fun s H C cl fp => pg_tup hc (pgs_cons (pg_name hN hi hx hf) (pgs_cons (pg_name hN hk hy hf2) pgs_nil)) (hn _) (hst _), fun v z σ G H e r Q q => by
    obtain ⟨p, u, w, rfl, hp, r1, r2⟩ := r
    refine ⟨p, _, rfl, .inl (.inl (e _ _ hp)), rfl, u, _, rfl, w, _, rfl, rfl, q _ ⟨u, w, r1, r2, rfl⟩ ?_⟩
    simp only [wipe]
    apply List.ext_getElem?
    intro i
    simp only [List.getElem?_set, List.length_set]
    by_cases h1 : j = i
    · subst h1
      by_cases h2 : k = j
      · subst h2; simp
      · simp [h2]
    · by_cases h2 : k = i
      · subst h2; simp [h1]
      · simp [h1, h2]⟩
/-- a comprehension: its reading -/
def LC (X : Cx) (elt tg iter : Expr) (ifs : List Expr) (scope : Scope) (σ : L2.St) (G : Hp) (l : List β) : Prop :=
  ∃ (own : List (Str × Nat)), BlkOk X.N X.env.scope scope own ∧ X.N.Nodup ∧ X.calm = true ∧ ∀ G1 H1, Ex G G1 → Ex G1 H1 → ∀ Q : VK,
    (∀ p vs G2 H2, Gr [] G1 H1 G2 H2 → H1 p = none → G2 p = none → H2 p = some (.lst vs) → vs.length ≤ sizeLine → Reps G2 vs l → Q (.ref p) H2) →
    ∃ wi g tt te, PI X tg iter wi ∧ (∀ (s : Shared) (H : Hp) (C : Addr) (cl : List (Str × Addr)) (fp : List Addr), PG (X.blk s H scope (compEnvC scope cl C X.env) fp) tg g) ∧
      (∀ (s : Shared) (H : Hp) (C : Addr) (cl : List (Str × Addr)) (fp : List Addr), PTs (X.blk s H scope (compEnvC scope cl C X.env) fp) ifs tt) ∧
      (∀ (s : Shared) (H : Hp) (C : Addr) (cl : List (Str × Addr)) (fp : List Addr), PE (X.blk s H scope (compEnvC scope cl C X.env) fp) elt te) ∧ tLc wi g tt te (own.map (·.2)) σ H1 Q
theorem LC.cast {l m : List β} (h : LC X elt tg iter ifs scope σ G l) (q : l = m) : LC X elt tg iter ifs scope σ G m := q ▸ h
theorem lc_mk {l : List α} {own : List (Str × Nat)} {vs : List Nat} {T : α → L2.St → Hp → L2.St → Prop} (f : α → Bool) (h : α → β) (hN : X.N.Nodup) (hc : X.calm = true) (src : DI X tg iter σ G l) (ok : BlkOk X.N X.env.scope scope own) (ho : own.map (·.2) = vs) (tgt : DG X scope tg vs T)
    (ht : ∀ (i : Nat) y σ2 G', l[i]? = some y → Ex G G' → T y (wipe σ vs) G' σ2 → ∀ Y, InBlk X scope Y → DF Y ifs σ2 G' (f y))
    (he : ∀ (i : Nat) y σ2 G', l[i]? = some y → Ex G G' → T y (wipe σ vs) G' σ2 → f y = true → ∀ Y, InBlk X scope Y → DE Y elt σ2 G' (h y)) :
    LC X elt tg iter ifs scope σ G ((l.filter f).map h) := by
  refine ⟨own, ok, hN, hc, fun G1 H1 e1 e2 Q k => ?_⟩
  obtain ⟨g, hg, tg1⟩ := tgt.ex
  let tt : TT := fun σ H Q => ∀ (s : Shared) (H0 : Hp) (C : Addr) (cl : List (Str × Addr)) (fp : List Addr), WF (X.blk s H0 scope (compEnvC scope cl C X.env) fp) ifs σ H Q
  let te : TE := fun σ H Q => ∀ (s : Shared) (H0 : Hp) (C : Addr) (cl : List (Str × Addr)) (fp : List Addr), WE (X.blk s H0 scope (compEnvC scope cl C X.env) fp) elt σ H Q
  have main := src G1 H1 e1 e2 (fun J H2 => ∀ D, H2 D = none → ∃ W : Nat → Nat → Hp → Prop, (∃ m, W 0 m (upd H2 D (.lst []))) ∧ ∀ i m H, W i m H →
      (J.stop i H ∧ Q (.ref D) H) ∨ (J.go i H ∧ ∃ Nx : Hp → Prop, (∀ H', Nx H' → ∃ m', m' < m ∧ W (i + 1) m' H') ∧ ∀ x H', J.yld i H x H' → g x (wipe σ (own.map (·.2))) H' fun σ2 H2 => wipe σ2 (own.map (·.2)) = wipe σ (own.map (·.2)) ∧ tt σ2 H2 fun b H3 =>
        if b = true then te σ2 H3 fun y H4 => ∃ acc, H4 D = some (.lst acc) ∧ acc.length < sizeLine ∧ Nx (upd H4 D (.lst (acc ++ [y]))) else Nx H3)) ?_
  · obtain ⟨wi, hw, q⟩ := main
    exact ⟨wi, g, tt, te, hw, hg, fun s H C cl fp => ⟨fun pins s1 σ1 H1 Q1 I1 z => WF.pts.run pins s1 σ1 H1 Q1 I1 (z s H C cl fp)⟩, fun s H C cl fp => ⟨fun pins s1 σ1 H1 Q1 I1 z => WE.pe.run pins s1 σ1 H1 Q1 I1 (z s H C cl fp)⟩, q⟩
  · intro J Gw Y G2 H2 g2 wk hGw hY hz D hD
    rw [ho]
    have eD : Ex H2 (upd H2 D (.lst [])) := Ex.new hD
    have nD : G2 D = none := Ex.fresh g2.gh hD
    refine lc_it wk (fun i H => ∃ G3 acc, Gr [] G2 H2 G3 H ∧ G3 D = none ∧ H D = some (.lst acc) ∧ acc.length ≤ i ∧ Reps G3 acc (((l.take i).filter f).map h)) ⟨G2, [], Gr.own g2.gh hD, nD, upd_same, Nat.le_refl _, .nil⟩
      (fun i H _ ⟨G3, acc, g3, _⟩ => hGw H (fun x o q => g3.gh x o (g3.gg x o q))) ?_ ?_
    · rintro i x H H' hi ⟨G3, acc, g3, n3, hA, hl, r⟩ y
      obtain ⟨z, G4, hzl, g4, rz⟩ := hY i G3 H x H' hi g3.gg g3.gh y
      refine tg1 x z σ G4 H' g4.gh rz _ fun σ2 hT hw => ⟨hw, fun s H0 C cl fp => ?_⟩
      have eG4 : Ex G G4 := e1.trans (g2.gg.trans (g3.gg.trans g4.gg))
      refine ht i z σ2 G4 hzl eG4 hT _ ⟨s, H0, C, cl, fp, rfl⟩ G4 H' (Ex.refl G4) g4.gh _ fun G5 H5 g5 => ?_
      have g45 := g4.and g5
      have n5 : G5 D = none := Gr.unk g45 hA n3
      have hA5 : H5 D = some (.lst acc) := g45.hh _ _ hA
      have tk : l.take (i + 1) = l.take i ++ [z] := by rw [List.take_add_one, hzl]; rfl
      cases hf : f z with
      | true =>
        refine iteT fun s H0 C cl fp => ?_
        refine he i z σ2 G4 hzl eG4 hT hf _ ⟨s, H0, C, cl, fp, rfl⟩ G5 H5 g5.gg g5.gh _ fun w G6 H6 g6 r6 => ?_
        have hA6 : H6 D = some (.lst acc) := g6.hh _ _ hA5
        have n6 : G6 D = none := Gr.unk g6 hA5 n5
        have g36 : Gr [] G2 H2 G6 H6 := (g3.and g45).and g6
        refine ⟨acc, hA6, by omega, G6, acc ++ [w], g36.set (.inr hD) n6, n6, upd_same, by rw [List.length_append, List.length_singleton]; omega, ?_⟩
        rw [tk, List.filter_append, List.map_append]
        have e1 : List.filter f [z] = [z] := by simp [hf]
        rw [e1]
        exact (Reps.mono (g45.gg.trans g6.gg) r).app (.cons r6 .nil)
      | false =>
        refine iteF ⟨G5, acc, g3.and g45, n5, hA5, by omega, ?_⟩
        rw [tk, List.filter_append, List.map_append]
        have e1 : List.filter f [z] = [] := by simp [hf]
        rw [e1]
        simpa using Reps.mono g45.gg r
    · rintro H ⟨G3, acc, g3, n3, hA, hl, r⟩
      rw [List.take_length] at r
      exact k D acc G3 H (g2.and g3) (g2.dom _ hD) n3 hA (by omega) r
theorem do_lc {l : List β} (h : LC X elt tg iter ifs scope σ G l) (hs : ∀ x, foldedSetIterable iter X.env x = pure x := by intro _; rfl) : DO X (.ListComp elt [⟨tg, iter, ifs, 0⟩] scope pos) σ G l := fun G1 H1 e1 e2 Q k => by
  obtain ⟨own, ok, hN, hc, m⟩ := h
  obtain ⟨wi, g, tt, te, h1, h2, h3, h4, q⟩ := m G1 H1 e1 e2 Q k
  exact ⟨_, pe_lc hc hN h1 ok h2 h3 h4 hs, q⟩
end
end Dn

namespace Dn
open Dn.Rep (rep)
open PySem L2

section
variable {P : Program} {w : World} {K : PySem.W.Frag} {mg : Str → Option Value} {base : Heap} {x qual : Str} {params : Arguments} {body : List Stmt} {scope : Scope} {f : Addr} {N : List Str} {k : Nat}
/-- what binds the parameters -/
abbrev BindOk (x qual : Str) (params : Arguments) (body : List Stmt) (scope : Scope) (ps : List Str) : Prop :=
  ∀ (kV doc pm : Value) (an : Option Addr) (cdv ct : Value) (us : List Value), us.length = ps.length → bindArgs (PySem.W.fnOf x qual params body scope .none kV doc pm an cdv ct) ⟨us, []⟩ = pure (ps.zip us)
theorem has_of {ps : List Str} {sp : Sp} (F : ∃ fd, FunD K x qual params body scope [] [] f fd) (hm : mg x = some (.ref f)) (S : FnScope N ps scope) (hb : BindOk x qual params body scope ps) (len : ∀ vs H Q E, sp vs H Q E → vs.length = ps.length)
    (hbody : ∀ (X : Cx), (∃ cdv A outer s H E, X = (cxOf CX0 P w K mg base N qual scope f cdv A outer s H E).nox) → Rm k X.A → ∀ (H : Hp) (vs : List V) (Q : VK) (E : XK), sp vs H Q E → WS X body { nx := fun _ H' => Q .non H', rt := Q } (start N vs) H) : Has P w K mg base x f (k + 1) ps sp := by
  obtain ⟨fd, F⟩ := F
  refine ⟨fd, hm, F.kp, F.bindsN hb, okG F S len fun cdv A outer s H vs Q E hr hsp => ?_⟩
  obtain ⟨t, h1, h2⟩ := hbody _ ⟨cdv, A, outer, s, H, E, rfl⟩ hr H vs Q E hsp
  exact ⟨t, h1.nox, h2⟩
end
end Dn

namespace Dn
open Dn.Rep (rep)
open PySem L2

/-- what a cell holds -/
structure Cont where
  ok : Hp → HO → Prop
  mono : ∀ {G G' : Hp} {o : HO}, Ex G G' → ok G o → ok G' o
def cl {α : Type} [Rep α] (l : List α) : Cont := ⟨fun G o => ∃ vs, o = .lst vs ∧ vs.length ≤ sizeLine ∧ Reps G vs l, fun e ⟨vs, h1, h2, h3⟩ => ⟨vs, h1, h2, Reps.mono e h3⟩⟩
abbrev Cs := List (Addr × Cont)
/-- the base of a def: what it may change, what was known, what was there -/
structure Bs where
  M : List Addr
  G : Hp
  H : Hp
structure On (B : Bs) (C : Cs) (G H : Hp) : Prop where
  gr : Gr B.M B.G B.H G H
  at_ : ∀ (i : Nat) u c, C[i]? = some (u, c) → ∃ o, H u = some o ∧ G u = none ∧ c.ok G o
  own : ∀ (i : Nat) u c, C[i]? = some (u, c) → u ∈ B.M ∨ B.H u = none
  nd : (C.map (·.1)).Nodup
section
variable {B : Bs} {C C' : Cs} {G H G1 H1 : Hp} {u : Addr} {c c' : Cont} {o : HO} {i : Nat}
theorem On.ex (h : On B C G H) : Ex G H := h.gr.gh
theorem On.ne (h : On B C G H) {j : Nat} {v : Addr} {d : Cont} (hi : C[i]? = some (u, c)) (hj : C[j]? = some (v, d)) (n : i ≠ j) : u ≠ v := by
  intro e
  subst e
  have n1 := h.nd
  have a1 : (C.map (·.1))[i]? = some u := by rw [List.getElem?_map, hi]; rfl
  have a2 : (C.map (·.1))[j]? = some u := by rw [List.getElem?_map, hj]; rfl
  exact n ((List.getElem?_inj (List.getElem?_eq_some_iff.mp a1).1 n1).mp (a1.trans a2.symm))
theorem On.grow (h : On B C G H) (g : Gr [] G H G1 H1) : On B C G1 H1 :=
  ⟨h.gr.and g, fun i u c hi => by
    obtain ⟨o, h1, h2, h3⟩ := h.at_ i u c hi
    exact ⟨o, g.hh _ _ h1, Gr.unk g h1 h2, c.mono g.gg h3⟩, h.own, h.nd⟩
theorem map_set_fst (hi : C[i]? = some (u, c)) : (C.set i (u, c')).map (·.1) = C.map (·.1) := by
  apply List.ext_getElem?
  intro j
  rw [List.getElem?_map, List.getElem?_set, List.getElem?_map]
  by_cases e : i = j
  · subst e
    obtain ⟨hl, he⟩ := List.getElem?_eq_some_iff.mp hi
    simp [hl, he]
  · simp [e]
/-- a call changed the cell u alone -/
theorem On.chg (h : On B C G H) (hi : C[i]? = some (u, c)) (g : Gr [u] G H G1 H1) (ho : H1 u = some o) (hc : c'.ok G1 o) : On B (C.set i (u, c')) G1 H1 := by
  obtain ⟨o0, q1, q2, q3⟩ := h.at_ i u c hi
  refine ⟨h.gr.trans g fun x hx => ?_, fun j v d hj => ?_, fun j v d hj => ?_, ?_⟩
  · rw [List.mem_singleton.mp hx]; exact h.own i u c hi
  · rw [List.getElem?_set] at hj
    by_cases e : i = j
    · subst e
      rw [if_pos rfl] at hj
      split at hj
      · cases hj; exact ⟨o, ho, Gr.unk g q1 q2, hc⟩
      · cases hj
    · rw [if_neg e] at hj
      obtain ⟨p, h1, h2, h3⟩ := h.at_ j v d hj
      have ne := h.ne hi hj e
      exact ⟨p, g.keep _ _ h1 (fun z => ne (List.mem_singleton.mp z).symm), Gr.unk g h1 h2, d.mono g.gg h3⟩
  · rw [List.getElem?_set] at hj
    by_cases e : i = j
    · subst e
      rw [if_pos rfl] at hj
      split at hj
      · cases hj; exact h.own i u c hi
      · cases hj
    · rw [if_neg e] at hj
      exact h.own j v d hj
  · rw [map_set_fst hi]; exact h.nd
theorem gr_upd (e : Ex G H) (ho : H u = some o) (hg : G u = none) {o' : HO} : Gr [u] G H G (upd H u o') := (Gr.refl e).set (.inl (List.mem_singleton.mpr rfl)) hg
theorem On.put (h : On B C G H) (hi : C[i]? = some (u, c)) (hc : c'.ok G o) : On B (C.set i (u, c')) G (upd H u o) := by
  obtain ⟨o0, q1, q2, q3⟩ := h.at_ i u c hi
  exact h.chg hi (gr_upd h.ex q1 q2) upd_same hc
/-- a new cell -/
theorem On.push (h : On B C G H) (hu : H u = none) (hc : c.ok G o) : On B (C ++ [(u, c)]) G (upd H u o) := by
  have g : Gr [] G H G (upd H u o) := Gr.own h.ex hu
  have h' := h.grow g
  have old : ∀ (j : Nat) v d, C[j]? = some (v, d) → v ≠ u := fun j v d hj e => by
    obtain ⟨p, h1, _⟩ := h.at_ j v d hj
    rw [e, hu] at h1; cases h1
  refine ⟨h'.gr, fun j v d hj => ?_, fun j v d hj => ?_, ?_⟩
  · rw [List.getElem?_append] at hj
    split at hj
    · exact h'.at_ j v d hj
    · have hl := (List.getElem?_eq_some_iff.mp hj).1
      have e : j - C.length = 0 := by simpa using hl
      rw [e] at hj
      cases hj
      exact ⟨o, upd_same, Ex.fresh h.ex hu, hc⟩
  · rw [List.getElem?_append] at hj
    split at hj
    · exact h'.own j v d hj
    · have hl := (List.getElem?_eq_some_iff.mp hj).1
      have e : j - C.length = 0 := by simpa using hl
      rw [e] at hj
      cases hj
      exact .inr (h.gr.dom _ hu)
  · rw [List.map_append, List.nodup_append]
    refine ⟨h.nd, List.nodup_cons.mpr ⟨(by simp), List.nodup_nil⟩, fun a ha b hb => ?_⟩
    have e : b = u := by simpa using hb
    obtain ⟨p, hp, rfl⟩ := List.mem_map.mp ha
    obtain ⟨j, hj⟩ := List.mem_iff_getElem?.mp hp
    rw [e]
    exact old j p.1 p.2 hj
/-- an owned list as a new cell -/
theorem On.take_ (h : On B C G H) {p : Addr} (g : Gr [] G H G1 H1) (n1 : H p = none) (n2 : G1 p = none) (hp : H1 p = some o) (hc : c.ok G1 o) : On B (C ++ [(p, c)]) G1 H1 := by
  have h' := h.grow g
  have old : ∀ (j : Nat) v d, C[j]? = some (v, d) → v ≠ p := fun j v d hj e => by
    obtain ⟨q, h1, _⟩ := h.at_ j v d hj
    rw [e, n1] at h1; cases h1
  refine ⟨h'.gr, fun j v d hj => ?_, fun j v d hj => ?_, ?_⟩
  · rw [List.getElem?_append] at hj
    split at hj
    · exact h'.at_ j v d hj
    · have hl := (List.getElem?_eq_some_iff.mp hj).1
      have e : j - C.length = 0 := by simpa using hl
      rw [e] at hj
      cases hj
      exact ⟨o, hp, n2, hc⟩
  · rw [List.getElem?_append] at hj
    split at hj
    · exact h'.own j v d hj
    · have hl := (List.getElem?_eq_some_iff.mp hj).1
      have e : j - C.length = 0 := by simpa using hl
      rw [e] at hj
      cases hj
      exact .inr (h.gr.dom _ n1)
  · rw [List.map_append, List.nodup_append]
    refine ⟨h.nd, List.nodup_cons.mpr ⟨(by simp), List.nodup_nil⟩, fun a ha b hb => ?_⟩
    have e : b = p := by simpa using hb
    obtain ⟨q, hq, rfl⟩ := List.mem_map.mp ha
    obtain ⟨j, hj⟩ := List.mem_iff_getElem?.mp hq
    rw [e]
    exact old j q.1 q.2 hj
theorem On.add {p : Addr} (h : On B C G H) (hp : H p = some o) (n2 : G p = none) (hc : c.ok G o) (ho : p ∈ B.M ∨ B.H p = none) (old : ∀ (j : Nat) v d, C[j]? = some (v, d) → v ≠ p) : On B (C ++ [(p, c)]) G H := by
  refine ⟨h.gr, fun j v d hj => ?_, fun j v d hj => ?_, ?_⟩
  · rw [List.getElem?_append] at hj
    split at hj
    · exact h.at_ j v d hj
    · have hl := (List.getElem?_eq_some_iff.mp hj).1
      have e : j - C.length = 0 := by simpa using hl
      rw [e] at hj
      cases hj
      exact ⟨o, hp, n2, hc⟩
  · rw [List.getElem?_append] at hj
    split at hj
    · exact h.own j v d hj
    · have hl := (List.getElem?_eq_some_iff.mp hj).1
      have e : j - C.length = 0 := by simpa using hl
      rw [e] at hj
      cases hj
      exact ho
  · rw [List.map_append, List.nodup_append]
    refine ⟨h.nd, List.nodup_cons.mpr ⟨(by simp), List.nodup_nil⟩, fun a ha b hb => ?_⟩
    have e : b = p := by simpa using hb
    obtain ⟨q, hq, rfl⟩ := List.mem_map.mp ha
    obtain ⟨j, hj⟩ := List.mem_iff_getElem?.mp hq
    rw [e]
    exact old j q.1 q.2 hj
/-- the last cells forgotten -/
theorem On.first (h : On B C G H) (n : Nat) : On B (C.take n) G H := by
  have sub : ∀ (j : Nat) v d, (C.take n)[j]? = some (v, d) → C[j]? = some (v, d) := fun j v d hj => by
    rw [List.getElem?_take] at hj
    split at hj
    · exact hj
    · cases hj
  exact ⟨h.gr, fun j v d hj => h.at_ j v d (sub j v d hj), fun j v d hj => h.own j v d (sub j v d hj), by rw [List.map_take]; exact h.nd.sublist (List.take_sublist _ _)⟩
end

section
variable (B : Bs) (X : Cx) {α : Type} [Rep α]
def SE (e : Expr) (σ : L2.St) (G : Hp) (C : Cs) (a : α) (C' : Cs) : Prop :=
  ∀ G1 H1, Ex G G1 → On B C G1 H1 → ∀ Q : VK, (∀ v G2 H2, Ex G1 G2 → On B C' G2 H2 → rep G2 v a → Q v H2) → WE X e σ H1 Q
def ST (e : Expr) (σ : L2.St) (G : Hp) (C : Cs) (b : Bool) (C' : Cs) : Prop :=
  ∀ G1 H1, Ex G G1 → On B C G1 H1 → ∀ Q : Bool → Hp → Prop, (∀ G2 H2, Ex G1 G2 → On B C' G2 H2 → Q b H2) → WT X e σ H1 Q
/-- a list of one's own, at a new address -/
def SO (e : Expr) (σ : L2.St) (G : Hp) (C : Cs) (l : List α) (C' : Cs) : Prop :=
  ∀ G1 H1, Ex G G1 → On B C G1 H1 → ∀ Q : VK, (∀ p G2 H2, Ex G1 G2 → On B (C' ++ [(p, cl l)]) G2 H2 → B.H p = none → Q (.ref p) H2) → WE X e σ H1 Q
def SP (e : Option Expr) (σ : L2.St) (G : Hp) (C : Cs) (o : Option Int) (C' : Cs) : Prop :=
  ∀ G1 H1, Ex G G1 → On B C G1 H1 → ∀ Q : Option Int → Hp → Prop, (∀ G2 H2, Ex G1 G2 → On B C' G2 H2 → Q o H2) → WO X e σ H1 Q
end
section
variable {B : Bs} {X : Cx} {α β γ δ : Type} [Rep α] [Rep β] [Rep γ] [Rep δ] {e a b c : Expr} {es : List Expr} {σ : L2.St} {G G' : Hp} {C C' C2 C3 : Cs} {pos pos' p2 p : Pos}
theorem DE.se {x : α} (h : DE X e σ G x) : SE B X e σ G C x C := fun G1 H1 e1 o Q k => h G1 H1 e1 o.ex Q fun v G2 H2 g r => k v G2 H2 g.gg (o.grow g) r
theorem DT.st {x : Bool} (h : DT X e σ G x) : ST B X e σ G C x C := fun G1 H1 e1 o Q k => h G1 H1 e1 o.ex Q fun G2 H2 g => k G2 H2 g.gg (o.grow g)
theorem DO.so {x : List α} (h : DO X e σ G x) : SO B X e σ G C x C := fun G1 H1 e1 o Q k => h G1 H1 e1 o.ex Q fun p vs G2 H2 g n1 n2 hp hz r => k p G2 H2 g.gg (o.take_ g n1 n2 hp ⟨vs, rfl, hz, r⟩) (o.gr.dom _ n1)
theorem DP.sp {e : Option Expr} {x : Option Int} (h : DP X e σ G x) : SP B X e σ G C x C := fun G1 H1 e1 o Q k => h G1 H1 e1 o.ex Q fun G2 H2 g => k G2 H2 g.gg (o.grow g)
theorem SE.mono {x : α} (q : Ex G G') (h : SE B X e σ G C x C') : SE B X e σ G' C x C' := fun G1 H1 e1 o Q k => h G1 H1 (q.trans e1) o Q k
theorem SE.cast {x y : α} (h : SE B X e σ G C x C') (q : x = y) : SE B X e σ G C y C' := q ▸ h
theorem On.drop1 {l : Cs} {p : Addr} {c : Cont} {H : Hp} (h : On B (l ++ [(p, c)]) G H) : On B l G H := by
  have q := h.first l.length
  rw [List.take_left'] at q
  · exact q
  · rfl
/-- one's own list gets known -/
theorem On.frz {p : Addr} {l : List α} {H : Hp} (h : On B (C ++ [(p, cl l)]) G H) (hB : B.H p = none) : ∃ vs, H p = some (.lst vs) ∧ G p = none ∧ On B C (upd G p (.lst vs)) H ∧ rep (upd G p (.lst vs)) (.ref p) l := by
  have hi : (C ++ [(p, cl l)])[C.length]? = some (p, cl l) := by simp
  obtain ⟨o, h1, h2, vs, rfl, hz, r⟩ := h.at_ _ _ _ hi
  have ex : Ex G (upd G p (.lst vs)) := Ex.new h2
  have d := h.drop1
  refine ⟨vs, h1, h2, ⟨?_, fun j v c hj => ?_, d.own, d.nd⟩, p, vs, rfl, upd_same, hz, Reps.mono ex r⟩
  · refine ⟨d.gr.keep, d.gr.dom, d.gr.gg.trans ex, fun x u q => ?_, fun x u q1 q2 => ?_⟩
    · by_cases z : x = p
      · subst z; rw [upd_same] at q; cases q; exact h1
      · rw [upd_ne z] at q; exact d.gr.gh x u q
    · by_cases z : x = p
      · subst z; exact hB
      · rw [upd_ne z] at q1; exact d.gr.fr x u q1 q2
  · obtain ⟨o, q1, q2, q3⟩ := d.at_ j v c hj
    have ne : v ≠ p := by
      have hj' : (C ++ [(p, cl l)])[j]? = some (v, c) := by
        rw [List.getElem?_append_left (List.getElem?_eq_some_iff.mp hj).1]; exact hj
      exact h.ne hj' hi (Nat.ne_of_lt (List.getElem?_eq_some_iff.mp hj).1)
    exact ⟨o, q1, by rw [upd_ne ne]; exact q2, c.mono ex q3⟩
end
end Dn

namespace Dn
open Dn.Rep (rep)
open PySem L2

class Args (A : Type) where
  rel : A → Hp → List V → Prop
  mono : ∀ {a : A} {G G' : Hp} {vs : List V}, Ex G G' → rel a G vs → rel a G' vs
instance : Args Unit := ⟨fun _ _ vs => vs = [], fun _ h => h⟩
instance instArgsCons {α A : Type} [Rep α] [Args A] : Args (α × A) := ⟨fun a G vs => ∃ v r, vs = v :: r ∧ rep G v a.1 ∧ Args.rel a.2 G r, fun e ⟨v, r, h1, h2, h3⟩ => ⟨v, r, h1, Rep.mono e h2, Args.mono e h3⟩⟩
/-- a kind of result: data, or a list of the caller's own -/
structure Kd (δ : Type) where
  is : δ → Hp → Hp → Hp → V → Prop
def kD {δ : Type} [Rep δ] : Kd δ := ⟨fun x _ G' _ w => rep G' w x⟩
def kO {δ : Type} [Rep δ] : Kd (List δ) := ⟨fun l H G' H' w => ∃ p, w = .ref p ∧ H p = none ∧ G' p = none ∧ ∃ o, H' p = some o ∧ (cl l).ok G' o⟩
/-- a def that changes nothing -/
def SpN {A δ : Type} [Args A] (kd : Kd δ) (pre : A → Prop) (f : A → δ) : Sp := fun vs H Q _ => ∃ G a, Ex G H ∧ Args.rel a G vs ∧ pre a ∧ ∀ w G' H', Gr [] G H G' H' → kd.is (f a) H G' H' w → Q w H'
/-- a def that changes its first argument, a list -/
def SpU {β A δ : Type} [Rep β] [Args A] (kd : Kd δ) (pre : List β → A → Prop) (f : List β → A → δ × List β) : Sp := fun vs H Q _ => ∃ G u p a r, vs = .ref u :: r ∧ Ex G H ∧ G u = none ∧ (∃ o, H u = some o ∧ (cl p).ok G o) ∧ Args.rel a G r ∧ pre p a ∧
  ∀ w G' H', Gr [u] G H G' H' → (∃ o, H' u = some o ∧ (cl (f p a).2).ok G' o) → kd.is (f p a).1 H G' H' w → Q w H'

section
variable {B : Bs} {X : Cx} {α β γ δ A : Type} [Rep α] [Rep β] [Rep γ] [Rep δ] [Args A] {e a b c : Expr} {es : List Expr} {σ : L2.St} {G G' : Hp} {C C' C1 C2 C3 : Cs} {pos pos' p2 p : Pos}
/-- arguments without effects -/
def DA (X : Cx) (es : List Expr) (σ : L2.St) (G : Hp) (x : A) : Prop :=
  ∀ G1 H1, Ex G G1 → Ex G1 H1 → ∀ Q : List V → Hp → Prop, (∀ vs G2 H2, Gr [] G1 H1 G2 H2 → Args.rel x G2 vs → Q vs H2) → WA X es σ H1 Q
theorem da_nil : DA X [] σ G () := fun G1 H1 e1 e2 Q k => ⟨_, pa_nil, k _ G1 H1 (Gr.refl e2) rfl⟩
theorem da_cons {x : α} {y : A} (ha : DE X a σ G x) (hs : DA X es σ G y) (h : starEach (a :: es) X.env = (false, eval a X.env) :: starEach es X.env := by rfl) : DA X (a :: es) σ G (x, y) := fun G1 H1 e1 e2 Q k =>
  ⟨_, pa_cons WE.pe WA.pa h, ha G1 H1 e1 e2 _ fun v G2 H2 g r => hs G2 H2 (e1.trans g.gg) g.gh _ fun vs G3 H3 g3 r3 => k _ G3 H3 (g.and g3) ⟨v, vs, rfl, Rep.mono g3.gg r, r3⟩⟩
/-- .. with effects -/
def SA (B : Bs) (X : Cx) (es : List Expr) (σ : L2.St) (G : Hp) (C : Cs) (x : A) (C' : Cs) : Prop :=
  ∀ G1 H1, Ex G G1 → On B C G1 H1 → ∀ Q : List V → Hp → Prop, (∀ vs G2 H2, Ex G1 G2 → On B C' G2 H2 → Args.rel x G2 vs → Q vs H2) → WA X es σ H1 Q
theorem DA.sa {x : A} (h : DA X es σ G x) : SA B X es σ G C x C := fun G1 H1 e1 o Q k => h G1 H1 e1 o.ex Q fun v G2 H2 g r => k v G2 H2 g.gg (o.grow g) r
theorem sa_nil : SA B X [] σ G C () C := da_nil.sa
theorem sa_cons {x : α} {y : A} (ha : SE B X a σ G C x C1) (hs : SA B X es σ G C1 y C2) (h : starEach (a :: es) X.env = (false, eval a X.env) :: starEach es X.env := by rfl) : SA B X (a :: es) σ G C (x, y) C2 := fun G1 H1 e1 o Q k =>
  ⟨_, pa_cons WE.pe WA.pa h, ha G1 H1 e1 o _ fun v G2 H2 g o2 r => hs G2 H2 (e1.trans g) o2 _ fun vs G3 H3 g3 o3 r3 => k _ G3 H3 (g.trans g3) o3 ⟨v, vs, rfl, Rep.mono g3 r, r3⟩⟩

variable {x : Str} {f : Addr} {lvl k : Nat} {ps : List Str}
theorem de_call {pre : A → Prop} {g : A → δ} {y : A} (F : Has X.prog X.w X.K X.mg X.base x f lvl ps (SpN kD pre g)) (hr : Rm k X.A) (ha : DA X (e :: es) σ G y) (hp : pre y) (hl : lvl ≤ k := by decide) (hg : Gl X x := by rfl) (hdb : (x == ("__debug__" : Str)) = false := by decide)
    (he : starEach (e :: es) X.env = (false, eval e X.env) :: starEach es X.env := by rfl) (hpl : (backTo pos (starEach es X.env)).any (·.1) = false := by rfl) : DE X (.Call (.Name x p) (e :: es) [] pos) σ G (g y) := fun G1 H1 e1 e2 Q k =>
  we_call F hr (ha G1 H1 e1 e2 _ fun vs G2 H2 g2 r => ⟨G2, y, g2.gh, r, hp, fun w G3 H3 g3 r3 => k w G3 H3 (g2.and g3) r3⟩) hl hg hdb he hpl
theorem do_call {pre : A → Prop} {g : A → List δ} {y : A} (F : Has X.prog X.w X.K X.mg X.base x f lvl ps (SpN kO pre g)) (hr : Rm k X.A) (ha : DA X (e :: es) σ G y) (hp : pre y) (hl : lvl ≤ k := by decide) (hg : Gl X x := by rfl) (hdb : (x == ("__debug__" : Str)) = false := by decide)
    (he : starEach (e :: es) X.env = (false, eval e X.env) :: starEach es X.env := by rfl) (hpl : (backTo pos (starEach es X.env)).any (·.1) = false := by rfl) : DO X (.Call (.Name x p) (e :: es) [] pos) σ G (g y) := fun G1 H1 e1 e2 Q k =>
  we_call F hr (ha G1 H1 e1 e2 _ fun vs G2 H2 g2 r => ⟨G2, y, g2.gh, r, hp, fun w G3 H3 g3 ⟨q, ew, n1, n2, o, h3, vs, eo, hz, r3⟩ => by
    subst ew; subst eo
    exact k q vs G3 H3 (g2.and g3) (g2.dom _ n1) n2 h3 hz r3⟩) hl hg hdb he hpl
/-- the name nm stands for the thing at u -/
structure AtVar (X : Cx) (σ : L2.St) (nm : Str) (u : Addr) : Prop where
  ex : ∃ j : Nat, X.N[j]? = some nm ∧ σ[j]? = some (some (.ref u)) ∧ Vis X.env.scope nm ∧ (nm == ("__debug__" : Str)) = false ∧ (nm == ("__classdict__" : Str)) = false
theorem at_var {nm : Str} {u : Addr} (j : Nat) (hN : X.N[j]? = some nm := by rfl) (hs : σ[j]? = some (some (.ref u)) := by rfl) (hv : Vis X.env.scope nm := by first | exact Or.inl rfl | exact Or.inr (Or.inl rfl) | exact Or.inr (Or.inr rfl))
    (hd : (nm == ("__debug__" : Str)) = false := by decide) (hcd : (nm == ("__classdict__" : Str)) = false := by decide) : AtVar X σ nm u := ⟨j, hN, hs, hv, hd, hcd⟩
theorem AtVar.we {nm : Str} {u : Addr} {H : Hp} {Q : VK} (h : AtVar X σ nm u) (q : Q (.ref u) H) : WE X (.Name nm pos) σ H Q := by
  obtain ⟨j, hN, hs, hv, hd, hcd⟩ := h.ex
  exact ⟨_, pe_var hN hv hd hcd, _, hs, q⟩
/-- a call that changes the i-th cell -/
theorem se_callU {pre : List β → A → Prop} {g : List β → A → δ × List β} {y : A} {l : List β} {u : Addr} {nm : Str} {pn : Pos} (i : Nat) (F : Has X.prog X.w X.K X.mg X.base x f lvl ps (SpU kD pre g)) (hr : Rm k X.A) (hu : AtVar X σ nm u) (ha : SA B X es σ G C y C1) (hi : C1[i]? = some (u, cl l)) (hp : pre l y)
    (hl : lvl ≤ k := by decide) (hg : Gl X x := by rfl) (hdb : (x == ("__debug__" : Str)) = false := by decide) (he : starEach (.Name nm pn :: es) X.env = (false, eval (.Name nm pn) X.env) :: starEach es X.env := by rfl) (hpl : (backTo pos (starEach es X.env)).any (·.1) = false := by rfl) :
    SE B X (.Call (.Name x p) (.Name nm pn :: es) [] pos) σ G C (g l y).1 (C1.set i (u, cl (g l y).2)) := fun G1 H1 e1 o Q k =>
  we_call F hr ⟨_, pa_cons WE.pe WA.pa he, hu.we (ha G1 H1 e1 o _ fun vs G2 H2 e2 o2 r => by
    obtain ⟨ob, h1, h2, h3⟩ := o2.at_ i u _ hi
    refine ⟨G2, u, l, y, vs, rfl, o2.ex, h2, ⟨ob, h1, h3⟩, r, hp, fun w G3 H3 g3 ⟨ob', h4, h5⟩ r3 => k w G3 H3 (e2.trans g3.gg) (o2.chg hi g3 h4 h5) r3⟩)⟩ hl hg hdb he hpl
theorem so_callU {pre : List β → A → Prop} {g : List β → A → List δ × List β} {y : A} {l : List β} {u : Addr} {nm : Str} {pn : Pos} (i : Nat) (F : Has X.prog X.w X.K X.mg X.base x f lvl ps (SpU kO pre g)) (hr : Rm k X.A) (hu : AtVar X σ nm u) (ha : SA B X es σ G C y C1) (hi : C1[i]? = some (u, cl l)) (hp : pre l y)
    (hl : lvl ≤ k := by decide) (hg : Gl X x := by rfl) (hdb : (x == ("__debug__" : Str)) = false := by decide) (he : starEach (.Name nm pn :: es) X.env = (false, eval (.Name nm pn) X.env) :: starEach es X.env := by rfl) (hpl : (backTo pos (starEach es X.env)).any (·.1) = false := by rfl) :
    SO B X (.Call (.Name x p) (.Name nm pn :: es) [] pos) σ G C (g l y).1 (C1.set i (u, cl (g l y).2)) := fun G1 H1 e1 o Q k =>
  we_call F hr ⟨_, pa_cons WE.pe WA.pa he, hu.we (ha G1 H1 e1 o _ fun vs G2 H2 e2 o2 r => by
    obtain ⟨ob, h1, h2, h3⟩ := o2.at_ i u _ hi
    refine ⟨G2, u, l, y, vs, rfl, o2.ex, h2, ⟨ob, h1, h3⟩, r, hp, fun w G3 H3 g3 ⟨ob', h4, h5⟩ ⟨q, ew, n1, n2, o', h6, h7⟩ => ?_⟩
    subst ew
    have oo := o2.chg hi g3 h4 h5
    refine k q G3 H3 (e2.trans g3.gg) ?_ (o2.gr.dom _ n1)
    -- the new list as a cell
    have old : ∀ (j : Nat) v d, (C1.set i (u, cl (g l y).2))[j]? = some (v, d) → v ≠ q := fun j v d hj e => by
      have hm : v ∈ (C1.set i (u, cl (g l y).2)).map (·.1) := List.mem_map.mpr ⟨_, List.mem_of_getElem? hj, rfl⟩
      rw [map_set_fst hi] at hm
      obtain ⟨z, hz, ez⟩ := List.mem_map.mp hm
      obtain ⟨j2, hj2⟩ := List.mem_iff_getElem?.mp hz
      obtain ⟨ob2, q1, _⟩ := o2.at_ j2 z.1 z.2 hj2
      rw [ez, e, n1] at q1
      cases q1
    exact oo.add h6 n2 h7 (.inr (o2.gr.dom _ n1)) old)⟩ hl hg hdb he hpl
end

section
variable {B : Bs} {X : Cx} {α β γ δ A : Type} [Rep α] [Rep β] [Rep γ] [Rep δ] [Args A] {e a b c : Expr} {es : List Expr} {σ : L2.St} {G G' : Hp} {C C' C1 C2 C3 : Cs} {pos pos' p2 p : Pos}
theorem se_two {r : R2} {x : α} {y : β} {z : γ} (ha : SE B X a σ G C x C1) (hb : SE B X b σ G C1 y C2) (hr : R2D r x y z) (G1 H1 : Hp) (e1 : Ex G G1) (o1 : On B C G1 H1) (Q : VK) (k : ∀ v G2 H2, Ex G1 G2 → On B C2 G2 H2 → rep G2 v z → Q v H2) :
    WE X a σ H1 fun u H2 => WE X b σ H2 fun v H3 => r u v H3 Q :=
  ha G1 H1 e1 o1 _ fun u G2 H2 g2 o2 r2 => hb G2 H2 (e1.trans g2) o2 _ fun v G3 H3 g3 o3 r3 => hr G3 H3 u v o3.ex (Rep.mono g3 r2) r3 Q fun w G4 H4 g4 r4 => k w G4 H4 ((g2.trans g3).trans g4.gg) (o3.grow g4) r4
theorem se_op {op : Operator} {r : R2} {x : α} {y : β} {z : γ} (ho : OpR X (binaryOp op) r) (hr : R2D r x y z) (ha : SE B X a σ G C x C1) (hb : SE B X b σ G C1 y C2) : SE B X (.BinOp a op b pos) σ G C z C2 := fun G1 H1 e1 o1 Q k =>
  ⟨_, pe_op ho WE.pe WE.pe, se_two ha hb hr G1 H1 e1 o1 Q k⟩
theorem se_add {i j : Int} (ha : SE B X a σ G C i C1) (hb : SE B X b σ G C1 j C2) : SE B X (.BinOp a .Add b pos) σ G C (i + j) C2 := se_op op_add (r2_I0 fun _ => rfl) ha hb
theorem se_sub {i j : Int} (ha : SE B X a σ G C i C1) (hb : SE B X b σ G C1 j C2) : SE B X (.BinOp a .Sub b pos) σ G C (i - j) C2 := se_op op_sub (r2_I0 fun _ => rfl) ha hb
structure SC (B : Bs) (X : Cx) (op : CmpOp) (a b : Expr) (σ : L2.St) (G : Hp) (C : Cs) (z : Bool) (C' : Cs) : Prop where
  se : ∀ {pos : Pos}, SE B X (.Compare a [op] [b] pos) σ G C z C'
  st : ∀ {pos : Pos}, ST B X (.Compare a [op] [b] pos) σ G C z C'
theorem sc_cmp {op : CmpOp} {r : R2} {x : α} {y : β} {z : Bool} (ho : OpR X (compareOp op) r) (hr : R2D r x y z) (ha : SE B X a σ G C x C1) (hb : SE B X b σ G C1 y C2) (hm : behindInMarks op b = false := by first | exact nomark _ | rfl) : SC B X op a b σ G C z C2 :=
  ⟨fun {_} G1 H1 e1 o1 Q k => ⟨_, pe_cmpR ho WE.pe WE.pe hm, se_two ha hb hr G1 H1 e1 o1 Q k⟩,
    fun {_} G1 H1 e1 o1 Q k => ⟨_, pt_cmpR ho WE.pe WE.pe hm, se_two ha hb hr G1 H1 e1 o1 _ fun v G2 H2 g o r => ⟨z, r, k G2 H2 g o⟩⟩⟩
theorem sc_lt {i j : Int} (ha : SE B X a σ G C i C1) (hb : SE B X b σ G C1 j C2) : SC B X .Lt a b σ G C (decide (i < j)) C2 := sc_cmp op_lt (r2_I0 fun _ => rfl) ha hb
theorem sc_le {i j : Int} (ha : SE B X a σ G C i C1) (hb : SE B X b σ G C1 j C2) : SC B X .LtE a b σ G C (decide (i ≤ j)) C2 := sc_cmp op_le (r2_I0 fun _ => rfl) ha hb
theorem sc_gt {i j : Int} (ha : SE B X a σ G C i C1) (hb : SE B X b σ G C1 j C2) : SC B X .Gt a b σ G C (decide (j < i)) C2 := sc_cmp op_gt (r2_I0 fun _ => rfl) ha hb
theorem sc_ge {i j : Int} (ha : SE B X a σ G C i C1) (hb : SE B X b σ G C1 j C2) : SC B X .GtE a b σ G C (decide (j ≤ i)) C2 := sc_cmp op_ge (r2_I0 fun _ => rfl) ha hb
theorem r2_eqI {i j : Int} : R2D rEq i j (decide (i = j)) := fun G H u v e r1 r2 Q k => by cases r1; cases r2; exact ⟨rfl, k _ G H (Gr.refl e) (by show V.bl _ = V.bl _; simp)⟩
theorem r2_neI {i j : Int} : R2D rNe i j (!decide (i = j)) := fun G H u v e r1 r2 Q k => by cases r1; cases r2; exact ⟨rfl, k _ G H (Gr.refl e) (by show V.bl _ = V.bl _; simp)⟩
theorem sc_eqI {i j : Int} (ha : SE B X a σ G C i C1) (hb : SE B X b σ G C1 j C2) : SC B X .Eq a b σ G C (decide (i = j)) C2 := sc_cmp op_eq r2_eqI ha hb
theorem sc_neI {i j : Int} (ha : SE B X a σ G C i C1) (hb : SE B X b σ G C1 j C2) : SC B X .NotEq a b σ G C (!decide (i = j)) C2 := sc_cmp op_ne r2_neI ha hb
theorem SO.se {l : List α} (h : SO B X e σ G C l C') : SE B X e σ G C l C' := fun G1 H1 e1 o Q k => h G1 H1 e1 o _ fun q G2 H2 e2 o2 hB => by
  obtain ⟨vs, h1, h2, o3, r⟩ := o2.frz hB
  exact k _ _ H2 (e2.trans (Ex.new h2)) o3 r
theorem sp_none : SP B X none σ G C none C := dp_none.sp
theorem sp_some {i : Int} (h : SE B X e σ G C i C') : SP B X (some e) σ G C (some i) C' := fun G1 H1 e1 o Q k => ⟨_, po_some WE.pe, h G1 H1 e1 o _ fun v G2 H2 g o2 r => ⟨i, r, k G2 H2 g o2⟩⟩
theorem so_slice {l : List α} {lo hi : Option Expr} {i j : Option Int} (ha : SE B X a σ G C l C1) (hl : SP B X lo σ G C1 i C2) (hh : SP B X hi σ G C2 j C3) : SO B X (.Subscript a (.Slice lo hi none p2) pos) σ G C (cut l i j) C3 := fun G1 H1 e1 o1 Q k =>
  ⟨_, pe_slice sl_list WE.pe WO.po WO.po, ha G1 H1 e1 o1 _ fun v G2 H2 g2 o2 r2 => hl G2 H2 (e1.trans g2) o2 _ fun G3 H3 g3 o3 => hh G3 H3 (e1.trans (g2.trans g3)) o3 _ fun G4 H4 g4 o4 => by
    obtain ⟨p, vs, rfl, hp, hz, r⟩ := Rep.mono (g3.trans g4) r2
    refine ⟨p, vs, rfl, .inl (.inl (o4.ex _ _ hp)), fun q hq => k q G4 _ (g2.trans (g3.trans g4)) (o4.push hq ⟨_, rfl, Nat.le_trans (cutV_length vs _ _) hz, ?_⟩) (o4.gr.dom _ hq)⟩
    unfold cutV cut
    rw [r.len]
    exact Reps.take _ (Reps.drop _ r)⟩
theorem so_cat {l m : List α} (ha : SE B X a σ G C l C1) (hb : SE B X b σ G C1 m C2) (hl : l.length + m.length ≤ sizeLine) : SO B X (.BinOp a .Add b pos) σ G C (l ++ m) C2 := fun G1 H1 e1 o1 Q k =>
  ⟨_, pe_op op_cat WE.pe WE.pe, ha G1 H1 e1 o1 _ fun v G2 H2 g2 o2 r2 => hb G2 H2 (e1.trans g2) o2 _ fun w G3 H3 g3 o3 r3 => by
    obtain ⟨p, vs, rfl, hp, hz, r⟩ := Rep.mono g3 r2
    obtain ⟨q, ws, rfl, hq, hw, r'⟩ := r3
    have hlen : vs.length + ws.length ≤ sizeLine := by rw [r.len, r'.len]; exact hl
    exact ⟨p, q, vs, ws, rfl, rfl, o3.ex _ _ hp, o3.ex _ _ hq, hlen, fun t ht => k t G3 _ (g2.trans g3) (o3.push ht ⟨_, rfl, by rw [List.length_append]; exact hlen, r.app r'⟩) (o3.gr.dom _ ht)⟩⟩
/-- texts put together -/
theorem strW_app {x y : Str} (hx : StrW x) (hy : StrW y) (hl : x.length + y.length ≤ sizeLine) : StrW (x ++ y) := by
  have e : (x ++ y).cps = x.cps ++ y.cps := rfl
  refine ⟨?_, ?_⟩
  · have : (x ++ y).length = x.length + y.length := by
      show (x ++ y).cps.size = x.cps.size + y.cps.size
      rw [e, Array.size_append]
    omega
  · have h1 := hx.2
    have h2 := hy.2
    simp only [PyData.canLay0, PyData.strOk, Array.all_eq_true_iff_forall_mem] at h1 h2 ⊢
    intro c hc
    rw [e, Array.mem_append] at hc
    exact hc.elim (h1 c) (h2 c)
theorem r2_addS {x y : Str} (hl : x.length + y.length ≤ sizeLine) : R2D (fun x y H Q => ∃ i j, x = .str i ∧ y = .str j ∧ i.length + j.length ≤ sizeLine ∧ Q (.str (i ++ j)) H) x y (x ++ y) := fun G H u v e (r1 : u = .str x ∧ StrW x) (r2 : v = .str y ∧ StrW y) Q k =>
  ⟨x, y, r1.1, r2.1, hl, k _ G H (Gr.refl e) ⟨rfl, strW_app r1.2 r2.2 hl⟩⟩
theorem se_sign {z : Str} {i : Int} {ch : Nat} (ha : SE B X a σ G C z C1) (hb : SE B X b σ G C1 i C2) (h : atI z.cps.toList i = some ch) (hs : PlainIx b := by exact fun _ _ => rfl) : SE B X (.Subscript a b pos) σ G C (⟨#[ch]⟩ : Str) C2 := fun G1 H1 e1 o1 Q k =>
  ⟨_, pe_ix ix_str WE.pe WE.pe hs, se_two (x := z) (y := i) ha hb (fun G H u v e (r1 : u = .str z ∧ StrW z) (r2 : v = .int i) Q k => by
    refine ⟨z, i, ch, r1.1, r2, r1.2.1, h, k _ G H (Gr.refl e) ⟨rfl, by show 1 ≤ sizeLine; decide, ?_⟩⟩
    have h2 := r1.2.2
    have hm : ch ∈ z.cps := by
      unfold atI at h
      cases q : ixN z.cps.toList.length i with
      | none => rw [q] at h; cases h
      | some j =>
        rw [q] at h
        have q := List.mem_of_getElem? (show z.cps.toList[j]? = some ch from h)
        simpa using q
    simp only [PyData.canLay0, PyData.strOk, Array.all_eq_true_iff_forall_mem] at h2 ⊢
    intro x hx
    have : x = ch := by simpa using hx
    subst this
    exact h2 x hm) G1 H1 e1 o1 Q k⟩
theorem se_if {q : Bool} {x y : α} (hc : ST B X c σ G C q C1) (ha : q = true → SE B X a σ G C1 x C2) (hb : q = false → SE B X b σ G C1 y C2) : SE B X (.IfExp c a b pos) σ G C (if q = true then x else y) C2 := fun G1 H1 e1 o1 Q k =>
  ⟨_, pe_ifExp WT.pt WE.pe WE.pe, hc G1 H1 e1 o1 _ fun G2 H2 g o2 => by
    cases q with
    | true => exact iteT (ha rfl G2 H2 (e1.trans g) o2 Q fun w G3 H3 g3 o3 r3 => k w G3 H3 (g.trans g3) o3 r3)
    | false => exact iteF (hb rfl G2 H2 (e1.trans g) o2 Q fun w G3 H3 g3 o3 r3 => k w G3 H3 (g.trans g3) o3 r3)⟩
end
end Dn

namespace Dn
open Dn.Rep (rep)
open PySem L2

/-- what is handed back: data, behind the cells Cp -/
def RD {δ : Type} [Rep δ] (B : Bs) (Cp : Cs) (x : δ) : VK → Prop := fun Q => ∀ w G' H', On B Cp G' H' → rep G' w x → Q w H'
/-- a list of the caller's own -/
def RO {δ : Type} [Rep δ] (B : Bs) (Cp : Cs) (l : List δ) : VK → Prop := fun Q => ∀ p G' H', On B (Cp ++ [(p, cl l)]) G' H' → B.H p = none → Q (.ref p) H'
section
variable (B : Bs) (X : Cx)
def SB (sts : List Stmt) (σ : L2.St) (G : Hp) (C : Cs) (R : VK → Prop) (P : L2.St → Hp → Cs → Prop) : Prop :=
  ∀ G1 H1, Ex G G1 → On B C G1 H1 → ∀ D : Ends, R D.rt → (∀ σ2 G2 H2 C2, Ex G1 G2 → On B C2 G2 H2 → P σ2 G2 C2 → D.nx σ2 H2) → WS X sts D σ H1
end
section
variable {B : Bs} {X : Cx} {α β γ δ A : Type} [Rep α] [Rep β] [Rep γ] [Rep δ] [Args A] {e a b c tg iter elt : Expr} {ifs : List Expr} {es : List Expr} {σ : L2.St} {G G' : Hp} {C C' C1 C2 C3 Cp : Cs} {pos pos' p2 p pos2 : Pos} {scope : Scope} {sts rest thn els body : List Stmt} {R : VK → Prop} {P : L2.St → Hp → Cs → Prop}
theorem SB.mono (q : Ex G G') (h : SB B X sts σ G C R P) : SB B X sts σ G' C R P := fun G1 H1 e1 o D k1 k2 => h G1 H1 (q.trans e1) o D k1 k2
theorem SB.castR {R' : VK → Prop} (h : SB B X sts σ G C R P) (q : R = R') : SB B X sts σ G C R' P := q ▸ h
theorem sb_nil (h : ∀ G', Ex G G' → P σ G' C) : SB B X [] σ G C R P := fun G1 H1 e1 o D _ k2 => ⟨_, pss_nil, k2 σ G1 H1 C (Ex.refl G1) o (h G1 e1)⟩
theorem sb_pass (h : ∀ G', Ex G G' → SB B X rest σ G' C R P) : SB B X (.Pass pos :: rest) σ G C R P := fun G1 H1 e1 o D k1 k2 => ⟨_, pss_cons ps_pass WS.pss, h G1 e1 G1 H1 (Ex.refl _) o D k1 k2⟩
theorem sb_ret {x : δ} (n : Nat) (h : SE B X e σ G C x C') (hn : C'.take n = Cp := by rfl) : SB B X (.Return (some e) pos :: rest) σ G C (RD B Cp x) P := fun G1 H1 e1 o D k1 k2 =>
  ⟨_, pss_cons (ps_ret WE.pe) pss_never, h G1 H1 e1 o _ fun v G2 H2 e2 o2 r => k1 v G2 H2 (by have q := o2.first n; rw [hn] at q; exact q) r⟩
theorem On.pick {H : Hp} {u : Addr} {c : Cont} (h : On B C G H) (i n : Nat) (hi : C[i]? = some (u, c)) (hn : n ≤ i) : On B (C.take n ++ [(u, c)]) G H := by
  obtain ⟨o, h1, h2, h3⟩ := h.at_ i u c hi
  refine (h.first n).add h1 h2 h3 (h.own i u c hi) fun j v d hj e => ?_
  have hj' : C[j]? = some (v, d) ∧ j < n := by
    rw [List.getElem?_take] at hj
    split at hj
    · exact ⟨hj, by assumption⟩
    · cases hj
  exact h.ne hj'.1 hi (by omega) e
theorem sb_retO {x : List δ} (n : Nat) (h : SO B X e σ G C x C') (hz : n ≤ C'.length) (hn : C'.take n = Cp := by rfl) : SB B X (.Return (some e) pos :: rest) σ G C (RO B Cp x) P := fun G1 H1 e1 o D k1 k2 =>
  ⟨_, pss_cons (ps_ret WE.pe) pss_never, h G1 H1 e1 o _ fun q G2 H2 e2 o2 hB => k1 q G2 H2 (by
    have w := o2.pick C'.length n (u := q) (c := cl x) (by simp) hz
    rw [List.take_append_of_le_length hz, hn] at w
    exact w) hB⟩
/-- return x, x a cell of one's own -/
theorem sb_retCell {x : List δ} {u : Addr} {nm : Str} (i n : Nat) (hu : AtVar X σ nm u) (hi : C[i]? = some (u, cl x) := by rfl) (hm : n ≤ i := by decide) (hB : B.H u = none) (hn : C.take n = Cp := by rfl) : SB B X (.Return (some (.Name nm pos')) pos :: rest) σ G C (RO B Cp x) P := fun G1 H1 e1 o D k1 k2 =>
  ⟨_, pss_cons (ps_ret WE.pe) pss_never, hu.we (k1 u G1 H1 (by have w := o.pick i n hi hm; rw [hn] at w; exact w) hB)⟩
theorem sb_if {q : Bool} (hc : ST B X c σ G C q C1) (h1 : q = true → SB B X thn σ G C1 R (fun σ' G' C' => SB B X rest σ' G' C' R P)) (h2 : q = false → SB B X els σ G C1 R (fun σ' G' C' => SB B X rest σ' G' C' R P)) : SB B X (.If c thn els pos :: rest) σ G C R P := fun G1 H1 e1 o D k1 k2 =>
  ⟨_, pss_cons (ps_if WT.pt WS.pss WS.pss) WS.pss, hc G1 H1 e1 o _ fun G2 H2 e2 o2 => by
    have cont : ∀ σ2 G3 H3 C3, Ex G2 G3 → On B C3 G3 H3 → SB B X rest σ2 G3 C3 R P → WS X rest D σ2 H3 := fun σ2 G3 H3 C3 e3 o3 hb => hb G3 H3 (Ex.refl G3) o3 D k1 fun σ4 G4 H4 C4 e4 o4 p4 => k2 σ4 G4 H4 C4 ((e2.trans e3).trans e4) o4 p4
    cases q with
    | true => exact iteT (h1 rfl G2 H2 (e1.trans e2) o2 _ k1 cont)
    | false => exact iteF (h2 rfl G2 H2 (e1.trans e2) o2 _ k1 cont)⟩
theorem sb_when {q : Bool} (hc : ST B X c σ G C q C1) (h1 : q = true → SB B X thn σ G C1 R (fun _ _ _ => False)) (h2 : q = false → SB B X rest σ G C1 R P) : SB B X (.If c thn [] pos :: rest) σ G C R P :=
  sb_if hc (fun hq G1 H1 e1 o D k1 k2 => h1 hq G1 H1 e1 o D k1 fun _ _ _ _ _ _ z => z.elim) fun hq => sb_nil fun G' e => (h2 hq).mono e
theorem sb_never (h : False) : SB B X sts σ G C R P := h.elim
theorem sb_set {x : Str} {v0 : α} (i : Nat) (h : SE B X e σ G C v0 C1) (k : ∀ v G', Ex G G' → rep G' v v0 → SB B X rest (σ.set i (some v)) G' C1 R P) (hN : X.N.Nodup) (hi : X.N[i]? = some x := by rfl) (hx : L2.Loc X.env.scope x := by first | exact Or.inl rfl | exact Or.inr rfl)
    (hs : swapsWithSole [.Name x pos'] e pos.line X.env = pure false := by rfl) (hw : swappedStores [.Name x pos'] e X.env = pure none := by rfl) (h1 : (assignEach [.Name x pos'] X.env).map (·.2) = [assign (.Name x pos') X.env] := by rfl)
    (hf : X.fn x = true ∨ X.env.scope.names.lookup x = some .local := by first | exact .inl rfl | exact .inr rfl) : SB B X (.Assign [.Name x pos'] e pos :: rest) σ G C R P := fun G1 H1 e1 o D k1 k2 =>
  ⟨_, pss_cons (ps_asg WE.pe (pg_name hN hi hx hf) hs hw h1) WS.pss, h G1 H1 e1 o _ fun v G2 H2 e2 o2 r => k v G2 (e1.trans e2) r G2 H2 (Ex.refl G2) o2 D k1 fun σ3 G3 H3 C3 e3 o3 p3 => k2 σ3 G3 H3 C3 (e2.trans e3) o3 p3⟩
/-- x = a new list of one's own, a cell from here on -/
theorem sb_setO {x : Str} {l : List α} (i : Nat) (h : SO B X e σ G C l C1) (k : ∀ u G', Ex G G' → B.H u = none → SB B X rest (σ.set i (some (.ref u))) G' (C1 ++ [(u, cl l)]) R P) (hN : X.N.Nodup) (hi : X.N[i]? = some x := by rfl) (hx : L2.Loc X.env.scope x := by first | exact Or.inl rfl | exact Or.inr rfl)
    (hs : swapsWithSole [.Name x pos'] e pos.line X.env = pure false := by rfl) (hw : swappedStores [.Name x pos'] e X.env = pure none := by rfl) (h1 : (assignEach [.Name x pos'] X.env).map (·.2) = [assign (.Name x pos') X.env] := by rfl)
    (hf : X.fn x = true ∨ X.env.scope.names.lookup x = some .local := by first | exact .inl rfl | exact .inr rfl) : SB B X (.Assign [.Name x pos'] e pos :: rest) σ G C R P := fun G1 H1 e1 o D k1 k2 =>
  ⟨_, pss_cons (ps_asg WE.pe (pg_name hN hi hx hf) hs hw h1) WS.pss, h G1 H1 e1 o _ fun u G2 H2 e2 o2 hB => k u G2 (e1.trans e2) hB G2 H2 (Ex.refl G2) o2 D k1 fun σ3 G3 H3 C3 e3 o3 p3 => k2 σ3 G3 H3 C3 (e2.trans e3) o3 p3⟩
theorem sb_setLc {x : Str} {l : List α} (i : Nat) (h : LC X elt tg iter ifs scope σ G l) (k : ∀ v G', Ex G G' → rep G' v l → SB B X rest (σ.set i (some v)) G' C R P) (hy : X.N[i]? = some x := by rfl) (hyl : X.env.scope.names.lookup x = some .local := by rfl)
    (hsw : swapsWith (.ListComp elt [⟨tg, iter, ifs, 0⟩] scope pos) (some (.Name x pos')) pos2.line X.env = pure true := by first | exact sw_true rfl rfl rfl (by decide +kernel) | rfl) (hs : ∀ x, foldedSetIterable iter X.env x = pure x := by intro _; rfl) :
    SB B X (.Assign [.Name x pos'] (.ListComp elt [⟨tg, iter, ifs, 0⟩] scope pos) pos2 :: rest) σ G C R P := fun G1 H1 e1 o D k1 k2 => by
  obtain ⟨own, ok, hN, hc, m⟩ := h
  obtain ⟨wi, g, tt, te, h1, h2, h3, h4, q⟩ := m G1 H1 e1 o.ex (fun v H2 => WS X rest D (σ.set i (some v)) H2) fun q vs G2 H2 g n1 n2 h hz r => by
    obtain ⟨vs', h1, h2, o3, r3⟩ := (o.take_ g n1 n2 h (c := cl l) ⟨vs, rfl, hz, r⟩).frz (o.gr.dom _ n1)
    exact k (.ref q) _ (e1.trans (g.gg.trans (Ex.new h2))) r3 _ H2 (Ex.refl _) o3 D k1 fun σ3 G3 H3 C3 e3 o3 p3 => k2 σ3 G3 H3 C3 ((g.gg.trans (Ex.new h2)).trans e3) o3 p3
  exact ⟨_, pss_cons (ps_setLc hc hN hy hyl hsw h1 ok h2 h3 h4 hs) WS.pss, q⟩
theorem sb_setLcO {x : Str} {l : List α} (i : Nat) (h : LC X elt tg iter ifs scope σ G l) (k : ∀ u G', Ex G G' → B.H u = none → SB B X rest (σ.set i (some (.ref u))) G' (C ++ [(u, cl l)]) R P) (hy : X.N[i]? = some x := by rfl) (hyl : X.env.scope.names.lookup x = some .local := by rfl)
    (hsw : swapsWith (.ListComp elt [⟨tg, iter, ifs, 0⟩] scope pos) (some (.Name x pos')) pos2.line X.env = pure true := by first | exact sw_true rfl rfl rfl (by decide +kernel) | rfl) (hs : ∀ x, foldedSetIterable iter X.env x = pure x := by intro _; rfl) :
    SB B X (.Assign [.Name x pos'] (.ListComp elt [⟨tg, iter, ifs, 0⟩] scope pos) pos2 :: rest) σ G C R P := fun G1 H1 e1 o D k1 k2 => by
  obtain ⟨own, ok, hN, hc, m⟩ := h
  obtain ⟨wi, g, tt, te, h1, h2, h3, h4, q⟩ := m G1 H1 e1 o.ex (fun v H2 => WS X rest D (σ.set i (some v)) H2) fun q vs G2 H2 g n1 n2 h hz r => by
    have o3 := o.take_ g n1 n2 h (c := cl l) ⟨vs, rfl, hz, r⟩
    exact k q _ (e1.trans g.gg) (o.gr.dom _ n1) _ H2 (Ex.refl _) o3 D k1 fun σ3 G3 H3 C3 e3 o3 p3 => k2 σ3 G3 H3 C3 (g.gg.trans e3) o3 p3
  exact ⟨_, pss_cons (ps_setLc hc hN hy hyl hsw h1 ok h2 h3 h4 hs) WS.pss, q⟩
theorem sb_expr {v0 : α} (h : SE B X e σ G C v0 C1) (k : ∀ G', Ex G G' → SB B X rest σ G' C1 R P) (hs : swapsWith e none pos.line X.env = pure false := by rfl) : SB B X (.Expr e pos :: rest) σ G C R P := fun G1 H1 e1 o D k1 k2 =>
  ⟨_, pss_cons (ps_expr WE.pe hs) WS.pss, h G1 H1 e1 o _ fun v G2 H2 e2 o2 r => k G2 (e1.trans e2) G2 H2 (Ex.refl G2) o2 D k1 fun σ3 G3 H3 C3 e3 o3 p3 => k2 σ3 G3 H3 C3 (e2.trans e3) o3 p3⟩
end
def loopR {α S ρ : Type} (f : S → α → ρ ⊕ S) : List α → S → ρ ⊕ S
  | [], s => .inr s
  | x :: l, s => match f s x with
    | .inl r => .inl r
    | .inr s' => loopR f l s'
def loopOk {α S ρ : Type} (f : S → α → ρ ⊕ S) (okf : S → α → Prop) : List α → S → Prop
  | [], _ => True
  | x :: l, s => okf s x ∧ ∀ s', f s x = .inr s' → loopOk f okf l s'
section
variable {B : Bs} {X : Cx} {α β γ δ A : Type} [Rep α] [Rep β] [Rep γ] [Rep δ] [Args A] {e a b c tg iter elt : Expr} {ifs : List Expr} {es : List Expr} {σ : L2.St} {G G' : Hp} {C C' C1 C2 C3 Cp : Cs} {pos pos' p2 p pos2 : Pos} {scope : Scope} {sts rest thn els body : List Stmt} {R : VK → Prop} {P : L2.St → Hp → Cs → Prop}
/-- how a for's target takes an item -/
structure SG (X : Cx) (tg : Expr) (T : α → L2.St → Hp → L2.St → Prop) : Prop where
  ex : ∃ g, PG X tg g ∧ ∀ (v : V) (y : α) (σ : L2.St) (G H : Hp), Ex G H → rep G v y → ∀ Q : L2.St → Hp → Prop, (∀ σ2, T y σ G σ2 → Q σ2 H) → g v σ H Q
theorem sg_name {x : Str} (j : Nat) (hN : X.N.Nodup) (hi : X.N[j]? = some x := by rfl) (hx : L2.Loc X.env.scope x := by first | exact Or.inl rfl | exact Or.inr rfl) (hf : X.fn x = true ∨ X.env.scope.names.lookup x = some .local := by first | exact .inl rfl | exact .inr rfl) :
    SG (α := α) X (.Name x pos) fun y σ G σ2 => ∃ v, rep G v y ∧ σ2 = σ.set j (some v) :=
  ⟨gName j, pg_name hN hi hx hf, fun v y σ G H e r Q k => k _ ⟨v, r, rfl⟩⟩
theorem sg_pair {x y : Str} {kk : Nat} {pos1 pos2 : Pos} (j k : Nat) (hN : X.N.Nodup) (hc : X.calm = true := by rfl) (hi : X.N[j]? = some x := by rfl) (hk : X.N[k]? = some y := by rfl) (hx : L2.Loc X.env.scope x := by first | exact Or.inl rfl | exact Or.inr rfl) (hy : L2.Loc X.env.scope y := by first | exact Or.inl rfl | exact Or.inr rfl)
    (hf : X.fn x = true ∨ X.env.scope.names.lookup x = some .local := by first | exact .inl rfl | exact .inr rfl) (hf2 : X.fn y = true ∨ X.env.scope.names.lookup y = some .local := by first | exact .inl rfl | exact .inr rfl)
    (hn : (assignEach [.Name x pos1, .Name y pos2] X.env).length = 2 := by rfl) (hst : (assignEach [.Name x pos1, .Name y pos2] X.env).findIdx? (·.1) = none := by rfl) :
    SG (α := α × β) X (.Tuple [.Name x pos1, .Name y pos2] kk pos) fun z σ G σ2 => ∃ v w, rep G v z.1 ∧ rep G w z.2 ∧ σ2 = (σ.set j (some v)).set k (some w) :=
  ⟨gTup X.K 2 (gCons (gName j) (gCons (gName k) gNil)), pg_tup hc (pgs_cons (pg_name hN hi hx hf) (pgs_cons (pg_name hN hk hy hf2) pgs_nil)) hn hst, fun v z σ G H e r Q q => by
    obtain ⟨p, u, w, rfl, hp, r1, r2⟩ := r
    exact ⟨p, _, rfl, .inl (.inl (e _ _ hp)), rfl, u, _, rfl, w, _, rfl, rfl, q _ ⟨u, w, r1, r2, rfl⟩⟩⟩
/-- for x in ..: T tells the slots and cells of a state between the turns; f what a turn makes of it (or hands back) -/
theorem sb_for {S ρ : Type} {l : List α} {Tg : α → L2.St → Hp → L2.St → Prop} {Rg : ρ → VK → Prop} (T : S → L2.St → Hp → Cs → Prop) (f : S → α → ρ ⊕ S) (okf : S → α → Prop) (s0 : S) (src : DI X tg iter σ G l) (tgt : SG X tg Tg) (h0 : ∀ G', Ex G G' → T s0 σ G' C)
    (hT : ∀ s σ' G' G'' C', Ex G' G'' → T s σ' G' C' → T s σ' G'' C') (hok : loopOk f okf l s0)
    (hs : ∀ s y σ' σ2 G' C', y ∈ l → Ex G G' → T s σ' G' C' → Tg y σ' G' σ2 → okf s y → SB B X body σ2 G' C' (fun Q => ∀ r, f s y = .inl r → Rg r Q) (fun σ'' G'' C'' => ∃ s', f s y = .inr s' ∧ T s' σ'' G'' C''))
    (hret : ∀ r Q, loopR f l s0 = .inl r → R Q → Rg r Q) (hd : ∀ s σ' G' C', loopR f l s0 = .inr s → Ex G G' → T s σ' G' C' → SB B X rest σ' G' C' R P) (hp : PassesOwn (model X.prog X.w) X.A X.env X.xe := by exact PassesOwn.never) (hc : X.calm = true := by rfl)
    (hfs : ∀ x, foldedSetIterable iter X.env x = pure x := by intro _; rfl) : SB B X (.For tg iter body [] pos :: rest) σ G C R P := fun G1 H1 e1 o1 D k1 k2 => by
  obtain ⟨g, hg, tg1⟩ := tgt.ex
  have main := src G1 H1 e1 o1.ex (fun J H2 => ∃ W : Nat → Nat → L2.St → Hp → Prop, (∃ m, W 0 m σ H2) ∧ ∀ i' m σ H, W i' m σ H →
    (J.stop i' H ∧ (WS X rest D) σ H) ∨ (J.go i' H ∧ ∃ N : L2.St → Hp → Prop, (∀ σ' H', N σ' H' → ∃ m', m' < m ∧ W (i' + 1) m' σ' H') ∧ ∀ x H', J.yld i' H x H' → g x σ H' fun σ2 H2 => WS X body { ({ D with nx := WS X rest D } : Ends) with nx := N, ct := N, bk := WS X rest D } σ2 H2)) ?_
  · obtain ⟨wi, hw, q⟩ := main
    exact ⟨_, pss_cons (ps_for hp hc hw hg WS.pss hfs) WS.pss, q⟩
  · intro J Gw Y G2 H2 g2 wk hGw hY hz
    have o2 := o1.grow g2
    refine for_it wk (D := { D with nx := WS X rest D }) (tb := WS X body) (g := g) (fun n σ' H => ∃ G3 C3 s, Ex G2 G3 ∧ On B C3 G3 H ∧ T s σ' G3 C3 ∧ loopR f l s0 = loopR f (l.drop n) s ∧ loopOk f okf (l.drop n) s)
      ⟨G2, C, s0, Ex.refl _, o2, h0 G2 (e1.trans g2.gg), rfl, hok⟩ (fun n σ' H _ ⟨G3, C3, s, e3, o3, _⟩ => hGw H (e3.trans o3.ex)) ?_ ?_
    · rintro n v σ' H H' hn ⟨G3, C3, s, e3, o3, t3, q1, q2⟩ y
      obtain ⟨z, G4, hzl, g4, rz⟩ := hY n G3 H v H' hn e3 o3.ex y
      have hd1 : l.drop n = z :: l.drop (n + 1) := by
        obtain ⟨hl, he⟩ := List.getElem?_eq_some_iff.mp hzl
        rw [List.drop_eq_getElem_cons hl, he]
      rw [hd1] at q1 q2
      obtain ⟨q3, q4⟩ := q2
      have o4 := o3.grow g4
      refine tg1 v z σ' G4 H' g4.gh rz _ fun σ2 ht => ?_
      refine hs s z σ' σ2 G4 C3 (List.mem_of_getElem? hzl) (e1.trans (g2.gg.trans (e3.trans g4.gg))) (hT s σ' G3 G4 C3 g4.gg t3) ht q3 G4 H' (Ex.refl G4) o4 _ (fun r hr => hret r _ ?_ k1) ?_
      · rw [q1]
        unfold loopR
        rw [hr]
      · rintro σ5 G5 H5 C5 e5 o5 ⟨s', hs', t5⟩
        refine ⟨G5, C5, s', e3.trans (g4.gg.trans e5), o5, t5, ?_, q4 s' hs'⟩
        rw [q1]
        conv => lhs; unfold loopR
        rw [hs']
    · rintro σ' H ⟨G3, C3, s, e3, o3, t3, q1, q2⟩
      rw [List.drop_length] at q1
      exact hd s σ' G3 C3 q1 (e1.trans (g2.gg.trans e3)) t3 G3 H (Ex.refl G3) o3 D k1 fun σ5 G5 H5 C5 e5 o5 p5 => k2 σ5 G5 H5 C5 (g2.gg.trans (e3.trans e5)) o5 p5

theorem sb_append {x : Str} {l : List α} {y : α} {u : Addr} {cpos apos : Pos} (i : Nat) (hu : AtVar X σ x u) (he : SE B X e σ G C y C1) (h0 : C[i]? = some (u, cl l)) (hi : C1[i]? = some (u, cl l)) (hz : l.length < sizeLine) (k : ∀ G', Ex G G' → SB B X rest σ G' (C1.set i (u, cl (l ++ [y]))) R P)
    (hbase : attributeBase (.Name x pos') "append" X.env (eval (.Name x pos') X.env) = eval (.Name x pos') X.env := by rfl)
    (hfew : ((backTo cpos (starEach (e :: []) X.env)).all (fun x => !x.1) && (backToKw cpos (keywordEach [] X.env)).all (fun x => x.1.isSome) && decide ((e :: []).length + ([] : List Keyword).length + (if ([] : List Keyword).isEmpty then 0 else 1) < 30)) = true := by rfl)
    (hline : (apos.endLine == cpos.line) = true := by rfl) (hs : starEach [e] X.env = (false, eval e X.env) :: starEach [] X.env := by rfl) (hplain : (backTo cpos (starEach [] X.env)).any (·.1) = false := by rfl) (hsw : swapsWith (.Call (.Attribute (.Name x pos') "append" apos) [e] [] cpos) none pos.line X.env = pure false := by rfl) :
    SB B X (.Expr (.Call (.Attribute (.Name x pos') "append" apos) [e] [] cpos) pos :: rest) σ G C R P := fun G1 H1 e1 o1 D k1 k2 =>
  ⟨_, pss_cons (ps_expr (pe_bm PySem.F.plainAttrs_list PySem.F.slot_list_append PySem.F.type_list_append (name := "append") mt_append WE.pe (pa_cons WE.pe pa_nil hs) hbase hfew hline hs hplain) hsw) WS.pss, hu.we (by
    obtain ⟨ob, h1, h2, vs, rfl, hz0, r⟩ := o1.at_ i u _ h0
    refine ⟨.inl ⟨rfl, vs, .inl (.inl h1)⟩, he G1 H1 e1 o1 _ fun w G2 H2 e2 o2 rw => ?_⟩
    obtain ⟨ob2, h3, h4, vs2, rfl, hz2, r2⟩ := o2.at_ i u _ hi
    refine ⟨u, vs2, w, rfl, rfl, h3, by rw [r2.len]; exact hz, ?_⟩
    refine k G2 (e1.trans e2) G2 _ (Ex.refl _) (o2.put hi ⟨_, rfl, by rw [List.length_append, List.length_singleton, r2.len]; omega, r2.app (.cons rw .nil)⟩) D k1 fun σ3 G3 H3 C3 e3 o3 p3 => k2 σ3 G3 H3 C3 (e2.trans e3) o3 p3)⟩
/-- found.insert(i, y) -/
theorem sb_insert {x : Str} {l : List α} {j : Int} {y : α} {u : Addr} {cpos apos : Pos} (i : Nat) (hu : AtVar X σ x u) (ha : SE B X a σ G C j C1) (he : SE B X e σ G C1 y C2) (h0 : C[i]? = some (u, cl l)) (hi : C2[i]? = some (u, cl l)) (hz : l.length < sizeLine) (hj : 0 ≤ j ∧ j < 2 ^ 63) (k : ∀ G', Ex G G' → SB B X rest σ G' (C2.set i (u, cl (l.take j.toNat ++ [y] ++ l.drop j.toNat))) R P)
    (hbase : attributeBase (.Name x pos') "insert" X.env (eval (.Name x pos') X.env) = eval (.Name x pos') X.env := by rfl)
    (hfew : ((backTo cpos (starEach (a :: [e]) X.env)).all (fun x => !x.1) && (backToKw cpos (keywordEach [] X.env)).all (fun x => x.1.isSome) && decide ((a :: [e]).length + ([] : List Keyword).length + (if ([] : List Keyword).isEmpty then 0 else 1) < 30)) = true := by rfl)
    (hline : (apos.endLine == cpos.line) = true := by rfl) (hs0 : starEach [a, e] X.env = (false, eval a X.env) :: starEach [e] X.env := by rfl) (hs : starEach [e] X.env = (false, eval e X.env) :: starEach [] X.env := by rfl) (hplain : (backTo cpos (starEach [e] X.env)).any (·.1) = false := by rfl) (hsw : swapsWith (.Call (.Attribute (.Name x pos') "insert" apos) [a, e] [] cpos) none pos.line X.env = pure false := by rfl) :
    SB B X (.Expr (.Call (.Attribute (.Name x pos') "insert" apos) [a, e] [] cpos) pos :: rest) σ G C R P := fun G1 H1 e1 o1 D k1 k2 =>
  ⟨_, pss_cons (ps_expr (pe_bm PySem.F.plainAttrs_list PySem.F.slot_list_insert PySem.F.type_list_insert (name := "insert") mt_insert WE.pe (pa_cons WE.pe (pa_cons WE.pe pa_nil hs) hs0) hbase hfew hline hs0 hplain) hsw) WS.pss, hu.we (by
    obtain ⟨ob, h1, h2, vs, rfl, hz0, r⟩ := o1.at_ i u _ h0
    refine ⟨.inl ⟨rfl, vs, .inl (.inl h1)⟩, ha G1 H1 e1 o1 _ fun w1 G2 H2 e2 o2 rw1 => he G2 H2 (e1.trans e2) o2 _ fun w G3 H3 e3 o3 rw => ?_⟩
    obtain ⟨ob2, h3, h4, vs2, rfl, hz2, r2⟩ := o3.at_ i u _ hi
    refine ⟨u, vs2, j, w, rfl, by rw [rw1] <;> rfl, h3, by rw [r2.len]; exact hz, hj.1, hj.2, ?_⟩
    refine k G3 (e1.trans (e2.trans e3)) G3 _ (Ex.refl _) (o3.put hi ⟨_, rfl, ?_, ((r2.take _).app (.cons rw .nil)).app (r2.drop _)⟩) D k1 fun σ4 G4 H4 C4 e4 o4 p4 => k2 σ4 G4 H4 C4 ((e2.trans e3).trans e4) o4 p4
    rw [List.length_append, List.length_append, List.length_singleton, List.length_take, List.length_drop]
    have := r2.len
    omega)⟩
/-- x[i] = e -/
theorem sb_setIx {x : Str} {l : List α} {m : Int} {j : Nat} {y : α} {u : Addr} {tpos : Pos} (i : Nat) (hu : AtVar X σ x u) (he : SE B X e σ G C y C1) (ha : DE X a σ G m) (hi : C1[i]? = some (u, cl l)) (hj : ixN l.length m = some j) (k : ∀ G', Ex G G' → SB B X rest σ G' (C1.set i (u, cl (l.set j y))) R P)
    (hae : ∀ v, assign (.Subscript (.Name x pos') a tpos) X.env v = (do
      let ov ← holding [v] (eval (.Name x pos') X.env)
      let iv ← holding [v, ov] (eval a X.env)
      standAt tpos
      holding [v, ov, iv] (setItem ov iv v)
      release [v, ov, iv] []) := by intro _; rfl)
    (hs : swapsWithSole [.Subscript (.Name x pos') a tpos] e pos.line X.env = pure false := by rfl) (hw : swappedStores [.Subscript (.Name x pos') a tpos] e X.env = pure none := by rfl) (h1 : (assignEach [.Subscript (.Name x pos') a tpos] X.env).map (·.2) = [assign (.Subscript (.Name x pos') a tpos) X.env] := by rfl) :
    SB B X (.Assign [.Subscript (.Name x pos') a tpos] e pos :: rest) σ G C R P := fun G1 H1 e1 o1 D k1 k2 =>
  ⟨_, pss_cons (ps_asg WE.pe (pg_sub WE.pe WE.pe set_list hae) hs hw h1) WS.pss, he G1 H1 e1 o1 _ fun w G2 H2 e2 o2 rw => hu.we (ha G2 H2 (e1.trans e2) o2.ex _ fun v G3 H3 g3 r3 => by
    have o3 := o2.grow g3
    obtain ⟨ob, h3, h4, vs, rfl, hz, r⟩ := o3.at_ i u _ hi
    refine ⟨u, vs, m, j, rfl, r3, h3, by rw [r.len]; exact hj, ?_⟩
    refine k G3 (e1.trans (e2.trans g3.gg)) G3 _ (Ex.refl _) (o3.put hi ⟨_, rfl, by rw [List.length_set]; exact hz, Reps.set (Rep.mono g3.gg rw) j r⟩) D k1 fun σ4 G4 H4 C4 e4 o4 p4 => k2 σ4 G4 H4 C4 ((e2.trans g3.gg).trans e4) o4 p4)⟩
/-- x, y = e1, e2: y a cell or not is not asked here: both data -/
theorem sb_par {x y : Str} {v0 : α} {w0 : β} {px py pt pt2 : Pos} {kt kt2 : Nat} (i j : Nat) (ha : SE B X a σ G C v0 C1) (hb : SE B X b σ G C1 w0 C2) (k : ∀ v w G', Ex G G' → rep G' v v0 → rep G' w w0 → SB B X rest ((σ.set i (some v)).set j (some w)) G' C2 R P) (hN : X.N.Nodup) (hi : X.N[i]? = some x := by rfl) (hj : X.N[j]? = some y := by rfl) (hij : i ≠ j := by decide)
    (hx : X.env.scope.names.lookup x = some .local := by rfl) (hy : X.env.scope.names.lookup y = some .local := by rfl) (hc : X.calm = true := by rfl) (hw : swappedStores [.Tuple [.Name x px, .Name y py] kt pt] (.Tuple [a, b] kt2 pt2) X.env = pure (some [x, y]) := by rfl) (hs : swapsWithSole [.Tuple [.Name x px, .Name y py] kt pt] (.Tuple [a, b] kt2 pt2) pos.line X.env = pure false := by rfl)
    (h : starEach [a, b] X.env = (false, eval a X.env) :: starEach [b] X.env := by rfl) (h' : starEach [b] X.env = (false, eval b X.env) :: starEach [] X.env := by rfl) : SB B X (.Assign [.Tuple [.Name x px, .Name y py] kt pt] (.Tuple [a, b] kt2 pt2) pos :: rest) σ G C R P := fun G1 H1 e1 o1 D k1 k2 =>
  ⟨_, pss_cons (ps_par hc hN hi hj hij hx hy (pa_cons WE.pe (pa_cons WE.pe pa_nil h') h) hw hs) WS.pss, ha G1 H1 e1 o1 _ fun v G2 H2 e2 o2 r => hb G2 H2 (e1.trans e2) o2 _ fun w G3 H3 e3 o3 r3 =>
    ⟨v, w, rfl, k v w G3 (e1.trans (e2.trans e3)) (Rep.mono e3 r) r3 G3 H3 (Ex.refl _) o3 D k1 fun σ4 G4 H4 C4 e4 o4 p4 => k2 σ4 G4 H4 C4 ((e2.trans e3).trans e4) o4 p4⟩⟩
/-- x, y = e1, [..]: the second a new cell -/
theorem sb_parO {x y : Str} {v0 : α} {w0 : List β} {px py pt pt2 : Pos} {kt kt2 : Nat} (i j : Nat) (ha : SE B X a σ G C v0 C1) (hb : SO B X b σ G C1 w0 C2) (k : ∀ v u G', Ex G G' → rep G' v v0 → B.H u = none → SB B X rest ((σ.set i (some v)).set j (some (.ref u))) G' (C2 ++ [(u, cl w0)]) R P) (hN : X.N.Nodup) (hi : X.N[i]? = some x := by rfl) (hj : X.N[j]? = some y := by rfl) (hij : i ≠ j := by decide)
    (hx : X.env.scope.names.lookup x = some .local := by rfl) (hy : X.env.scope.names.lookup y = some .local := by rfl) (hc : X.calm = true := by rfl) (hw : swappedStores [.Tuple [.Name x px, .Name y py] kt pt] (.Tuple [a, b] kt2 pt2) X.env = pure (some [x, y]) := by rfl) (hs : swapsWithSole [.Tuple [.Name x px, .Name y py] kt pt] (.Tuple [a, b] kt2 pt2) pos.line X.env = pure false := by rfl)
    (h : starEach [a, b] X.env = (false, eval a X.env) :: starEach [b] X.env := by rfl) (h' : starEach [b] X.env = (false, eval b X.env) :: starEach [] X.env := by rfl) : SB B X (.Assign [.Tuple [.Name x px, .Name y py] kt pt] (.Tuple [a, b] kt2 pt2) pos :: rest) σ G C R P := fun G1 H1 e1 o1 D k1 k2 =>
  ⟨_, pss_cons (ps_par hc hN hi hj hij hx hy (pa_cons WE.pe (pa_cons WE.pe pa_nil h') h) hw hs) WS.pss, ha G1 H1 e1 o1 _ fun v G2 H2 e2 o2 r => hb G2 H2 (e1.trans e2) o2 _ fun u G3 H3 e3 o3 hB =>
    ⟨v, _, rfl, k v u G3 (e1.trans (e2.trans e3)) (Rep.mono e3 r) hB G3 H3 (Ex.refl _) o3 D k1 fun σ4 G4 H4 C4 e4 o4 p4 => k2 σ4 G4 H4 C4 ((e2.trans e3).trans e4) o4 p4⟩⟩
end

class Scal (α : Type) [Rep α] where
  any : ∀ {G G' : Hp} {v : V} {a : α}, rep G v a → rep G' v a
instance : Scal Int := ⟨fun h => h⟩
instance : Scal Nat := ⟨fun h => h⟩
instance : Scal Bool := ⟨fun h => h⟩
instance : Scal Unit := ⟨fun h => h⟩
instance : Scal Str := ⟨fun h => h⟩
section
variable {B : Bs} {X : Cx} {α β γ : Type} [Rep α] [Rep β] [Rep γ] {e : Expr} {σ : L2.St} {G : Hp} {C : Cs} {u : Addr} {l : List β}
theorem On.know {G1 H1 : Hp} {i : Nat} (o : On B C G1 H1) (hi : C[i]? = some (u, cl l)) : ∃ G2, Ex G1 G2 ∧ Ex G2 H1 ∧ rep G2 (.ref u) l := by
  obtain ⟨ob, h1, h2, vs, rfl, hz, r⟩ := o.at_ i u _ hi
  refine ⟨upd G1 u (.lst vs), Ex.new h2, fun x q hq => ?_, u, vs, rfl, upd_same, hz, Reps.mono (Ex.new h2) r⟩
  by_cases z : x = u
  · subst z; rw [upd_same] at hq; cases hq; exact h1
  · rw [upd_ne z] at hq; exact o.ex x q hq
theorem SE.cell [Scal α] {a : α} (i : Nat) (hi : C[i]? = some (u, cl l)) (h : ∀ G', Ex G G' → rep G' (.ref u) l → DE X e σ G' a) : SE B X e σ G C a C := fun G1 H1 e1 o Q k => by
  obtain ⟨G2, q1, q2, r⟩ := o.know hi
  refine h G2 (e1.trans q1) r G2 H1 (Ex.refl _) q2 Q fun v G3 H3 g3 r3 => k v G1 H3 (Ex.refl _) (o.grow (Gr.of_ex o.ex g3.hh)) (Scal.any r3)
theorem ST.cell {a : Bool} (i : Nat) (hi : C[i]? = some (u, cl l)) (h : ∀ G', Ex G G' → rep G' (.ref u) l → DT X e σ G' a) : ST B X e σ G C a C := fun G1 H1 e1 o Q k => by
  obtain ⟨G2, q1, q2, r⟩ := o.know hi
  exact h G2 (e1.trans q1) r G2 H1 (Ex.refl _) q2 Q fun G3 H3 g3 => k G1 H3 (Ex.refl _) (o.grow (Gr.of_ex o.ex g3.hh))
theorem reps_any [Scal α] {G G' : Hp} : ∀ {vs : List V} {l : List α}, Reps G vs l → Reps G' vs l
  | _, _, .nil => .nil
  | _, _, .cons r t => .cons (Scal.any r) (reps_any t)
theorem SO.cell [Scal α] {a : List α} (i : Nat) (hi : C[i]? = some (u, cl l)) (h : ∀ G', Ex G G' → rep G' (.ref u) l → DO X e σ G' a) : SO B X e σ G C a C := fun G1 H1 e1 o Q k => by
  obtain ⟨G2, q1, q2, r⟩ := o.know hi
  refine h G2 (e1.trans q1) r G2 H1 (Ex.refl _) q2 Q fun p vs G3 H3 g3 n1 n2 hp hz r3 => ?_
  have g : Gr [] G1 H1 G1 H3 := Gr.of_ex o.ex g3.hh
  exact k p G1 H3 (Ex.refl _) (o.take_ g n1 (Ex.fresh (q1.trans g3.gg) n2) hp ⟨vs, rfl, hz, reps_any r3⟩) (o.gr.dom _ n1)
end

section
variable {P : Program} {w : World} {K : PySem.W.Frag} {mg : Str → Option Value} {base : Heap} {x qual : Str} {params : Arguments} {body : List Stmt} {scope : Scope} {f : Addr} {N ps : List Str} {k : Nat}
variable {A β δ : Type} [Args A] [Rep β] [Rep δ]
abbrev Body (P : Program) (w : World) (K : PySem.W.Frag) (mg : Str → Option Value) (base : Heap) (N : List Str) (qual : Str) (scope : Scope) (f : Addr) (X : Cx) : Prop := ∃ cdv A outer s H E, X = (cxOf CX0 P w K mg base N qual scope f cdv A outer s H E).nox
theorem has_D {pre : A → Prop} {g : A → δ} (F : ∃ fd, FunD K x qual params body scope [] [] f fd) (hm : mg x = some (.ref f)) (S : FnScope N ps scope) (hb : BindOk x qual params body scope ps) (len : ∀ a G vs, Args.rel (A := A) a G vs → vs.length = ps.length)
    (h : ∀ X, Body P w K mg base N qual scope f X → Rm k X.A → ∀ B vs a G, B.M = [] → Args.rel a G vs → pre a → SB B X body (start N vs) G [] (RD B [] (g a)) (fun _ _ _ => False)) : Has P w K mg base x f (k + 1) ps (SpN kD pre g) :=
  has_of F hm S hb (fun vs H Q E ⟨G, a, eG, r, _⟩ => len a G vs r) fun X hX hr H vs Q E ⟨G, a, eG, r, hp, q⟩ => by
    refine h X hX hr ⟨[], G, H⟩ vs a G rfl r hp G H (Ex.refl _) ⟨Gr.refl eG, fun i u c hi => by simp at hi, fun i u c hi => by simp at hi, List.nodup_nil⟩ _ (fun w G' H' o r => q w G' H' o.gr r) fun _ _ _ _ _ _ z => z.elim
theorem has_N {pre : A → Prop} (F : ∃ fd, FunD K x qual params body scope [] [] f fd) (hm : mg x = some (.ref f)) (S : FnScope N ps scope) (hb : BindOk x qual params body scope ps) (len : ∀ a G vs, Args.rel (A := A) a G vs → vs.length = ps.length)
    (h : ∀ X, Body P w K mg base N qual scope f X → Rm k X.A → ∀ B vs a G, B.M = [] → Args.rel a G vs → pre a → SB B X body (start N vs) G [] (RD B [] ()) (fun _ _ _ => True)) : Has P w K mg base x f (k + 1) ps (SpN kD pre fun _ => ()) :=
  has_of F hm S hb (fun vs H Q E ⟨G, a, eG, r, _⟩ => len a G vs r) fun X hX hr H vs Q E ⟨G, a, eG, r, hp, q⟩ => by
    refine h X hX hr ⟨[], G, H⟩ vs a G rfl r hp G H (Ex.refl _) ⟨Gr.refl eG, fun i u c hi => by simp at hi, fun i u c hi => by simp at hi, List.nodup_nil⟩ _ (fun w G' H' o r => q w G' H' o.gr r) fun σ2 G2 H2 C2 _ o _ => q .non G2 H2 o.gr rfl
theorem has_O {pre : A → Prop} {g : A → List δ} (F : ∃ fd, FunD K x qual params body scope [] [] f fd) (hm : mg x = some (.ref f)) (S : FnScope N ps scope) (hb : BindOk x qual params body scope ps) (len : ∀ a G vs, Args.rel (A := A) a G vs → vs.length = ps.length)
    (h : ∀ X, Body P w K mg base N qual scope f X → Rm k X.A → ∀ B vs a G, B.M = [] → Args.rel a G vs → pre a → SB B X body (start N vs) G [] (RO B [] (g a)) (fun _ _ _ => False)) : Has P w K mg base x f (k + 1) ps (SpN kO pre g) :=
  has_of F hm S hb (fun vs H Q E ⟨G, a, eG, r, _⟩ => len a G vs r) fun X hX hr H vs Q E ⟨G, a, eG, r, hp, q⟩ => by
    refine h X hX hr ⟨[], G, H⟩ vs a G rfl r hp G H (Ex.refl _) ⟨Gr.refl eG, fun i u c hi => by simp at hi, fun i u c hi => by simp at hi, List.nodup_nil⟩ _ (fun p G' H' o hB => q _ G' H' o.gr ?_) fun _ _ _ _ _ _ z => z.elim
    obtain ⟨ob, h1, h2, h3⟩ := o.at_ 0 p _ rfl
    exact ⟨p, rfl, hB, h2, ob, h1, h3⟩
theorem on_start {G H : Hp} {u : Addr} {p : List β} (eG : Ex G H) (hu : G u = none) (h : ∃ o, H u = some o ∧ (cl p).ok G o) : On ⟨[u], G, H⟩ [(u, cl p)] G H := by
  obtain ⟨o, h1, h2⟩ := h
  refine ⟨Gr.refl eG, fun i v c hi => ?_, fun i v c hi => ?_, by simp⟩
  · have e : i = 0 := by
      have := (List.getElem?_eq_some_iff.mp hi).1
      simp at this
      exact this
    subst e
    cases hi
    exact ⟨o, h1, hu, h2⟩
  · have e : i = 0 := by
      have := (List.getElem?_eq_some_iff.mp hi).1
      simp at this
      exact this
    subst e
    cases hi
    exact .inl (List.mem_singleton.mpr rfl)
theorem has_UD {pre : List β → A → Prop} {g : List β → A → δ × List β} (F : ∃ fd, FunD K x qual params body scope [] [] f fd) (hm : mg x = some (.ref f)) (S : FnScope N ps scope) (hb : BindOk x qual params body scope ps) (len : ∀ a G vs, Args.rel (A := A) a G vs → vs.length + 1 = ps.length)
    (h : ∀ X, Body P w K mg base N qual scope f X → Rm k X.A → ∀ B u p vs a G, B.M = [u] → Args.rel a G vs → pre p a → SB B X body (start N (.ref u :: vs)) G [(u, cl p)] (RD B [(u, cl (g p a).2)] (g p a).1) (fun _ _ _ => False)) : Has P w K mg base x f (k + 1) ps (SpU kD pre g) :=
  has_of F hm S hb (fun vs H Q E ⟨G, u, p, a, r, ev, eG, hu, ho, hr, _⟩ => by rw [ev]; exact len a G r hr) fun X hX hr H vs Q E ⟨G, u, p, a, r, ev, eG, hu, ho, hrel, hp, q⟩ => by
    subst ev
    refine h X hX hr ⟨[u], G, H⟩ u p r a G rfl hrel hp G H (Ex.refl _) (on_start eG hu ho) _ (fun w G' H' o r => ?_) fun _ _ _ _ _ _ z => z.elim
    obtain ⟨ob, h1, h2, h3⟩ := o.at_ 0 u _ rfl
    exact q w G' H' o.gr ⟨ob, h1, h3⟩ r
theorem has_UN {pre : List β → A → Prop} {g : List β → A → List β} (F : ∃ fd, FunD K x qual params body scope [] [] f fd) (hm : mg x = some (.ref f)) (S : FnScope N ps scope) (hb : BindOk x qual params body scope ps) (len : ∀ a G vs, Args.rel (A := A) a G vs → vs.length + 1 = ps.length)
    (h : ∀ X, Body P w K mg base N qual scope f X → Rm k X.A → ∀ B u p vs a G, B.M = [u] → Args.rel a G vs → pre p a → SB B X body (start N (.ref u :: vs)) G [(u, cl p)] (RD B [(u, cl (g p a))] ()) (fun _ _ C => C.take 1 = [(u, cl (g p a))])) : Has P w K mg base x f (k + 1) ps (SpU kD pre fun p a => ((), g p a)) :=
  has_of F hm S hb (fun vs H Q E ⟨G, u, p, a, r, ev, eG, hu, ho, hr, _⟩ => by rw [ev]; exact len a G r hr) fun X hX hr H vs Q E ⟨G, u, p, a, r, ev, eG, hu, ho, hrel, hp, q⟩ => by
    subst ev
    refine h X hX hr ⟨[u], G, H⟩ u p r a G rfl hrel hp G H (Ex.refl _) (on_start eG hu ho) _ (fun w G' H' o r => ?_) fun σ2 G2 H2 C2 _ o hC => ?_
    · obtain ⟨ob, h1, h2, h3⟩ := o.at_ 0 u _ rfl
      exact q w G' H' o.gr ⟨ob, h1, h3⟩ r
    · have o' := o.first 1
      rw [hC] at o'
      obtain ⟨ob, h1, h2, h3⟩ := o'.at_ 0 u _ rfl
      exact q .non G2 H2 o'.gr ⟨ob, h1, h3⟩ rfl
theorem has_UO {pre : List β → A → Prop} {g : List β → A → List δ × List β} (F : ∃ fd, FunD K x qual params body scope [] [] f fd) (hm : mg x = some (.ref f)) (S : FnScope N ps scope) (hb : BindOk x qual params body scope ps) (len : ∀ a G vs, Args.rel (A := A) a G vs → vs.length + 1 = ps.length)
    (h : ∀ X, Body P w K mg base N qual scope f X → Rm k X.A → ∀ B u p vs a G, B.M = [u] → Args.rel a G vs → pre p a → SB B X body (start N (.ref u :: vs)) G [(u, cl p)] (RO B [(u, cl (g p a).2)] (g p a).1) (fun _ _ _ => False)) : Has P w K mg base x f (k + 1) ps (SpU kO pre g) :=
  has_of F hm S hb (fun vs H Q E ⟨G, u, p, a, r, ev, eG, hu, ho, hr, _⟩ => by rw [ev]; exact len a G r hr) fun X hX hr H vs Q E ⟨G, u, p, a, r, ev, eG, hu, ho, hrel, hp, q⟩ => by
    subst ev
    refine h X hX hr ⟨[u], G, H⟩ u p r a G rfl hrel hp G H (Ex.refl _) (on_start eG hu ho) _ (fun s G' H' o hB => ?_) fun _ _ _ _ _ _ z => z.elim
    obtain ⟨ob, h1, h2, h3⟩ := o.at_ 0 u _ rfl
    obtain ⟨ob', h4, h5, h6⟩ := o.at_ 1 s _ rfl
    exact q _ G' H' o.gr ⟨ob, h1, h3⟩ ⟨s, rfl, hB, h5, ob', h4, h6⟩
end
end Dn

namespace Dn
open Dn.Rep (rep)
open PySem L2

section
variable {X : Cx}
/-- a new dict, locked for good -/
theorem pe_frz {e : Expr} {t : TE} (h : PE X e t) : PE X e (fun σ H Q => t σ H fun v H' => ∃ d kvs, v = .ref d ∧ H' d = some (.dK kvs) ∧ ∀ od, Q v (upd H' d (.frz od (.dK kvs)))) :=
  ⟨fun pins s σ H Q I q => wpAny_mono (h.run pins s σ H _ I q) (fun w s' z => by
    obtain ⟨v, H', I', rv, d, kvs, ev, hd, qq⟩ := z
    obtain ⟨od, I2⟩ := I'.lock hd trivial
    exact ⟨v, _, I2, rv, qq od⟩) fun _ _ e => e⟩
end
section
variable {B : Bs} {X : Cx} {α β γ δ A : Type} [Rep α] [Rep β] [Rep γ] [Rep δ] [Args A] {e a b c tg iter elt : Expr} {ifs : List Expr} {es : List Expr} {σ : L2.St} {G G' : Hp} {C C' C1 C2 C3 Cp : Cs} {pos pos' p2 p pos2 : Pos} {scope : Scope} {sts rest thn els body : List Stmt}
/-- the item at a place, where there is one -/
def getI [Inhabited α] (l : List α) (i : Int) : α := (atI l i).getD default
theorem getI_some [Inhabited α] {l : List α} {i : Int} (h : (atI l i).isSome = true) : atI l i = some (getI l i) := by
  unfold getI
  cases q : atI l i with
  | none => rw [q] at h; cases h
  | some x => rfl
theorem de_ixI [Inhabited α] {l : List α} {i : Int} (ha : DE X a σ G l) (hb : DE X b σ G i) (h : (atI l i).isSome = true) (hs : PlainIx b := by exact fun _ _ => rfl) : DE X (.Subscript a b pos) σ G (getI l i) := de_ixL i ha hb (getI_some h) hs
/-- the sign at a place -/
def signAt (z : Str) (i : Int) : Str := ⟨#[(atI z.cps.toList i).getD 0]⟩
theorem de_signI {z : Str} {i : Int} (ha : DE X a σ G z) (hb : DE X b σ G i) (h : (atI z.cps.toList i).isSome = true) (hs : PlainIx b := by exact fun _ _ => rfl) : DE X (.Subscript a b pos) σ G (signAt z i) := by
  intro G1 H1 e1 e2 Q k
  have hh : atI z.cps.toList i = some ((atI z.cps.toList i).getD 0) := by
    cases q : atI z.cps.toList i with
    | none => rw [q] at h; cases h
    | some x => rfl
  exact ⟨_, pe_ix ix_str WE.pe WE.pe hs, de_two (x := z) (y := i) (z := signAt z i) ha hb (fun G H u v e (r1 : u = .str z ∧ StrW z) (r2 : v = .int i) Q k => by
    refine ⟨z, i, _, r1.1, r2, r1.2.1, hh, k _ G H (Gr.refl e) ⟨rfl, by show 1 ≤ sizeLine; decide, ?_⟩⟩
    have h2 := r1.2.2
    unfold signAt
    generalize (atI z.cps.toList i).getD 0 = ch at hh
    have hm : ch ∈ z.cps := by
      unfold atI at hh
      cases q : ixN z.cps.toList.length i with
      | none => rw [q] at hh; cases hh
      | some j =>
        rw [q] at hh
        have q := List.mem_of_getElem? (show z.cps.toList[j]? = some ch from hh)
        simpa using q
    simp only [PyData.canLay0, PyData.strOk, Array.all_eq_true_iff_forall_mem] at h2 ⊢
    intro x hx
    have : x = ch := by simpa using hx
    subst this
    exact h2 x hm) G1 H1 e1 e2 Q k⟩
theorem se_signI {z : Str} {i : Int} (ha : SE B X a σ G C z C1) (hb : SE B X b σ G C1 i C2) (h : (atI z.cps.toList i).isSome = true) (hs : PlainIx b := by exact fun _ _ => rfl) : SE B X (.Subscript a b pos) σ G C (signAt z i) C2 := by
  have hh : atI z.cps.toList i = some ((atI z.cps.toList i).getD 0) := by
    cases q : atI z.cps.toList i with
    | none => rw [q] at h; cases h
    | some x => rfl
  exact se_sign ha hb hh hs
theorem de_lenI {l : List α} (hm : X.mg ("len" : Str) = none) (ha : DE X a σ G l) (hg : Gl X "len" := by rfl)
    (he : starEach [a] X.env = (false, eval a X.env) :: starEach [] X.env := by rfl) (hpl : (backTo pos (starEach [] X.env)).any (·.1) = false := by rfl) : DE X (.Call (.Name "len" p) [a] [] pos) σ G (l.length : Int) := (de_len hm ha hg he hpl).int rfl
theorem de_lenSI {z : Str} (hm : X.mg ("len" : Str) = none) (ha : DE X a σ G z) (hg : Gl X "len" := by rfl)
    (he : starEach [a] X.env = (false, eval a X.env) :: starEach [] X.env := by rfl) (hpl : (backTo pos (starEach [] X.env)).any (·.1) = false := by rfl) : DE X (.Call (.Name "len" p) [a] [] pos) σ G (z.length : Int) := (de_lenS hm ha hg he hpl).int rfl
theorem de_lenSetI {p3 : Pos} {l : List Str} (hm1 : X.mg ("len" : Str) = none) (hm : X.mg ("set" : Str) = none) (ha : DE X a σ G l) (hl : l.length < 64) (hc : X.calm = true := by rfl) (hg1 : Gl X "len" := by rfl) (hg : Gl X "set" := by rfl)
    (he : starEach [a] X.env = (false, eval a X.env) :: starEach [] X.env := by rfl) (hpl : (backTo p3 (starEach [] X.env)).any (·.1) = false := by rfl)
    (he2 : starEach [.Call (.Name "set" p2) [a] [] p3] X.env = (false, eval (.Call (.Name "set" p2) [a] [] p3) X.env) :: starEach [] X.env := by rfl) (hpl2 : (backTo pos (starEach [] X.env)).any (·.1) = false := by rfl) :
    DE X (.Call (.Name "len" p) [.Call (.Name "set" p2) [a] [] p3] [] pos) σ G ((ddp l).length : Int) := (de_lenSet (p4 := p3) hm1 hm hc ha (by omega) hg1 hg he hpl he2 hpl2).int rfl
/-- range(n) -/
def irange (n : Int) : List Int := (List.range n.toNat).map fun (i : Nat) => (i : Int)
theorem di_rangeI {n : Int} (hm : X.mg ("range" : Str) = none) (h : DE X e σ G n) (hn : -(2 ^ 24) ≤ n ∧ n ≤ 2 ^ 24) (hg : Gl X "range" := by rfl) (he : starEach [e] X.env = (false, eval e X.env) :: starEach [] X.env := by rfl) (hs : starEach [e] X.env = [(false, eval e X.env)] := by rfl) :
    DI X tg (.Call (.Name "range" p) [e] [] pos) σ G (irange n) := fun G1 H1 e1 e2 R k =>
  ⟨_, pi_range1 hg hm (pa_cons WE.pe pa_nil he) hs, h G1 H1 e1 e2 _ fun v G2 H2 g r => by
    have hz : n.toNat ≤ 2 ^ 24 := by omega
    have hl : (irange n).length = n.toNat := by unfold irange; rw [List.length_map, List.length_range]
    refine ⟨n, by rw [r] <;> rfl, by omega, by omega, ?_⟩
    refine k _ (fun _ => True) _ G2 H2 g (by rw [hl]; exact walk_range) (fun _ _ => trivial) (fun i G3 H3 x H' hi e3 e4 y => ?_) (by rw [hl]; exact hz)
    obtain ⟨rfl, hy⟩ := y
    rw [hl] at hi
    exact ⟨(i : Int), G3, by unfold irange; rw [List.getElem?_map, List.getElem?_range hi]; rfl, Gr.refl e4, by show x = .int (i : Int); rw [hy]; simp⟩⟩
/-- enumerate -/
def enumI (l : List α) : List (Int × α) := (enum l).map fun x => ((x.1 : Int), x.2)
theorem di_enumI {l : List α} {elts : List Expr} {kk : Nat} {tpos : Pos} (hm : X.mg ("enumerate" : Str) = none) (h : DE X e σ G l) (hg : Gl X "enumerate" := by rfl) (he : starEach [e] X.env = (false, eval e X.env) :: starEach [] X.env := by rfl) (hs : starEach [e] X.env = [(false, eval e X.env)] := by rfl) :
    DI X (.Tuple elts kk tpos) (.Call (.Name "enumerate" p) [e] [] pos) σ G (enumI l) := fun G1 H1 e1 e2 R k => by
  have hl : (enumI l).length = (enum l).length := by unfold enumI; rw [List.length_map]
  refine di_enum hm h hg he hs G1 H1 e1 e2 R fun J Gw Y G2 H2 g wk hG hY hz => k J Gw Y G2 H2 g (by rw [hl]; exact wk) hG (fun i G3 H3 x H' hi e3 e4 y => ?_) (by rw [hl]; exact hz)
  obtain ⟨z, G4, h1, h2, h3⟩ := hY i G3 H3 x H' (by rw [← hl]; exact hi) e3 e4 y
  refine ⟨((z.1 : Int), z.2), G4, by unfold enumI; rw [List.getElem?_map, h1]; rfl, h2, ?_⟩
  obtain ⟨q, u, w, a1, a2, a3, a4⟩ := h3
  exact ⟨q, u, w, a1, a2, a3, a4⟩
def dget (d : Dict α) (k : Str) : Option α := (d.kvs.find? fun q => decide (q.1 = k)).map (·.2)
def dgetD [Inhabited α] (d : Dict α) (k : Str) : α := (dget d k).getD default
theorem valV_dict {G : Hp} {k : Str} : ∀ {kv : List (Key × V)} {m : List (Str × α)}, kv.map (·.1) = m.map (fun q => Sum.inr q.1) → Reps G (kv.map (·.2)) (m.map (·.2)) → (valV kv (Sum.inr k) = none ∧ dget ⟨m⟩ k = none) ∨ ∃ v x, valV kv (Sum.inr k) = some v ∧ dget ⟨m⟩ k = some x ∧ rep G v x
  | [], [], _, _ => .inl ⟨rfl, rfl⟩
  | [], _ :: _, h, _ => by simp at h
  | _ :: _, [], h, _ => by simp at h
  | (k1, v1) :: kv, (k2, x2) :: m, h, r => by
    simp only [List.map_cons, List.cons.injEq] at h
    simp only [List.map_cons] at r
    cases r with
    | cons r1 r2 =>
      obtain ⟨h1, h2⟩ := h
      subst h1
      by_cases e : k2 = k
      · subst e
        exact .inr ⟨v1, x2, valV_pos rfl, by simp [dget], r1⟩
      · rcases valV_dict (k := k) h2 r2 with ⟨q1, q2⟩ | ⟨v, x, q1, q2, q3⟩
        · refine .inl ⟨by rw [valV_neg (fun z => e (Sum.inr.inj z))]; exact q1, ?_⟩
          unfold dget at q2 ⊢
          simpa [List.find?_cons, e] using q2
        · refine .inr ⟨v, x, by rw [valV_neg (fun z => e (Sum.inr.inj z))]; exact q1, ?_, q3⟩
          unfold dget at q2 ⊢
          simpa [List.find?_cons, e] using q2
theorem de_dget [Inhabited α] {d : Dict α} {k : Str} (hu : X.A.units + 64 < cLine) (ha : DE X a σ G d) (hb : DE X b σ G k) (h : (dget d k).isSome = true) (hs : NoSl b := by exact fun _ _ => rfl) : DE X (.Subscript a b pos) σ G (dgetD d k) := fun G1 H1 e1 e2 Q kk =>
  ⟨_, pe_dget (by omega) WE.pe WE.pe hs, ha G1 H1 e1 e2 _ fun v G2 H2 g r => hb G2 H2 (e1.trans g.gg) g.gh _ fun w G3 H3 g3 (r3 : w = .str k ∧ _) => by
    obtain ⟨p, kv, od, rfl, hp, h1, h2, _⟩ := Rep.mono g3.gg r
    rcases valV_dict (k := k) h1 h2 with ⟨q1, q2⟩ | ⟨v, x, q1, q2, q3⟩
    · have : dget d k = none := q2
      rw [this] at h; cases h
    · refine ⟨p, v, rfl, .inl ⟨kv, Sum.inr k, .inr ⟨od, g3.gh _ _ hp⟩, r3.1, q1.symm⟩, ?_⟩
      have e : dgetD d k = x := by
        have q2' : dget d k = some x := q2
        unfold dgetD
        rw [q2'] <;> rfl
      exact kk v G3 H3 (g.and g3) (by rw [e]; exact q3)⟩
theorem dc_of_pc {op : CmpOp} {z : Bool} (h : ∀ G1 H1, Ex G G1 → Ex G1 H1 → ∀ Q : VK, (∀ G2 H2, Gr [] G1 H1 G2 H2 → Q (.bl z) H2) → ∃ t, PC X op a b t ∧ t σ H1 Q) (h1 : behindInMarks op b = false := by first | exact nobehind _ (by decide) (by decide) | rfl) : DC X op a b σ G z :=
  ⟨fun {_} G1 H1 e1 e2 Q k => by
    obtain ⟨t, p, q⟩ := h G1 H1 e1 e2 Q fun G2 H2 g => k _ G2 H2 g rfl
    exact ⟨_, pe_cmp p h1, q⟩,
  fun {_} G1 H1 e1 e2 Q k => by
    obtain ⟨t, p, q⟩ := h G1 H1 e1 e2 (fun x H1 => ∃ c, x = .bl c ∧ Q c H1) fun G2 H2 g => ⟨z, rfl, k G2 H2 g⟩
    exact ⟨_, pt_cmp p h1, q⟩⟩
theorem dc_din {d : Dict α} {k : Str} (hu : X.A.units + 64 < cLine) (ha : DE X a σ G k) (hb : DE X b σ G d) (h1 : behindInMarks .In b = false := by rfl) : DC X .In a b σ G (dget d k).isSome := dc_of_pc (fun G1 H1 e1 e2 Q kk =>
  ⟨_, pc_din (by omega) WE.pe WE.pe, ha G1 H1 e1 e2 _ fun w G2 H2 g (r : w = .str k ∧ _) => hb G2 H2 (e1.trans g.gg) g.gh _ fun v G3 H3 g3 r3 => by
    obtain ⟨p, kv, od, rfl, hp, h1, h2, _⟩ := r3
    rcases valV_dict (k := k) h1 h2 with ⟨q1, q2⟩ | ⟨v, x, q1, q2, q3⟩
    · refine ⟨p, none, rfl, .inl ⟨kv, Sum.inr k, .inr ⟨od, g3.gh _ _ hp⟩, r.1, q1.symm⟩, ?_⟩
      have q := kk G3 H3 (g.and g3)
      have e : dget d k = none := q2
      rw [e] at q; exact q
    · refine ⟨p, some v, rfl, .inl ⟨kv, Sum.inr k, .inr ⟨od, g3.gh _ _ hp⟩, r.1, q1.symm⟩, ?_⟩
      have q := kk G3 H3 (g.and g3)
      have e : dget d k = some x := q2
      rw [e] at q; exact q⟩) h1
theorem dc_dnin {d : Dict α} {k : Str} (hu : X.A.units + 64 < cLine) (ha : DE X a σ G k) (hb : DE X b σ G d) (h1 : behindInMarks .NotIn b = false := by rfl) : DC X .NotIn a b σ G (!(dget d k).isSome) := dc_of_pc (fun G1 H1 e1 e2 Q kk =>
  ⟨_, pc_dnotin (by omega) WE.pe WE.pe, ha G1 H1 e1 e2 _ fun w G2 H2 g (r : w = .str k ∧ _) => hb G2 H2 (e1.trans g.gg) g.gh _ fun v G3 H3 g3 r3 => by
    obtain ⟨p, kv, od, rfl, hp, h1, h2, _⟩ := r3
    rcases valV_dict (k := k) h1 h2 with ⟨q1, q2⟩ | ⟨v, x, q1, q2, q3⟩
    · refine ⟨p, none, rfl, .inl ⟨kv, Sum.inr k, .inr ⟨od, g3.gh _ _ hp⟩, r.1, q1.symm⟩, ?_⟩
      have q := kk G3 H3 (g.and g3)
      have e : dget d k = none := q2
      rw [e] at q; exact q
    · refine ⟨p, some v, rfl, .inl ⟨kv, Sum.inr k, .inr ⟨od, g3.gh _ _ hp⟩, r.1, q1.symm⟩, ?_⟩
      have q := kk G3 H3 (g.and g3)
      have e : dget d k = some x := q2
      rw [e] at q; exact q⟩) h1
/-- dict(pairs), later ones win -/
def dput (m : List (Str × α)) (k : Str) (x : α) : List (Str × α) := if (m.any fun q => decide (q.1 = k)) = true then m.map (fun q => if q.1 = k then (q.1, x) else q) else m ++ [(k, x)]
def dmk (l : List (Str × α)) : Dict α := ⟨l.foldl (fun m q => dput m q.1 q.2) []⟩
theorem dput_rep {G : Hp} {k : Str} {v : V} {x : α} (rv : rep G v x) : ∀ {kv : List (Key × V)} {m : List (Str × α)}, kv.map (·.1) = m.map (fun q => Sum.inr q.1) → Reps G (kv.map (·.2)) (m.map (·.2)) →
    (putK kv (Sum.inr k) v).map (·.1) = (dput m k x).map (fun q => Sum.inr q.1) ∧ Reps G ((putK kv (Sum.inr k) v).map (·.2)) ((dput m k x).map (·.2)) := by
  intro kv m h r
  have hany : (kv.any fun q => decide (q.1 = (Sum.inr k : Key))) = (m.any fun q => decide (q.1 = k)) := by
    have e1 : (kv.any fun q => decide (q.1 = (Sum.inr k : Key))) = (kv.map (·.1)).any fun z => decide (z = (Sum.inr k : Key)) := by rw [List.any_map]; rfl
    have e2 : (m.any fun q => decide (q.1 = k)) = (m.map (fun q => (Sum.inr q.1 : Key))).any fun z => decide (z = (Sum.inr k : Key)) := by
      rw [List.any_map]
      congr 1
      funext q
      show decide (q.1 = k) = decide ((Sum.inr q.1 : Key) = Sum.inr k)
      rw [decide_eq_decide]
      exact ⟨fun z => by rw [z], fun z => Sum.inr.inj z⟩
    rw [e1, e2, h]
  unfold putK dput
  rw [hany]
  split
  · have key : ∀ {kv : List (Key × V)} {m : List (Str × α)}, kv.map (·.1) = m.map (fun q => (Sum.inr q.1 : Key)) → Reps G (kv.map (·.2)) (m.map (·.2)) →
        (kv.map fun z => if z.1 = (Sum.inr k : Key) then (z.1, v) else z).map (·.1) = (m.map fun q => if q.1 = k then (q.1, x) else q).map (fun q => (Sum.inr q.1 : Key)) ∧ Reps G ((kv.map fun z => if z.1 = (Sum.inr k : Key) then (z.1, v) else z).map (·.2)) ((m.map fun q => if q.1 = k then (q.1, x) else q).map (·.2)) := by
      intro kv
      induction kv with
      | nil =>
        intro m h r
        cases m with
        | nil => exact ⟨rfl, .nil⟩
        | cons _ _ => simp at h
      | cons p kv ih =>
        intro m h r
        cases m with
        | nil => simp at h
        | cons q m =>
          simp only [List.map_cons, List.cons.injEq] at h
          simp only [List.map_cons] at r
          cases r with
          | cons r1 r2 =>
            obtain ⟨i1, i2⟩ := ih h.2 r2
            obtain ⟨p1, p2⟩ := p
            obtain ⟨q1, q2⟩ := q
            have hp : p1 = Sum.inr q1 := h.1
            subst hp
            by_cases e : q1 = k
            · subst e
              simp only [List.map_cons, if_pos rfl, if_true]
              exact ⟨by rw [i1], .cons rv i2⟩
            · have e' : ¬ (Sum.inr q1 : Key) = Sum.inr k := fun z => e (Sum.inr.inj z)
              simp only [List.map_cons, if_neg e, if_neg e']
              exact ⟨by rw [i1], .cons r1 i2⟩
    exact key h r
  · rw [List.map_append, List.map_append, List.map_append, List.map_append, h]
    exact ⟨rfl, r.app (.cons rv .nil)⟩
theorem dmk_rep {G : Hp} : ∀ {ps : List (Key × V)} {l : List (Str × α)} {kv : List (Key × V)} {m : List (Str × α)}, ps.map (·.1) = l.map (fun q => Sum.inr q.1) → Reps G (ps.map (·.2)) (l.map (·.2)) → kv.map (·.1) = m.map (fun q => Sum.inr q.1) → Reps G (kv.map (·.2)) (m.map (·.2)) →
    (mergeK kv ps).map (·.1) = (l.foldl (fun m q => dput m q.1 q.2) m).map (fun q => Sum.inr q.1) ∧ Reps G ((mergeK kv ps).map (·.2)) ((l.foldl (fun m q => dput m q.1 q.2) m).map (·.2))
  | [], [], _, _, _, _, h, r => ⟨h, r⟩
  | [], _ :: _, _, _, h, _, _, _ => by simp at h
  | _ :: _, [], _, _, h, _, _, _ => by simp at h
  | (k1, v1) :: ps, (k2, x2) :: l, kv, m, h, r, h2, r2 => by
    simp only [List.map_cons, List.cons.injEq] at h
    simp only [List.map_cons] at r
    cases r with
    | cons a1 a2 =>
      obtain ⟨b1, b2⟩ := h
      subst b1
      obtain ⟨c1, c2⟩ := dput_rep (k := k2) a1 h2 r2
      exact dmk_rep (ps := ps) (l := l) b2 a2 c1 c2
theorem pairs_of {G H : Hp} {K : PySem.W.Frag} (e : Ex G H) : ∀ {vs : List V} {l : List (Str × α)}, Reps G vs l → ∃ (ps : List Addr) (kvs : List (Key × V)), vs = ps.map V.ref ∧ Paired (fun p kv => SqT K H p [kV kv.1, kv.2]) ps kvs ∧ kvs.map (·.1) = l.map (fun q => Sum.inr q.1) ∧ Reps G (kvs.map (·.2)) (l.map (·.2))
  | _, _, .nil => ⟨[], [], rfl, .nil, rfl, .nil⟩
  | _, _, .cons (a := v) (b := q) r t => by
    obtain ⟨ps, kvs, h1, h2, h3, h4⟩ := pairs_of (K := K) e t
    obtain ⟨p, u, w, rfl, hp, (q1 : u = .str q.1 ∧ _), q2⟩ := r
    refine ⟨p :: ps, (Sum.inr q.1, w) :: kvs, by rw [h1] <;> rfl, .cons (.inl (.inl ?_)) h2, by simp [h3], .cons q2 h4⟩
    have := e _ _ hp
    rw [q1.1] at this
    exact this
theorem dput_len (m : List (Str × α)) (k : Str) (x : α) : (dput m k x).length ≤ m.length + 1 := by
  unfold dput
  split
  · rw [List.length_map]; omega
  · rw [List.length_append]; simp
theorem dput_keys {m : List (Str × α)} {k : Str} {x : α} {P : Str → Prop} (h : ∀ q ∈ m, P q.1) (hk : P k) : ∀ q ∈ dput m k x, P q.1 := by
  intro q hq
  unfold dput at hq
  split at hq
  · obtain ⟨z, hz, rfl⟩ := List.mem_map.mp hq
    split
    · exact h z hz
    · exact h z hz
  · rcases List.mem_append.mp hq with z | z
    · exact h q z
    · have : q = (k, x) := by simpa using z
      subst this; exact hk
theorem dmk_len : ∀ (l m : List (Str × α)), (l.foldl (fun m q => dput m q.1 q.2) m).length ≤ m.length + l.length
  | [], m => by simp
  | q :: l, m => by
    have h1 := dmk_len l (dput m q.1 q.2)
    have h2 := dput_len m q.1 q.2
    simp only [List.foldl_cons, List.length_cons]
    omega
theorem dmk_keys {P : Str → Prop} : ∀ {l m : List (Str × α)}, (∀ q ∈ l, P q.1) → (∀ q ∈ m, P q.1) → ∀ q ∈ l.foldl (fun m q => dput m q.1 q.2) m, P q.1
  | [], m, _, h => h
  | q :: l, m, h, h2 => dmk_keys (l := l) (fun z hz => h z (List.mem_cons_of_mem _ hz)) (dput_keys h2 (h q (List.mem_cons_self ..)))
theorem reps_keys {G : Hp} : ∀ {vs : List V} {l : List (Str × α)}, Reps G vs l → ∀ q ∈ l, StrW q.1
  | _, _, .nil => fun _ h => nomatch h
  | _, _, .cons r t => fun q hq => by
    rcases List.mem_cons.mp hq with e | e
    · subst e
      obtain ⟨p, u, w, _, _, (q1 : u = .str q.1 ∧ _), _⟩ := r
      exact q1.2
    · exact reps_keys t q e
theorem de_dmk {l : List (Str × α)} (hm : X.mg ("dict" : Str) = none) (ha : DE X a σ G l) (hc : X.calm = true := by rfl) (hg : Gl X "dict" := by rfl)
    (he : starEach [a] X.env = (false, eval a X.env) :: starEach [] X.env := by rfl) (hpl : (backTo pos (starEach [] X.env)).any (·.1) = false := by rfl) : DE X (.Call (.Name "dict" p) [a] [] pos) σ G (dmk l) := fun G1 H1 e1 e2 Q k =>
  ⟨_, pe_frz (pe_callTy (call_dictP hc) hg hm (by decide +kernel) (pa_cons WE.pe pa_nil he) (by decide) (by decide) he hpl), ha G1 H1 e1 e2 _ fun v G2 H2 g r1 => by
    obtain ⟨p, vs, rfl, hp, hz, r⟩ := r1
    have hsz : l.length ≤ sizeLine := by rw [← r.len]; exact hz
    have hkk := reps_keys r
    obtain ⟨ps, kvs, rfl, h2, h3, h4⟩ := pairs_of (K := X.K) g.gh r
    refine ⟨p, ps, kvs, rfl, .inl (.inl (g.gh _ _ hp)), h2, fun q hq => ?_⟩
    obtain ⟨m1, m2⟩ := dmk_rep (kv := []) (m := []) h3 h4 rfl .nil
    refine ⟨q, _, rfl, upd_same, fun od => ?_⟩
    have e : upd (upd H2 q (.dK (mergeK [] kvs))) q (.frz od (.dK (mergeK [] kvs))) = upd H2 q (.frz od (.dK (mergeK [] kvs))) := by
      funext z
      by_cases w : z = q
      · subst w; rw [upd_same, upd_same]
      · rw [upd_ne w, upd_ne w, upd_ne w]
    rw [e]
    exact k _ _ _ (g.and (Gr.new (M := []) g.gh hq)) ⟨q, _, od, rfl, upd_same, m1, Reps.mono (Ex.new (Ex.fresh g.gh hq)) m2, Nat.le_trans (dmk_len l []) (by simpa using hsz), dmk_keys hkk (fun _ z => nomatch z)⟩⟩

abbrev Jd (δ : Type) := δ → (VK → Prop) × (L2.St → Hp → Cs → Prop)
abbrev SJ (B : Bs) (X : Cx) (sts : List Stmt) (σ : L2.St) (G : Hp) (C : Cs) {δ : Type} (J : Jd δ) (x : δ) : Prop := SB B X sts σ G C (J x).1 (J x).2
theorem sj_if {δ : Type} {J : Jd δ} {q : Bool} {x y : δ} (hc : ST B X c σ G C q C1) (h1 : q = true → SB B X thn σ G C1 (J x).1 (fun σ' G' C' => SJ B X rest σ' G' C' J x)) (h2 : q = false → SB B X els σ G C1 (J y).1 (fun σ' G' C' => SJ B X rest σ' G' C' J y)) : SJ B X (.If c thn els pos :: rest) σ G C J (if q = true then x else y) := by
  cases q with
  | true => exact sb_if hc h1 (fun z => nomatch z)
  | false => exact sb_if hc (fun z => nomatch z) h2
theorem sj_when {δ : Type} {J : Jd δ} {q : Bool} {x y : δ} (hc : ST B X c σ G C q C1) (h1 : q = true → SB B X thn σ G C1 (J x).1 (fun _ _ _ => False)) (h2 : q = false → SJ B X rest σ G C1 J y) : SJ B X (.If c thn [] pos :: rest) σ G C J (if q = true then x else y) := by
  cases q with
  | true => exact sb_when hc h1 (fun z => nomatch z)
  | false => exact sb_when hc (fun z => nomatch z) h2
/-- a test that must not hold: what is raised there is not met -/
theorem sj_ward {δ : Type} {J : Jd δ} {q : Bool} {y : δ} (hc : ST B X c σ G C q C1) (hq : q = false) (h2 : SJ B X rest σ G C1 J y) : SJ B X (.If c thn [] pos :: rest) σ G C J y := by
  subst hq
  exact sb_when hc (fun z => nomatch z) fun _ => h2
/-- the whole of a loop: handed back within, or gone on -/
def elimR {ρ S δ : Type} (x : ρ ⊕ S) (i : ρ → δ) (k : S → δ) : δ := match x with
  | .inl r => i r
  | .inr s => k s
theorem sj_for {δ S ρ : Type} {J : Jd δ} {l : List α} {Tg : α → L2.St → Hp → L2.St → Prop} {Rg : ρ → VK → Prop} {inj : ρ → δ} {k : S → δ} (T : S → L2.St → Hp → Cs → Prop) (f : S → α → ρ ⊕ S) (okf : S → α → Prop) (s0 : S) (src : DI X tg iter σ G l) (tgt : SG X tg Tg) (h0 : ∀ G', Ex G G' → T s0 σ G' C)
    (hT : ∀ s σ' G' G'' C', Ex G' G'' → T s σ' G' C' → T s σ' G'' C') (hok : loopOk f okf l s0)
    (hs : ∀ s y σ' σ2 G' C', y ∈ l → Ex G G' → T s σ' G' C' → Tg y σ' G' σ2 → okf s y → SJ B X body σ2 G' C' (fun b => ((fun Q => ∀ r, b = .inl r → Rg r Q), (fun σ'' G'' C'' => ∃ s', b = .inr s' ∧ T s' σ'' G'' C''))) (f s y))
    (hret : ∀ r Q, (J (inj r)).1 Q → Rg r Q) (hd : ∀ s σ' G' C', loopR f l s0 = .inr s → Ex G G' → T s σ' G' C' → SJ B X rest σ' G' C' J (k s)) (hp : PassesOwn (model X.prog X.w) X.A X.env X.xe := by exact PassesOwn.never) (hc : X.calm = true := by rfl)
    (hfs : ∀ x, foldedSetIterable iter X.env x = pure x := by intro _; rfl) : SJ B X (.For tg iter body [] pos :: rest) σ G C J (elimR (loopR f l s0) inj k) := by
  cases q : loopR f l s0 with
  | inl r =>
    exact sb_for (Rg := Rg) T f okf s0 src tgt h0 hT hok hs (fun r' Q h h2 => by rw [q] at h; cases h; exact hret r Q h2) (fun s _ _ _ h => by rw [q] at h; cases h) hp hc hfs
  | inr s =>
    exact sb_for (Rg := Rg) T f okf s0 src tgt h0 hT hok hs (fun r' Q h h2 => by rw [q] at h; cases h) (fun s' σ' G' C' h e t => by rw [q] at h; cases h; exact hd s σ' G' C' q e t) hp hc hfs
/-- a loop that hands nothing back: a fold -/
def foldOk {S : Type} (f : S → α → S) (okf : S → α → Prop) : List α → S → Prop
  | [], _ => True
  | x :: l, s => okf s x ∧ foldOk f okf l (f s x)
theorem loop_fold {S : Type} (f : S → α → S) : ∀ (l : List α) (s : S), loopR (ρ := Empty) (fun s x => .inr (f s x)) l s = .inr (l.foldl f s)
  | [], _ => rfl
  | x :: l, s => by
    show loopR (ρ := Empty) (fun s x => .inr (f s x)) l (f s x) = _
    rw [loop_fold f l (f s x)] <;> rfl
theorem loopOk_fold {S : Type} (f : S → α → S) (okf : S → α → Prop) : ∀ (l : List α) (s : S), foldOk f okf l s → loopOk (ρ := Empty) (fun s x => .inr (f s x)) okf l s
  | [], _, _ => trivial
  | x :: l, s, h => ⟨h.1, fun s' e => by cases e; exact loopOk_fold f okf l _ h.2⟩
theorem sj_fold {δ S : Type} {J : Jd δ} {l : List α} {Tg : α → L2.St → Hp → L2.St → Prop} {k : S → δ} (T : S → L2.St → Hp → Cs → Prop) (f : S → α → S) (okf : S → α → Prop) (s0 : S) (src : DI X tg iter σ G l) (tgt : SG X tg Tg) (h0 : ∀ G', Ex G G' → T s0 σ G' C)
    (hT : ∀ s σ' G' G'' C', Ex G' G'' → T s σ' G' C' → T s σ' G'' C') (hok : foldOk f okf l s0)
    (hs : ∀ s y σ' σ2 G' C', y ∈ l → Ex G G' → T s σ' G' C' → Tg y σ' G' σ2 → okf s y → SJ B X body σ2 G' C' (fun b => ((fun _ => True), (fun σ'' G'' C'' => T b σ'' G'' C''))) (f s y))
    (hd : ∀ σ' G' C', Ex G G' → T (l.foldl f s0) σ' G' C' → SJ B X rest σ' G' C' J (k (l.foldl f s0))) (hp : PassesOwn (model X.prog X.w) X.A X.env X.xe := by exact PassesOwn.never) (hc : X.calm = true := by rfl)
    (hfs : ∀ x, foldedSetIterable iter X.env x = pure x := by intro _; rfl) : SJ B X (.For tg iter body [] pos :: rest) σ G C J (k (l.foldl f s0)) := by
  refine sb_for (ρ := Empty) (Rg := fun r _ => r.elim) T (fun s x => .inr (f s x)) okf s0 src tgt h0 hT (loopOk_fold f okf l s0 hok) (fun s y σ' σ2 G' C' hy e t tt ok G1 H1 e1 o1 D k1 k2 => ?_) (fun r => r.elim) (fun s σ' G' C' h e t => ?_) hp hc hfs
  · exact hs s y σ' σ2 G' C' hy e t tt ok G1 H1 e1 o1 D trivial fun σ3 G3 H3 C3 e3 o3 p3 => k2 σ3 G3 H3 C3 e3 o3 ⟨_, rfl, p3⟩
  · rw [loop_fold] at h
    cases h
    exact hd σ' G' C' e t
end
end Dn

namespace Dn
open Dn.Rep (rep)
open PySem L2
def JD {δ : Type} [Rep δ] (B : Bs) (Cp : Cs) : Jd δ := fun x => (RD B Cp x, fun _ _ _ => False)
def JO {δ : Type} [Rep δ] (B : Bs) (Cp : Cs) : Jd (List δ) := fun x => (RO B Cp x, fun _ _ _ => False)
def JN (B : Bs) : Jd Unit := fun x => (RD B [] x, fun _ _ _ => True)
/-- with a cell that was handed in at u -/
def JUD {β δ : Type} [Rep β] [Rep δ] (B : Bs) (u : Addr) : Jd (δ × List β) := fun x => (RD B [(u, cl x.2)] x.1, fun _ _ _ => False)
def JUO {β δ : Type} [Rep β] [Rep δ] (B : Bs) (u : Addr) : Jd (List δ × List β) := fun x => (RO B [(u, cl x.2)] x.1, fun _ _ _ => False)
def JUN {β : Type} [Rep β] (B : Bs) (u : Addr) : Jd (List β) := fun x => (RD B [(u, cl x)] (), fun _ _ C => C.take 1 = [(u, cl x)])
/-- within a loop whose turns may hand back -/
def JL {ρ S : Type} (Rg : ρ → VK → Prop) (T : S → L2.St → Hp → Cs → Prop) : Jd (ρ ⊕ S) := fun b => ((fun Q => ∀ r, b = .inl r → Rg r Q), (fun σ'' G'' C'' => ∃ s', b = .inr s' ∧ T s' σ'' G'' C''))
/-- within a loop whose turns do not -/
def JF {S : Type} (T : S → L2.St → Hp → Cs → Prop) : Jd S := fun b => ((fun _ => True), (fun σ'' G'' C'' => T b σ'' G'' C''))
/-- a block that does not end by itself -/
def JX {δ : Type} (J : Jd δ) : Jd δ := fun x => ((J x).1, fun _ _ _ => False)
/-- a block behind which more follows -/
def JR {δ : Type} (B : Bs) (X : Cx) (rest : List Stmt) (J : Jd δ) : Jd δ := fun x => ((J x).1, fun σ' G' C' => SJ B X rest σ' G' C' J x)
section
variable {B : Bs} {X : Cx} {α β γ δ ρ S : Type} [Rep α] [Rep β] [Rep γ] {e a b c tg iter elt : Expr} {ifs : List Expr} {es : List Expr} {σ : L2.St} {G G' : Hp} {C C' C1 C2 C3 Cp : Cs} {pos pos' p2 p pos2 : Pos} {scope : Scope} {sts rest thn els body : List Stmt} {J : Jd δ}
theorem sj_whenX {q : Bool} {x y : δ} (hc : ST B X c σ G C q C1) (h1 : q = true → SJ B X thn σ G C1 (JX J) x) (h2 : q = false → SJ B X rest σ G C1 J y) : SJ B X (.If c thn [] pos :: rest) σ G C J (if q = true then x else y) := sj_when hc h1 h2
theorem sj_ifR {q : Bool} {x y : δ} (hc : ST B X c σ G C q C1) (h1 : q = true → SJ B X thn σ G C1 (JR B X rest J) x) (h2 : q = false → SJ B X els σ G C1 (JR B X rest J) y) : SJ B X (.If c thn els pos :: rest) σ G C J (if q = true then x else y) := sj_if hc h1 h2
theorem sj_nilR {x : δ} (h : ∀ G', Ex G G' → SJ B X rest σ G' C J x) : SJ B X [] σ G C (JR B X rest J) x := sb_nil h
/-- handing back within a loop -/
theorem sb_retL {Rg : ρ → VK → Prop} {T : S → L2.St → Hp → Cs → Prop} {r : ρ} {P : L2.St → Hp → Cs → Prop} (h : SB B X sts σ G C (Rg r) P) (hP : ∀ σ G C, ¬ P σ G C) : SJ B X sts σ G C (JL Rg T) (.inl r) := fun G1 H1 e1 o D k1 k2 => h G1 H1 e1 o D (k1 r rfl) fun σ2 G2 H2 C2 _ _ p => absurd p (hP σ2 G2 C2)
theorem sb_retLX {Rg : ρ → VK → Prop} {T : S → L2.St → Hp → Cs → Prop} {r : ρ} {P : L2.St → Hp → Cs → Prop} (h : SB B X sts σ G C (Rg r) P) (hP : ∀ σ G C, ¬ P σ G C) : SJ B X sts σ G C (JX (JL Rg T)) (.inl r) := fun G1 H1 e1 o D k1 k2 => h G1 H1 e1 o D (k1 r rfl) fun σ2 G2 H2 C2 _ _ p => absurd p (hP σ2 G2 C2)
theorem sb_nilL {Rg : ρ → VK → Prop} {T : S → L2.St → Hp → Cs → Prop} {s : S} (h : ∀ G', Ex G G' → T s σ G' C) : SJ B X [] σ G C (JL Rg T) (.inr s) := sb_nil fun G' e => ⟨s, rfl, h G' e⟩
theorem sb_nilF {T : S → L2.St → Hp → Cs → Prop} {s : S} (h : ∀ G', Ex G G' → T s σ G' C) : SJ B X [] σ G C (JF T) s := sb_nil h
/-- comprehensions without a test; of the items themselves -/
theorem lc_map {l : List α} {own : List (Str × Nat)} {vs : List Nat} {T : α → L2.St → Hp → L2.St → Prop} (h : α → β) (hN : X.N.Nodup) (hc : X.calm = true) (src : DI X tg iter σ G l) (ok : BlkOk X.N X.env.scope scope own) (ho : own.map (·.2) = vs) (tgt : DG X scope tg vs T)
    (he : ∀ (i : Nat) y σ2 G', l[i]? = some y → Ex G G' → T y (wipe σ vs) G' σ2 → ∀ Y, InBlk X scope Y → DE Y elt σ2 G' (h y)) : LC X elt tg iter [] scope σ G (l.map h) :=
  (lc_mk (fun _ => true) h hN hc src ok ho tgt (fun _ _ _ _ _ _ _ _ _ => df_nil) (fun i y σ2 G' h1 h2 h3 _ Y hY => he i y σ2 G' h1 h2 h3 Y hY)).cast (by rw [List.filter_eq_self.mpr fun _ _ => rfl])
theorem lc_fil {l : List α} {own : List (Str × Nat)} {vs : List Nat} {T : α → L2.St → Hp → L2.St → Prop} (f : α → Bool) (hN : X.N.Nodup) (hc : X.calm = true) (src : DI X tg iter σ G l) (ok : BlkOk X.N X.env.scope scope own) (ho : own.map (·.2) = vs) (tgt : DG X scope tg vs T)
    (ht : ∀ (i : Nat) y σ2 G', l[i]? = some y → Ex G G' → T y (wipe σ vs) G' σ2 → ∀ Y, InBlk X scope Y → DF Y ifs σ2 G' (f y))
    (he : ∀ (i : Nat) y σ2 G', l[i]? = some y → Ex G G' → T y (wipe σ vs) G' σ2 → f y = true → ∀ Y, InBlk X scope Y → DE Y elt σ2 G' y) : LC X elt tg iter ifs scope σ G (l.filter f) :=
  (lc_mk f id hN hc src ok ho tgt ht he).cast (List.map_id _)
/-- a text of the module -/
theorem de_gstr {x z : Str} (h : ∃ t, X.mg x = some (.str z t)) (hw : StrW z := by exact ⟨by decide +kernel, by decide +kernel⟩) (hg : Gl X x := by rfl) (hd : (x == ("__debug__" : Str)) = false := by decide) : DE X (.Name x pos) σ G z := fun G1 H1 e1 e2 Q k => by
  obtain ⟨t, h⟩ := h
  exact ⟨_, pe_glob hg h (show RelV (.str z) (.str z t) from ⟨t, rfl⟩) hd, k _ G1 H1 (Gr.refl e2) ⟨rfl, hw⟩⟩
/-- a written number below nought -/
theorem de_neg {i : Int} (h : DE X a σ G i) : DE X (.UnaryOp .USub a pos) σ G (-i) := fun G1 H1 e1 e2 Q k => ⟨_, pe_un un_neg WE.pe, h G1 H1 e1 e2 _ fun v G2 H2 g r => ⟨i, r, k _ G2 H2 g rfl⟩⟩
theorem de_max {i j : Int} (hm : X.mg ("max" : Str) = none) (ha : DE X a σ G i) (hb : DE X b σ G j) (hc : X.calm = true := by rfl) (hg : Gl X "max" := by rfl) (he : starEach [a, b] X.env = (false, eval a X.env) :: starEach [b] X.env := by rfl) (he2 : starEach [b] X.env = (false, eval b X.env) :: starEach [] X.env := by rfl) (hpl : (backTo pos (starEach [b] X.env)).any (·.1) = false := by rfl) :
    DE X (.Call (.Name "max" p) [a, b] [] pos) σ G (if j > i then j else i) := fun G1 H1 e1 e2 Q k =>
  ⟨_, pe_callB (call_max2 hc) hg hm (by decide +kernel) (pa_cons WE.pe (pa_cons WE.pe pa_nil he2) he) (by decide) (by decide) he hpl, ha G1 H1 e1 e2 _ fun v G2 H2 g r => hb G2 H2 (e1.trans g.gg) g.gh _ fun w G3 H3 g3 r3 => ⟨i, j, by rw [r, r3] <;> rfl, k _ G3 H3 (g.and g3) rfl⟩⟩
theorem de_min {i j : Int} (hm : X.mg ("min" : Str) = none) (ha : DE X a σ G i) (hb : DE X b σ G j) (hc : X.calm = true := by rfl) (hg : Gl X "min" := by rfl) (he : starEach [a, b] X.env = (false, eval a X.env) :: starEach [b] X.env := by rfl) (he2 : starEach [b] X.env = (false, eval b X.env) :: starEach [] X.env := by rfl) (hpl : (backTo pos (starEach [b] X.env)).any (·.1) = false := by rfl) :
    DE X (.Call (.Name "min" p) [a, b] [] pos) σ G (if j < i then j else i) := fun G1 H1 e1 e2 Q k =>
  ⟨_, pe_callB (call_min2 hc) hg hm (by decide +kernel) (pa_cons WE.pe (pa_cons WE.pe pa_nil he2) he) (by decide) (by decide) he hpl, ha G1 H1 e1 e2 _ fun v G2 H2 g r => hb G2 H2 (e1.trans g.gg) g.gh _ fun w G3 H3 g3 r3 => ⟨i, j, by rw [r, r3] <;> rfl, k _ G3 H3 (g.and g3) rfl⟩⟩
/-- powers of any size -/
def CPowW (i j : Int) : Prop := 0 ≤ j ∧ (Builtin.Int.intBits i : Int) * j ≤ 2 ^ 27
theorem op_powW : OpR X (binaryOp .Pow) (rI CPowW fun i j => .int (i ^ j.toNat)) := opI fun _ _ _ _ _ _ _ hc q => PyProof.Rows.pow_int hc.1 hc.2 q
theorem de_pow {i j : Int} (ha : DE X a σ G i) (hb : DE X b σ G j) (h : CPowW i j) : DE X (.BinOp a .Pow b pos) σ G (i ^ j.toNat) := de_op op_powW (r2_I h fun _ => rfl) ha hb
theorem de_bits {i : Int} {apos : Pos} (ha : DE X a σ G i) (hbase : attributeBase a "bit_length" X.env (eval a X.env) = eval a X.env := by rfl) (hline : (apos.endLine == pos.line) = true := by rfl) : DE X (.Call (.Attribute a "bit_length" apos) [] [] pos) σ G (Builtin.Int.intBits i : Int) := fun G1 H1 e1 e2 Q k =>
  ⟨_, pe_bits WE.pe hbase hline, ha G1 H1 e1 e2 _ fun v G2 H2 g r => ⟨i, r, k _ G2 H2 g rfl⟩⟩
end
end Dn

namespace Dn
open Dn.Rep (rep)
open PySem L2
theorem kit_same {K : PySem.W.Frag} (a : String) : PySem.W.kitOne K (.type a) (.type a) = some true := kit_ty (by unfold kitB; simp)
theorem kit_int_bool {K : PySem.W.Frag} : PySem.W.kitOne K (.type "int") (.type "bool") = some false := kit_ty (by decide +kernel)
section
variable {B : Bs} {X : Cx} {α β γ δ A : Type} [Rep α] [Rep β] [Rep γ] [Rep δ] [Args A] {e a b c : Expr} {es : List Expr} {σ : L2.St} {G G' : Hp} {C C' C1 C2 C3 : Cs} {pos pos' p2 p : Pos} {x : Str} {f : Addr} {lvl k : Nat} {ps : List Str}
theorem de_callZ {pre : A → Prop} {g : A → δ} {y : A} {z : δ} (F : Has X.prog X.w X.K X.mg X.base x f lvl ps (SpN kD pre g)) (hr : Rm k X.A) (ha : DA X (e :: es) σ G y) (hp : pre y) (hz : g y = z := by rfl) (hl : lvl ≤ k := by decide) (hg : Gl X x := by rfl) (hdb : (x == ("__debug__" : Str)) = false := by decide)
    (he : starEach (e :: es) X.env = (false, eval e X.env) :: starEach es X.env := by rfl) (hpl : (backTo pos (starEach es X.env)).any (·.1) = false := by rfl) : DE X (.Call (.Name x p) (e :: es) [] pos) σ G z := hz ▸ de_call F hr ha hp hl hg hdb he hpl
theorem do_callZ {pre : A → Prop} {g : A → List δ} {y : A} {z : List δ} (F : Has X.prog X.w X.K X.mg X.base x f lvl ps (SpN kO pre g)) (hr : Rm k X.A) (ha : DA X (e :: es) σ G y) (hp : pre y) (hz : g y = z := by rfl) (hl : lvl ≤ k := by decide) (hg : Gl X x := by rfl) (hdb : (x == ("__debug__" : Str)) = false := by decide)
    (he : starEach (e :: es) X.env = (false, eval e X.env) :: starEach es X.env := by rfl) (hpl : (backTo pos (starEach es X.env)).any (·.1) = false := by rfl) : DO X (.Call (.Name x p) (e :: es) [] pos) σ G z := hz ▸ do_call F hr ha hp hl hg hdb he hpl
end
section
variable {B : Bs} {X : Cx} {α β γ δ ρ S : Type} [Rep α] [Rep β] [Rep γ] {e a b c tg iter elt : Expr} {ifs : List Expr} {es : List Expr} {σ : L2.St} {G G' : Hp} {C C' C1 C2 C3 Cp : Cs} {pos pos' p2 p pos2 : Pos} {scope : Scope} {sts rest thn els body : List Stmt} {J : Jd δ} {P : L2.St → Hp → Cs → Prop} {R : VK → Prop}
/-- handing back within a loop -/
theorem sb_retLg {Rg : ρ → VK → Prop} {r : ρ} (h : SB B X sts σ G C (Rg r) P) : SB B X sts σ G C (fun Q => ∀ r' : ρ, (Sum.inl r : ρ ⊕ S) = .inl r' → Rg r' Q) P := fun G1 H1 e1 o D k1 k2 => h G1 H1 e1 o D (k1 r rfl) k2
/-- an item put at a place -/
def setI (l : List α) (i : Int) (x : α) : List α := match ixN l.length i with
  | some j => l.set j x
  | none => l
def insI (l : List α) (i : Int) (x : α) : List α := l.take i.toNat ++ [x] ++ l.drop i.toNat
theorem sb_setIxI {x : Str} {l : List α} {m : Int} {y : α} {u : Addr} {tpos : Pos} (i : Nat) (hu : AtVar X σ x u) (he : SE B X e σ G C y C1) (ha : DE X a σ G m) (hi : C1[i]? = some (u, cl l)) (hj : (ixN l.length m).isSome = true) (k : ∀ G', Ex G G' → SB B X rest σ G' (C1.set i (u, cl (setI l m y))) R P)
    (hae : ∀ v, assign (.Subscript (.Name x pos') a tpos) X.env v = (do
      let ov ← holding [v] (eval (.Name x pos') X.env)
      let iv ← holding [v, ov] (eval a X.env)
      standAt tpos
      holding [v, ov, iv] (setItem ov iv v)
      release [v, ov, iv] []) := by intro _; rfl)
    (hs : swapsWithSole [.Subscript (.Name x pos') a tpos] e pos.line X.env = pure false := by rfl) (hw : swappedStores [.Subscript (.Name x pos') a tpos] e X.env = pure none := by rfl) (h1 : (assignEach [.Subscript (.Name x pos') a tpos] X.env).map (·.2) = [assign (.Subscript (.Name x pos') a tpos) X.env] := by rfl) :
    SB B X (.Assign [.Subscript (.Name x pos') a tpos] e pos :: rest) σ G C R P := by
  obtain ⟨j, hj⟩ := Option.isSome_iff_exists.mp hj
  refine sb_setIx i hu he ha hi hj (fun G' e1 => ?_) hae hs hw h1
  have := k G' e1
  unfold setI at this
  rw [hj] at this
  exact this
/-- xs[::-1] -/
theorem do_rev {l : List α} {kk : Nat} {q1 q2 q3 : Pos} (ha : DE X a σ G l) : DO X (.Subscript a (.Slice none none (some (.UnaryOp .USub (.Constant (.int 1) kk q1) q2)) q3) pos) σ G l.reverse := fun G1 H1 e1 e2 Q k =>
  ⟨_, pe_revL WE.pe, ha G1 H1 e1 e2 _ fun v G2 H2 g r => by
    obtain ⟨p, vs, rfl, hp, hz, r⟩ := r
    refine ⟨p, vs, rfl, .inl (.inl (g.gh _ _ hp)), fun q hq => ?_⟩
    refine k q vs.reverse G2 _ (g.and (Gr.own (M := []) g.gh hq)) (g.dom _ hq) (Ex.fresh g.gh hq) upd_same (by rw [List.length_reverse]; exact hz) ?_
    have rv : ∀ {vs : List V} {l : List α}, Reps G2 vs l → Reps G2 vs.reverse l.reverse := by
      intro vs l r
      induction r with
      | nil => exact .nil
      | cons r t ih => rw [List.reverse_cons, List.reverse_cons]; exact ih.app (.cons r .nil)
    exact rv r⟩
/-- a fold, what it comes to kept as an equation -/
theorem sj_foldS {l : List α} {Tg : α → L2.St → Hp → L2.St → Prop} {k : S → δ} (T : S → L2.St → Hp → Cs → Prop) (f : S → α → S) (okf : S → α → Prop) (s0 : S) (src : DI X tg iter σ G l) (tgt : SG X tg Tg) (h0 : ∀ G', Ex G G' → T s0 σ G' C)
    (hT : ∀ s σ' G' G'' C', Ex G' G'' → T s σ' G' C' → T s σ' G'' C') (hok : foldOk f okf l s0)
    (hs : ∀ s y σ' σ2 G' C', y ∈ l → Ex G G' → T s σ' G' C' → Tg y σ' G' σ2 → okf s y → SJ B X body σ2 G' C' (JF T) (f s y))
    (hd : ∀ s σ' G' C', s = l.foldl f s0 → Ex G G' → T s σ' G' C' → SJ B X rest σ' G' C' J (k s)) (hp : PassesOwn (model X.prog X.w) X.A X.env X.xe := by exact PassesOwn.never) (hc : X.calm = true := by rfl)
    (hfs : ∀ x, foldedSetIterable iter X.env x = pure x := by intro _; rfl) : SJ B X (.For tg iter body [] pos :: rest) σ G C J (k (l.foldl f s0)) :=
  sj_fold T f okf s0 src tgt h0 hT hok hs (fun σ' G' C' e t => hd _ σ' G' C' rfl e t) hp hc hfs
theorem dc_isN {x : α} (ha : DE X a σ G x) (hb : DE X b σ G ()) (h : ∀ (G : Hp) v, rep G v x → v ≠ V.non) : DC X .Is a b σ G false :=
  dc_cmp op_isN (fun G H u v e r1 r2 Q k => ⟨r2, k _ G H (Gr.refl e) (by rw [decide_eq_false (h G u r1)] <;> rfl)⟩) ha hb
theorem dc_notN {x : α} (ha : DE X a σ G x) (hb : DE X b σ G ()) (h : ∀ (G : Hp) v, rep G v x → v ≠ V.non) : DC X .IsNot a b σ G true :=
  dc_cmp op_notN (fun G H u v e r1 r2 Q k => ⟨r2, k _ G H (Gr.refl e) (by rw [decide_eq_false (h G u r1)] <;> rfl)⟩) ha hb
/-- two cells read -/
theorem On.know2 {G1 H1 : Hp} {i j : Nat} {u v : Addr} {l : List α} {m : List β} (o : On B C G1 H1) (hi : C[i]? = some (u, cl l)) (hj : C[j]? = some (v, cl m)) : ∃ G2, Ex G1 G2 ∧ Ex G2 H1 ∧ rep G2 (.ref u) l ∧ rep G2 (.ref v) m := by
  obtain ⟨ob, h1, h2, vs, rfl, hz, r⟩ := o.at_ i u _ hi
  obtain ⟨ob2, h3, h4, ws, rfl, hz2, r2⟩ := o.at_ j v _ hj
  have e1 : Ex G1 (upd G1 u (.lst vs)) := Ex.new h2
  have q1 : Ex (upd G1 u (.lst vs)) H1 := fun x q hq => by
    by_cases z : x = u
    · subst z; rw [upd_same] at hq; cases hq; exact h1
    · rw [upd_ne z] at hq; exact o.ex x q hq
  by_cases z : v = u
  · subst z
    rw [h1] at h3
    cases h3
    exact ⟨_, e1, q1, ⟨v, vs, rfl, upd_same, hz, Reps.mono e1 r⟩, v, vs, rfl, upd_same, hz2, Reps.mono e1 r2⟩
  · have n2 : upd G1 u (.lst vs) v = none := by rw [upd_ne z]; exact h4
    have e2 : Ex (upd G1 u (.lst vs)) (upd (upd G1 u (.lst vs)) v (.lst ws)) := Ex.new n2
    refine ⟨_, e1.trans e2, fun x q hq => ?_, ⟨u, vs, rfl, e2 _ _ upd_same, hz, Reps.mono (e1.trans e2) r⟩, v, ws, rfl, upd_same, hz2, Reps.mono (e1.trans e2) r2⟩
    by_cases y : x = v
    · subst y; rw [upd_same] at hq; cases hq; exact h3
    · rw [upd_ne y] at hq; exact q1 x q hq
theorem SE.cell2 [Scal γ] {x : γ} {u v : Addr} {l : List α} {m : List β} (i j : Nat) (hi : C[i]? = some (u, cl l)) (hj : C[j]? = some (v, cl m)) (h : ∀ G', Ex G G' → rep G' (.ref u) l → rep G' (.ref v) m → DE X e σ G' x) : SE B X e σ G C x C := fun G1 H1 e1 o Q k => by
  obtain ⟨G2, q1, q2, r, r'⟩ := o.know2 hi hj
  refine h G2 (e1.trans q1) r r' G2 H1 (Ex.refl _) q2 Q fun v G3 H3 g3 r3 => k v G1 H3 (Ex.refl _) (o.grow (Gr.of_ex o.ex g3.hh)) (Scal.any r3)
theorem ST.cell2 {x : Bool} {u v : Addr} {l : List α} {m : List β} (i j : Nat) (hi : C[i]? = some (u, cl l)) (hj : C[j]? = some (v, cl m)) (h : ∀ G', Ex G G' → rep G' (.ref u) l → rep G' (.ref v) m → DT X e σ G' x) : ST B X e σ G C x C := fun G1 H1 e1 o Q k => by
  obtain ⟨G2, q1, q2, r, r'⟩ := o.know2 hi hj
  exact h G2 (e1.trans q1) r r' G2 H1 (Ex.refl _) q2 Q fun G3 H3 g3 => k G1 H3 (Ex.refl _) (o.grow (Gr.of_ex o.ex g3.hh))
theorem SO.cell2 [Scal γ] {x : List γ} {u v : Addr} {l : List α} {m : List β} (i j : Nat) (hi : C[i]? = some (u, cl l)) (hj : C[j]? = some (v, cl m)) (h : ∀ G', Ex G G' → rep G' (.ref u) l → rep G' (.ref v) m → DO X e σ G' x) : SO B X e σ G C x C := fun G1 H1 e1 o Q k => by
  obtain ⟨G2, q1, q2, r, r'⟩ := o.know2 hi hj
  refine h G2 (e1.trans q1) r r' G2 H1 (Ex.refl _) q2 Q fun p vs G3 H3 g3 n1 n2 hp hz r3 => ?_
  have g : Gr [] G1 H1 G1 H3 := Gr.of_ex o.ex g3.hh
  exact k p G1 H3 (Ex.refl _) (o.take_ g n1 (Ex.fresh (q1.trans g3.gg) n2) hp ⟨vs, rfl, hz, reps_any r3⟩) (o.gr.dom _ n1)
/-- handed back by a block that more follows -/
theorem ok_pair {p q : Prop} (h : p ∧ q) : p ∧ q := h
end

section
variable {B : Bs} {X : Cx} {α β γ δ A : Type} [Rep α] [Rep β] [Rep γ] [Rep δ] [Args A] {e a b c tg iter elt : Expr} {ifs : List Expr} {es : List Expr} {σ : L2.St} {G G' : Hp} {C C' Ci C1 C2 C3 Cp : Cs} {pos pos' p2 p pos2 : Pos} {scope : Scope} {sts rest thn els body : List Stmt} {R : VK → Prop} {P : L2.St → Hp → Cs → Prop}
def SI (B : Bs) (X : Cx) (tg iter : Expr) (σ : L2.St) (G : Hp) (C : Cs) (l : List α) (C' : Cs) : Prop :=
  ∀ G1 H1, Ex G G1 → On B C G1 H1 → ∀ R : It → Hp → Prop,
    (∀ (J : It) (Gw : Hp → Prop) (Y : Nat → Hp → V → Hp → Prop) (G2 H2 : Hp), Ex G1 G2 → On B C' G2 H2 → Walk J l.length Gw Y → (∀ H3, Ex G2 H3 → Gw H3) →
      (∀ i G3 H3 x H', i < l.length → Ex G2 G3 → Ex G3 H3 → Y i H3 x H' → ∃ y G4, l[i]? = some y ∧ Gr [] G3 H3 G4 H' ∧ rep G4 x y) → l.length ≤ sizeLine → R J H2) → ∃ wi, PI X tg iter wi ∧ wi σ H1 R
theorem DI.si {l : List α} (h : DI X tg iter σ G l) : SI B X tg iter σ G C l C := fun G1 H1 e1 o R k => h G1 H1 e1 o.ex R fun J Gw Y G2 H2 g wk hG hY hz => k J Gw Y G2 H2 g.gg (o.grow g) wk hG hY hz
theorem si_list {l : List α} (h : SE B X e σ G C l C') : SI B X tg e σ G C l C' := fun G1 H1 e1 o R k =>
  ⟨_, pi_list WE.pe, h G1 H1 e1 o _ fun v G2 H2 g o2 r => by
    obtain ⟨p, vs, rfl, hp, hz, r⟩ := r
    refine ⟨p, rfl, ⟨vs, .inl (.inl (o2.ex _ _ hp))⟩, ?_⟩
    refine k (Itl X.K p) (fun H => SqL X.K H p vs) _ G2 H2 g o2 (by rw [← r.len]; exact walk_list (xs := vs)) (fun H3 e3 => .inl (.inl (e3 _ _ hp))) (fun i G3 H3 x H' hi e3 e4 y => ?_) (by rw [← r.len]; exact hz)
    obtain ⟨rfl, hy⟩ := y
    obtain ⟨q, h1, h2⟩ := r.get hy
    exact ⟨q, G3, h1, Gr.refl e4, Rep.mono e3 h2⟩⟩
theorem si_rangeI {n : Int} (hm : X.mg ("range" : Str) = none) (h : SE B X e σ G C n C') (hn : -(2 ^ 24) ≤ n ∧ n ≤ 2 ^ 24) (hg : Gl X "range" := by rfl) (he : starEach [e] X.env = (false, eval e X.env) :: starEach [] X.env := by rfl) (hs : starEach [e] X.env = [(false, eval e X.env)] := by rfl) :
    SI B X tg (.Call (.Name "range" p) [e] [] pos) σ G C (irange n) C' := fun G1 H1 e1 o R k =>
  ⟨_, pi_range1 hg hm (pa_cons WE.pe pa_nil he) hs, h G1 H1 e1 o _ fun v G2 H2 g o2 r => by
    have hz : n.toNat ≤ 2 ^ 24 := by omega
    have hl : (irange n).length = n.toNat := by unfold irange; rw [List.length_map, List.length_range]
    refine ⟨n, by rw [r] <;> rfl, by omega, by omega, ?_⟩
    refine k _ (fun _ => True) _ G2 H2 g o2 (by rw [hl]; exact walk_range) (fun _ _ => trivial) (fun i G3 H3 x H' hi e3 e4 y => ?_) (by rw [hl]; exact hz)
    obtain ⟨rfl, hy⟩ := y
    rw [hl] at hi
    exact ⟨(i : Int), G3, by unfold irange; rw [List.getElem?_map, List.getElem?_range hi]; rfl, Gr.refl e4, by show x = .int (i : Int); rw [hy]; simp⟩⟩
theorem sb_forS {S ρ : Type} {l : List α} {Tg : α → L2.St → Hp → L2.St → Prop} {Rg : ρ → VK → Prop} (T : S → L2.St → Hp → Cs → Prop) (f : S → α → ρ ⊕ S) (okf : S → α → Prop) (s0 : S) (src : SI B X tg iter σ G C l Ci) (tgt : SG X tg Tg) (h0 : ∀ G', Ex G G' → T s0 σ G' Ci)
    (hT : ∀ s σ' G' G'' C', Ex G' G'' → T s σ' G' C' → T s σ' G'' C') (hok : loopOk f okf l s0)
    (hs : ∀ s y σ' σ2 G' C', y ∈ l → Ex G G' → T s σ' G' C' → Tg y σ' G' σ2 → okf s y → SB B X body σ2 G' C' (fun Q => ∀ r, f s y = .inl r → Rg r Q) (fun σ'' G'' C'' => ∃ s', f s y = .inr s' ∧ T s' σ'' G'' C''))
    (hret : ∀ r Q, loopR f l s0 = .inl r → R Q → Rg r Q) (hd : ∀ s σ' G' C', loopR f l s0 = .inr s → Ex G G' → T s σ' G' C' → SB B X rest σ' G' C' R P) (hp : PassesOwn (model X.prog X.w) X.A X.env X.xe := by exact PassesOwn.never) (hc : X.calm = true := by rfl)
    (hfs : ∀ x, foldedSetIterable iter X.env x = pure x := by intro _; rfl) : SB B X (.For tg iter body [] pos :: rest) σ G C R P := fun G1 H1 e1 o1 D k1 k2 => by
  obtain ⟨g, hg, tg1⟩ := tgt.ex
  have main := src G1 H1 e1 o1 (fun J H2 => ∃ W : Nat → Nat → L2.St → Hp → Prop, (∃ m, W 0 m σ H2) ∧ ∀ i' m σ H, W i' m σ H →
    (J.stop i' H ∧ (WS X rest D) σ H) ∨ (J.go i' H ∧ ∃ N : L2.St → Hp → Prop, (∀ σ' H', N σ' H' → ∃ m', m' < m ∧ W (i' + 1) m' σ' H') ∧ ∀ x H', J.yld i' H x H' → g x σ H' fun σ2 H2 => WS X body { ({ D with nx := WS X rest D } : Ends) with nx := N, ct := N, bk := WS X rest D } σ2 H2)) ?_
  · obtain ⟨wi, hw, q⟩ := main
    exact ⟨_, pss_cons (ps_for hp hc hw hg WS.pss hfs) WS.pss, q⟩
  · intro J Gw Y G2 H2 g2 o2 wk hGw hY hz
    refine for_it wk (D := { D with nx := WS X rest D }) (tb := WS X body) (g := g) (fun n σ' H => ∃ G3 C3 s, Ex G2 G3 ∧ On B C3 G3 H ∧ T s σ' G3 C3 ∧ loopR f l s0 = loopR f (l.drop n) s ∧ loopOk f okf (l.drop n) s)
      ⟨G2, Ci, s0, Ex.refl _, o2, h0 G2 (e1.trans g2), rfl, hok⟩ (fun n σ' H _ ⟨G3, C3, s, e3, o3, _⟩ => hGw H (e3.trans o3.ex)) ?_ ?_
    · rintro n v σ' H H' hn ⟨G3, C3, s, e3, o3, t3, q1, q2⟩ y
      obtain ⟨z, G4, hzl, g4, rz⟩ := hY n G3 H v H' hn e3 o3.ex y
      have hd1 : l.drop n = z :: l.drop (n + 1) := by
        obtain ⟨hl, he⟩ := List.getElem?_eq_some_iff.mp hzl
        rw [List.drop_eq_getElem_cons hl, he]
      rw [hd1] at q1 q2
      obtain ⟨q3, q4⟩ := q2
      have o4 := o3.grow g4
      refine tg1 v z σ' G4 H' g4.gh rz _ fun σ2 ht => ?_
      refine hs s z σ' σ2 G4 C3 (List.mem_of_getElem? hzl) (e1.trans (g2.trans (e3.trans g4.gg))) (hT s σ' G3 G4 C3 g4.gg t3) ht q3 G4 H' (Ex.refl G4) o4 _ (fun r hr => hret r _ ?_ k1) ?_
      · rw [q1]
        unfold loopR
        rw [hr]
      · rintro σ5 G5 H5 C5 e5 o5 ⟨s', hs', t5⟩
        refine ⟨G5, C5, s', e3.trans (g4.gg.trans e5), o5, t5, ?_, q4 s' hs'⟩
        rw [q1]
        conv => lhs; unfold loopR
        rw [hs']
    · rintro σ' H ⟨G3, C3, s, e3, o3, t3, q1, q2⟩
      rw [List.drop_length] at q1
      exact hd s σ' G3 C3 q1 (e1.trans (g2.trans e3)) t3 G3 H (Ex.refl G3) o3 D k1 fun σ5 G5 H5 C5 e5 o5 p5 => k2 σ5 G5 H5 C5 (g2.trans (e3.trans e5)) o5 p5

theorem sj_forS {δ S ρ : Type} {J : Jd δ} {l : List α} {Tg : α → L2.St → Hp → L2.St → Prop} {Rg : ρ → VK → Prop} {inj : ρ → δ} {k : S → δ} (T : S → L2.St → Hp → Cs → Prop) (f : S → α → ρ ⊕ S) (okf : S → α → Prop) (s0 : S) (src : SI B X tg iter σ G C l Ci) (tgt : SG X tg Tg) (h0 : ∀ G', Ex G G' → T s0 σ G' Ci)
    (hT : ∀ s σ' G' G'' C', Ex G' G'' → T s σ' G' C' → T s σ' G'' C') (hok : loopOk f okf l s0)
    (hs : ∀ s y σ' σ2 G' C', y ∈ l → Ex G G' → T s σ' G' C' → Tg y σ' G' σ2 → okf s y → SJ B X body σ2 G' C' (fun b => ((fun Q => ∀ r, b = .inl r → Rg r Q), (fun σ'' G'' C'' => ∃ s', b = .inr s' ∧ T s' σ'' G'' C''))) (f s y))
    (hret : ∀ r Q, (J (inj r)).1 Q → Rg r Q) (hd : ∀ s σ' G' C', loopR f l s0 = .inr s → Ex G G' → T s σ' G' C' → SJ B X rest σ' G' C' J (k s)) (hp : PassesOwn (model X.prog X.w) X.A X.env X.xe := by exact PassesOwn.never) (hc : X.calm = true := by rfl)
    (hfs : ∀ x, foldedSetIterable iter X.env x = pure x := by intro _; rfl) : SJ B X (.For tg iter body [] pos :: rest) σ G C J (elimR (loopR f l s0) inj k) := by
  cases q : loopR f l s0 with
  | inl r =>
    exact sb_forS (Rg := Rg) T f okf s0 src tgt h0 hT hok hs (fun r' Q h h2 => by rw [q] at h; cases h; exact hret r Q h2) (fun s _ _ _ h => by rw [q] at h; cases h) hp hc hfs
  | inr s =>
    exact sb_forS (Rg := Rg) T f okf s0 src tgt h0 hT hok hs (fun r' Q h h2 => by rw [q] at h; cases h) (fun s' σ' G' C' h e t => by rw [q] at h; cases h; exact hd s σ' G' C' q e t) hp hc hfs
theorem sj_foldI {δ S : Type} {J : Jd δ} {l : List α} {Tg : α → L2.St → Hp → L2.St → Prop} {k : S → δ} (T : S → L2.St → Hp → Cs → Prop) (f : S → α → S) (okf : S → α → Prop) (s0 : S) (src : SI B X tg iter σ G C l Ci) (tgt : SG X tg Tg) (h0 : ∀ G', Ex G G' → T s0 σ G' Ci)
    (hT : ∀ s σ' G' G'' C', Ex G' G'' → T s σ' G' C' → T s σ' G'' C') (hok : foldOk f okf l s0)
    (hs : ∀ s y σ' σ2 G' C', y ∈ l → Ex G G' → T s σ' G' C' → Tg y σ' G' σ2 → okf s y → SJ B X body σ2 G' C' (fun b => ((fun _ => True), (fun σ'' G'' C'' => T b σ'' G'' C''))) (f s y))
    (hd : ∀ σ' G' C', Ex G G' → T (l.foldl f s0) σ' G' C' → SJ B X rest σ' G' C' J (k (l.foldl f s0))) (hp : PassesOwn (model X.prog X.w) X.A X.env X.xe := by exact PassesOwn.never) (hc : X.calm = true := by rfl)
    (hfs : ∀ x, foldedSetIterable iter X.env x = pure x := by intro _; rfl) : SJ B X (.For tg iter body [] pos :: rest) σ G C J (k (l.foldl f s0)) := by
  refine sb_forS (ρ := Empty) (Rg := fun r _ => r.elim) T (fun s x => .inr (f s x)) okf s0 src tgt h0 hT (loopOk_fold f okf l s0 hok) (fun s y σ' σ2 G' C' hy e t tt ok G1 H1 e1 o1 D k1 k2 => ?_) (fun r => r.elim) (fun s σ' G' C' h e t => ?_) hp hc hfs
  · exact hs s y σ' σ2 G' C' hy e t tt ok G1 H1 e1 o1 D trivial fun σ3 G3 H3 C3 e3 o3 p3 => k2 σ3 G3 H3 C3 e3 o3 ⟨_, rfl, p3⟩
  · rw [loop_fold] at h
    cases h
    exact hd σ' G' C' e t

theorem sj_foldSS {S δ : Type} {J : Jd δ} {l : List α} {Tg : α → L2.St → Hp → L2.St → Prop} {k : S → δ} (T : S → L2.St → Hp → Cs → Prop) (f : S → α → S) (okf : S → α → Prop) (s0 : S) (src : SI B X tg iter σ G C l Ci) (tgt : SG X tg Tg) (h0 : ∀ G', Ex G G' → T s0 σ G' Ci)
    (hT : ∀ s σ' G' G'' C', Ex G' G'' → T s σ' G' C' → T s σ' G'' C') (hok : foldOk f okf l s0)
    (hs : ∀ s y σ' σ2 G' C', y ∈ l → Ex G G' → T s σ' G' C' → Tg y σ' G' σ2 → okf s y → SJ B X body σ2 G' C' (JF T) (f s y))
    (hd : ∀ s σ' G' C', s = l.foldl f s0 → Ex G G' → T s σ' G' C' → SJ B X rest σ' G' C' J (k s)) (hp : PassesOwn (model X.prog X.w) X.A X.env X.xe := by exact PassesOwn.never) (hc : X.calm = true := by rfl)
    (hfs : ∀ x, foldedSetIterable iter X.env x = pure x := by intro _; rfl) : SJ B X (.For tg iter body [] pos :: rest) σ G C J (k (l.foldl f s0)) :=
  sj_foldI T f okf s0 src tgt h0 hT hok hs (fun σ' G' C' e t => hd _ σ' G' C' rfl e t) hp hc hfs
end

section
variable {B : Bs} {X : Cx} {α β γ δ A : Type} [Rep α] [Rep β] [Rep γ] [Rep δ] [Args A] {e a b c : Expr} {es : List Expr} {σ : L2.St} {G G' : Hp} {C C' C1 C2 C3 : Cs} {pos pos' p2 p : Pos} {x : Str} {f : Addr} {lvl k : Nat} {ps : List Str}
theorem se_callUZ {pre : List β → A → Prop} {g : List β → A → δ × List β} {y : A} {l : List β} {u : Addr} {nm : Str} {pn : Pos} {z : δ} {l' : List β} (i : Nat) (F : Has X.prog X.w X.K X.mg X.base x f lvl ps (SpU kD pre g)) (hr : Rm k X.A) (hu : AtVar X σ nm u) (ha : SA B X es σ G C y C1) (hi : C1[i]? = some (u, cl l)) (hp : pre l y) (hz : g l y = (z, l') := by rfl)
    (hl : lvl ≤ k := by decide) (hg : Gl X x := by rfl) (hdb : (x == ("__debug__" : Str)) = false := by decide) (he : starEach (.Name nm pn :: es) X.env = (false, eval (.Name nm pn) X.env) :: starEach es X.env := by rfl) (hpl : (backTo pos (starEach es X.env)).any (·.1) = false := by rfl) :
    SE B X (.Call (.Name x p) (.Name nm pn :: es) [] pos) σ G C z (C1.set i (u, cl l')) := by
  have q := se_callU (pos := pos) (p := p) i F hr hu ha hi hp hl hg hdb he hpl
  rw [hz] at q
  exact q
theorem so_callUZ {pre : List β → A → Prop} {g : List β → A → List δ × List β} {y : A} {l : List β} {u : Addr} {nm : Str} {pn : Pos} {z : List δ} {l' : List β} (i : Nat) (F : Has X.prog X.w X.K X.mg X.base x f lvl ps (SpU kO pre g)) (hr : Rm k X.A) (hu : AtVar X σ nm u) (ha : SA B X es σ G C y C1) (hi : C1[i]? = some (u, cl l)) (hp : pre l y) (hz : g l y = (z, l') := by rfl)
    (hl : lvl ≤ k := by decide) (hg : Gl X x := by rfl) (hdb : (x == ("__debug__" : Str)) = false := by decide) (he : starEach (.Name nm pn :: es) X.env = (false, eval (.Name nm pn) X.env) :: starEach es X.env := by rfl) (hpl : (backTo pos (starEach es X.env)).any (·.1) = false := by rfl) :
    SO B X (.Call (.Name x p) (.Name nm pn :: es) [] pos) σ G C z (C1.set i (u, cl l')) := by
  have q := so_callU (pos := pos) (p := p) i F hr hu ha hi hp hl hg hdb he hpl
  rw [hz] at q
  exact q
theorem so_sorted {l : List Str} (hm : X.mg ("sorted" : Str) = none) (ha : SE B X a σ G C l C1) (h64 : l.length < 64) (hg : Gl X "sorted" := by rfl)
    (he : starEach [a] X.env = (false, eval a X.env) :: starEach [] X.env := by rfl) (hpl : (backTo pos (starEach [] X.env)).any (·.1) = false := by rfl) : SO B X (.Call (.Name "sorted" p) [a] [] pos) σ G C (srt l) C1 := fun G1 H1 e1 o Q k =>
  ⟨_, pe_callB cr_sortedS hg hm (by decide +kernel) (pa_cons WE.pe pa_nil he) (by decide) (by decide) he hpl, ha G1 H1 e1 o _ fun v G2 H2 e2 o2 r => by
    obtain ⟨p, vs, rfl, hp, hz, r⟩ := r
    obtain ⟨rfl, hw⟩ := reps_strs r
    refine ⟨p, l, rfl, .inl (.inl (o2.ex _ _ hp)), h64, fun ys q hpm hs hq => ?_⟩
    have eq := srt_of hpm hs
    subst eq
    exact k q G2 _ e2 (o2.push hq ⟨_, rfl, by rw [List.length_map, srt_len, ← List.length_map (f := V.str)]; exact hz, strs_reps fun x hx => hw x (mem_srt.mp hx)⟩) (o2.gr.dom _ hq)⟩
end
section
variable {P : Program} {w : World} {K : PySem.W.Frag} {mg : Str → Option Value} {base : Heap} {x qual : Str} {params : Arguments} {body : List Stmt} {scope : Scope} {f : Addr} {N ps : List Str} {k : Nat} {dvs : List V} {fd : FuncData}
variable {A β δ : Type} [Args A] [Rep β] [Rep δ]
theorem binds_all (F : FunD K x qual params body scope dvs [] f fd) (hd : dvs ≠ [])
    (h : ∀ (T : Addr) (kV doc pm : Value) (an : Option Addr) (cdv ct : Value) (us its : List Value), us.length = ps.length → its.length = dvs.length →
      ∃ k, bindArgs (PySem.W.fnOf x qual params body scope (.ref T) kV doc pm an cdv ct) ⟨us, []⟩ = seqItems? (.ref T) >>= k ∧ k (some its.toArray) = pure (ps.zip us)) : Binds K fd ps [] := by
  obtain ⟨ds, h1, h2⟩ := F.binds1 (ps := ps) ps.length dvs.length hd (by omega) (fun T kV doc pm an cdv ct us its l1 l2 => by
    obtain ⟨k, e1, e2⟩ := h T kV doc pm an cdv ct us its l1 l2
    refine ⟨k, e1, ?_⟩
    rw [e2, List.drop_eq_nil_of_le (by omega), List.append_nil])
  rw [List.drop_length] at h1
  cases h1
  exact h2
theorem has_ofd {sp : Sp} (F : ∃ fd, FunD K x qual params body scope dvs [] f fd) (hm : mg x = some (.ref f)) (S : FnScope N ps scope) (hb : ∀ fd, FunD K x qual params body scope dvs [] f fd → Binds K fd ps []) (len : ∀ vs H Q E, sp vs H Q E → vs.length = ps.length)
    (hbody : ∀ (X : Cx), (∃ cdv A outer s H E, X = (cxOf CX0 P w K mg base N qual scope f cdv A outer s H E).nox) → Rm k X.A → ∀ (H : Hp) (vs : List V) (Q : VK) (E : XK), sp vs H Q E → WS X body { nx := fun _ H' => Q .non H', rt := Q } (start N vs) H) : Has P w K mg base x f (k + 1) ps sp := by
  obtain ⟨fd, F⟩ := F
  refine ⟨fd, hm, F.kp, hb fd F, okG F S len fun cdv A outer s H vs Q E hr hsp => ?_⟩
  obtain ⟨t, h1, h2⟩ := hbody _ ⟨cdv, A, outer, s, H, E, rfl⟩ hr H vs Q E hsp
  exact ⟨t, h1.nox, h2⟩
theorem has_Dd {pre : A → Prop} {g : A → δ} (F : ∃ fd, FunD K x qual params body scope dvs [] f fd) (hm : mg x = some (.ref f)) (S : FnScope N ps scope) (hb : ∀ fd, FunD K x qual params body scope dvs [] f fd → Binds K fd ps []) (len : ∀ a G vs, Args.rel (A := A) a G vs → vs.length = ps.length)
    (h : ∀ X, Body P w K mg base N qual scope f X → Rm k X.A → ∀ B vs a G, B.M = [] → Args.rel a G vs → pre a → SB B X body (start N vs) G [] (RD B [] (g a)) (fun _ _ _ => False)) : Has P w K mg base x f (k + 1) ps (SpN kD pre g) :=
  has_ofd F hm S hb (fun vs H Q E ⟨G, a, eG, r, _⟩ => len a G vs r) fun X hX hr H vs Q E ⟨G, a, eG, r, hp, q⟩ => by
    refine h X hX hr ⟨[], G, H⟩ vs a G rfl r hp G H (Ex.refl _) ⟨Gr.refl eG, fun i u c hi => by simp at hi, fun i u c hi => by simp at hi, List.nodup_nil⟩ _ (fun w G' H' o r => q w G' H' o.gr r) fun _ _ _ _ _ _ z => z.elim
theorem has_Nd {pre : A → Prop} (F : ∃ fd, FunD K x qual params body scope dvs [] f fd) (hm : mg x = some (.ref f)) (S : FnScope N ps scope) (hb : ∀ fd, FunD K x qual params body scope dvs [] f fd → Binds K fd ps []) (len : ∀ a G vs, Args.rel (A := A) a G vs → vs.length = ps.length)
    (h : ∀ X, Body P w K mg base N qual scope f X → Rm k X.A → ∀ B vs a G, B.M = [] → Args.rel a G vs → pre a → SB B X body (start N vs) G [] (RD B [] ()) (fun _ _ _ => True)) : Has P w K mg base x f (k + 1) ps (SpN kD pre fun _ => ()) :=
  has_ofd F hm S hb (fun vs H Q E ⟨G, a, eG, r, _⟩ => len a G vs r) fun X hX hr H vs Q E ⟨G, a, eG, r, hp, q⟩ => by
    refine h X hX hr ⟨[], G, H⟩ vs a G rfl r hp G H (Ex.refl _) ⟨Gr.refl eG, fun i u c hi => by simp at hi, fun i u c hi => by simp at hi, List.nodup_nil⟩ _ (fun w G' H' o r => q w G' H' o.gr r) fun σ2 G2 H2 C2 _ o _ => q .non G2 H2 o.gr rfl
end

section
variable {B : Bs} {X : Cx} {α β γ δ A : Type} [Rep α] [Rep β] [Rep γ] [Rep δ] {e a b c : Expr} {es : List Expr} {σ : L2.St} {G G' : Hp} {C C' C1 C2 C3 : Cs} {pos pos' p2 p : Pos} {rest : List Stmt} {R : VK → Prop} {P : L2.St → Hp → Cs → Prop}
theorem sb_parT {x y : Str} {v0 : α} {w0 : β} {px py pt pt2 : Pos} {kt kt2 : Nat} (i j : Nat) (ha : SE B X a σ G C v0 C1) (hb : SE B X b σ G C1 w0 C2) (k : ∀ v w G', Ex G G' → rep G' v v0 → rep G' w w0 → SB B X rest ((σ.set i (some v)).set j (some w)) G' C2 R P) (hN : X.N.Nodup) (hi : X.N[i]? = some x := by rfl) (hj : X.N[j]? = some y := by rfl)
    (hx : L2.Loc X.env.scope x := by first | exact Or.inl rfl | exact Or.inr rfl) (hy : L2.Loc X.env.scope y := by first | exact Or.inl rfl | exact Or.inr rfl) (hc : X.calm = true := by rfl)
    (hf : X.fn x = true ∨ X.env.scope.names.lookup x = some .local := by first | exact .inl rfl | exact .inr rfl) (hf2 : X.fn y = true ∨ X.env.scope.names.lookup y = some .local := by first | exact .inl rfl | exact .inr rfl)
    (hs : swapsWithSole [.Tuple [.Name x px, .Name y py] kt pt] (.Tuple [a, b] kt2 pt2) pos.line X.env = pure false := by rfl) (hw : swappedStores [.Tuple [.Name x px, .Name y py] kt pt] (.Tuple [a, b] kt2 pt2) X.env = pure none := by rfl) (h1 : (assignEach [.Tuple [.Name x px, .Name y py] kt pt] X.env).map (·.2) = [assign (.Tuple [.Name x px, .Name y py] kt pt) X.env] := by rfl)
    (h : starEach [a, b] X.env = (false, eval a X.env) :: starEach [b] X.env := by rfl) (h' : starEach [b] X.env = (false, eval b X.env) :: starEach [] X.env := by rfl)
    (hn : (assignEach [.Name x px, .Name y py] X.env).length = 2 := by rfl) (hst : (assignEach [.Name x px, .Name y py] X.env).findIdx? (·.1) = none := by rfl) : SB B X (.Assign [.Tuple [.Name x px, .Name y py] kt pt] (.Tuple [a, b] kt2 pt2) pos :: rest) σ G C R P := fun G1 H1 e1 o1 D k1 k2 =>
  ⟨_, pss_cons (ps_asg (pe_tup (pa_cons WE.pe (pa_cons WE.pe pa_nil h') h)) (pg_tup hc (pgs_cons (pg_name hN hi hx hf) (pgs_cons (pg_name hN hj hy hf2) pgs_nil)) hn hst) hs hw h1) WS.pss, ha G1 H1 e1 o1 _ fun v G2 H2 e2 o2 r => hb G2 H2 (e1.trans e2) o2 _ fun w G3 H3 e3 o3 r3 => ⟨by show 2 ≤ sizeLine; decide, fun q hq =>
    ⟨q, _, rfl, .inl (.inl upd_same), rfl, v, _, rfl, w, _, rfl, rfl, k v w G3 (e1.trans (e2.trans e3)) (Rep.mono e3 r) r3 G3 _ (Ex.refl _) (o3.grow (Gr.own (M := []) o3.ex hq)) D k1 fun σ4 G4 H4 C4 e4 o4 p4 => k2 σ4 G4 H4 C4 ((e2.trans e3).trans e4) o4 p4⟩⟩⟩
theorem sb_parTO {x y : Str} {v0 : α} {w0 : List β} {px py pt pt2 : Pos} {kt kt2 : Nat} (i j : Nat) (ha : SE B X a σ G C v0 C1) (hb : SO B X b σ G C1 w0 C2) (k : ∀ v u G', Ex G G' → rep G' v v0 → B.H u = none → SB B X rest ((σ.set i (some v)).set j (some (.ref u))) G' (C2 ++ [(u, cl w0)]) R P) (hN : X.N.Nodup) (hi : X.N[i]? = some x := by rfl) (hj : X.N[j]? = some y := by rfl)
    (hx : L2.Loc X.env.scope x := by first | exact Or.inl rfl | exact Or.inr rfl) (hy : L2.Loc X.env.scope y := by first | exact Or.inl rfl | exact Or.inr rfl) (hc : X.calm = true := by rfl)
    (hf : X.fn x = true ∨ X.env.scope.names.lookup x = some .local := by first | exact .inl rfl | exact .inr rfl) (hf2 : X.fn y = true ∨ X.env.scope.names.lookup y = some .local := by first | exact .inl rfl | exact .inr rfl)
    (hs : swapsWithSole [.Tuple [.Name x px, .Name y py] kt pt] (.Tuple [a, b] kt2 pt2) pos.line X.env = pure false := by rfl) (hw : swappedStores [.Tuple [.Name x px, .Name y py] kt pt] (.Tuple [a, b] kt2 pt2) X.env = pure none := by rfl) (h1 : (assignEach [.Tuple [.Name x px, .Name y py] kt pt] X.env).map (·.2) = [assign (.Tuple [.Name x px, .Name y py] kt pt) X.env] := by rfl)
    (h : starEach [a, b] X.env = (false, eval a X.env) :: starEach [b] X.env := by rfl) (h' : starEach [b] X.env = (false, eval b X.env) :: starEach [] X.env := by rfl)
    (hn : (assignEach [.Name x px, .Name y py] X.env).length = 2 := by rfl) (hst : (assignEach [.Name x px, .Name y py] X.env).findIdx? (·.1) = none := by rfl) : SB B X (.Assign [.Tuple [.Name x px, .Name y py] kt pt] (.Tuple [a, b] kt2 pt2) pos :: rest) σ G C R P := fun G1 H1 e1 o1 D k1 k2 =>
  ⟨_, pss_cons (ps_asg (pe_tup (pa_cons WE.pe (pa_cons WE.pe pa_nil h') h)) (pg_tup hc (pgs_cons (pg_name hN hi hx hf) (pgs_cons (pg_name hN hj hy hf2) pgs_nil)) hn hst) hs hw h1) WS.pss, ha G1 H1 e1 o1 _ fun v G2 H2 e2 o2 r => hb G2 H2 (e1.trans e2) o2 _ fun u G3 H3 e3 o3 hB => ⟨by show 2 ≤ sizeLine; decide, fun q hq =>
    ⟨q, _, rfl, .inl (.inl upd_same), rfl, v, _, rfl, .ref u, _, rfl, rfl, k v u G3 (e1.trans (e2.trans e3)) (Rep.mono e3 r) hB G3 _ (Ex.refl _) (o3.grow (Gr.own (M := []) o3.ex hq)) D k1 fun σ4 G4 H4 C4 e4 o4 p4 => k2 σ4 G4 H4 C4 ((e2.trans e3).trans e4) o4 p4⟩⟩⟩
end

theorem InBlk.room {X Y : Cx} {scope : Scope} {k : Nat} (h : InBlk X scope Y) (hr : Rm k X.A) : Rm k Y.A := by
  obtain ⟨⟨s_, H_, C_, cl_, fp_, rfl⟩⟩ := h
  exact hr
end Dn

namespace Dn
open Dn.Rep (rep)
open PySem L2
open PySem.Calls
section
variable {X : Cx} {pins : List (Addr × Obj)} {σ : L2.St} {H : Hp} {s : Shared} {n : Nat} {sp : Sp} {f C : Addr} {fd : FuncData} {ps : List Str}
theorem run_ok {A : Around} {Q : VK} {us : List Value} {vs : List V} (F : FnOk X.prog X.w X.K X.mg X.base CX0 n f fd ps sp) (hr : Room n A) (e0 : Env0 X.prog X.w X.K X.mg X.base A X.stack s H) (hb : Binds X.K fd ps []) (I : Inv X pins σ H s) (r : Vals vs us) (h : ∀ E, sp vs H Q E) :
    wpAny (model X.prog X.w) A (call (.ref f) us) (EP X pins σ Q) X.xe s := by
  have hl := F.len _ _ _ _ (h E0)
  refine wpAny_call (codeAny_mono (F.run A X.stack s H ⟨us, []⟩ us vs Q E0 hr e0 (by
    have := hb s us I.kIn (by rw [List.append_nil, ← r.length]; exact hl)
    simpa using this) r (h E0)) fun r s' hq => ?_)
  cases r with
  | error e => exact pass0 pins σ H s e s' I hq
  | ok fl =>
    cases fl with
    | ret u => exact I.after hq
    | next => exact False.elim hq
    | brk => exact False.elim hq
    | cont => exact False.elim hq
/-- x == y of an own class -/
theorem op_eqOw (F : FnOk X.prog X.w X.K X.mg X.base CX0 n f fd ps sp) (hs : PySem.W.findIn X.K (.ref C) "__eq__" = some (some (.ref f))) (hf : PySem.W.isFn X.K (.ref f) = true) (hb : Binds X.K fd ps []) (hr : Room n X.A) :
    OpR X (compareOp .Eq) (fun x y H Q => ∃ a dx fs b dy gs, x = .ref a ∧ y = .ref b ∧ H a = some (.ins C dx fs) ∧ H b = some (.ins C dy gs) ∧ ∀ E, sp [x, y] H Q E) := by
  intro pins s σ H x y v u Q I rx ry h
  obtain ⟨a, dx, fs, b, dy, gs, rfl, rfl, ha, hb', q⟩ := h
  cases rx
  cases ry
  obtain ⟨mA, J, _⟩ := ins_get I.hok ha
  obtain ⟨mB, J', _⟩ := ins_get I.hok hb'
  obtain ⟨od, J, _⟩ := J.look
  obtain ⟨od', J', _⟩ := J'.look
  obtain ⟨m, hF⟩ := I.fr
  unfold compareOp
  refine PySem.W.cmp_K (op := .Eq) (tb := .ref C) hr.units0 hF I.ok.mod.kin J J'.type (by simp [PySem.W.notFirst]) hs hf ?_
  refine wpAny_mono (run_ok (us := [.ref a, .ref b]) (vs := [.ref a, .ref b]) F hr I.env0 hb I (.cons rfl (.cons rfl .nil)) q) (fun w s' z => ?_) fun _ _ x => x
  obtain ⟨z', H', I', rz, qz⟩ := z
  exact SlX.cmpback rz ⟨z', H', I', rz, qz⟩
theorem ifBound_B {M : Model} {A : Around} {E : Value → Shared → Prop} {K : PySem.W.Frag} {x : Addr} {ox : Obj} {od : Option Obj} {name : Str} {args : List Value} {id : String} {Q : Option Value → Shared → Prop} (X : K.In s.heap) (I : PySem.W.InstAt s.heap x ox C od) (hs : PySem.W.findIn K (.ref C) name = some (some (.builtin id))) (hb : bindSpecial (.builtin id) (.ref x) = pure (.builtin id, [.ref x]))
    (h : wpAny M A (call (.builtin id) (.ref x :: args)) (fun v => Q (some v)) E s) : wpAny M A (callSpecialIfBound? (.ref x) name args) Q E s := by
  simp only [callSpecialIfBound?, bindSpecialIfBound?]
  refine wpAny_holding (wpAny_bind (wpAny_bind (wpAny_bind (I.type.here ((PySem.W.looks_findIn X hs).here ?_)))))
  refine wpAny_bind (wpAny_askSetting (wpAny_ite ?_))
  have fin : wpAny M A (call (.builtin id) ([.ref x] ++ args) >>= fun v => pure (some v)) Q E s := wpAny_bind (wpAny_mono h (fun v s' h' => wpAny_pure h') fun _ _ h' => h')
  rw [hb]
  split
  · exact wpAny_bind (wpAny_pure (wpAny_pure (by exact fin)))
  · exact wpAny_tryCatch (wpAny_bind (wpAny_pure (wpAny_pure (by exact fin))))
/-- what != asks of an own class with its own == -/
structure NeC (K : PySem.W.Frag) (C : Addr) : Prop where
  ne : PySem.W.findIn K (.ref C) "__ne__" = some (some (.builtin "object.__ne__"))
  ob : PySem.W.mroIn K C (.type "object") = some true
theorem op_neOw (F : FnOk X.prog X.w X.K X.mg X.base CX0 n f fd ps sp) (hs : PySem.W.findIn X.K (.ref C) "__eq__" = some (some (.ref f))) (hf : PySem.W.isFn X.K (.ref f) = true) (hb : Binds X.K fd ps []) (hr : Room (n + 1) X.A) (N : NeC X.K C) :
    OpR X (compareOp .NotEq) (fun x y H Q => ∃ a dx fs b dy gs, x = .ref a ∧ y = .ref b ∧ H a = some (.ins C dx fs) ∧ H b = some (.ins C dy gs) ∧ ∀ E, sp [x, y] H (fun v H' => ∃ t, v = .bl t ∧ Q (.bl (!t)) H') E) := by
  intro pins s σ H x y v u Q I rx ry h
  obtain ⟨a, dx, fs, b, dy, gs, rfl, rfl, ha, hb', q⟩ := h
  cases rx
  cases ry
  obtain ⟨mA, J, _⟩ := ins_get I.hok ha
  obtain ⟨mB, J', _⟩ := ins_get I.hok hb'
  obtain ⟨od, J, _⟩ := J.look
  obtain ⟨od', J', _⟩ := J'.look
  obtain ⟨m, hF⟩ := I.fr
  have X1 : X.K.In s.heap := I.kIn
  have sub : PySem.W.Looks (model X.prog X.w) s.heap (isInstance (.ref a) (.type "object")) true := J.type.andThen (PySem.W.looks_mroIn X1 N.ob)
  have hr1 : Room n X.A.in1 := hr.in1
  have core : wpAny (model X.prog X.w) X.A.in1 (call (.ref f) [.ref a, .ref b]) (fun v s' => ∃ t, v = .bool t ∧ EP X pins σ Q (.bool (!t)) s') X.xe s :=
    wpAny_mono (run_ok (us := [.ref a, .ref b]) (vs := [.ref a, .ref b]) F hr1 I.env0.in1 hb I (.cons rfl (.cons rfl .nil)) q) (fun w s' z => by
      obtain ⟨z', H', I', rz, t, et, qz⟩ := z
      subst et
      cases rz
      exact ⟨t, rfl, .bl (!t), H', I', rfl, qz⟩) fun _ _ x => x
  have ent : wpAny (model X.prog X.w) X.A.in1 (Builtin.«object.__ne__» ⟨[.ref a, .ref b], []⟩) (fun r s' => ∃ v, r = .done (.ret v) ∧ ∃ t, v = .bool t ∧ EP X pins σ Q v s') X.xe s := by
    unfold Builtin.«object.__ne__»
    refine wpAny_bind (m := slotArgs "__ne__" 1 _) (wpAny_of_eq (a := (Value.ref a, [Value.ref b])) rfl ?_)
    refine wpAny_bind (wpAny_cRoomFor hr1.units0 ?_)
    refine wpAny_bind (PySem.W.ifBound_K X1 J hs hf (wpAny_mono core (fun v s' hv => ?_) fun _ _ e => e))
    obtain ⟨t, rfl, hq⟩ := hv
    refine wpAny_bind (m := truthy (.bool t)) (wpAny_truthy_bool ?_)
    exact wpAny_pure ⟨_, rfl, _, rfl, hq⟩
  have one : wpAny (model X.prog X.w) X.A (tryCompare (.ref a) (cmpInfo .NotEq).2.1 (.ref b)) (fun r s' => ∃ v, r = some v ∧ EP X pins σ Q v s') X.xe s := by
    unfold tryCompare
    refine wpAny_bind (ifBound_B X1 J N.ne (PySem.F.cmp_object.ne.bind _) (wpAny_call (codeAny_call_builtin PySem.F.cmp_object.ne.plain PySem.F.cmpEntry_ne (PySem.W.check_slot PySem.F.cmpKind_ne PySem.F.cmpSplit_ne sub (PySem.F.cmpArgs_ne _ _) ?_))))
    refine wpAny_mono ent (fun r s' hv => ?_) fun _ _ e => e
    obtain ⟨v, rfl, t, rfl, hq⟩ := hv
    first | exact wpAny_pure ⟨_, rfl, hq⟩ | exact wpAny_pure (wpAny_pure ⟨_, rfl, hq⟩)
  unfold compareOp richCompare
  simp only [oneThing_ref]
  refine wpAny_holding (wpAny_bind (wpAny_cRoomFor (show X.A.units < cLine from hr.units0) ?_))
  refine wpAny_bind (J.type.here (wpAny_bind (J'.type.here ?_)))
  rw [show (Value.ref C != Value.ref C) = false from by simp]
  simp only [Bool.false_eq_true, if_false]
  refine wpAny_bind (wpAny_pure ?_)
  simp only [Bool.false_eq_true, if_false]
  refine wpAny_bind (wpAny_mono one (fun r s' z => ?_) fun _ _ e => e)
  obtain ⟨v, rfl, hq⟩ := z
  exact wpAny_pure hq
theorem bound_K {M : Model} {A : Around} {E : Value → Shared → Prop} {K : PySem.W.Frag} {x : Addr} {ox : Obj} {od : Option Obj} {name : Str} {args : List Value} {Q : Option Value → Shared → Prop} (X : K.In s.heap) (I : PySem.W.InstAt s.heap x ox C od) (hs : PySem.W.findIn K (.ref C) name = some (some (.ref f))) (hf : PySem.W.isFn K (.ref f) = true)
    (h : wpAny M A (call (.ref f) (.ref x :: args)) (fun v => Q (some v)) E s) : wpAny M A (callSpecial? (.ref x) name args) Q E s := by
  unfold callSpecial?
  refine wpAny_bind (wpAny_bind (I.type.here ((PySem.W.looks_findIn X hs).here ?_)))
  have fin : wpAny M A (call (.ref f) ([.ref x] ++ args) >>= fun v => pure (some v)) Q E s := wpAny_bind (wpAny_mono h (fun v s' h' => wpAny_pure h') fun _ _ h' => h')
  refine wpAny_holding (wpAny_bind ((PySem.W.bind_fn X _ (beq_iff_eq.mp hf)).here ?_))
  exact fin
/-- len(x), x of an own class -/
theorem call_lenOw (F : FnOk X.prog X.w X.K X.mg X.base CX0 n f fd ps sp) (hs : PySem.W.findIn X.K (.ref C) "__len__" = some (some (.ref f))) (hf : PySem.W.isFn X.K (.ref f) = true) (hb : Binds X.K fd ps []) (hr : Room (n + 1) X.A) :
    CallR X (.builtin "len") (fun xs H Q => ∃ a dx fs, xs = [.ref a] ∧ H a = some (.ins C dx fs) ∧ ∀ E, sp [.ref a] H (fun v H' => ∃ i : Int, v = .int i ∧ 0 ≤ i ∧ i < 2 ^ 63 ∧ Q (.int i) H') E) := by
  intro pins s σ H xs us Q I r h
  obtain ⟨a, dx, fs, rfl, ha, q⟩ := h
  obtain ⟨u, rfl, ru⟩ := vals1 r
  obtain rfl : u = Value.ref a := ru
  obtain ⟨mA, J, _⟩ := ins_get I.hok ha
  obtain ⟨od, J, _⟩ := J.look
  have hr1 : Room n X.A.in1 := hr.in1
  refine Calls.call_function_entry kind_len plain_len entry_len (args_len1 _) ?_
  unfold Builtin.«len»
  refine wpAny_bind (m := oneArg "len" _) (wpAny_pure ?_)
  refine wpAny_bind (m := callSpecial? (.ref a) (PySem.Str.ofString "__len__")) (bound_K I.kIn J hs hf (wpAny_mono (run_ok (us := [.ref a]) (vs := [.ref a]) F hr1 I.env0.in1 hb I (.cons rfl .nil) q) (fun w s' z => ?_) fun _ _ e => e))
  obtain ⟨z', H', I', rz, i, ei, h0, h1, qz⟩ := z
  subst ei
  obtain ⟨t, rfl⟩ := (show ∃ t, w = Value.int i t from rz)
  refine wpAny_bind (wpAny_holding (wpAny_pure ?_))
  refine wpAny_bind (wpAny_letGo ?_)
  show wpAny _ _ (if i < 0 then _ else _) _ _ _
  rw [if_neg (by omega)]
  show wpAny _ _ (if i ≥ 2 ^ 63 then _ else _) _ _ _
  rw [if_neg (by omega)]
  exact wpAny_bind (wpAny_mkInt (wpAny_pure ⟨_, rfl, .int i, H', I'.tok _, ⟨_, rfl⟩, qz⟩))
end
end Dn

namespace Dn
open Dn.Rep (rep)
open PySem L2
abbrev AlE : Type := He.AlD × Bool
def obsE (n : Nat) (fa : List He.Fa) (fn : List He.DefD) (ex : PySem.W.Frag → Bool) (g : Addr → Option Obj) : AlE := (He.obsD fa fn (He.frG g (He.asD g n)), ex (He.frG g (He.asD g n)))
structure SaysE (fa : List He.Fa) (fn : List He.DefD) (ex : PySem.W.Frag → Bool) (K : PySem.W.Frag) : Prop where
  d : He.SaysD fa fn K
  more : ex K = true
def hookE (n : Nat) (fa : List He.Fa) (fn : List He.DefD) (ex : PySem.W.Frag → Bool) : PySem.W.Hook where
  α := AlE
  obs := fun s => obsE n fa fn ex s.heap.get?
  val := fun _ => (He.valD fn, true)
  says := fun _ h => ∃ K : PySem.W.Frag, K.In h ∧ SaysE fa fn ex K
  of := fun _ _ e => ⟨_, He.frG_in, congrArg (fun z : AlE => z.1) e, congrArg (fun z : AlE => z.2) e⟩
  keeps := fun _ _ _ ⟨K, hK, c⟩ k => ⟨K, PySem.W.Frag.In.keeps hK k, c⟩
theorem obsE_eq {n : Nat} {fa : List He.Fa} {fn : List He.DefD} {ex : PySem.W.Frag → Bool} {g : Addr → Option Obj} {s : Shared} (h : ∀ a, g a = s.heap.get? a) : obsE n fa fn ex g = (hookE n fa fn ex).obs s := by
  have e : g = s.heap.get? := funext h
  rw [e] <;> rfl
/-- what isinstance asks of the class x -/
def insB (x : Str) (K : PySem.W.Frag) : Bool :=
  He.eqO (PySem.W.findIn K (.ref (He.ga K x)) "__class__") (some (some (.builtin "object.__class__"))) && (He.eqO (PySem.W.specialIn K (.builtin "object.__class__") "__get__") (some (some (.builtin "getset_descriptor.__get__"))) &&
    (decide (PySem.W.takesIn K (.builtin "object.__class__") = some true) && (decide (PySem.W.mroIn K (He.ga K x) (.type "object") = some true) && decide (PySem.W.kitOne K (.ref (He.ga K x)) (.ref (He.ga K x)) = some true))))
theorem insB_ok {x : Str} {K : PySem.W.Frag} (c : Cls K (He.ga K x)) (h : insB x K = true) : C8.InsC K (He.ga K x) := by
  obtain ⟨h1, h⟩ := He.ba h
  obtain ⟨h2, h⟩ := He.ba h
  obtain ⟨h3, h⟩ := He.ba h
  obtain ⟨h4, h5⟩ := He.ba h
  exact ⟨c, He.eqO_ok h1, He.eqO_ok h2, of_decide_eq_true h3, of_decide_eq_true h4, of_decide_eq_true h5⟩

/-- exactly this -/
def eqc (o : HO) : Cont := ⟨fun _ o' => o' = o, fun _ h => h⟩
/-- instances of C as data: ic tells what the object holds -/
class Inst (δ : Type) (C : outParam Addr) where
  ic : δ → Cont
  ins : ∀ {x : δ} {G : Hp} {o : HO}, (ic x).ok G o → ∃ dx fs, o = .ins C dx fs
@[reducible] def instRep {δ : Type} (ic : δ → Cont) : Rep δ := ⟨fun G v x => ∃ p o, v = .ref p ∧ G p = some o ∧ (ic x).ok G o, fun e ⟨p, o, h1, h2, h3⟩ => ⟨p, o, h1, e _ _ h2, (ic _).mono e h3⟩⟩

section
variable {B : Bs} {X : Cx} {α β γ δ A : Type} [Rep α] [Rep β] [Rep γ] [Args A] {e a b c : Expr} {es : List Expr} {σ : L2.St} {G G' : Hp} {C C' C1 C2 C3 : Cs} {pos pos' p2 p : Pos} {x : Str} {f Cl : Addr} {lvl k : Nat} {ps : List Str} {rest : List Stmt} {R : VK → Prop} {P : L2.St → Hp → Cs → Prop}
/-- e.f -/
theorem de_fld {x : α} {y : β} {fl : Str} (c : Cls X.K Cl) (n : NoAttr X.K Cl fl) (h : ∀ G v, rep G v x → ∃ p dx fs w, v = .ref p ∧ G p = some (.ins Cl dx fs) ∧ fs.lookup fl = some w ∧ rep G w y) (ha : DE X e σ G x)
    (hb : attributeBase e fl X.env (eval e X.env) = eval e X.env := by rfl) : DE X (.Attribute e fl pos) σ G y := fun G1 H1 e1 e2 Q k =>
  ⟨_, pe_fld WE.pe hb, ha G1 H1 e1 e2 _ fun v G2 H2 g r => by
    obtain ⟨p, dx, fs, w, rfl, hp, hl, ry⟩ := h G2 v r
    exact ⟨p, Cl, dx, fs, w, rfl, g.gh _ _ hp, c, n, hl, k w G2 H2 g ry⟩⟩
/-- self.f = e, self a cell -/
theorem sb_fld {nm fl : Str} {v0 : α} {u : Addr} {dx : Addr} {fs : List (Str × V)} {tpos : Pos} (i : Nat) (hu : AtVar X σ nm u) (c : Cls X.K Cl) (n : NoAttr X.K Cl fl) (he : SE B X e σ G C v0 C1) (hi : C1[i]? = some (u, eqc (.ins Cl dx fs))) (hl : fs.length < 1000)
    (k : ∀ v G', Ex G G' → rep G' v v0 → SB B X rest σ G' (C1.set i (u, eqc (.ins Cl dx (putF fl v fs)))) R P)
    (hs : swapsWith e (some (.Attribute (.Name nm pos') fl tpos)) pos.line X.env = pure false := by rfl) : SB B X (.Assign [.Attribute (.Name nm pos') fl tpos] e pos :: rest) σ G C R P := fun G1 H1 e1 o D k1 k2 =>
  ⟨_, pss_cons (ps_fld WE.pe WE.pe hs) WS.pss, he G1 H1 e1 o _ fun v G2 H2 e2 o2 r => hu.we (by
    obtain ⟨ob, h1, h2, h3⟩ := o2.at_ i u _ hi
    have h3' : ob = .ins Cl dx fs := h3
    subst h3'
    refine ⟨u, Cl, dx, fs, rfl, h1, c, n, hl, ?_⟩
    exact k v G2 (e1.trans e2) r G2 _ (Ex.refl _) (o2.put hi (show _ = _ from rfl)) D k1 fun σ3 G3 H3 C3 e3 o3 p3 => k2 σ3 G3 H3 C3 (e2.trans e3) o3 p3)⟩
/-- isinstance(e, C) -/
theorem de_isC {x : α} {nm : Str} (c : C8.InsC X.K Cl) (hm : X.mg ("isinstance" : Str) = none) (hm2 : X.mg nm = some (.ref Cl)) (h : ∀ G v, rep G v x → ∃ p dx fs, v = .ref p ∧ G p = some (.ins Cl dx fs)) (ha : DE X a σ G x) (hg : Gl X "isinstance" := by rfl) (hg2 : Gl X nm := by rfl) (hd2 : (nm == ("__debug__" : Str)) = false := by decide)
    (he : starEach [a, .Name nm p2] X.env = (false, eval a X.env) :: starEach [.Name nm p2] X.env := by rfl) (he2 : starEach [.Name nm p2] X.env = (false, eval (.Name nm p2) X.env) :: starEach [] X.env := by rfl) (hpl : (backTo pos (starEach [.Name nm p2] X.env)).any (·.1) = false := by rfl) :
    DE X (.Call (.Name "isinstance" p) [a, .Name nm p2] [] pos) σ G true := fun G1 H1 e1 e2 Q k =>
  ⟨_, pe_callB (C8.call_isC c) hg hm (by decide +kernel) (pa_cons WE.pe (pa_cons (pe_glob hg2 hm2 (show RelV (.ref Cl) (.ref Cl) from rfl) hd2) pa_nil he2) he) (by decide) (by decide) he hpl, ha G1 H1 e1 e2 _ fun v G2 H2 g r1 => by
    obtain ⟨p, dx, fs, rfl, hp⟩ := h G2 v r1
    exact ⟨p, dx, fs, rfl, g.gh _ _ hp, k _ G2 H2 g rfl⟩⟩
end

structure HasF (P : Program) (w : World) (K : PySem.W.Frag) (mg : Str → Option Value) (base : Heap) (f : Addr) (lvl : Nat) (ps : List Str) (sp : Sp) : Prop where
  ex : ∃ fd, Binds K fd ps [] ∧ FnG P w K mg base CX0 lvl f fd ps sp
section
variable {P : Program} {w : World} {K : PySem.W.Frag} {mg : Str → Option Value} {base : Heap} {x qual : Str} {params : Arguments} {body : List Stmt} {scope : Scope} {f : Addr} {N ps : List Str} {k : Nat}
variable {A β δ : Type} [Args A] [Rep β]
theorem hasF_of {sp : Sp} (F : ∃ fd, FunD K x qual params body scope [] [] f fd) (S : FnScope N ps scope) (hb : BindOk x qual params body scope ps) (len : ∀ vs H Q E, sp vs H Q E → vs.length = ps.length)
    (hbody : ∀ (X : Cx), (∃ cdv A outer s H E, X = (cxOf CX0 P w K mg base N qual scope f cdv A outer s H E).nox) → Rm k X.A → ∀ (H : Hp) (vs : List V) (Q : VK) (E : XK), sp vs H Q E → WS X body { nx := fun _ H' => Q .non H', rt := Q } (start N vs) H) : HasF P w K mg base f (k + 1) ps sp := by
  obtain ⟨fd, F⟩ := F
  refine ⟨fd, F.bindsN hb, okG F S len fun cdv A outer s H vs Q E hr hsp => ?_⟩
  obtain ⟨t, h1, h2⟩ := hbody _ ⟨cdv, A, outer, s, H, E, rfl⟩ hr H vs Q E hsp
  exact ⟨t, h1.nox, h2⟩
variable [Rep δ]
/-- a def that may run whatever is under way: an own == -/
structure HasE (P : Program) (w : World) (K : PySem.W.Frag) (mg : Str → Option Value) (base : Heap) (f : Addr) (lvl : Nat) (ps : List Str) (sp : Sp) : Prop where
  ex : ∃ fd, Binds K fd ps [] ∧ FnOk P w K mg base CX0 lvl f fd ps sp
theorem hasE_D {pre : A → Prop} {g : A → δ} (F : ∃ fd, FunD K x qual params body scope [] [] f fd) (S : FnScope N ps scope) (hb : BindOk x qual params body scope ps) (len : ∀ a G vs, Args.rel (A := A) a G vs → vs.length = ps.length)
    (h : ∀ X, Body P w K mg base N qual scope f X → Room k X.A → ∀ B vs a G, B.M = [] → Args.rel a G vs → pre a → SB B X body (start N vs) G [] (RD B [] (g a)) (fun _ _ _ => False)) : HasE P w K mg base f (k + 1) ps (SpN kD pre g) := by
  obtain ⟨fd, F⟩ := F
  refine ⟨fd, F.bindsN hb, F.ok S (fun vs H Q E ⟨G, a, eG, r, _⟩ => len a G vs r) fun cdv A outer s H vs Q E hr ⟨G, a, eG, r, hp, q⟩ => ?_⟩
  obtain ⟨t, h1, h2⟩ := h _ ⟨cdv, A, outer, s, H, E, rfl⟩ hr ⟨[], G, H⟩ vs a G rfl r hp G H (Ex.refl _) ⟨Gr.refl eG, fun i u c hi => by simp at hi, fun i u c hi => by simp at hi, List.nodup_nil⟩ { nx := fun _ H' => Q .non H', rt := Q } (fun w G' H' o r => q w G' H' o.gr r) fun _ _ _ _ _ _ z => z.elim
  exact ⟨t, h1.nox, h2⟩
theorem hasF_D {pre : A → Prop} {g : A → δ} (F : ∃ fd, FunD K x qual params body scope [] [] f fd) (S : FnScope N ps scope) (hb : BindOk x qual params body scope ps) (len : ∀ a G vs, Args.rel (A := A) a G vs → vs.length = ps.length)
    (h : ∀ X, Body P w K mg base N qual scope f X → Rm k X.A → ∀ B vs a G, B.M = [] → Args.rel a G vs → pre a → SB B X body (start N vs) G [] (RD B [] (g a)) (fun _ _ _ => False)) : HasF P w K mg base f (k + 1) ps (SpN kD pre g) :=
  hasF_of F S hb (fun vs H Q E ⟨G, a, eG, r, _⟩ => len a G vs r) fun X hX hr H vs Q E ⟨G, a, eG, r, hp, q⟩ => by
    refine h X hX hr ⟨[], G, H⟩ vs a G rfl r hp G H (Ex.refl _) ⟨Gr.refl eG, fun i u c hi => by simp at hi, fun i u c hi => by simp at hi, List.nodup_nil⟩ _ (fun w G' H' o r => q w G' H' o.gr r) fun _ _ _ _ _ _ z => z.elim
theorem hasF_O {pre : A → Prop} {g : A → List δ} (F : ∃ fd, FunD K x qual params body scope [] [] f fd) (S : FnScope N ps scope) (hb : BindOk x qual params body scope ps) (len : ∀ a G vs, Args.rel (A := A) a G vs → vs.length = ps.length)
    (h : ∀ X, Body P w K mg base N qual scope f X → Rm k X.A → ∀ B vs a G, B.M = [] → Args.rel a G vs → pre a → SB B X body (start N vs) G [] (RO B [] (g a)) (fun _ _ _ => False)) : HasF P w K mg base f (k + 1) ps (SpN kO pre g) :=
  hasF_of F S hb (fun vs H Q E ⟨G, a, eG, r, _⟩ => len a G vs r) fun X hX hr H vs Q E ⟨G, a, eG, r, hp, q⟩ => by
    refine h X hX hr ⟨[], G, H⟩ vs a G rfl r hp G H (Ex.refl _) ⟨Gr.refl eG, fun i u c hi => by simp at hi, fun i u c hi => by simp at hi, List.nodup_nil⟩ _ (fun p G' H' o hB => q _ G' H' o.gr ?_) fun _ _ _ _ _ _ z => z.elim
    obtain ⟨ob, h1, h2, h3⟩ := o.at_ 0 p _ rfl
    exact ⟨p, rfl, hB, h2, ob, h1, h3⟩
/-- __init__: the new object at u, empty, gets what ic says -/
def SpI {ε : Type} (Cl : Addr) (ic : ε → Cont) (pre : A → Prop) (g : A → ε) : Sp := fun vs H Q _ => ∃ G u dx a r, vs = .ref u :: r ∧ Ex G H ∧ G u = none ∧ H u = some (.ins Cl dx []) ∧ Args.rel a G r ∧ pre a ∧
  ∀ G' H', Gr [u] G H G' H' → (∃ o, H' u = some o ∧ (ic (g a)).ok G' o) → Q .non H'
/-- the end of an __init__ -/
def JI {ε : Type} (ic : ε → Cont) (u : Addr) : Jd ε := fun x => (fun _ => True, fun _ G C => ∃ o, C.take 1 = [(u, eqc o)] ∧ (ic x).ok G o)
theorem hasF_I {ε : Type} {Cl : Addr} {ic : ε → Cont} {pre : A → Prop} {g : A → ε} (F : ∃ fd, FunD K x qual params body scope [] [] f fd) (S : FnScope N ps scope) (hb : BindOk x qual params body scope ps) (len : ∀ a G vs, Args.rel (A := A) a G vs → vs.length + 1 = ps.length)
    (h : ∀ X, Body P w K mg base N qual scope f X → Rm k X.A → ∀ B u dx vs a G, B.M = [u] → Args.rel a G vs → pre a → SJ B X body (start N (.ref u :: vs)) G [(u, eqc (.ins Cl dx []))] (JI ic u) (g a)) : HasF P w K mg base f (k + 1) ps (SpI Cl ic pre g) :=
  hasF_of F S hb (fun vs H Q E ⟨G, u, dx, a, r, ev, eG, hu, ho, hr, _⟩ => by rw [ev]; exact len a G r hr) fun X hX hr H vs Q E ⟨G, u, dx, a, r, ev, eG, hu, ho, hrel, hp, q⟩ => by
    subst ev
    refine h X hX hr ⟨[u], G, H⟩ u dx r a G rfl hrel hp G H (Ex.refl _) ⟨Gr.refl eG, fun i v c hi => ?_, fun i v c hi => ?_, by simp⟩ _ trivial fun σ2 G2 H2 C2 _ o ⟨ob, hC, hok⟩ => ?_
    · have e : i = 0 := by
        have := (List.getElem?_eq_some_iff.mp hi).1
        simp at this
        exact this
      subst e
      cases hi
      exact ⟨_, ho, hu, rfl⟩
    · have e : i = 0 := by
        have := (List.getElem?_eq_some_iff.mp hi).1
        simp at this
        exact this
      subst e
      cases hi
      exact .inl (List.mem_singleton.mpr rfl)
    · have o' := o.first 1
      rw [hC] at o'
      obtain ⟨ob', h1, h2, h3⟩ := o'.at_ 0 u _ rfl
      have h3' : ob' = ob := h3
      subst h3'
      exact q G2 H2 o'.gr ⟨ob', h1, hok⟩
end
section
variable {B : Bs} {X : Cx} {α β γ δ A : Type} [Rep α] [Rep β] [Rep γ] [Args A] {e a b c : Expr} {es : List Expr} {σ : L2.St} {G G' : Hp} {C C' C1 C2 C3 : Cs} {pos pos' p2 p apos : Pos} {x m : Str} {f Cl : Addr} {lvl k : Nat} {ps : List Str}
/-- Cl(..) -/
theorem we_make {ε : Type} {ic : ε → Cont} {pre : A → Prop} {g : A → ε} {y : A} {H1 : Hp} {Q : VK} (F : HasF X.prog X.w X.K X.mg X.base f lvl ps (SpI Cl ic pre g)) (M : Mk X.K Cl f) (hm : X.mg x = some (.ref Cl)) (hr : Rm k X.A) (ha : DA X (e :: es) σ G y) (hp : pre y) (e1 : Ex G H1)
    (k0 : ∀ q G3 H3 o, Gr [] G H1 G3 H3 → G3 q = some o → (ic (g y)).ok G3 o → Q (.ref q) H3)
    (hl : lvl + 1 ≤ k := by decide) (hg : Gl X x := by rfl) (hdb : (x == ("__debug__" : Str)) = false := by decide)
    (he : starEach (e :: es) X.env = (false, eval e X.env) :: starEach es X.env := by rfl) (hpl : (backTo pos (starEach es X.env)).any (·.1) = false := by rfl) : WE X (.Call (.Name x p) (e :: es) [] pos) σ H1 Q := by
  obtain ⟨fd, hb, F⟩ := F.ex
  refine ⟨_, pe_makeG M F (hr.mono hl) hg hm hb .nil pass0 WA.pa hdb he hpl, ?_⟩
  refine ha G H1 (Ex.refl _) e1 _ fun vs G2 H2 g2 r => fun u dx n1 n2 ne => ?_
  have hex : Ex G2 (upd (upd H2 dx (.own u)) u (.ins Cl dx [])) := (g2.gh.trans (Ex.new n2)).trans (Ex.new (by rw [upd_ne (Ne.symm ne)]; exact n1))
  refine ⟨G2, u, dx, y, vs ++ [], rfl, hex, Ex.fresh g2.gh n1, upd_same, by rw [List.append_nil]; exact r, hp, fun G3 H3 g3 ⟨o, h1, h2⟩ => ⟨rfl, ?_⟩⟩
  have ga : Gr [] G2 H2 G2 (upd (upd H2 dx (.own u)) u (.ins Cl dx [])) := Gr.of_ex g2.gh ((Ex.new n2).trans (Ex.new (by rw [upd_ne (Ne.symm ne)]; exact n1)))
  have gb : Gr [] G2 H2 G3 H3 := ga.trans g3 fun z hz => .inr (by rw [List.mem_singleton.mp hz]; exact n1)
  have gc := (g2.and gb)
  have gd := gc.freeze h1 (g2.dom _ n1)
  have hx : Ex G3 (upd G3 u o) := fun z q hq => by
    by_cases w : z = u
    · subst w; rw [gc.gh _ _ hq] at h1; cases h1; exact upd_same
    · rw [upd_ne w]; exact hq
  exact k0 u _ H3 o gd upd_same ((ic (g y)).mono hx h2)
/-- e.m(..), a method that changes nothing -/
theorem de_methZ {r : α} {pre : α × A → Prop} {g : α × A → β} {y : A} {z : β} {pl : Sem Bool} (F : HasF X.prog X.w X.K X.mg X.base f lvl ps (SpN kD pre g)) (c : Cls X.K Cl) (hm : Meth X.K Cl m f) (hr : Rm k X.A) (h : ∀ G v, rep G v r → ∃ p dx fs, v = .ref p ∧ G p = some (.ins Cl dx fs) ∧ fs.lookup m = none)
    (ho : DE X a σ G r) (ha : DA X (e :: es) σ G y) (hp : pre (r, y)) (hz : g (r, y) = z := by rfl) (hl : lvl ≤ k := by decide) (hst : starEach (e :: es) X.env = (false, eval e X.env) :: starEach es X.env := by rfl) (hpl : (backTo pos (starEach es X.env)).any (·.1) = false := by rfl)
    (ht : eval (.Call (.Attribute a m apos) (e :: es) [] pos) X.env = (do
      let ov ← eval a X.env
      standAt apos.atName
      let (f, first) ← holding [ov] (getMethod ov m pl)
      callWith pos f first (backTo pos (starEach (e :: es) X.env)) (backToKw pos (keywordEach [] X.env))) := by rfl) : DE X (.Call (.Attribute a m apos) (e :: es) [] pos) σ G z := fun G1 H1 e1 e2 Q k => by
  obtain ⟨fd, hb, F⟩ := F.ex
  refine ⟨_, pe_methG WE.pe c hm F (hr.mono hl) hb .nil pass0 WA.pa hst hpl ht, ho G1 H1 e1 e2 _ fun v G2 H2 g2 r2 => ?_⟩
  obtain ⟨q, dx, fs, rfl, hq, hlk⟩ := h G2 v r2
  refine ⟨q, dx, fs, rfl, g2.gh _ _ hq, hlk, ha G2 H2 (e1.trans g2.gg) g2.gh _ fun vs G3 H3 g3 r3 => ?_⟩
  exact ⟨G3, (r, y), g3.gh, ⟨_, _, rfl, Rep.mono g3.gg r2, by rw [List.append_nil]; exact r3⟩, hp, fun w G4 H4 g4 r4 => k w G4 H4 ((g2.and g3).and g4) (hz ▸ r4)⟩
theorem de_meth0Z {r : α} {pre : α × Unit → Prop} {g : α × Unit → β} {z : β} {pl : Sem Bool} (F : HasF X.prog X.w X.K X.mg X.base f lvl ps (SpN kD pre g)) (c : Cls X.K Cl) (hm : Meth X.K Cl m f) (hr : Rm k X.A) (h : ∀ G v, rep G v r → ∃ p dx fs, v = .ref p ∧ G p = some (.ins Cl dx fs) ∧ fs.lookup m = none)
    (ho : DE X a σ G r) (hp : pre (r, ())) (hz : g (r, ()) = z := by rfl) (hl : lvl ≤ k := by decide)
    (ht : eval (.Call (.Attribute a m apos) [] [] pos) X.env = (do
      let ov ← eval a X.env
      standAt apos.atName
      let (f, first) ← holding [ov] (getMethod ov m pl)
      callWith pos f first (backTo pos (starEach [] X.env)) (backToKw pos (keywordEach [] X.env))) := by rfl) : DE X (.Call (.Attribute a m apos) [] [] pos) σ G z := fun G1 H1 e1 e2 Q k => by
  obtain ⟨fd, hb, F⟩ := F.ex
  refine ⟨_, pe_meth0G WE.pe c hm F (hr.mono hl) hb .nil pass0 ht, ho G1 H1 e1 e2 _ fun v G2 H2 g2 r2 => ?_⟩
  obtain ⟨q, dx, fs, rfl, hq, hlk⟩ := h G2 v r2
  refine ⟨q, dx, fs, rfl, g2.gh _ _ hq, hlk, ?_⟩
  exact ⟨G2, (r, ()), g2.gh, ⟨_, _, rfl, r2, rfl⟩, hp, fun w G4 H4 g4 r4 => k w G4 H4 (g2.and g4) (hz ▸ r4)⟩
/-- == of an own class, where it holds -/
theorem dc_eqOwn {x y : α} {pre : α × α × Unit → Prop} {g0 : α × α × Unit → Bool} {n : Nat} (F : HasE X.prog X.w X.K X.mg X.base f n ps (SpN kD pre g0)) (hm : Meth X.K Cl "__eq__" f) (hr : Rm k X.A) (h : ∀ G v (r : α), rep G v r → ∃ p dx fs, v = .ref p ∧ G p = some (.ins Cl dx fs))
    (ha : DE X a σ G x) (hb : DE X b σ G y) (hp : pre (x, y, ()) ∧ g0 (x, y, ()) = true) (hl : n ≤ k := by decide) : DC X .Eq a b σ G true := by
  obtain ⟨fd, hbn, F⟩ := F.ex
  let R : Addr → Addr → Hp → Prop := fun p q H => ∃ G, Ex G H ∧ rep G (.ref p) x ∧ rep G (.ref q) y
  have F2 : FnOk X.prog X.w X.K X.mg X.base CX0 n f fd ps (spEq R) := F.imp fun vs H Q E ⟨p, q, ev, ⟨G, eG, r1, r2⟩, hq⟩ =>
    ⟨G, (x, y, ()), eG, ⟨_, _, ev, r1, _, _, rfl, r2, rfl⟩, hp.1, fun w G' H' g r => by
      have e : w = .bl true := by rw [← hp.2]; exact r
      rw [e]
      exact hq H' g.hh⟩
  refine dc_cmp (op_eqG (rcG_ins (C := Cl) (R := R) F2 hm.at_ hm.fn hbn pass0) (hr.room.mono hl)) (fun G H u v e r1 r2 Q k => ?_) ha hb
  obtain ⟨p, dx, fs, rfl, hpp⟩ := h G u x r1
  obtain ⟨q, dy, gs, rfl, hqq⟩ := h G v y r2
  exact ⟨⟨p, q, dx, dy, fs, gs, rfl, rfl, e _ _ hpp, e _ _ hqq, G, e, r1, r2⟩, fun H' eH => k _ G H' (Gr.of_ex e eH) rfl⟩
end

theorem HasF.data {P : Program} {w : World} {K : PySem.W.Frag} {mg : Str → Option Value} {base : Heap} {A δ : Type} [Args A] [Rep δ] {f : Addr} {lvl : Nat} {ps : List Str} {pre : A → Prop} {g : A → List δ} (F : HasF P w K mg base f lvl ps (SpN kO pre g)) : HasF P w K mg base f lvl ps (SpN kD pre g) := by
  obtain ⟨fd, hb, F⟩ := F.ex
  refine ⟨fd, hb, F.imp fun vs H Q E ⟨G, a, eG, r, hp, q⟩ => ⟨G, a, eG, r, hp, fun w G' H' g' hk => ?_⟩⟩
  obtain ⟨p, rfl, n1, n2, o, h3, vs, rfl, hz, r3⟩ := hk
  refine q _ (upd G' p (.lst vs)) H' (g'.freeze h3 n1) ⟨p, vs, rfl, upd_same, hz, Reps.mono (fun x u hq => ?_) r3⟩
  by_cases z : x = p
  · subst z; rw [g'.gh _ _ hq] at h3; cases h3; exact upd_same
  · rw [upd_ne z]; exact hq
section
variable {B : Bs} {X : Cx} {α β γ δ A : Type} [Rep α] [Rep β] [Rep γ] [Args A] {e a b c : Expr} {es : List Expr} {σ : L2.St} {G G' : Hp} {pos pos' p2 p apos : Pos} {x m : Str} {f Cl : Addr} {lvl k : Nat} {ps : List Str}
theorem do_methZ {r : α} {pre : α × A → Prop} {g : α × A → List β} {y : A} {z : List β} {pl : Sem Bool} (F : HasF X.prog X.w X.K X.mg X.base f lvl ps (SpN kO pre g)) (c : Cls X.K Cl) (hm : Meth X.K Cl m f) (hr : Rm k X.A) (h : ∀ G v, rep G v r → ∃ p dx fs, v = .ref p ∧ G p = some (.ins Cl dx fs) ∧ fs.lookup m = none)
    (ho : DE X a σ G r) (ha : DA X (e :: es) σ G y) (hp : pre (r, y)) (hz : g (r, y) = z := by rfl) (hl : lvl ≤ k := by decide) (hst : starEach (e :: es) X.env = (false, eval e X.env) :: starEach es X.env := by rfl) (hpl : (backTo pos (starEach es X.env)).any (·.1) = false := by rfl)
    (ht : eval (.Call (.Attribute a m apos) (e :: es) [] pos) X.env = (do
      let ov ← eval a X.env
      standAt apos.atName
      let (f, first) ← holding [ov] (getMethod ov m pl)
      callWith pos f first (backTo pos (starEach (e :: es) X.env)) (backToKw pos (keywordEach [] X.env))) := by rfl) : DO X (.Call (.Attribute a m apos) (e :: es) [] pos) σ G z := fun G1 H1 e1 e2 Q k => by
  obtain ⟨fd, hb, F⟩ := F.ex
  refine ⟨_, pe_methG WE.pe c hm F (hr.mono hl) hb .nil pass0 WA.pa hst hpl ht, ho G1 H1 e1 e2 _ fun v G2 H2 g2 r2 => ?_⟩
  obtain ⟨q, dx, fs, rfl, hq, hlk⟩ := h G2 v r2
  refine ⟨q, dx, fs, rfl, g2.gh _ _ hq, hlk, ha G2 H2 (e1.trans g2.gg) g2.gh _ fun vs G3 H3 g3 r3 => ?_⟩
  refine ⟨G3, (r, y), g3.gh, ⟨_, _, rfl, Rep.mono g3.gg r2, by rw [List.append_nil]; exact r3⟩, hp, fun w G4 H4 g4 hk => ?_⟩
  obtain ⟨u, rfl, n1, n2, o, h3, vs2, rfl, hz2, r4⟩ := hk
  exact k u vs2 G4 H4 ((g2.and g3).and g4) (g2.dom _ (g3.dom _ n1)) n2 h3 hz2 (hz ▸ r4)
theorem do_meth0Z {r : α} {pre : α × Unit → Prop} {g : α × Unit → List β} {z : List β} {pl : Sem Bool} (F : HasF X.prog X.w X.K X.mg X.base f lvl ps (SpN kO pre g)) (c : Cls X.K Cl) (hm : Meth X.K Cl m f) (hr : Rm k X.A) (h : ∀ G v, rep G v r → ∃ p dx fs, v = .ref p ∧ G p = some (.ins Cl dx fs) ∧ fs.lookup m = none)
    (ho : DE X a σ G r) (hp : pre (r, ())) (hz : g (r, ()) = z := by rfl) (hl : lvl ≤ k := by decide)
    (ht : eval (.Call (.Attribute a m apos) [] [] pos) X.env = (do
      let ov ← eval a X.env
      standAt apos.atName
      let (f, first) ← holding [ov] (getMethod ov m pl)
      callWith pos f first (backTo pos (starEach [] X.env)) (backToKw pos (keywordEach [] X.env))) := by rfl) : DO X (.Call (.Attribute a m apos) [] [] pos) σ G z := fun G1 H1 e1 e2 Q k => by
  obtain ⟨fd, hb, F⟩ := F.ex
  refine ⟨_, pe_meth0G WE.pe c hm F (hr.mono hl) hb .nil pass0 ht, ho G1 H1 e1 e2 _ fun v G2 H2 g2 r2 => ?_⟩
  obtain ⟨q, dx, fs, rfl, hq, hlk⟩ := h G2 v r2
  refine ⟨q, dx, fs, rfl, g2.gh _ _ hq, hlk, ?_⟩
  refine ⟨G2, (r, ()), g2.gh, ⟨_, _, rfl, r2, rfl⟩, hp, fun w G4 H4 g4 hk => ?_⟩
  obtain ⟨u, rfl, n1, n2, o, h3, vs2, rfl, hz2, r4⟩ := hk
  exact k u vs2 G4 H4 (g2.and g4) (g2.dom _ n1) n2 h3 hz2 (hz ▸ r4)
end
end Dn

namespace Dn
open Dn.Rep (rep)
open PySem L2
/-- where the own classes stand -/
class PC where
  at_ : Str → Addr
  K : PySem.W.Frag
structure PanelD where
  names : List Str
  orders : List (List Str)
  spots : List (Dict Int)
instance : Inhabited PanelD := ⟨⟨[], [], []⟩⟩
instance {α : Type} : Inhabited (Dict α) := ⟨⟨[]⟩⟩
section
variable [PC]
def icP (x : PanelD) : Cont := ⟨fun G o => ∃ dx u1 u2 u3, o = .ins (PC.at_ "Panel") dx [("names", u1), ("orders", u2), ("spots", u3)] ∧ rep G u1 x.names ∧ rep G u2 x.orders ∧ rep G u3 x.spots,
  fun e ⟨dx, u1, u2, u3, h1, h2, h3, h4⟩ => ⟨dx, u1, u2, u3, h1, Rep.mono e h2, Rep.mono e h3, Rep.mono e h4⟩⟩
instance instRepPanel : Rep PanelD := instRep icP
theorem panel_ins {x : PanelD} {G : Hp} {v : V} (r : rep G v x) : ∃ p dx fs, v = .ref p ∧ G p = some (.ins (PC.at_ "Panel") dx fs) := by
  obtain ⟨p, o, h1, h2, dx, u1, u2, u3, rfl, _⟩ := r
  exact ⟨p, dx, _, h1, h2⟩
theorem panel_get {x : PanelD} {G : Hp} {v : V} (r : rep G v x) : ∃ p dx u1 u2 u3, v = .ref p ∧ G p = some (.ins (PC.at_ "Panel") dx [("names", u1), ("orders", u2), ("spots", u3)]) ∧ rep G u1 x.names ∧ rep G u2 x.orders ∧ rep G u3 x.spots := by
  obtain ⟨p, o, h1, h2, dx, u1, u2, u3, rfl, r1, r2, r3⟩ := r
  exact ⟨p, dx, u1, u2, u3, h1, h2, r1, r2, r3⟩
variable {B : Bs} {X : Cx} {A : Type} [Args A] {e a b c : Expr} {es : List Expr} {σ : L2.St} {G G' : Hp} {C C' C1 C2 C3 : Cs} {pos pos' p2 p apos : Pos} {x m : Str} {f : Addr} {lvl k : Nat} {ps : List Str}
theorem de_panel_names {x : PanelD} (c : Cls X.K (PC.at_ "Panel")) (n : NoAttr X.K (PC.at_ "Panel") "names") (ha : DE X e σ G x) (hb : attributeBase e "names" X.env (eval e X.env) = eval e X.env := by rfl) : DE X (.Attribute e "names" pos) σ G x.names :=
  de_fld (x := x) (y := x.names) c n (fun G v r => by obtain ⟨p, dx, u1, u2, u3, h1, h2, r1, r2, r3⟩ := panel_get r; exact ⟨p, dx, _, u1, h1, h2, rfl, r1⟩) ha hb
theorem de_panel_orders {x : PanelD} (c : Cls X.K (PC.at_ "Panel")) (n : NoAttr X.K (PC.at_ "Panel") "orders") (ha : DE X e σ G x) (hb : attributeBase e "orders" X.env (eval e X.env) = eval e X.env := by rfl) : DE X (.Attribute e "orders" pos) σ G x.orders :=
  de_fld (x := x) (y := x.orders) c n (fun G v r => by obtain ⟨p, dx, u1, u2, u3, h1, h2, r1, r2, r3⟩ := panel_get r; exact ⟨p, dx, _, u2, h1, h2, rfl, r2⟩) ha hb
theorem de_panel_spots {x : PanelD} (c : Cls X.K (PC.at_ "Panel")) (n : NoAttr X.K (PC.at_ "Panel") "spots") (ha : DE X e σ G x) (hb : attributeBase e "spots" X.env (eval e X.env) = eval e X.env := by rfl) : DE X (.Attribute e "spots" pos) σ G x.spots :=
  de_fld (x := x) (y := x.spots) c n (fun G v r => by obtain ⟨p, dx, u1, u2, u3, h1, h2, r1, r2, r3⟩ := panel_get r; exact ⟨p, dx, _, u3, h1, h2, rfl, r3⟩) ha hb
theorem de_isPanel {x : PanelD} (c : C8.InsC X.K (PC.at_ "Panel")) (hm : X.mg ("isinstance" : Str) = none) (hm2 : X.mg ("Panel" : Str) = some (.ref (PC.at_ "Panel"))) (ha : DE X a σ G x) (hg : Gl X "isinstance" := by rfl) (hg2 : Gl X "Panel" := by rfl)
    (he : starEach [a, .Name "Panel" p2] X.env = (false, eval a X.env) :: starEach [.Name "Panel" p2] X.env := by rfl) (he2 : starEach [.Name "Panel" p2] X.env = (false, eval (.Name "Panel" p2) X.env) :: starEach [] X.env := by rfl) (hpl : (backTo pos (starEach [.Name "Panel" p2] X.env)).any (·.1) = false := by rfl) :
    DE X (.Call (.Name "isinstance" p) [a, .Name "Panel" p2] [] pos) σ G true := de_isC c hm hm2 (fun _ _ r => panel_ins r) ha hg hg2 (by decide) he he2 hpl
theorem de_Panel {pre : A → Prop} {g : A → PanelD} {y : A} {z : PanelD} (F : HasF X.prog X.w X.K X.mg X.base f lvl ps (SpI (PC.at_ "Panel") icP pre g)) (M : Mk X.K (PC.at_ "Panel") f) (hm : X.mg ("Panel" : Str) = some (.ref (PC.at_ "Panel"))) (hr : Rm k X.A) (ha : DA X (e :: es) σ G y) (hp : pre y) (hz : g y = z := by rfl)
    (hl : lvl + 1 ≤ k := by decide) (hg : Gl X "Panel" := by rfl)
    (he : starEach (e :: es) X.env = (false, eval e X.env) :: starEach es X.env := by rfl) (hpl : (backTo pos (starEach es X.env)).any (·.1) = false := by rfl) : DE X (.Call (.Name "Panel" p) (e :: es) [] pos) σ G z := fun G1 H1 e1 e2 Q q =>
  we_make F M hm hr (fun G2 H2 a1 a2 => ha G2 H2 (e1.trans a1) a2) hp e2 (fun u G3 H3 o g3 h1 h2 => q _ G3 H3 g3 ⟨u, o, rfl, h1, by rw [← hz]; exact h2⟩) hl hg (by decide) he hpl
theorem dc_eqPanel {x y : PanelD} {pre : PanelD × PanelD × Unit → Prop} {g0 : PanelD × PanelD × Unit → Bool} {n : Nat} (F : HasE X.prog X.w X.K X.mg X.base f n ps (SpN kD pre g0)) (hm : Meth X.K (PC.at_ "Panel") "__eq__" f) (hr : Rm k X.A) (ha : DE X a σ G x) (hb : DE X b σ G y) (hp : pre (x, y, ()) ∧ g0 (x, y, ()) = true) (hl : n ≤ k := by decide) : DC X .Eq a b σ G true :=
  dc_eqOwn F hm hr (fun _ _ _ r => panel_ins r) ha hb hp hl
theorem de_methP {β : Type} [Rep β] {r : PanelD} {pre : PanelD × A → Prop} {g : PanelD × A → β} {y : A} {z : β} {pl : Sem Bool} (F : HasF X.prog X.w X.K X.mg X.base f lvl ps (SpN kD pre g)) (c : Cls X.K (PC.at_ "Panel")) (hm : Meth X.K (PC.at_ "Panel") m f) (hr : Rm k X.A)
    (ho : DE X a σ G r) (ha : DA X (e :: es) σ G y) (hp : pre (r, y)) (hz : g (r, y) = z := by rfl) (hl : lvl ≤ k := by decide) (hn : ∀ u1 u2 u3 : V, [(("names" : Str), u1), ("orders", u2), ("spots", u3)].lookup m = none := by intro _ _ _; rfl) (hst : starEach (e :: es) X.env = (false, eval e X.env) :: starEach es X.env := by rfl) (hpl : (backTo pos (starEach es X.env)).any (·.1) = false := by rfl)
    (ht : eval (.Call (.Attribute a m apos) (e :: es) [] pos) X.env = (do
      let ov ← eval a X.env
      standAt apos.atName
      let (f, first) ← holding [ov] (getMethod ov m pl)
      callWith pos f first (backTo pos (starEach (e :: es) X.env)) (backToKw pos (keywordEach [] X.env))) := by rfl) : DE X (.Call (.Attribute a m apos) (e :: es) [] pos) σ G z :=
  de_methZ F c hm hr (fun G v r => by obtain ⟨p, dx, u1, u2, u3, h1, h2, r1, r2, r3⟩ := panel_get r; exact ⟨p, dx, _, h1, h2, hn u1 u2 u3⟩) ho ha hp hz hl hst hpl ht
theorem de_methP0 {β : Type} [Rep β] {r : PanelD} {pre : PanelD × Unit → Prop} {g : PanelD × Unit → β} {z : β} {pl : Sem Bool} (F : HasF X.prog X.w X.K X.mg X.base f lvl ps (SpN kD pre g)) (c : Cls X.K (PC.at_ "Panel")) (hm : Meth X.K (PC.at_ "Panel") m f) (hr : Rm k X.A)
    (ho : DE X a σ G r) (hp : pre (r, ())) (hz : g (r, ()) = z := by rfl) (hl : lvl ≤ k := by decide) (hn : ∀ u1 u2 u3 : V, [(("names" : Str), u1), ("orders", u2), ("spots", u3)].lookup m = none := by intro _ _ _; rfl)
    (ht : eval (.Call (.Attribute a m apos) [] [] pos) X.env = (do
      let ov ← eval a X.env
      standAt apos.atName
      let (f, first) ← holding [ov] (getMethod ov m pl)
      callWith pos f first (backTo pos (starEach [] X.env)) (backToKw pos (keywordEach [] X.env))) := by rfl) : DE X (.Call (.Attribute a m apos) [] [] pos) σ G z :=
  de_meth0Z F c hm hr (fun G v r => by obtain ⟨p, dx, u1, u2, u3, h1, h2, r1, r2, r3⟩ := panel_get r; exact ⟨p, dx, _, h1, h2, hn u1 u2 u3⟩) ho hp hz hl ht
theorem do_methP {β : Type} [Rep β] {r : PanelD} {pre : PanelD × A → Prop} {g : PanelD × A → List β} {y : A} {z : List β} {pl : Sem Bool} (F : HasF X.prog X.w X.K X.mg X.base f lvl ps (SpN kO pre g)) (c : Cls X.K (PC.at_ "Panel")) (hm : Meth X.K (PC.at_ "Panel") m f) (hr : Rm k X.A)
    (ho : DE X a σ G r) (ha : DA X (e :: es) σ G y) (hp : pre (r, y)) (hz : g (r, y) = z := by rfl) (hl : lvl ≤ k := by decide) (hn : ∀ u1 u2 u3 : V, [(("names" : Str), u1), ("orders", u2), ("spots", u3)].lookup m = none := by intro _ _ _; rfl) (hst : starEach (e :: es) X.env = (false, eval e X.env) :: starEach es X.env := by rfl) (hpl : (backTo pos (starEach es X.env)).any (·.1) = false := by rfl)
    (ht : eval (.Call (.Attribute a m apos) (e :: es) [] pos) X.env = (do
      let ov ← eval a X.env
      standAt apos.atName
      let (f, first) ← holding [ov] (getMethod ov m pl)
      callWith pos f first (backTo pos (starEach (e :: es) X.env)) (backToKw pos (keywordEach [] X.env))) := by rfl) : DO X (.Call (.Attribute a m apos) (e :: es) [] pos) σ G z :=
  do_methZ F c hm hr (fun G v r => by obtain ⟨p, dx, u1, u2, u3, h1, h2, r1, r2, r3⟩ := panel_get r; exact ⟨p, dx, _, h1, h2, hn u1 u2 u3⟩) ho ha hp hz hl hst hpl ht
theorem do_methP0 {β : Type} [Rep β] {r : PanelD} {pre : PanelD × Unit → Prop} {g : PanelD × Unit → List β} {z : List β} {pl : Sem Bool} (F : HasF X.prog X.w X.K X.mg X.base f lvl ps (SpN kO pre g)) (c : Cls X.K (PC.at_ "Panel")) (hm : Meth X.K (PC.at_ "Panel") m f) (hr : Rm k X.A)
    (ho : DE X a σ G r) (hp : pre (r, ())) (hz : g (r, ()) = z := by rfl) (hl : lvl ≤ k := by decide) (hn : ∀ u1 u2 u3 : V, [(("names" : Str), u1), ("orders", u2), ("spots", u3)].lookup m = none := by intro _ _ _; rfl)
    (ht : eval (.Call (.Attribute a m apos) [] [] pos) X.env = (do
      let ov ← eval a X.env
      standAt apos.atName
      let (f, first) ← holding [ov] (getMethod ov m pl)
      callWith pos f first (backTo pos (starEach [] X.env)) (backToKw pos (keywordEach [] X.env))) := by rfl) : DO X (.Call (.Attribute a m apos) [] [] pos) σ G z :=
  do_meth0Z F c hm hr (fun G v r => by obtain ⟨p, dx, u1, u2, u3, h1, h2, r1, r2, r3⟩ := panel_get r; exact ⟨p, dx, _, h1, h2, hn u1 u2 u3⟩) ho hp hz hl ht
end
end Dn

namespace Dn
open Dn.Rep (rep)
open PySem L2
/-- a text of which only the length is known to be within the line -/
structure RS where
  s : Str
  deriving DecidableEq
instance : Rep RS := ⟨fun _ v a => v = .str a.s ∧ a.s.length ≤ sizeLine, fun _ h => h⟩
instance : Scal RS := ⟨fun h => h⟩
section
variable {X : Cx} {a b : Expr} {σ : L2.St} {G : Hp}
theorem r2_eqR {i j : RS} : R2D rEq i j (decide (i = j)) := fun G H u v e r1 r2 Q k => by
  obtain ⟨i⟩ := i; obtain ⟨j⟩ := j
  cases r1.1; cases r2.1
  exact ⟨rfl, k _ G H (Gr.refl e) (by show V.bl _ = V.bl _; simp)⟩
theorem r2_neR {i j : RS} : R2D rNe i j (!decide (i = j)) := fun G H u v e r1 r2 Q k => by
  obtain ⟨i⟩ := i; obtain ⟨j⟩ := j
  cases r1.1; cases r2.1
  exact ⟨rfl, k _ G H (Gr.refl e) (by show V.bl _ = V.bl _; simp)⟩
theorem dc_eqR {i j : RS} (ha : DE X a σ G i) (hb : DE X b σ G j) : DC X .Eq a b σ G (decide (i = j)) := dc_cmp op_eq r2_eqR ha hb
theorem dc_neR {i j : RS} (ha : DE X a σ G i) (hb : DE X b σ G j) : DC X .NotEq a b σ G (!decide (i = j)) := dc_cmp op_ne r2_neR ha hb
end
section
variable {α β : Type} [Rep α] [Dat α]
def reprD (x : α) : RS := ⟨(Dat.dat x).shown⟩
def RepOk (x : α) : Prop := (Dat.dat x).showable = true ∧ (Dat.dat x).shown.length ≤ sizeLine
theorem call_reprD {X : Cx} (hg : X.A.guards = some []) : CallR X (.builtin "repr") (fun xs H Q => ∃ a d, xs = [.ref a] ∧ Dp X.K H (.ref a) d ∧ d.showable = true ∧ d.hasDict = false ∧ X.A.units + (d.depth + 1) < cLine ∧ d.shown.length ≤ sizeLine ∧ Q (.str d.shown) H) := by
  intro pins s σ H xs us Q I r h
  obtain ⟨a, d, rfl, hd, hs, hn, hu, hz, q⟩ := h
  cases r with
  | cons r1 r2 =>
    cases r2
    cases r1
    obtain ⟨as, hr⟩ := Dp.reads I d _ _ hd rfl
    exact repr_of_reads' hr hs (PyData.noDict_hsm hn) hg hu (fun _ _ e => e) (fun h' u tk hk => ⟨.str d.shown, H, I.kept (t' := tk) hk, ⟨u, rfl⟩, q⟩) hz
variable {X : Cx} {a : Expr} {σ : L2.St} {G : Hp} {p pos : Pos} {k : Nat}
theorem de_repr {x : List α} (hm : X.mg ("repr" : Str) = none) (hr : Rm k X.A) (ha : DE X a σ G x) (h : RepOk x) (hd : Dat.dep α ≤ 60 := by decide) (hg : Gl X "repr" := by rfl)
    (he : starEach [a] X.env = (false, eval a X.env) :: starEach [] X.env := by rfl) (hpl : (backTo pos (starEach [] X.env)).any (·.1) = false := by rfl) : DE X (.Call (.Name "repr" p) [a] [] pos) σ G (reprD x) :=
  de_callB (call_reprD hr.gd) (fun G H u e r1 Q k => by
    have f1 := Rep.mono e r1
    have hl := Dat.lay f1
    have hdp := Dat.depth x
    have hd2 : Dat.dep (List α) = Dat.dep α + 1 := rfl
    have hu := hr.units
    have dd := Dat.dp X.K f1
    obtain ⟨q, vs, ev, hq, hz, r⟩ := r1
    subst ev
    exact ⟨q, Dat.dat x, rfl, dd, h.1, PyData.hasDict_of_canLay _ hl, by omega, h.2, k _ G H (Gr.refl e) ⟨rfl, h.2⟩⟩) hm ha hg (by decide +kernel) (by decide) (by decide) he hpl
end
section
variable {X : Cx} {a : Expr} {σ : L2.St} {G : Hp} {p p2 pos : Pos} {k : Nat}
theorem reps_ints {G : Hp} : ∀ {vs : List V} {l : List Int}, Reps G vs l → vs = l.map V.int
  | _, _, .nil => rfl
  | _, _, .cons (h : _ = V.int _) t => by rw [h, reps_ints t]; rfl
theorem ints_reps {G : Hp} : ∀ (l : List Int), Reps G (l.map V.int) l
  | [] => .nil
  | _ :: l => .cons rfl (ints_reps l)
theorem de_sum {l : List Int} (hm : X.mg ("sum" : Str) = none) (ha : DE X a σ G l) (hc : X.calm = true := by rfl) (hg : Gl X "sum" := by rfl)
    (he : starEach [a] X.env = (false, eval a X.env) :: starEach [] X.env := by rfl) (hpl : (backTo pos (starEach [] X.env)).any (·.1) = false := by rfl) : DE X (.Call (.Name "sum" p) [a] [] pos) σ G l.sum :=
  de_callB (cr_sum hc) (fun G H u e r1 Q k => by
    obtain ⟨q, vs, rfl, hq, hz, r⟩ := r1
    have ev := reps_ints r
    subst ev
    exact ⟨q, l, rfl, .inl (.inl (e _ _ hq)), k _ G H (Gr.refl e) rfl⟩) hm ha hg (by decide +kernel) (by decide) (by decide) he hpl
end
structure Scr where
  ns : List Int
theorem SqL.ex {K : PySem.W.Frag} {H H' : Hp} {a : Addr} {xs : List V} (h : SqL K H a xs) (e : Ex H H') : SqL K H' a xs := by
  rcases h with (h | ⟨o, h⟩) | h
  · exact .inl (.inl (e _ _ h))
  · exact .inl (.inr ⟨o, e _ _ h⟩)
  · exact .inr h
section
variable [PC]
instance instRepScr : Rep Scr := ⟨fun G v s => ∃ p, v = .ref p ∧ SqL PC.K G p (s.ns.map V.int) ∧ s.ns.length ≤ sizeLine, fun e ⟨p, h1, h2, h3⟩ => ⟨p, h1, SqL.ex h2 e, h3⟩⟩
variable {X : Cx} {a : Expr} {σ : L2.St} {G : Hp} {p p2 pos : Pos} {k : Nat}
theorem de_lenScr {s : Scr} (hK : PC.K = X.K) (hm : X.mg ("len" : Str) = none) (ha : DE X a σ G s) (hg : Gl X "len" := by rfl)
    (he : starEach [a] X.env = (false, eval a X.env) :: starEach [] X.env := by rfl) (hpl : (backTo pos (starEach [] X.env)).any (·.1) = false := by rfl) : DE X (.Call (.Name "len" p) [a] [] pos) σ G (s.ns.length : Int) := fun G1 H1 e1 e2 Q k =>
  ⟨_, pe_callB call_len_seq hg hm (by decide +kernel) (pa_cons WE.pe pa_nil he) (by decide) (by decide) he hpl, ha G1 H1 e1 e2 _ fun v G2 H2 g r => by
    obtain ⟨q, rfl, hq, hz⟩ := r
    rw [hK] at hq
    exact ⟨q, _, rfl, .inl (SqL.ex hq g.gh), k _ G2 H2 g (by show V.int _ = V.int _; rw [List.length_map])⟩⟩
theorem do_sliceScr {s : Scr} {lo hi : Option Expr} {i j : Option Int} (hK : PC.K = X.K) (ha : DE X a σ G s) (hl : DP X lo σ G i) (hh : DP X hi σ G j) : DO X (.Subscript a (.Slice lo hi none p2) pos) σ G (cut s.ns i j) := fun G1 H1 e1 e2 Q k =>
  ⟨_, pe_slice sl_list WE.pe WO.po WO.po, ha G1 H1 e1 e2 _ fun v G2 H2 g2 r2 => hl G2 H2 (e1.trans g2.gg) g2.gh _ fun G3 H3 g3 => hh G3 H3 (e1.trans (g2.gg.trans g3.gg)) g3.gh _ fun G4 H4 g4 => by
    obtain ⟨p, rfl, hq, hz⟩ := Rep.mono (g3.gg.trans g4.gg) r2
    rw [hK] at hq
    refine ⟨p, _, rfl, SqL.ex hq g4.gh, fun q hq => k q _ G4 _ (((g2.and g3).and g4).and (Gr.own (M := []) g4.gh hq)) (g2.dom _ (g3.dom _ (g4.dom _ hq))) (Ex.fresh g4.gh hq) upd_same (Nat.le_trans (cutV_length _ _ _) (by rw [List.length_map]; exact hz)) ?_⟩
    unfold cutV cut
    rw [List.length_map]
    exact Reps.take _ (Reps.drop _ (ints_reps _))⟩
end
/-- a thing at u, of which nothing is said -/
structure Hd where
  u : Addr
instance : Rep Hd := ⟨fun _ v h => v = .ref h.u, fun _ h => h⟩
theorem hd_reps {G : Hp} : ∀ (us : List Addr), Reps G (us.map V.ref) (us.map Hd.mk)
  | [] => .nil
  | _ :: us => .cons rfl (hd_reps us)
def kP {β : Type} [Rep β] : Kd (List (List β)) := ⟨fun x H G' H' w => ∃ us : List Addr, us.length = x.length ∧ rep G' w (us.map Hd.mk) ∧ us.Nodup ∧ ∀ (i : Nat) (u : Addr) (p : List β), us[i]? = some u → x[i]? = some p → H u = none ∧ G' u = none ∧ ∃ o, H' u = some o ∧ (cl p).ok G' o⟩
section
variable {X : Cx} {α β γ : Type} [Rep α] [Rep β] [Rep γ] {e a b c tg iter elt : Expr} {ifs : List Expr} {σ : L2.St} {G G' : Hp} {pos pos' p2 p : Pos} {scope : Scope}
def DPz (X : Cx) (e : Expr) (σ : L2.St) (G : Hp) (ls : List (List β)) : Prop := ∀ G1 H1, Ex G G1 → Ex G1 H1 → ∀ Q : VK, (∀ w G2 H2, Gr [] G1 H1 G2 H2 → kP.is ls H1 G2 H2 w → Q w H2) → WE X e σ H1 Q
theorem dp_lc {l : List α} {own : List (Str × Nat)} {vs : List Nat} {T : α → L2.St → Hp → L2.St → Prop} (h : α → List β) (hN : X.N.Nodup) (hc : X.calm = true) (src : DI X tg iter σ G l) (ok : BlkOk X.N X.env.scope scope own) (ho : own.map (·.2) = vs) (tgt : DG X scope tg vs T)
    (he : ∀ (i : Nat) y σ2 G', l[i]? = some y → Ex G G' → T y (wipe σ vs) G' σ2 → ∀ Y, InBlk X scope Y → DO Y elt σ2 G' (h y)) (hs : ∀ x, foldedSetIterable iter X.env x = pure x := by intro _; rfl) :
    DPz X (.ListComp elt [⟨tg, iter, [], 0⟩] scope pos) σ G (l.map h) := fun G1 H1 e1 e2 Q k => by
  obtain ⟨g, hg, tg1⟩ := tgt.ex
  let te : TE := fun σ H Q => ∀ (s : Shared) (H0 : Hp) (C : Addr) (cl : List (Str × Addr)) (fp : List Addr), WE (X.blk s H0 scope (compEnvC scope cl C X.env) fp) elt σ H Q
  have main := src G1 H1 e1 e2 (fun J H2 => ∀ D, H2 D = none → ∃ W : Nat → Nat → Hp → Prop, (∃ m, W 0 m (upd H2 D (.lst []))) ∧ ∀ i m H, W i m H →
      (J.stop i H ∧ Q (.ref D) H) ∨ (J.go i H ∧ ∃ Nx : Hp → Prop, (∀ H', Nx H' → ∃ m', m' < m ∧ W (i + 1) m' H') ∧ ∀ x H', J.yld i H x H' → g x (wipe σ (own.map (·.2))) H' fun σ2 H2 => wipe σ2 (own.map (·.2)) = wipe σ (own.map (·.2)) ∧ tYes σ2 H2 fun b H3 =>
        if b = true then te σ2 H3 fun y H4 => ∃ acc, H4 D = some (.lst acc) ∧ acc.length < sizeLine ∧ Nx (upd H4 D (.lst (acc ++ [y]))) else Nx H3)) ?_
  · obtain ⟨wi, hw, q⟩ := main
    exact ⟨_, pe_lc hc hN hw ok hg (fun s H C cl fp => pts_nil) (te := te) (fun s H C cl fp => ⟨fun pins s1 σ1 H1 Q1 I1 z => WE.pe.run pins s1 σ1 H1 Q1 I1 (z s H C cl fp)⟩) hs, q⟩
  · intro J Gw Y G2 H2 g2 wk hGw hY hz D hD
    rw [ho]
    have eD : Ex H2 (upd H2 D (.lst [])) := Ex.new hD
    have nD : G2 D = none := Ex.fresh g2.gh hD
    refine lc_it wk (fun i H => ∃ G3 us, Gr [] G2 H2 G3 H ∧ G3 D = none ∧ H D = some (.lst (us.map V.ref)) ∧ us.length = (l.take i).length ∧ us.Nodup ∧ D ∉ us ∧ ∀ (j : Nat) (u : Addr) (p : List β), us[j]? = some u → ((l.take i).map h)[j]? = some p → H2 u = none ∧ G3 u = none ∧ ∃ o, H u = some o ∧ (cl p).ok G3 o) ⟨G2, [], Gr.own g2.gh hD, nD, upd_same, rfl, List.nodup_nil, by simp, fun j u p hj => by simp at hj⟩
      (fun i H _ ⟨G3, acc, g3, _⟩ => hGw H (fun x o q => g3.gh x o (g3.gg x o q))) ?_ ?_
    · rintro i x H H' hi ⟨G3, us, g3, n3, hA, hl, nd, hDu, hu⟩ y
      obtain ⟨z, G4, hzl, g4, rz⟩ := hY i G3 H x H' hi g3.gg g3.gh y
      refine tg1 x z σ G4 H' g4.gh rz _ fun σ2 hT hw => ⟨hw, ?_⟩
      have eG4 : Ex G G4 := e1.trans (g2.gg.trans (g3.gg.trans g4.gg))
      have tk : l.take (i + 1) = l.take i ++ [z] := by rw [List.take_add_one, hzl]; rfl
      change te σ2 H' _
      intro s H0 C cl fp
      refine he i z σ2 G4 hzl eG4 hT _ ⟨s, H0, C, cl, fp, rfl⟩ G4 H' (Ex.refl _) g4.gh _ fun q ws G6 H6 g6 n1 n2 hq hwz r6 => ?_
      have hA4 : H' D = some (.lst (us.map V.ref)) := g4.hh _ _ hA
      have hA6 : H6 D = some (.lst (us.map V.ref)) := g6.hh _ _ hA4
      have n6 : G6 D = none := Gr.unk g6 hA4 (Gr.unk g4 hA n3)
      have g36 : Gr [] G2 H2 G6 H6 := (g3.and g4).and g6
      have hlen : us.length < sizeLine := by rw [hl, List.length_take]; omega
      have qD : q ≠ D := fun e => by rw [e, hA4] at n1; cases n1
      have hqu : q ∉ us := fun e => by
        obtain ⟨j, hj⟩ := List.mem_iff_getElem?.mp e
        have hjl := (List.getElem?_eq_some_iff.mp hj).1
        obtain ⟨_, _, o, hh, _⟩ := hu j q _ hj (List.getElem?_eq_getElem (by rw [List.length_map, ← hl]; exact hjl))
        rw [g4.hh _ _ hh] at n1; cases n1
      refine ⟨us.map V.ref, hA6, by rw [List.length_map]; exact hlen, G6, us ++ [q], g36.set (.inr hD) n6, n6, by rw [upd_same, List.map_append]; rfl, by rw [tk, List.length_append, List.length_append, hl]; rfl, ?_, ?_, ?_⟩
      · refine List.nodup_append.mpr ⟨nd, by simp, fun a ha b hb => ?_⟩
        have e : b = q := by simpa using hb
        subst e
        exact fun z => hqu (z ▸ ha)
      · intro hm
        rcases List.mem_append.mp hm with hm | hm
        · exact hDu hm
        · exact qD (List.mem_singleton.mp hm).symm
      · intro j u p hj hp
        rw [tk, List.map_append] at hp
        by_cases hjl : j < us.length
        · rw [List.getElem?_append_left hjl] at hj
          rw [List.getElem?_append_left (by rw [List.length_map, ← hl]; exact hjl)] at hp
          obtain ⟨a1, a2, o, a3, a4⟩ := hu j u p hj hp
          have ne : u ≠ D := fun e => hDu (e ▸ List.mem_of_getElem? hj)
          have g46 := g4.and g6
          exact ⟨a1, Gr.unk g46 a3 a2, o, by rw [upd_ne ne]; exact g46.hh _ _ a3, (Dn.cl p).mono g46.gg a4⟩
        · rw [List.getElem?_append_right (by omega)] at hj
          have hj0 : j - us.length = 0 := by
            have := (List.getElem?_eq_some_iff.mp hj).1
            simpa using this
          rw [hj0] at hj
          have eu : q = u := by simpa using hj
          subst eu
          rw [List.getElem?_append_right (by rw [List.length_map, ← hl]; omega)] at hp
          have e0 : j - ((l.take i).map h).length = 0 := by rw [List.length_map, ← hl]; exact hj0
          rw [e0] at hp
          have ep : h z = p := by simpa using hp
          subst ep
          exact ⟨g3.dom _ (g4.dom _ n1), n2, _, by rw [upd_ne qD]; exact hq, ws, rfl, hwz, r6⟩
    · rintro H ⟨G3, us, g3, n3, hA, hl, nd, hDu, hu⟩
      rw [List.take_length] at hl hu
      have gf := (g2.and g3).freeze hA (g2.dom _ hD)
      refine k (.ref D) _ H gf ⟨us, by rw [hl, List.length_map], ⟨D, _, rfl, upd_same, by rw [List.length_map, hl]; exact hz, ?_⟩, nd, fun j u p hj hp => ?_⟩
      · exact hd_reps us
      · obtain ⟨a1, a2, o, a3, a4⟩ := hu j u p hj hp
        have ne : u ≠ D := fun e => hDu (e ▸ List.mem_of_getElem? hj)
        exact ⟨g2.dom _ a1, by rw [upd_ne ne]; exact a2, o, a3, (Dn.cl p).mono (Ex.new n3) a4⟩
end

section
variable {B : Bs} {X : Cx} {α β γ δ A : Type} [Rep α] [Rep β] [Rep γ] [Rep δ] [Args A] {e a b c tg iter elt : Expr} {es : List Expr} {σ : L2.St} {G G' : Hp} {pos pos' p2 p pos2 : Pos} {scope : Scope} {sts rest thn els body : List Stmt} {x : Str} {f : Addr} {lvl k : Nat} {ps : List Str}
/-- f(..), that hands back a list of lists of one's own -/
theorem dp_call {pre : A → Prop} {g : A → List (List β)} {y : A} {z : List (List β)} (F : Has X.prog X.w X.K X.mg X.base x f lvl ps (SpN kP pre g)) (hr : Rm k X.A) (ha : DA X (e :: es) σ G y) (hp : pre y) (hz : g y = z := by rfl) (hl : lvl ≤ k := by decide) (hg : Gl X x := by rfl) (hdb : (x == ("__debug__" : Str)) = false := by decide)
    (he : starEach (e :: es) X.env = (false, eval e X.env) :: starEach es X.env := by rfl) (hpl : (backTo pos (starEach es X.env)).any (·.1) = false := by rfl) : DPz X (.Call (.Name x p) (e :: es) [] pos) σ G z := fun G1 H1 e1 e2 Q k => by
  subst hz
  exact we_call F hr (ha G1 H1 e1 e2 _ fun vs G2 H2 g2 r => ⟨G2, y, g2.gh, r, hp, fun w G3 H3 g3 ⟨us, h1, h2, h3, h4⟩ => k w G3 H3 (g2.and g3) ⟨us, h1, h2, h3, fun i u p hu hp => by
    obtain ⟨a1, a2, a3⟩ := h4 i u p hu hp
    exact ⟨g2.dom _ a1, a2, a3⟩⟩⟩) hl hg hdb he hpl
/-- what a turn hands back: data, or goes on -/
def JP {δ : Type} [Rep δ] (B : Bs) (T : L2.St → Hp → Prop) : Jd (δ ⊕ Unit) := fun b => ((fun Q => ∀ r, b = .inl r → RD B [] r Q), (fun σ'' G'' _ => b = .inr () ∧ T σ'' G''))
def loopP {α ρ : Type} (f : α → ρ ⊕ Unit) : List α → ρ ⊕ Unit
  | [] => .inr ()
  | x :: l => match f x with
    | .inl r => .inl r
    | .inr _ => loopP f l
def loopOkP {α ρ : Type} (f : α → ρ ⊕ Unit) (okf : α → Prop) : List α → Prop
  | [] => True
  | x :: l => okf x ∧ (f x = .inr () → loopOkP f okf l)
theorem sj_forP {l : List (List β)} {J : Jd δ} {k : δ} {v : Str} (j : Nat) (T : L2.St → Hp → Prop) (f : List β → δ ⊕ Unit) (okf : List β → Prop) (src : DPz X iter σ G l) (hN : X.N.Nodup) (hj : X.N[j]? = some v) (h0 : ∀ G', Ex G G' → T σ G') (hT : ∀ σ' G' G'', Ex G' G'' → T σ' G' → T σ' G'') (hok : loopOkP f okf l)
    (hs : ∀ (B' : Bs) (u : Addr) (y : List β) σ' G', B'.M = [u] → Ex G G' → T σ' G' → okf y → SJ B' X body (σ'.set j (some (.ref u))) G' [(u, cl y)] (JP B' T) (f y))
    (hJ : ∀ r Q, (J r).1 Q → RD B [] r Q) (hd : ∀ σ' G', loopP f l = .inr () → Ex G G' → T σ' G' → SJ B X rest σ' G' [] J k) (hx : L2.Loc X.env.scope v := by first | exact Or.inl rfl | exact Or.inr rfl) (hf : X.fn v = true ∨ X.env.scope.names.lookup v = some .local := by first | exact .inl rfl | exact .inr rfl) (hp : PassesOwn (model X.prog X.w) X.A X.env X.xe := by exact PassesOwn.never) (hc : X.calm = true := by rfl)
    (hfs : ∀ x, foldedSetIterable iter X.env x = pure x := by intro _; rfl) : SJ B X (.For (.Name v pos') iter body [] pos :: rest) σ G [] J (elimR (loopP f l) id fun _ => k) := fun G1 H1 e1 o1 D k1 k2 => by
  have main : WE X iter σ H1 fun w H2 => ∃ q, w = .ref q ∧ (∃ xs, SqL X.K H2 q xs) ∧ ∃ W : Nat → Nat → L2.St → Hp → Prop, (∃ m, W 0 m σ H2) ∧ ∀ i' m σ H, W i' m σ H →
      ((Itl X.K q).stop i' H ∧ (WS X rest D) σ H) ∨ ((Itl X.K q).go i' H ∧ ∃ N : L2.St → Hp → Prop, (∀ σ' H', N σ' H' → ∃ m', m' < m ∧ W (i' + 1) m' σ' H') ∧ ∀ x H', (Itl X.K q).yld i' H x H' → gName j x σ H' fun σ2 H2 => WS X body { ({ D with nx := WS X rest D } : Ends) with nx := N, ct := N, bk := WS X rest D } σ2 H2) := by
    refine src G1 H1 e1 o1.ex _ fun w G2 H2 g2 ⟨us, hul, hw, hnd, hus⟩ => ?_
    obtain ⟨q, vs, rfl, hq, hz, r⟩ := hw
    have hvs : vs = us.map V.ref := by
      have : ∀ {vs : List V} {us : List Addr}, Reps G2 vs (us.map Hd.mk) → vs = us.map V.ref := by
        intro vs us
        induction us generalizing vs with
        | nil => intro r; cases r; rfl
        | cons u us ih =>
          intro r
          cases r with
          | cons r1 r2 =>
            have r1' : _ = V.ref u := r1
            rw [r1', ih r2]; rfl
      exact this r
    subst hvs
    have o2 := o1.grow g2
    refine ⟨q, rfl, ⟨_, .inl (.inl (g2.gh _ _ hq))⟩, ?_⟩
    have wk : Walk (Itl X.K q) (us.map V.ref).length (fun H => SqL X.K H q (us.map V.ref)) _ := walk_list
    refine for_it wk (D := { D with nx := WS X rest D }) (tb := WS X body) (g := gName j) (fun n σ' H => ∃ G3, Ex G2 G3 ∧ On B [] G3 H ∧ T σ' G3 ∧ (∀ (i : Nat) u y, n ≤ i → us[i]? = some u → l[i]? = some y → B.H u = none ∧ G3 u = none ∧ ∃ o, H u = some o ∧ (cl y).ok G3 o) ∧ loopP f l = loopP f (l.drop n) ∧ loopOkP f okf (l.drop n))
      ⟨G2, Ex.refl _, o2, h0 G2 (e1.trans g2.gg), fun i u y _ hu hy => by
        obtain ⟨a1, a2, a3⟩ := hus i u y hu hy
        exact ⟨o1.gr.dom _ a1, a2, a3⟩, rfl, hok⟩ (fun n σ' H _ ⟨G3, e3, o3, _⟩ => .inl (.inl (o3.ex _ _ (e3 _ _ hq)))) ?_ ?_
    · rintro n v' σ' H0 H hn ⟨G3, e3, o3, t3, hcs, q1, q2⟩ ⟨rfl, hv⟩
      rw [List.getElem?_map] at hv
      obtain ⟨u, hu, rfl⟩ := Option.map_eq_some_iff.mp hv
      rw [List.length_map] at hn
      have hln : n < l.length := by rw [← hul]; exact hn
      obtain ⟨y, hy⟩ : ∃ y, l[n]? = some y := ⟨_, List.getElem?_eq_getElem hln⟩
      have hd1 : l.drop n = y :: l.drop (n + 1) := by
        obtain ⟨hl, he⟩ := List.getElem?_eq_some_iff.mp hy
        rw [List.drop_eq_getElem_cons hl, he]
      rw [hd1] at q1 q2
      obtain ⟨q3, q4⟩ := q2
      obtain ⟨b1, b2, b3⟩ := hcs n u y (Nat.le_refl _) hu hy
      have on := on_start (p := y) o3.ex b2 b3
      show WS X body _ (σ'.set j (some (.ref u))) H
      have back : ∀ {Cp : Cs} {G5 H5 : Hp}, On ⟨[u], G3, H⟩ Cp G5 H5 → On B [] G5 H5 := fun {Cp G5 H5} o5 => ⟨o3.gr.trans o5.gr fun z hz => .inr (by rw [List.mem_singleton.mp hz]; exact b1), fun i u c hi => by simp at hi, fun i u c hi => by simp at hi, List.nodup_nil⟩
      refine hs ⟨[u], G3, H⟩ u y σ' G3 rfl (e1.trans (g2.gg.trans e3)) t3 q3 G3 H (Ex.refl _) on _ (fun r hr w G5 H5 o5 r5 => ?_) fun σ5 G5 H5 C5 e5 o5 ⟨hfy, t5⟩ => ?_
      · have e : elimR (loopP f l) id (fun _ => k) = r := by
          rw [q1]
          unfold loopP
          rw [hr] <;> rfl
        rw [e] at k1
        exact hJ r _ k1 w G5 H5 (back o5) r5
      · refine ⟨G5, e3.trans e5, back o5, t5, fun i u' y' hi hu' hy' => ?_, ?_, q4 hfy⟩
        · obtain ⟨c1, c2, o, c3, c4⟩ := hcs i u' y' (by omega) hu' hy'
          have ne : u' ≠ u := fun e => by
            subst e
            have := (List.getElem?_inj (by rw [hul]; exact hln) hnd).mp (hu.trans hu'.symm)
            omega
          exact ⟨c1, Gr.unk o5.gr c3 c2, o, o5.gr.keep _ _ c3 (fun z => ne (List.mem_singleton.mp z)), (cl y').mono o5.gr.gg c4⟩
        · rw [q1]
          conv => lhs; unfold loopP
          rw [hfy]
    · rintro σ' H ⟨G3, e3, o3, t3, hcs, q1, q2⟩
      rw [List.length_map, hul, List.drop_length] at q1
      have e : elimR (loopP f l) id (fun _ => k) = k := by rw [q1] <;> rfl
      rw [e] at k1 k2
      exact hd σ' G3 q1 (e1.trans (g2.gg.trans e3)) t3 G3 H (Ex.refl _) o3 D k1 fun σ5 G5 H5 C5 e5 o5 p5 => k2 σ5 G5 H5 C5 (g2.gg.trans (e3.trans e5)) o5 p5
  exact ⟨_, pss_cons (ps_for hp hc (pi_list WE.pe) (pg_name hN hj hx hf) WS.pss hfs) WS.pss, main⟩
end
end Dn

namespace Dn
open Dn.Rep (rep)
open PySem L2
inductive IS where
  | i (n : Int)
  | s (z : Str)
  | n
  deriving DecidableEq
instance : Inhabited IS := ⟨.i 0⟩
instance : Rep IS := ⟨fun _ v x => match x with
  | .i n => v = .int n
  | .s z => v = .str z ∧ StrW z
  | .n => v = .non, fun _ h => h⟩
instance : Dat IS := ⟨fun x => match x with
  | .i n => .int n
  | .s z => .str z
  | .n => .none, fun K {_} {_} {x} h => by
    cases x with
    | i n => cases h; exact .int n
    | s z => cases h.1; exact .str z
    | n => cases h; exact .non, fun {_} {_} {x} h => by
    cases x with
    | i n => simp [PyData.canLay0]
    | s z => exact h.2.2
    | n => simp [PyData.canLay0], 0, fun x => by cases x <;> simp [PyData.depth], fun {a b} => by cases a <;> cases b <;> simp [PyData.eqv]⟩
theorem reps_iss {G : Hp} : ∀ {vs : List V} {l : List Str}, Reps G vs l → Reps G vs (l.map IS.s)
  | _, _, .nil => .nil
  | _, _, .cons h t => .cons h (reps_iss t)
theorem reps_is {G : Hp} : ∀ {vs : List V} {l : List Int}, Reps G vs l → Reps G vs (l.map IS.i)
  | _, _, .nil => .nil
  | _, _, .cons (h : _ = V.int _) t => .cons h (reps_is t)
section
variable {B : Bs} {X : Cx} {α β γ δ A : Type} [Rep α] [Rep β] [Rep γ] [Rep δ] [Args A] {e a b c tg iter elt : Expr} {es : List Expr} {σ : L2.St} {G G' : Hp} {C C' C1 C2 : Cs} {pos pos' p2 p pos2 : Pos} {scope : Scope} {sts rest thn els body : List Stmt} {x : Str} {f : Addr} {lvl k : Nat} {ps : List Str} {R : VK → Prop} {P : L2.St → Hp → Cs → Prop}
theorem DE.toIS {l : List Int} (h : DE X e σ G l) : DE X e σ G (l.map IS.i) := fun G1 H1 e1 e2 Q k => h G1 H1 e1 e2 Q fun v G2 H2 g ⟨p, vs, h1, h2, h3, h4⟩ => k v G2 H2 g ⟨p, vs, h1, h2, h3, reps_is h4⟩
theorem DE.toISs {l : List Str} (h : DE X e σ G l) : DE X e σ G (l.map IS.s) := fun G1 H1 e1 e2 Q k => h G1 H1 e1 e2 Q fun v G2 H2 g ⟨p, vs, h1, h2, h3, h4⟩ => k v G2 H2 g ⟨p, vs, h1, h2, h3, reps_iss h4⟩
theorem DE.asISn (h : DE X e σ G ()) : DE X e σ G IS.n := fun G1 H1 e1 e2 Q k => h G1 H1 e1 e2 Q fun v G2 H2 g r => k v G2 H2 g r
theorem sb_toISs {l : List Str} {u : Addr} (i : Nat) (hi : C[i]? = some (u, cl l)) (k : SB B X sts σ G (C.set i (u, cl (l.map IS.s))) R P) : SB B X sts σ G C R P := fun G1 H1 e1 o D k1 k2 => by
  obtain ⟨ob, h1, h2, vs, h3, h4, h5⟩ := o.at_ i u _ hi
  have ex : upd H1 u ob = H1 := by
    funext z
    by_cases q : z = u
    · subst q; rw [upd_same, h1]
    · rw [upd_ne q]
  have o2 := o.put (o := ob) (c' := cl (l.map IS.s)) hi ⟨vs, h3, h4, reps_iss h5⟩
  rw [ex] at o2
  exact k G1 H1 e1 o2 D k1 k2
theorem sb_nilT (n : Nat) (h : ∀ G', Ex G G' → P σ G' (C.take n)) : SB B X [] σ G C R P := fun G1 H1 e1 o D _ k2 => ⟨_, pss_nil, k2 σ G1 H1 (C.take n) (Ex.refl G1) (o.first n) (h G1 e1)⟩
theorem sb_nilLn {ρ S : Type} {Rg : ρ → VK → Prop} {T : S → L2.St → Hp → Cs → Prop} {s : S} (n : Nat) (h : ∀ G', Ex G G' → T s σ G' (C.take n)) : SJ B X [] σ G C (JL Rg T) (.inr s) := sb_nilT n fun G' e => ⟨s, rfl, h G' e⟩
theorem sb_nilFn {S : Type} {T : S → L2.St → Hp → Cs → Prop} {s : S} (n : Nat) (h : ∀ G', Ex G G' → T s σ G' (C.take n)) : SJ B X [] σ G C (JF T) s := sb_nilT n fun G' e => h G' e
theorem st_val {p : Bool} (h : SE B X e σ G C p C') (he : ∀ whole, isTrue e X.env whole = (do let v ← whole; standAt e.pos; holding [v] (truthy v)) := by intro _; rfl) : ST B X e σ G C p C' := fun G1 H1 e1 o Q k =>
  ⟨_, pt_val WE.pe he, h G1 H1 e1 o _ fun v G2 H2 e2 o2 r => ⟨p, r, k G2 H2 e2 o2⟩⟩
theorem st_not {p : Bool} (h : ST B X a σ G C p C') : ST B X (.UnaryOp .Not a pos) σ G C (!p) C' := fun G1 H1 e1 o Q k => ⟨_, pt_not WT.pt, h G1 H1 e1 o _ fun G2 H2 e2 o2 => k G2 H2 e2 o2⟩
theorem DE.asIS {z : Str} (h : DE X e σ G z) : DE X e σ G (IS.s z) := fun G1 H1 e1 e2 Q k => h G1 H1 e1 e2 Q fun v G2 H2 g r => k v G2 H2 g r
theorem DE.asISi {z : Int} (h : DE X e σ G z) : DE X e σ G (IS.i z) := fun G1 H1 e1 e2 Q k => h G1 H1 e1 e2 Q fun v G2 H2 g r => k v G2 H2 g r
/-- the same list, its ints among texts -/
theorem sb_toIS {l : List Int} {u : Addr} (i : Nat) (hi : C[i]? = some (u, cl l)) (k : SB B X sts σ G (C.set i (u, cl (l.map IS.i))) R P) : SB B X sts σ G C R P := fun G1 H1 e1 o D k1 k2 => by
  obtain ⟨ob, h1, h2, vs, h3, h4, h5⟩ := o.at_ i u _ hi
  have ex : upd H1 u ob = H1 := by
    funext z
    by_cases q : z = u
    · subst q; rw [upd_same, h1]
    · rw [upd_ne q]
  have o2 := o.put (o := ob) (c' := cl (l.map IS.i)) hi ⟨vs, h3, h4, reps_is h5⟩
  rw [ex] at o2
  exact k G1 H1 e1 o2 D k1 k2
theorem made {ε : Type} {Cl : Addr} {ic : ε → Cont} {pre : A → Prop} {g : A → ε} {y : A} {G2 H2 : Hp} {vs : List V} {Q : VK} {E : XK} (gh : Ex G2 H2) (r : Args.rel y G2 vs) (hp : pre y) (k0 : ∀ q G3 H3 o, Gr [] G2 H2 G3 H3 → G3 q = some o → (ic (g y)).ok G3 o → Q (.ref q) H3) (u dx : Addr) (n1 : H2 u = none) (n2 : H2 dx = none) (ne : dx ≠ u) :
    SpI Cl ic pre g (.ref u :: (vs ++ [])) (upd (upd H2 dx (.own u)) u (.ins Cl dx [])) (fun v H3 => v = .non ∧ Q (.ref u) H3) E := by
  have hex : Ex G2 (upd (upd H2 dx (.own u)) u (.ins Cl dx [])) := (gh.trans (Ex.new n2)).trans (Ex.new (by rw [upd_ne (Ne.symm ne)]; exact n1))
  refine ⟨G2, u, dx, y, vs ++ [], rfl, hex, Ex.fresh gh n1, upd_same, by rw [List.append_nil]; exact r, hp, fun G3 H3 g3 ⟨o, h1, h2⟩ => ⟨rfl, ?_⟩⟩
  have ga : Gr [] G2 H2 G2 (upd (upd H2 dx (.own u)) u (.ins Cl dx [])) := Gr.of_ex gh ((Ex.new n2).trans (Ex.new (by rw [upd_ne (Ne.symm ne)]; exact n1)))
  have gb : Gr [] G2 H2 G3 H3 := ga.trans g3 fun z hz => .inr (by rw [List.mem_singleton.mp hz]; exact n1)
  have gd := gb.freeze h1 n1
  have hx : Ex G3 (upd G3 u o) := fun z q hq => by
    by_cases w : z = u
    · subst w; rw [gb.gh _ _ hq] at h1; cases h1; exact upd_same
    · rw [upd_ne w]; exact hq
  exact k0 u _ H3 o gd upd_same ((ic (g y)).mono hx h2)
theorem se_Panel [PC] {pre : A → Prop} {g : A → PanelD} {y : A} {z : PanelD} (F : HasF X.prog X.w X.K X.mg X.base f lvl ps (SpI (PC.at_ "Panel") icP pre g)) (M : Mk X.K (PC.at_ "Panel") f) (hm : X.mg ("Panel" : Str) = some (.ref (PC.at_ "Panel"))) (hr : Rm k X.A) (ha : SA B X (e :: es) σ G C y C1) (hp : pre y) (hz : g y = z := by rfl)
    (hl : lvl + 1 ≤ k := by decide) (hg : Gl X "Panel" := by rfl)
    (he : starEach (e :: es) X.env = (false, eval e X.env) :: starEach es X.env := by rfl) (hpl : (backTo pos (starEach es X.env)).any (·.1) = false := by rfl) : SE B X (.Call (.Name "Panel" p) (e :: es) [] pos) σ G C z C1 := fun G1 H1 e1 o1 Q q => by
  obtain ⟨fd, hb, F⟩ := F.ex
  exact ⟨_, pe_makeG M F (hr.mono hl) hg hm hb .nil pass0 WA.pa (by decide) he hpl, ha G1 H1 e1 o1 _ fun vs G2 H2 e2 o2 r => fun u dx n1 n2 ne =>
    made o2.ex r hp (fun u G3 H3 o g3 h1 h2 => q _ G3 H3 (e2.trans g3.gg) (o2.grow g3) ⟨u, o, rfl, h1, by rw [← hz]; exact h2⟩) u dx n1 n2 ne⟩
end
section
variable {P : Program} {w : World} {K : PySem.W.Frag} {mg : Str → Option Value} {base : Heap} {x qual : Str} {params : Arguments} {scope : Scope} {f : Addr} {N ps : List Str} {k : Nat} {e : Expr} {pos : Pos} {rest : List Stmt}
variable {A β δ : Type} [Args A] [Rep β] [Rep δ]
theorem has_P {pre : A → Prop} {g : A → List (List β)} (F : ∃ fd, FunD K x qual params (.Return (some e) pos :: rest) scope [] [] f fd) (hm : mg x = some (.ref f)) (S : FnScope N ps scope) (hb : BindOk x qual params (.Return (some e) pos :: rest) scope ps) (len : ∀ a G vs, Args.rel (A := A) a G vs → vs.length = ps.length)
    (h : ∀ X, Body P w K mg base N qual scope f X → Rm k X.A → ∀ vs a G, Args.rel a G vs → pre a → DPz X e (start N vs) G (g a)) : Has P w K mg base x f (k + 1) ps (SpN kP pre g) :=
  has_of F hm S hb (fun vs H Q E ⟨G, a, eG, r, _⟩ => len a G vs r) fun X hX hr H vs Q E ⟨G, a, eG, r, hp, q⟩ =>
    ⟨_, pss_cons (ps_ret WE.pe) pss_never, h X hX hr vs a G r hp G H (Ex.refl _) eG Q fun w G2 H2 g2 hk => q w G2 H2 g2 hk⟩
end
end Dn

namespace Dn
open Dn.Rep (rep)
open PySem L2
section
variable {X : Cx} {α β γ : Type} [Rep α] [Rep β] [Rep γ] {e a b c tg : Expr} {es : List Expr} {σ : L2.St} {G G' : Hp} {pos pos' p2 p apos : Pos}
theorem des_star {l m : List α} (ha : DE X e σ G l) (hs : DEs X es σ G m) (hst : starEach (.Starred e p :: es) X.env = (true, eval e X.env) :: starEach es X.env := by rfl) : DEs X (.Starred e p :: es) σ G (l ++ m) := fun G1 H1 e1 e2 Q k =>
  ⟨_, StX.pa_star WE.pe WA.pa hst, ha G1 H1 e1 e2 _ fun v G2 H2 g r => by
    obtain ⟨q, vs, rfl, hq, hz, rs⟩ := r
    exact ⟨q, vs, rfl, .inr (.inl (.inl (g.gh _ _ hq))), hs G2 H2 (e1.trans g.gg) g.gh _ fun ws G3 H3 g3 r3 => k _ G3 H3 (g.and g3) ((Reps.mono g3.gg rs).app r3)⟩⟩
theorem do_listK {l : List α} (h : DEs X es σ G l) (hl : l.length ≤ sizeLine) : DO X (.List es pos) σ G l := do_list h hl
theorem keys_reps {G : Hp} : ∀ {l : List Str}, (∀ x ∈ l, StrW x) → Reps G (l.map V.str) l := strs_reps
def dkeys (d : Dict α) : List Str := d.kvs.map (·.1)
/-- for k in d -/
theorem di_keys {d : Dict α} (h : DE X e σ G d) : DI X tg e σ G (dkeys d) := fun G1 H1 e1 e2 R k =>
  ⟨_, pi_keys WE.pe, h G1 H1 e1 e2 _ fun v G2 H2 g r => by
    obtain ⟨p, kv, od, rfl, hp, hk, _, hz, hw⟩ := r
    have hl : (dkeys d).length = kv.length := by
      have := congrArg List.length hk
      unfold dkeys
      rw [List.length_map, List.length_map] at this
      rw [List.length_map]; exact this.symm
    refine ⟨p, od, rfl, .inl ⟨kv, g.gh _ _ hp, k (Itk p od kv) (fun H => H p = some (.frz od (.dK kv))) _ G2 H2 g (by rw [hl]; exact walk_keys) (fun H3 e3 => e3 _ _ hp) (fun i G3 H3 x H' hi e3 e4 y => ?_) (by unfold dkeys; rw [List.length_map]; exact hz)⟩⟩
    obtain ⟨rfl, kk, w, hkv, rfl⟩ := y
    have h1 : (kv.map (·.1))[i]? = some kk := by rw [List.getElem?_map, hkv]; rfl
    rw [hk, List.getElem?_map] at h1
    obtain ⟨q, hq, rfl⟩ := Option.map_eq_some_iff.mp h1
    exact ⟨q.1, G3, by unfold dkeys; rw [List.getElem?_map, hq]; rfl, Gr.refl e4, rfl, hw q (List.mem_of_getElem? hq)⟩⟩
/-- sorted(d) -/
theorem do_sortedD {d : Dict α} (hm : X.mg ("sorted" : Str) = none) (ha : DE X a σ G d) (h64 : (dkeys d).length < 64) (hc : X.calm = true := by rfl) (hg : Gl X "sorted" := by rfl)
    (he : starEach [a] X.env = (false, eval a X.env) :: starEach [] X.env := by rfl) (hpl : (backTo pos (starEach [] X.env)).any (·.1) = false := by rfl) : DO X (.Call (.Name "sorted" p) [a] [] pos) σ G (srt (dkeys d)) :=
  do_callB (call_sortedD hc) (fun G H u e r1 Q k => by
    obtain ⟨q, kv, od, rfl, hp, hk, _, hz, hw⟩ := r1
    refine ⟨q, kv, dkeys d, rfl, .inr ⟨od, e _ _ hp⟩, by rw [hk]; unfold dkeys; rw [List.map_map]; rfl, h64, fun ys s hpm hs hn => ?_⟩
    have eq : ys = srt (dkeys d) := srt_of hpm hs
    subst eq
    exact k s _ G _ (Gr.own e hn) hn (Ex.fresh e hn) upd_same (by rw [List.length_map, srt_len, sizeLine_eq]; omega) (strs_reps fun x hx => by
      obtain ⟨q, hq, rfl⟩ := List.mem_map.mp (mem_srt.mp hx)
      exact hw q hq)) hm ha hg (by decide +kernel) (by decide) (by decide) he hpl
/-- zip(xs, ys) -/
theorem di_zip {l : List α} {m : List β} {elts : List Expr} {kk : Nat} {tpos : Pos} (hm : X.mg ("zip" : Str) = none) (h : DE X a σ G l) (h2 : DE X b σ G m) (hg : Gl X "zip" := by rfl) (he : starEach [a, b] X.env = (false, eval a X.env) :: starEach [b] X.env := by rfl) (he2 : starEach [b] X.env = (false, eval b X.env) :: starEach [] X.env := by rfl) (hpl : (backTo pos (starEach [b] X.env)).any (·.1) = false := by rfl) :
    DI X (.Tuple elts kk tpos) (.Call (.Name "zip" p) [a, b] [] pos) σ G (l.zip m) := fun G1 H1 e1 e2 R k =>
  ⟨_, pi_zip hg hm (pa_cons WE.pe (pa_cons WE.pe pa_nil he2) he) he hpl, h G1 H1 e1 e2 _ fun v G2 H2 g r => h2 G2 H2 (e1.trans g.gg) g.gh _ fun w G3 H3 g3 r3 => by
    obtain ⟨p, vs, rfl, hp, hz, r⟩ := Rep.mono g3.gg r
    obtain ⟨q, ws, rfl, hq, hz2, r2⟩ := r3
    refine ⟨p, q, vs, ws, rfl, .inl (.inl (g3.gh _ _ hp)), .inl (.inl (g3.gh _ _ hq)), ?_⟩
    have hl : (l.zip m).length = min vs.length ws.length := by rw [List.length_zip, r.len, r2.len]
    refine k (Itz X.K p q) (fun H => SqL X.K H p vs ∧ SqL X.K H q ws) _ G3 H3 (g.and g3) (walk_zip hl) (fun H4 e4 => ⟨.inl (.inl (e4 _ _ hp)), .inl (.inl (e4 _ _ hq))⟩) (fun i G4 H4 x H' hi e4 e5 y => ?_) (by rw [hl]; omega)
    obtain ⟨T, x1, x2, rfl, hT, rfl, q1, q2⟩ := y
    obtain ⟨z1, c1, c2⟩ := r.get q1
    obtain ⟨z2, d1, d2⟩ := r2.get q2
    exact ⟨(z1, z2), _, List.getElem?_zip_eq_some.mpr ⟨c1, d1⟩, Gr.new e5 hT, T, _, _, rfl, upd_same, Rep.mono (e4.trans (Ex.new (Ex.fresh e5 hT))) c2, Rep.mono (e4.trans (Ex.new (Ex.fresh e5 hT))) d2⟩⟩
/-- xs.index(x) -/
def lidx [DecidableEq α] (l : List α) (x : α) : Int := (l.findIdx fun y => decide (y = x) : Nat)
theorem de_index [Flat α] [DecidableEq α] {l : List α} {x : α} {cpos : Pos} (ha : DE X a σ G l) (hb : DE X b σ G x) (h : x ∈ l)
    (hbase : attributeBase a "index" X.env (eval a X.env) = eval a X.env := by rfl)
    (hfew : ((backTo cpos (starEach [b] X.env)).all (fun x => !x.1) && (backToKw cpos (keywordEach [] X.env)).all (fun x => x.1.isSome) && decide ([b].length + ([] : List Keyword).length + (if ([] : List Keyword).isEmpty then 0 else 1) < 30)) = true := by rfl)
    (hline : (apos.endLine == cpos.line) = true := by rfl) (hs : starEach [b] X.env = (false, eval b X.env) :: starEach [] X.env := by rfl) (hplain : (backTo cpos (starEach [] X.env)).any (·.1) = false := by rfl) :
    DE X (.Call (.Attribute a "index" apos) [b] [] cpos) σ G (lidx l x) := fun G1 H1 e1 e2 Q k =>
  ⟨_, pe_bm PySem.F.plainAttrs_list PySem.F.slot_list_index PySem.F.type_list_index (name := "index") mt_index WE.pe (pa_cons WE.pe pa_nil hs) hbase hfew hline hs hplain, ha G1 H1 e1 e2 _ fun v G2 H2 g r => by
    obtain ⟨p, vs, rfl, hp, hz, r⟩ := r
    refine ⟨.inl ⟨rfl, vs, .inl (.inl (g.gh _ _ hp))⟩, hb G2 H2 (e1.trans g.gg) g.gh _ fun w G3 H3 g3 r3 => ?_⟩
    have rr := Reps.mono g3.gg r
    have hj : (l.findIdx fun y => decide (y = x)) < l.length := List.findIdx_lt_length_of_exists ⟨x, h, by simp⟩
    have hy := List.findIdx_getElem (w := hj)
    obtain ⟨z, hz1, hz2⟩ := rr.get' (List.getElem?_eq_getElem hj)
    refine ⟨p, vs, w, _, z, rfl, rfl, .inl (.inl (g3.gh _ _ (g3.gg _ _ hp))), Flat.flat r3, flats rr, hz1, ?_, fun m z' hm hz' => ?_, k _ G3 H3 (g.and g3) rfl⟩
    · have e : l[(l.findIdx fun y => decide (y = x))] = x := by simpa using hy
      exact (Flat.eqf hz2 r3).mpr e
    · obtain ⟨y, hy1, hy2⟩ := rr.get hz'
      have nb := List.not_of_lt_findIdx hm
      obtain ⟨hl, he⟩ := List.getElem?_eq_some_iff.mp hy1
      cases q : eqV z' w with
      | false => rfl
      | true =>
        have := (Flat.eqf hy2 r3).mp q
        rw [he] at nb
        simp [this] at nb⟩
end

/-- what != asks of the class x -/
def neB (x : Str) (K : PySem.W.Frag) : Bool :=
  He.eqO (PySem.W.findIn K (.ref (He.ga K x)) "__ne__") (some (some (.builtin "object.__ne__"))) && decide (PySem.W.mroIn K (He.ga K x) (.type "object") = some true)
theorem neB_ok {x : Str} {K : PySem.W.Frag} (h : neB x K = true) : NeC K (He.ga K x) := by
  obtain ⟨h1, h2⟩ := He.ba h
  exact ⟨He.eqO_ok h1, of_decide_eq_true h2⟩
section
variable [PC] {B : Bs} {X : Cx} {A : Type} [Args A] {e a b c : Expr} {es : List Expr} {σ : L2.St} {G G' : Hp} {C C' C1 C2 C3 : Cs} {pos pos' p2 p apos : Pos} {x m : Str} {f : Addr} {lvl k n : Nat} {ps : List Str}
theorem dc_eqP {x y : PanelD} {z : Bool} {pre : PanelD × PanelD × Unit → Prop} {g0 : PanelD × PanelD × Unit → Bool} (F : HasE X.prog X.w X.K X.mg X.base f n ps (SpN kD pre g0)) (hm : Meth X.K (PC.at_ "Panel") "__eq__" f) (hr : Rm k X.A) (ha : DE X a σ G x) (hb : DE X b σ G y) (hp : pre (x, y, ())) (hz : g0 (x, y, ()) = z := by rfl) (hl : n ≤ k := by decide) : DC X .Eq a b σ G z := by
  obtain ⟨fd, hbn, F⟩ := F.ex
  refine dc_cmp (op_eqOw F hm.at_ hm.fn hbn (hr.room.mono hl)) (fun G H u v e r1 r2 Q k => ?_) ha hb
  obtain ⟨p, dx, fs, rfl, hpp⟩ := panel_ins r1
  obtain ⟨q, dy, gs, rfl, hqq⟩ := panel_ins r2
  exact ⟨p, dx, fs, q, dy, gs, rfl, rfl, e _ _ hpp, e _ _ hqq, fun E => ⟨G, (x, y, ()), e, ⟨_, _, rfl, r1, _, _, rfl, r2, rfl⟩, hp, fun w G' H' g r => k w G' H' g (hz ▸ r)⟩⟩
theorem dc_neP {x y : PanelD} {z : Bool} {pre : PanelD × PanelD × Unit → Prop} {g0 : PanelD × PanelD × Unit → Bool} (F : HasE X.prog X.w X.K X.mg X.base f n ps (SpN kD pre g0)) (hm : Meth X.K (PC.at_ "Panel") "__eq__" f) (N : NeC X.K (PC.at_ "Panel")) (hr : Rm k X.A) (ha : DE X a σ G x) (hb : DE X b σ G y) (hp : pre (x, y, ())) (hz : (!g0 (x, y, ())) = z := by rfl) (hl : n + 1 ≤ k := by decide) : DC X .NotEq a b σ G z := by
  obtain ⟨fd, hbn, F⟩ := F.ex
  refine dc_cmp (op_neOw F hm.at_ hm.fn hbn (hr.room.mono hl) N) (fun G H u v e r1 r2 Q k => ?_) ha hb
  obtain ⟨p, dx, fs, rfl, hpp⟩ := panel_ins r1
  obtain ⟨q, dy, gs, rfl, hqq⟩ := panel_ins r2
  exact ⟨p, dx, fs, q, dy, gs, rfl, rfl, e _ _ hpp, e _ _ hqq, fun E => ⟨G, (x, y, ()), e, ⟨_, _, rfl, r1, _, _, rfl, r2, rfl⟩, hp, fun w G' H' g r => ⟨_, r, k _ G' H' g (by rw [hz]; rfl)⟩⟩⟩
theorem de_lenP {x : PanelD} {z : Int} {pre : PanelD × Unit → Prop} {g0 : PanelD × Unit → Int} (F : HasE X.prog X.w X.K X.mg X.base f n ps (SpN kD pre g0)) (hm : Meth X.K (PC.at_ "Panel") "__len__" f) (hmg : X.mg ("len" : Str) = none) (hr : Rm k X.A) (ha : DE X a σ G x) (hp : pre (x, ()) ∧ 0 ≤ z ∧ z < 2 ^ 63) (hz : g0 (x, ()) = z := by rfl) (hl : n + 1 ≤ k := by decide) (hg : Gl X "len" := by rfl)
    (he : starEach [a] X.env = (false, eval a X.env) :: starEach [] X.env := by rfl) (hpl : (backTo pos (starEach [] X.env)).any (·.1) = false := by rfl) : DE X (.Call (.Name "len" p) [a] [] pos) σ G z := by
  obtain ⟨fd, hbn, F⟩ := F.ex
  exact de_callB (call_lenOw F hm.at_ hm.fn hbn (hr.room.mono hl)) (fun G H u e r1 Q k => by
    obtain ⟨q, dx, fs, rfl, hpp⟩ := panel_ins r1
    exact ⟨q, dx, fs, rfl, e _ _ hpp, fun E => ⟨G, (x, ()), e, ⟨_, _, rfl, r1, rfl⟩, hp.1, fun w G' H' g r => ⟨z, (show w = .int _ from r).trans (by rw [hz]), hp.2.1, hp.2.2, k _ G' H' g rfl⟩⟩⟩) hmg ha hg (by decide +kernel) (by decide) (by decide) he hpl
end

section
variable {B : Bs} {X : Cx} {α β γ δ A : Type} [Rep α] [Rep β] [Rep γ] [Rep δ] [Args A] {e a b c : Expr} {es rest : List Expr} {σ : L2.St} {G G' : Hp} {C C' C1 C2 C3 : Cs} {pos pos' p2 p : Pos}
theorem ite_t {p : Bool} {ε : Sort u} {a b : ε} (h : p = true) : (if p = true then a else b) = a := if_pos h
theorem ite_f {p : Bool} {ε : Sort u} {a b : ε} (h : p = false) : (if p = true then a else b) = b := if_neg (by rw [h]; decide)
theorem SE.cs {x : α} (h : SE B X e σ G C x C1) (q : C1 = C2) : SE B X e σ G C x C2 := q ▸ h
def SW (B : Bs) (X : Cx) (e : Expr) (σ : L2.St) (G : Hp) (C : Cs) (b : Bool) (C' : Cs) : Prop :=
  ∀ G1 H1, Ex G G1 → On B C G1 H1 → ∀ Q : Bool → Hp → Prop, (∀ G2 H2, Ex G1 G2 → On B C' G2 H2 → Q b H2) → WW X e σ H1 Q
theorem SW.st {q : Bool} (h : SW B X e σ G C q C') : ST B X e σ G C q C' := fun G1 H1 e1 o Q k => by
  obtain ⟨t, h1, h2⟩ := h G1 H1 e1 o Q k
  exact ⟨t, h1.pt, h2⟩
theorem sw_and1 {q : Bool} (h : ST B X a σ G C q C') : SW B X (.BoolOp .And [a] pos) σ G C q C' := fun G1 H1 e1 o Q k => ⟨_, pw_and1 WT.pt, h G1 H1 e1 o Q k⟩
theorem sw_or1 {q : Bool} (h : ST B X a σ G C q C') : SW B X (.BoolOp .Or [a] pos) σ G C q C' := fun G1 H1 e1 o Q k => ⟨_, pw_or1 WT.pt, h G1 H1 e1 o Q k⟩
theorem sw_and {q1 q2 : Bool} (C3 : Cs) (ha : ST B X a σ G C q1 C1) (hb : q1 = true → SW B X (.BoolOp .And (b :: rest) pos) σ G C1 q2 C2) (h1 : q1 = true → C2 = C3) (h2 : q1 = false → C1 = C3) : SW B X (.BoolOp .And (a :: b :: rest) pos) σ G C (q1 && q2) C3 := fun G1 H1 e1 o Q k =>
  ⟨_, pw_and WT.pt WW.pw, ha G1 H1 e1 o _ fun G2 H2 g o2 => by
    cases q1 with
    | true => exact iteT (hb rfl G2 H2 (e1.trans g) o2 Q fun G3 H3 g3 o3 => k G3 H3 (g.trans g3) (h1 rfl ▸ o3))
    | false => exact iteF (k G2 H2 g (h2 rfl ▸ o2))⟩
theorem sw_or {q1 q2 : Bool} (C3 : Cs) (ha : ST B X a σ G C q1 C1) (hb : q1 = false → SW B X (.BoolOp .Or (b :: rest) pos) σ G C1 q2 C2) (h1 : q1 = true → C1 = C3) (h2 : q1 = false → C2 = C3) : SW B X (.BoolOp .Or (a :: b :: rest) pos) σ G C (q1 || q2) C3 := fun G1 H1 e1 o Q k =>
  ⟨_, pw_or WT.pt WW.pw, ha G1 H1 e1 o _ fun G2 H2 g o2 => by
    cases q1 with
    | true => exact iteT (k G2 H2 g (h1 rfl ▸ o2))
    | false => exact iteF (hb rfl G2 H2 (e1.trans g) o2 Q fun G3 H3 g3 o3 => k G3 H3 (g.trans g3) (h2 rfl ▸ o3))⟩
theorem se_one {op : BoolOp} {q : Bool} (ha : SE B X a σ G C q C') : SE B X (.BoolOp op [a] pos) σ G C q C' := fun G1 H1 e1 o Q k => ⟨_, pe_one WE.pe, ha G1 H1 e1 o Q k⟩
theorem se_and {q1 q2 : Bool} (C3 : Cs) (ha : SE B X a σ G C q1 C1) (hb : q1 = true → SE B X (.BoolOp .And (b :: rest) pos) σ G C1 q2 C2) (h1 : q1 = true → C2 = C3) (h2 : q1 = false → C1 = C3) : SE B X (.BoolOp .And (a :: b :: rest) pos) σ G C (q1 && q2) C3 := fun G1 H1 e1 o Q k =>
  ⟨_, pe_and WE.pe WE.pe, ha G1 H1 e1 o _ fun v G2 H2 g o2 r => ⟨q1, r, by
    cases q1 with
    | true => exact iteT (hb rfl G2 H2 (e1.trans g) o2 Q fun w G3 H3 g3 o3 r3 => k w G3 H3 (g.trans g3) (h1 rfl ▸ o3) r3)
    | false => exact iteF (k _ G2 H2 g (h2 rfl ▸ o2) rfl)⟩⟩
theorem se_or {q1 q2 : Bool} (C3 : Cs) (ha : SE B X a σ G C q1 C1) (hb : q1 = false → SE B X (.BoolOp .Or (b :: rest) pos) σ G C1 q2 C2) (h1 : q1 = true → C1 = C3) (h2 : q1 = false → C2 = C3) : SE B X (.BoolOp .Or (a :: b :: rest) pos) σ G C (q1 || q2) C3 := fun G1 H1 e1 o Q k =>
  ⟨_, pe_or WE.pe WE.pe, ha G1 H1 e1 o _ fun v G2 H2 g o2 r => ⟨q1, r, by
    cases q1 with
    | true => exact iteT (k _ G2 H2 g (h1 rfl ▸ o2) rfl)
    | false => exact iteF (hb rfl G2 H2 (e1.trans g) o2 Q fun w G3 H3 g3 o3 r3 => k w G3 H3 (g.trans g3) (h2 rfl ▸ o3) r3)⟩⟩
theorem se_not {q : Bool} (ha : SE B X a σ G C q C') : SE B X (.UnaryOp .Not a pos) σ G C (!q) C' := fun G1 H1 e1 o Q k =>
  ⟨_, pe_not WE.pe, ha G1 H1 e1 o _ fun v G2 H2 g o2 r => ⟨q, r, k _ G2 H2 g o2 rfl⟩⟩
theorem se_ifC {q : Bool} {x y : α} (C4 : Cs) (hc : ST B X c σ G C q C1) (ha : q = true → SE B X a σ G C1 x C2) (hb : q = false → SE B X b σ G C1 y C3) (h2 : q = true → C2 = C4) (h3 : q = false → C3 = C4) : SE B X (.IfExp c a b pos) σ G C (if q = true then x else y) C4 :=
  se_if hc (fun h => (ha h).cs (h2 h)) (fun h => (hb h).cs (h3 h))
theorem se_ixI [Inhabited α] {l : List α} {i : Int} (ha : SE B X a σ G C l C1) (hb : SE B X b σ G C1 i C2) (h : (atI l i).isSome = true) (hs : PlainIx b := by exact fun _ _ => rfl) : SE B X (.Subscript a b pos) σ G C (getI l i) C2 := fun G1 H1 e1 o1 Q k =>
  ⟨_, pe_ix ix_list WE.pe WE.pe hs, se_two (x := l) (y := i) (z := getI l i) ha hb (fun G H u v e r1 r2 Q k => by
    obtain ⟨p, vs, rfl, hp, _, r⟩ := r1
    have hh := getI_some h
    unfold atI at hh
    cases q : ixN l.length i with
    | none => rw [q] at hh; cases hh
    | some j =>
      rw [q] at hh
      obtain ⟨w, h1, h2⟩ := r.get' (i := j) hh
      refine ⟨p, vs, i, w, rfl, r2, .inl (.inl (e _ _ hp)), ?_, k w G H (Gr.refl e) h2⟩
      unfold atI
      rw [r.len, q]
      exact h1) G1 H1 e1 o1 Q k⟩
theorem so_sortedC {l : List Str} {p : Pos} (hm : X.mg ("sorted" : Str) = none) (ha : SE B X a σ G C l C1) (h64 : l.length < 64) (hg : Gl X "sorted" := by rfl)
    (he : starEach [a] X.env = (false, eval a X.env) :: starEach [] X.env := by rfl) (hpl : (backTo pos (starEach [] X.env)).any (·.1) = false := by rfl) : SO B X (.Call (.Name "sorted" p) [a] [] pos) σ G C (srt l) C1 := fun G1 H1 e1 o Q k =>
  ⟨_, pe_callB cr_sortedS hg hm (by decide +kernel) (pa_cons WE.pe pa_nil he) (by decide) (by decide) he hpl, ha G1 H1 e1 o _ fun v G2 H2 e2 o2 r => by
    obtain ⟨p, vs, rfl, hp, hz, r⟩ := r
    obtain ⟨rfl, hw⟩ := reps_strs r
    refine ⟨p, l, rfl, .inl (.inl (o2.ex _ _ hp)), h64, fun ys q hpm hs hq => ?_⟩
    have eq := srt_of hpm hs
    subst eq
    exact k q G2 _ e2 (o2.push hq ⟨_, rfl, by rw [List.length_map, srt_len, ← List.length_map (f := V.str)]; exact hz, strs_reps fun x hx => hw x (mem_srt.mp hx)⟩) (o2.gr.dom _ hq)⟩
variable {x : Str} {f : Addr} {lvl k : Nat} {ps : List Str}
theorem se_callZ {pre : A → Prop} {g : A → δ} {y : A} {z : δ} (F : Has X.prog X.w X.K X.mg X.base x f lvl ps (SpN kD pre g)) (hr : Rm k X.A) (ha : SA B X (e :: es) σ G C y C1) (hp : pre y) (hz : g y = z := by rfl) (hl : lvl ≤ k := by decide) (hg : Gl X x := by rfl) (hdb : (x == ("__debug__" : Str)) = false := by decide)
    (he : starEach (e :: es) X.env = (false, eval e X.env) :: starEach es X.env := by rfl) (hpl : (backTo pos (starEach es X.env)).any (·.1) = false := by rfl) : SE B X (.Call (.Name x p) (e :: es) [] pos) σ G C z C1 := fun G1 H1 e1 o Q k => by
  subst hz
  exact we_call F hr (ha G1 H1 e1 o _ fun vs G2 H2 e2 o2 r => ⟨G2, y, o2.ex, r, hp, fun w G3 H3 g3 r3 => k w G3 H3 (e2.trans g3.gg) (o2.grow g3) r3⟩) hl hg hdb he hpl
theorem so_callZ {pre : A → Prop} {g : A → List δ} {y : A} {z : List δ} (F : Has X.prog X.w X.K X.mg X.base x f lvl ps (SpN kO pre g)) (hr : Rm k X.A) (ha : SA B X (e :: es) σ G C y C1) (hp : pre y) (hz : g y = z := by rfl) (hl : lvl ≤ k := by decide) (hg : Gl X x := by rfl) (hdb : (x == ("__debug__" : Str)) = false := by decide)
    (he : starEach (e :: es) X.env = (false, eval e X.env) :: starEach es X.env := by rfl) (hpl : (backTo pos (starEach es X.env)).any (·.1) = false := by rfl) : SO B X (.Call (.Name x p) (e :: es) [] pos) σ G C z C1 := fun G1 H1 e1 o Q k => by
  subst hz
  exact we_call F hr (ha G1 H1 e1 o _ fun vs G2 H2 e2 o2 r => ⟨G2, y, o2.ex, r, hp, fun w G3 H3 g3 ⟨q, ew, n1, n2, ob, h3, ws, eo, hz, r3⟩ => by
    subst ew; subst eo
    exact k q G3 H3 (e2.trans g3.gg) (o2.take_ g3 n1 n2 h3 ⟨ws, rfl, hz, r3⟩) (o2.gr.dom _ n1)⟩) hl hg hdb he hpl
end
end Dn

namespace Dn
open Dn.Rep (rep)
open PySem L2
structure Tup (A : Type) where
  val : A
  deriving DecidableEq
structure Het (A : Type) where
  val : A
  deriving DecidableEq
instance {A : Type} [Inhabited A] : Inhabited (Tup A) := ⟨⟨default⟩⟩
instance {A : Type} [Inhabited A] : Inhabited (Het A) := ⟨⟨default⟩⟩
instance instRepTup {A : Type} [Args A] : Rep (Tup A) := ⟨fun G v t => ∃ p vs, v = .ref p ∧ G p = some (.tup vs) ∧ Args.rel t.val G vs, fun e ⟨p, vs, h1, h2, h3⟩ => ⟨p, vs, h1, e _ _ h2, Args.mono e h3⟩⟩
instance instRepHet {A : Type} [Args A] : Rep (Het A) := ⟨fun G v t => ∃ p vs, v = .ref p ∧ G p = some (.lst vs) ∧ Args.rel t.val G vs, fun e ⟨p, vs, h1, h2, h3⟩ => ⟨p, vs, h1, e _ _ h2, Args.mono e h3⟩⟩
class HLen (A : Type) [Args A] where
  n : Nat
  len : ∀ {a : A} {G : Hp} {vs : List V}, Args.rel a G vs → vs.length = n
instance : HLen Unit := ⟨0, fun h => by cases h; rfl⟩
instance instHLenCons {α A : Type} [Rep α] [Args A] [HLen A] : HLen (α × A) := ⟨HLen.n A + 1, fun h => by obtain ⟨v, r, rfl, _, h⟩ := h; rw [List.length_cons, HLen.len h]⟩
class HDat (A : Type) [Args A] where
  dats : A → List PyData
  dp : ∀ (K : PySem.W.Frag) {G : Hp} {vs : List V} {a : A}, Args.rel a G vs → DpAll K G vs (dats a)
  lay : ∀ {G : Hp} {vs : List V} {a : A}, Args.rel a G vs → PyData.canLayAll0 (dats a) = true
  dep : Nat
  depth : ∀ a : A, PyData.depthAll (dats a) ≤ dep
  inj : ∀ {a b : A}, PyData.eqvAll (dats a) (dats b) = true ↔ a = b
instance : HDat Unit := ⟨fun _ => [], fun K _ _ _ h => by cases h; exact .nil, fun _ => by simp [PyData.canLayAll0], 0, fun _ => by simp [PyData.depthAll], fun {a b} => by simp [PyData.eqvAll]⟩
instance instHDatCons {α A : Type} [Rep α] [Dat α] [Args A] [HDat A] : HDat (α × A) := ⟨fun x => Dat.dat x.1 :: HDat.dats x.2, fun K _ _ _ h => by obtain ⟨v, r, rfl, h1, h2⟩ := h; exact .cons (Dat.dp K h1) (HDat.dp K h2),
  fun h => by obtain ⟨v, r, rfl, h1, h2⟩ := h; simp [PyData.canLayAll0, Dat.lay h1, HDat.lay h2], max (Dat.dep α) (HDat.dep A), fun x => by have h1 := Dat.depth x.1; have h2 := HDat.depth x.2; simp only [PyData.depthAll]; omega,
  fun {a b} => by obtain ⟨a1, a2⟩ := a; obtain ⟨b1, b2⟩ := b; simp [PyData.eqvAll, Dat.inj, HDat.inj]⟩
instance instDatTup {A : Type} [Args A] [HDat A] : Dat (Tup A) := ⟨fun t => .tuple (HDat.dats t.val), fun K _ _ _ h => by obtain ⟨p, vs, rfl, hp, r⟩ := h; exact .tup (.inl (.inl hp)) (HDat.dp K r), fun h => by obtain ⟨p, vs, rfl, hp, r⟩ := h; simpa [PyData.canLay0] using HDat.lay r,
  HDat.dep A + 1, fun t => by have := HDat.depth t.val; simp only [PyData.depth]; omega, fun {a b} => by cases a; cases b; simp [PyData.eqv, HDat.inj]⟩
instance instDatHet {A : Type} [Args A] [HDat A] : Dat (Het A) := ⟨fun t => .list (HDat.dats t.val), fun K _ _ _ h => by obtain ⟨p, vs, rfl, hp, r⟩ := h; exact .lst (.inl (.inl hp)) (HDat.dp K r), fun h => by obtain ⟨p, vs, rfl, hp, r⟩ := h; simpa [PyData.canLay0] using HDat.lay r,
  HDat.dep A + 1, fun t => by have := HDat.depth t.val; simp only [PyData.depth]; omega, fun {a b} => by cases a; cases b; simp [PyData.eqv, HDat.inj]⟩

section
variable {B : Bs} {X : Cx} {α β γ A : Type} [Rep α] [Rep β] [Rep γ] [Args A] {e a b c tg : Expr} {es tgs : List Expr} {σ : L2.St} {G G' : Hp} {C C' C1 C2 C3 : Cs} {pos pos' p2 p apos : Pos} {rest : List Stmt} {R : VK → Prop} {P : L2.St → Hp → Cs → Prop}
theorem de_tupN [HLen A] {x : A} {k} (h : DA X es σ G x) (hn : HLen.n A ≤ 1000 := by decide) : DE X (.Tuple es k pos) σ G (Tup.mk x) := fun G1 H1 e1 e2 Q q =>
  ⟨_, pe_tup WA.pa, h G1 H1 e1 e2 _ fun vs G2 H2 g r => ⟨by rw [HLen.len r, sizeLine_eq]; omega, fun p hp => q _ _ _ (g.and (Gr.new (M := []) g.gh hp)) ⟨p, vs, rfl, upd_same, Args.mono (Ex.new (Ex.fresh g.gh hp)) r⟩⟩⟩
theorem de_het [HLen A] {x : A} (h : DA X es σ G x) (hn : HLen.n A ≤ 1000 := by decide) : DE X (.List es pos) σ G (Het.mk x) := fun G1 H1 e1 e2 Q q =>
  ⟨_, pe_lst WA.pa, h G1 H1 e1 e2 _ fun vs G2 H2 g r => ⟨by rw [HLen.len r, sizeLine_eq]; omega, fun p hp => q _ _ _ (g.and (Gr.new (M := []) g.gh hp)) ⟨p, vs, rfl, upd_same, Args.mono (Ex.new (Ex.fresh g.gh hp)) r⟩⟩⟩
theorem se_tupN [HLen A] {x : A} {k} (h : SA B X es σ G C x C1) (hn : HLen.n A ≤ 1000 := by decide) : SE B X (.Tuple es k pos) σ G C (Tup.mk x) C1 := fun G1 H1 e1 o Q q =>
  ⟨_, pe_tup WA.pa, h G1 H1 e1 o _ fun vs G2 H2 e2 o2 r => ⟨by rw [HLen.len r, sizeLine_eq]; omega, fun p hp => q _ _ _ (e2.trans (Ex.new (Ex.fresh o2.ex hp))) (o2.grow (Gr.new (M := []) o2.ex hp)) ⟨p, vs, rfl, upd_same, Args.mono (Ex.new (Ex.fresh o2.ex hp)) r⟩⟩⟩
theorem se_het [HLen A] {x : A} (h : SA B X es σ G C x C1) (hn : HLen.n A ≤ 1000 := by decide) : SE B X (.List es pos) σ G C (Het.mk x) C1 := fun G1 H1 e1 o Q q =>
  ⟨_, pe_lst WA.pa, h G1 H1 e1 o _ fun vs G2 H2 e2 o2 r => ⟨by rw [HLen.len r, sizeLine_eq]; omega, fun p hp => q _ _ _ (e2.trans (Ex.new (Ex.fresh o2.ex hp))) (o2.grow (Gr.new (M := []) o2.ex hp)) ⟨p, vs, rfl, upd_same, Args.mono (Ex.new (Ex.fresh o2.ex hp)) r⟩⟩⟩
/-- a pair, as a tuple -/
theorem se_tup {x : α} {y : β} {k} (ha : SE B X a σ G C x C1) (hb : SE B X b σ G C1 y C2) (h : starEach [a, b] X.env = (false, eval a X.env) :: starEach [b] X.env := by rfl) (h' : starEach [b] X.env = (false, eval b X.env) :: starEach [] X.env := by rfl) :
    SE B X (.Tuple [a, b] k pos) σ G C (x, y) C2 := fun G1 H1 e1 o Q q =>
  ⟨_, pe_tup (pa_cons WE.pe (pa_cons WE.pe pa_nil h') h), ha G1 H1 e1 o _ fun v G2 H2 e2 o2 r => hb G2 H2 (e1.trans e2) o2 _ fun w G3 H3 e3 o3 r3 => ⟨by show 2 ≤ sizeLine; decide, fun p hp =>
    q _ _ _ (e2.trans (e3.trans (Ex.new (Ex.fresh o3.ex hp)))) (o3.grow (Gr.new (M := []) o3.ex hp)) ⟨p, v, w, rfl, upd_same, Rep.mono (e3.trans (Ex.new (Ex.fresh o3.ex hp))) r, Rep.mono (Ex.new (Ex.fresh o3.ex hp)) r3⟩⟩⟩
/-- lists with effects within -/
def SEs (B : Bs) (X : Cx) (es : List Expr) (σ : L2.St) (G : Hp) (C : Cs) (l : List α) (C' : Cs) : Prop :=
  ∀ G1 H1, Ex G G1 → On B C G1 H1 → ∀ Q : List V → Hp → Prop, (∀ vs G2 H2, Ex G1 G2 → On B C' G2 H2 → Reps G2 vs l → Q vs H2) → WA X es σ H1 Q
theorem ses_nil : SEs B X [] σ G C ([] : List α) C := fun G1 H1 e1 o Q k => ⟨_, pa_nil, k _ G1 H1 (Ex.refl _) o .nil⟩
theorem ses_cons {x : α} {l : List α} (ha : SE B X a σ G C x C1) (hs : SEs B X es σ G C1 l C2) (h : starEach (a :: es) X.env = (false, eval a X.env) :: starEach es X.env := by rfl) : SEs B X (a :: es) σ G C (x :: l) C2 := fun G1 H1 e1 o Q k =>
  ⟨_, pa_cons WE.pe WA.pa h, ha G1 H1 e1 o _ fun v G2 H2 e2 o2 r => hs G2 H2 (e1.trans e2) o2 _ fun vs G3 H3 e3 o3 r3 => k _ G3 H3 (e2.trans e3) o3 (.cons (Rep.mono e3 r) r3)⟩
theorem ses_star {l m : List α} (ha : SE B X e σ G C l C1) (hs : SEs B X es σ G C1 m C2) (hst : starEach (.Starred e p :: es) X.env = (true, eval e X.env) :: starEach es X.env := by rfl) : SEs B X (.Starred e p :: es) σ G C (l ++ m) C2 := fun G1 H1 e1 o Q k =>
  ⟨_, StX.pa_star WE.pe WA.pa hst, ha G1 H1 e1 o _ fun v G2 H2 e2 o2 r => by
    obtain ⟨q, vs, rfl, hq, hz, rs⟩ := r
    exact ⟨q, vs, rfl, .inr (.inl (.inl (o2.ex _ _ hq))), hs G2 H2 (e1.trans e2) o2 _ fun ws G3 H3 e3 o3 r3 => k _ G3 H3 (e2.trans e3) o3 ((Reps.mono e3 rs).app r3)⟩⟩
theorem so_listK {l : List α} (h : SEs B X es σ G C l C1) (hl : l.length ≤ sizeLine) : SO B X (.List es pos) σ G C l C1 := fun G1 H1 e1 o Q k =>
  ⟨_, pe_lst WA.pa, h G1 H1 e1 o _ fun vs G2 H2 e2 o2 r => ⟨by rw [r.len]; exact hl, fun p hp => k p G2 _ e2 (o2.push hp ⟨vs, rfl, by rw [r.len]; exact hl, r⟩) (o2.gr.dom _ hp)⟩⟩

def setAll : L2.St → List Nat → List V → L2.St
  | σ, j :: js, v :: vs => setAll (σ.set j (some v)) js vs
  | σ, _, _ => σ
def UG (X : Cx) (tgs : List Expr) (js : List Nat) : Prop := ∃ g, PGs X tgs g ∧ ∀ (vs : List V) (σ : L2.St) (H : Hp) (Q : L2.St → Hp → Prop), vs.length = js.length → Q (setAll σ js vs) H → g vs σ H Q
theorem ug_nil : UG X [] [] := ⟨gNil, pgs_nil, fun vs σ H Q h q => by
  have e := List.eq_nil_of_length_eq_zero h
  subst e
  exact ⟨rfl, q⟩⟩
theorem ug_cons {x : Str} {js : List Nat} {px : Pos} (j : Nat) (h : UG X tgs js) (hN : X.N.Nodup) (hi : X.N[j]? = some x := by rfl) (hx : L2.Loc X.env.scope x := by first | exact Or.inl rfl | exact Or.inr rfl) (hf : X.fn x = true ∨ X.env.scope.names.lookup x = some .local := by first | exact .inl rfl | exact .inr rfl) : UG X (.Name x px :: tgs) (j :: js) := by
  obtain ⟨g, h1, h2⟩ := h
  refine ⟨gCons (gName j) g, pgs_cons (pg_name hN hi hx hf) h1, fun vs σ H Q hl q => ?_⟩
  cases vs with
  | nil => simp at hl
  | cons v vs => exact ⟨v, vs, rfl, h2 vs _ H Q (by simpa using hl) q⟩
/-- a, b, .. = t -/
theorem sb_unp {x : Tup A} {js : List Nat} {k : Nat} {pt : Pos} (he : SE B X e σ G C x C1) (u : UG X tgs js) (hl : ∀ {vs : List V} {G : Hp}, Args.rel x.val G vs → vs.length = js.length) (k2 : ∀ vs G', Ex G G' → Args.rel x.val G' vs → SB B X rest (setAll σ js vs) G' C1 R P) (hc : X.calm = true := by rfl)
    (hs : swapsWithSole [.Tuple tgs k pt] e pos.line X.env = pure false := by rfl) (hw : swappedStores [.Tuple tgs k pt] e X.env = pure none := by rfl) (h1 : (assignEach [.Tuple tgs k pt] X.env).map (·.2) = [assign (.Tuple tgs k pt) X.env] := by rfl)
    (hn : (assignEach tgs X.env).length = js.length := by rfl) (hst : (assignEach tgs X.env).findIdx? (·.1) = none := by rfl) : SB B X (.Assign [.Tuple tgs k pt] e pos :: rest) σ G C R P := fun G1 H1 e1 o1 D d1 d2 => by
  obtain ⟨g, g1, g2⟩ := u
  exact ⟨_, pss_cons (ps_asg WE.pe (pg_tup hc g1 hn hst) hs hw h1) WS.pss, he G1 H1 e1 o1 _ fun v G2 H2 e2 o2 r => by
    obtain ⟨q, vs, rfl, hq, r⟩ := r
    exact ⟨q, vs, rfl, .inl (.inl (o2.ex _ _ hq)), hl r, g2 vs σ H2 _ (hl r) (k2 vs G2 (e1.trans e2) r G2 H2 (Ex.refl _) o2 D d1 fun σ4 G4 H4 C4 e4 o4 p4 => d2 σ4 G4 H4 C4 (e2.trans e4) o4 p4)⟩⟩
theorem sb_unp2 {x : α × β} {js : List Nat} {k : Nat} {pt : Pos} (he : SE B X e σ G C x C1) (u : UG X tgs js) (hj : js.length = 2 := by rfl) (k2 : ∀ v w G', Ex G G' → rep G' v x.1 → rep G' w x.2 → SB B X rest (setAll σ js [v, w]) G' C1 R P) (hc : X.calm = true := by rfl)
    (hs : swapsWithSole [.Tuple tgs k pt] e pos.line X.env = pure false := by rfl) (hw : swappedStores [.Tuple tgs k pt] e X.env = pure none := by rfl) (h1 : (assignEach [.Tuple tgs k pt] X.env).map (·.2) = [assign (.Tuple tgs k pt) X.env] := by rfl)
    (hn : (assignEach tgs X.env).length = js.length := by rfl) (hst : (assignEach tgs X.env).findIdx? (·.1) = none := by rfl) : SB B X (.Assign [.Tuple tgs k pt] e pos :: rest) σ G C R P := fun G1 H1 e1 o1 D d1 d2 => by
  obtain ⟨g, g1, g2⟩ := u
  exact ⟨_, pss_cons (ps_asg WE.pe (pg_tup hc g1 hn hst) hs hw h1) WS.pss, he G1 H1 e1 o1 _ fun v G2 H2 e2 o2 r => by
    obtain ⟨q, v, w, rfl, hq, r1, r2⟩ := r
    exact ⟨q, [v, w], rfl, .inl (.inl (o2.ex _ _ hq)), hj.symm, g2 _ σ H2 _ hj.symm (k2 v w G2 (e1.trans e2) r1 r2 G2 H2 (Ex.refl _) o2 D d1 fun σ4 G4 H4 C4 e4 o4 p4 => d2 σ4 G4 H4 C4 (e2.trans e4) o4 p4)⟩⟩
/-- items of a display: data, or new lists of one's own -/
def SM (B : Bs) (X : Cx) (es : List Expr) (σ : L2.St) (G : Hp) (C : Cs) (C' : List V → Cs) (φ : List V → Hp → Prop) : Prop :=
  ∀ G1 H1, Ex G G1 → On B C G1 H1 → ∀ Q : List V → Hp → Prop, (∀ vs G2 H2, Ex G1 G2 → On B (C' vs) G2 H2 → φ vs G2 → vs.length = es.length → Q vs H2) → WA X es σ H1 Q
theorem sm_nil : SM B X [] σ G C (fun _ => C) (fun vs _ => vs = []) := fun G1 H1 e1 o Q k => ⟨_, pa_nil, k [] G1 H1 (Ex.refl _) o rfl rfl⟩
theorem sm_data {x : α} {C' : List V → Cs} {φ : List V → Hp → Prop} (ha : SE B X a σ G C x C1) (hs : SM B X es σ G C1 C' φ) (h : starEach (a :: es) X.env = (false, eval a X.env) :: starEach es X.env := by rfl) :
    SM B X (a :: es) σ G C (fun vs => C' vs.tail) (fun vs G => ∃ v r, vs = v :: r ∧ rep G v x ∧ φ r G) := fun G1 H1 e1 o Q k =>
  ⟨_, pa_cons WE.pe WA.pa h, ha G1 H1 e1 o _ fun v G2 H2 e2 o2 r => hs G2 H2 (e1.trans e2) o2 _ fun vs G3 H3 e3 o3 r3 hl => k (v :: vs) G3 H3 (e2.trans e3) o3 ⟨v, vs, rfl, Rep.mono e3 r, r3⟩ (by rw [List.length_cons, List.length_cons, hl])⟩
def ownC (C' : Addr → List V → Cs) : List V → Cs
  | .ref p :: r => C' p r
  | _ => []
theorem sm_own {l : List α} {C' : Addr → List V → Cs} {φ : Addr → List V → Hp → Prop} (ha : SO B X a σ G C l C1) (hs : ∀ p, SM B X es σ G (C1 ++ [(p, cl l)]) (C' p) (φ p)) (h : starEach (a :: es) X.env = (false, eval a X.env) :: starEach es X.env := by rfl) :
    SM B X (a :: es) σ G C (ownC C') (fun vs G => ∃ p r, vs = .ref p :: r ∧ B.H p = none ∧ φ p r G) := fun G1 H1 e1 o Q k =>
  ⟨_, pa_cons WE.pe WA.pa h, ha G1 H1 e1 o _ fun p G2 H2 e2 o2 hB => hs p G2 H2 (e1.trans e2) o2 _ fun vs G3 H3 e3 o3 r3 hl => k (.ref p :: vs) G3 H3 (e2.trans e3) o3 ⟨p, vs, rfl, hB, r3⟩ (by rw [List.length_cons, List.length_cons, hl])⟩
/-- a, b = x, y by way of the stack -/
theorem sb_parM2 {x y : Str} {C' : List V → Cs} {φ : List V → Hp → Prop} {px py pt pt2 : Pos} {kt kt2 : Nat} (i j : Nat) (ha : SM B X [a, b] σ G C C' φ) (k : ∀ vs G', Ex G G' → φ vs G' → SB B X rest (setAll σ [i, j] vs) G' (C' vs) R P) (hN : X.N.Nodup) (hij : i ≠ j := by decide) (hi : X.N[i]? = some x := by rfl) (hj : X.N[j]? = some y := by rfl)
    (hx : X.env.scope.names.lookup x = some .local := by rfl) (hy : X.env.scope.names.lookup y = some .local := by rfl) (hc : X.calm = true := by rfl)
    (hw : swappedStores [.Tuple [.Name x px, .Name y py] kt pt] (.Tuple [a, b] kt2 pt2) X.env = pure (some [x, y]) := by rfl) : SB B X (.Assign [.Tuple [.Name x px, .Name y py] kt pt] (.Tuple [a, b] kt2 pt2) pos :: rest) σ G C R P := fun G1 H1 e1 o1 D d1 d2 =>
  ⟨_, pss_cons (ps_par hc hN hi hj hij hx hy WA.pa hw) WS.pss, ha G1 H1 e1 o1 _ fun vs G2 H2 e2 o2 r hl => by
    match vs, hl with
    | [v, w], _ => exact ⟨v, w, rfl, k [v, w] G2 (e1.trans e2) r G2 H2 (Ex.refl _) o2 D d1 fun σ4 G4 H4 C4 e4 o4 p4 => d2 σ4 G4 H4 C4 (e2.trans e4) o4 p4⟩⟩
theorem sb_parM3 {x y z : Str} {C' : List V → Cs} {φ : List V → Hp → Prop} {px py pz pt pt2 : Pos} {kt kt2 : Nat} (i j l : Nat) (ha : SM B X [a, b, c] σ G C C' φ) (k : ∀ vs G', Ex G G' → φ vs G' → SB B X rest (setAll σ [i, j, l] vs) G' (C' vs) R P) (hN : X.N.Nodup) (hij : i ≠ j := by decide) (hil : i ≠ l := by decide) (hjl : j ≠ l := by decide) (hi : X.N[i]? = some x := by rfl) (hj : X.N[j]? = some y := by rfl) (hl : X.N[l]? = some z := by rfl)
    (hx : X.env.scope.names.lookup x = some .local := by rfl) (hy : X.env.scope.names.lookup y = some .local := by rfl) (hz : X.env.scope.names.lookup z = some .local := by rfl) (hc : X.calm = true := by rfl)
    (hw : swappedStores [.Tuple [.Name x px, .Name y py, .Name z pz] kt pt] (.Tuple [a, b, c] kt2 pt2) X.env = pure (some [x, y, z]) := by rfl) : SB B X (.Assign [.Tuple [.Name x px, .Name y py, .Name z pz] kt pt] (.Tuple [a, b, c] kt2 pt2) pos :: rest) σ G C R P := fun G1 H1 e1 o1 D d1 d2 =>
  ⟨_, pss_cons (ps_par3 hc hN hi hj hl hij hil hjl hx hy hz WA.pa hw) WS.pss, ha G1 H1 e1 o1 _ fun vs G2 H2 e2 o2 r hl => by
    match vs, hl with
    | [v, w, u], _ => exact ⟨v, w, u, rfl, k [v, w, u] G2 (e1.trans e2) r G2 H2 (Ex.refl _) o2 D d1 fun σ4 G4 H4 C4 e4 o4 p4 => d2 σ4 G4 H4 C4 (e2.trans e4) o4 p4⟩⟩
/-- .. by way of a tuple -/
theorem sb_parMT {js : List Nat} {C' : List V → Cs} {φ : List V → Hp → Prop} {pt pt2 : Pos} {kt kt2 : Nat} (ha : SM B X es σ G C C' φ) (u : UG X tgs js) (k : ∀ vs G', Ex G G' → φ vs G' → SB B X rest (setAll σ js vs) G' (C' vs) R P) (hl : es.length = js.length := by rfl) (hz : es.length ≤ 1000 := by decide) (hc : X.calm = true := by rfl)
    (hs : swapsWithSole [.Tuple tgs kt pt] (.Tuple es kt2 pt2) pos.line X.env = pure false := by rfl) (hw : swappedStores [.Tuple tgs kt pt] (.Tuple es kt2 pt2) X.env = pure none := by rfl) (h1 : (assignEach [.Tuple tgs kt pt] X.env).map (·.2) = [assign (.Tuple tgs kt pt) X.env] := by rfl)
    (hn : (assignEach tgs X.env).length = js.length := by rfl) (hst : (assignEach tgs X.env).findIdx? (·.1) = none := by rfl) : SB B X (.Assign [.Tuple tgs kt pt] (.Tuple es kt2 pt2) pos :: rest) σ G C R P := fun G1 H1 e1 o1 D d1 d2 => by
  obtain ⟨g, g1, g2⟩ := u
  exact ⟨_, pss_cons (ps_asg (pe_tup WA.pa) (pg_tup hc g1 hn hst) hs hw h1) WS.pss, ha G1 H1 e1 o1 _ fun vs G2 H2 e2 o2 r hlen => ⟨by rw [hlen, sizeLine_eq]; omega, fun q hq =>
    ⟨q, vs, rfl, .inl (.inl upd_same), by rw [hlen, hl], g2 vs σ _ _ (by rw [hlen, hl]) (k vs G2 (e1.trans e2) r G2 _ (Ex.refl _) (o2.grow (Gr.own (M := []) o2.ex hq)) D d1 fun σ4 G4 H4 C4 e4 o4 p4 => d2 σ4 G4 H4 C4 (e2.trans e4) o4 p4)⟩⟩⟩
/-- an item of a tuple -/
theorem de_tix {x : Tup A} {n : Nat} {y : α} (ha : DE X a σ G x) (hb : DE X b σ G (n : Int)) (h : ∀ G vs, Args.rel x.val G vs → ∃ v, vs[n]? = some v ∧ rep G v y) (hs : PlainIx b := by exact fun _ _ => rfl) : DE X (.Subscript a b pos) σ G y :=
  de_ixr (y := (n : Int)) ix_tup (fun G H u v e r1 r2 Q k => by
    obtain ⟨p, vs, rfl, hp, r⟩ := r1
    obtain ⟨w, h1, h2⟩ := h G vs r
    exact ⟨p, vs, (n : Int), w, rfl, r2, .inl (.inl (e _ _ hp)), atI_nat h1, k w G H (Gr.refl e) h2⟩) ha hb hs
/-- repr of what is held by an address -/
theorem de_reprG [Dat α] {x : α} {k : Nat} (hm : X.mg ("repr" : Str) = none) (hr : Rm k X.A) (ha : DE X a σ G x) (h : RepOk x) (href : ∀ (G : Hp) (v : V), rep G v x → ∃ q, v = .ref q) (hd : Dat.dep α ≤ 60 := by decide) (hg : Gl X "repr" := by rfl)
    (he : starEach [a] X.env = (false, eval a X.env) :: starEach [] X.env := by rfl) (hpl : (backTo pos (starEach [] X.env)).any (·.1) = false := by rfl) : DE X (.Call (.Name "repr" p) [a] [] pos) σ G (reprD x) :=
  de_callB (call_reprD hr.gd) (fun G H u e r1 Q k => by
    have f1 := Rep.mono e r1
    have hl := Dat.lay f1
    have hdp := Dat.depth x
    have hu := hr.units
    have dd := Dat.dp X.K f1
    obtain ⟨q, ev⟩ := href _ _ r1
    subst ev
    exact ⟨q, Dat.dat x, rfl, dd, h.1, PyData.hasDict_of_canLay _ hl, by omega, h.2, k _ G H (Gr.refl e) ⟨rfl, h.2⟩⟩) hm ha hg (by decide +kernel) (by decide) (by decide) he hpl
theorem ref_het {x : Het A} : ∀ (G : Hp) (v : V), rep G v x → ∃ q, v = .ref q := fun _ _ ⟨p, _, h, _⟩ => ⟨p, h⟩
theorem ref_tup {x : Tup A} : ∀ (G : Hp) (v : V), rep G v x → ∃ q, v = .ref q := fun _ _ ⟨p, _, h, _⟩ => ⟨p, h⟩
theorem ref_pair {x : α × β} : ∀ (G : Hp) (v : V), rep G v x → ∃ q, v = .ref q := fun _ _ ⟨p, _, _, h, _⟩ => ⟨p, h⟩
end

section
variable [PC] {X : Cx} {a b : Expr} {σ : L2.St} {G : Hp} {pos : Pos} {f : Addr} {k n : Nat} {ps : List Str}
theorem dc_eqPL {l m : List PanelD} {pre : PanelD × PanelD × Unit → Prop} {g0 : PanelD × PanelD × Unit → Bool} (F : HasE X.prog X.w X.K X.mg X.base f n ps (SpN kD pre g0)) (hm : Meth X.K (PC.at_ "Panel") "__eq__" f) (hr : Rm k X.A) (ha : DE X a σ G l) (hb : DE X b σ G m)
    (hp : l.length = m.length ∧ ∀ (i : Nat) x y, l[i]? = some x → m[i]? = some y → pre (x, y, ()) ∧ g0 (x, y, ()) = true) (hl : n + 1 ≤ k := by decide) : DC X .Eq a b σ G true := by
  obtain ⟨fd, hbn, F⟩ := F.ex
  let R : Addr → Addr → Hp → Prop := fun p q H => ∃ G x y, Ex G H ∧ rep G (.ref p) x ∧ rep G (.ref q) y ∧ pre (x, y, ()) ∧ g0 (x, y, ()) = true
  have F2 : FnOk X.prog X.w X.K X.mg X.base CX0 n f fd ps (spEq R) := F.imp fun vs H Q E ⟨p, q, ev, ⟨G, x, y, eG, r1, r2, h1, h2⟩, hq⟩ =>
    ⟨G, (x, y, ()), eG, ⟨_, _, ev, r1, _, _, rfl, r2, rfl⟩, h1, fun w G' H' g r => by
      have e : w = .bl true := by rw [← h2]; exact r
      rw [e]
      exact hq H' g.hh⟩
  have hR : ∀ a b H H', Ext H H' → R a b H → R a b H' := fun a b H H' e ⟨G, x, y, eG, r⟩ => ⟨G, x, y, fun z o hz => e z o (eG z o hz), r⟩
  refine dc_cmp (op_eqG (rcG_list (mon_ins (C := PC.at_ "Panel") hR) (eqG_ins (C := PC.at_ "Panel") (R := R) F2 hm.at_ hm.fn hbn pass0)) (hr.room.mono hl)) (fun G H u v e r1 r2 Q k => ?_) ha hb
  obtain ⟨p, vs, rfl, hpp, hz1, rl⟩ := r1
  obtain ⟨q, ws, rfl, hqq, hz2, rm⟩ := r2
  refine ⟨⟨p, q, vs, ws, rfl, rfl, e _ _ hpp, e _ _ hqq, by rw [rl.len, rm.len]; exact hp.1, fun i v w hv hw => ?_⟩, fun H' eH => k _ G H' (Gr.of_ex e eH) rfl⟩
  obtain ⟨x, hx, rx⟩ := rl.get hv
  obtain ⟨y, hy, ry⟩ := rm.get hw
  obtain ⟨c, dx, fs, rfl, hc⟩ := panel_ins rx
  obtain ⟨d, dy, gs, rfl, hd⟩ := panel_ins ry
  obtain ⟨h1, h2⟩ := hp.2 i x y hx hy
  exact ⟨c, d, dx, dy, fs, gs, rfl, rfl, e _ _ hc, e _ _ hd, G, x, y, e, rx, ry, h1, h2⟩
end
end Dn

namespace Dn
open Dn.Rep (rep)
open PySem L2
def mapS {α β S : Type} (f : S → α → β × S) : List α → S → List β × S
  | [], s => ([], s)
  | x :: l, s => ((f s x).1 :: (mapS f l (f s x).2).1, (mapS f l (f s x).2).2)
def mapOk {α β S : Type} (f : S → α → β × S) (okf : S → α → Prop) : List α → S → Prop
  | [], _ => True
  | x :: l, s => okf s x ∧ mapOk f okf l (f s x).2
section
variable {B : Bs} {X : Cx} {α β γ S : Type} [Rep α] [Rep β] [Rep γ] {e a b c tg iter elt : Expr} {σ : L2.St} {G G' : Hp} {C C' C1 C2 : Cs} {pos : Pos} {scope : Scope}
theorem so_lc {l : List α} {own : List (Str × Nat)} {vs : List Nat} {T : α → L2.St → Hp → L2.St → Prop} (Cf : S → Cs) (f : S → α → β × S) (okf : S → α → Prop) (s0 : S) (hN : X.N.Nodup) (hc : X.calm = true) (src : SI B X tg iter σ G C l (Cf s0)) (ok : BlkOk X.N X.env.scope scope own) (ho : own.map (·.2) = vs) (tgt : DG X scope tg vs T) (hok : mapOk f okf l s0)
    (he : ∀ (B' : Bs) (i : Nat) y s σ2 G', l[i]? = some y → Ex G G' → T y (wipe σ vs) G' σ2 → okf s y → ∀ Y, InBlk X scope Y → SE B' Y elt σ2 G' (Cf s) (f s y).1 (Cf (f s y).2)) (hs : ∀ x, foldedSetIterable iter X.env x = pure x := by intro _; rfl) :
    SO B X (.ListComp elt [⟨tg, iter, [], 0⟩] scope pos) σ G C (mapS f l s0).1 (Cf (mapS f l s0).2) := fun G1 H1 e1 o1 Q k => by
  obtain ⟨g, hg, tg1⟩ := tgt.ex
  let tt : TT := fun σ H Q => ∀ (s : Shared) (H0 : Hp) (C : Addr) (cl : List (Str × Addr)) (fp : List Addr), WF (X.blk s H0 scope (compEnvC scope cl C X.env) fp) [] σ H Q
  let te : TE := fun σ H Q => ∀ (s : Shared) (H0 : Hp) (C : Addr) (cl : List (Str × Addr)) (fp : List Addr), WE (X.blk s H0 scope (compEnvC scope cl C X.env) fp) elt σ H Q
  have main := src G1 H1 e1 o1 (fun J H2 => ∀ D, H2 D = none → ∃ W : Nat → Nat → Hp → Prop, (∃ m, W 0 m (upd H2 D (.lst []))) ∧ ∀ i m H, W i m H →
        (J.stop i H ∧ Q (.ref D) H) ∨ (J.go i H ∧ ∃ Nx : Hp → Prop, (∀ H', Nx H' → ∃ m', m' < m ∧ W (i + 1) m' H') ∧ ∀ x H', J.yld i H x H' → g x (wipe σ (own.map (·.2))) H' fun σ2 H2 => wipe σ2 (own.map (·.2)) = wipe σ (own.map (·.2)) ∧ tt σ2 H2 fun b H3 =>
        if b = true then te σ2 H3 fun y H4 => ∃ acc, H4 D = some (.lst acc) ∧ acc.length < sizeLine ∧ Nx (upd H4 D (.lst (acc ++ [y]))) else Nx H3)) ?_
  · obtain ⟨wi, hw, q⟩ := main
    exact ⟨_, pe_lc hc hN hw ok hg (fun s H C cl fp => ⟨fun pins s1 σ1 H1 Q1 I1 z => WF.pts.run pins s1 σ1 H1 Q1 I1 (z s H C cl fp)⟩) (fun s H C cl fp => ⟨fun pins s1 σ1 H1 Q1 I1 z => WE.pe.run pins s1 σ1 H1 Q1 I1 (z s H C cl fp)⟩) hs, q⟩
  · intro J Gw Y G2 H2 e2 o2 wk hGw hY hz D hD
    rw [ho]
    have eD : Ex H2 (upd H2 D (.lst [])) := Ex.new hD
    have nD : G2 D = none := Ex.fresh o2.ex hD
    have bD : B.H D = none := o2.gr.dom _ hD
    refine lc_it wk (fun i H => ∃ G3 acc s rl, Ex G2 G3 ∧ On B (Cf s) G3 H ∧ G3 D = none ∧ H D = some (.lst acc) ∧ acc.length = i ∧ (∀ (j : Nat) v c, (Cf s)[j]? = some (v, c) → v ≠ D) ∧ Reps G3 acc rl ∧ mapS f l s0 = (rl ++ (mapS f (l.drop i) s).1, (mapS f (l.drop i) s).2) ∧ mapOk f okf (l.drop i) s)
      ⟨G2, [], s0, [], Ex.refl _, o2.grow (Gr.own o2.ex hD), nD, upd_same, rfl, fun j v c hj ev => ?_, .nil, rfl, hok⟩
      (fun i H _ ⟨G3, acc, s, rl, e3, o3, _⟩ => hGw H (e3.trans o3.ex)) ?_ ?_
    · obtain ⟨ob, h1, _⟩ := o2.at_ j v c hj
      rw [ev, hD] at h1; cases h1
    · rintro i x H H' hi ⟨G3, acc, s, rl, e3, o3, n3, hA, hl, nc, r, hm, ho3⟩ y
      obtain ⟨z, G4, hzl, g4, rz⟩ := hY i G3 H x H' hi e3 o3.ex y
      have o4 := o3.grow g4
      have hA4 : H' D = some (.lst acc) := g4.hh _ _ hA
      have n4 : G4 D = none := Gr.unk g4 hA n3
      have hd1 : l.drop i = z :: l.drop (i + 1) := by
        obtain ⟨hl, he⟩ := List.getElem?_eq_some_iff.mp hzl
        rw [List.drop_eq_getElem_cons hl, he]
      rw [hd1] at hm ho3
      obtain ⟨q1, q2⟩ := ho3
      have eG4 : Ex G G4 := e1.trans (e2.trans (e3.trans g4.gg))
      refine tg1 x z σ G4 H' g4.gh rz _ fun σ2 hT hw => ⟨hw, fun s1 H0 C0 cl0 fp0 => ?_⟩
      refine df_nil G4 H' (Ex.refl _) g4.gh _ fun G5 H5 g5 => iteT fun s1 H0 C0 cl0 fp0 => ?_
      have o5 := o4.grow g5
      have hA5 : H5 D = some (.lst acc) := g5.hh _ _ hA4
      have n5 : G5 D = none := Gr.unk g5 hA4 n4
      let B' : Bs := ⟨(Cf s).map (·.1), G5, H5⟩
      have onB : On B' (Cf s) G5 H5 := ⟨Gr.refl o5.ex, o5.at_, fun j v c hj => .inl (List.mem_map.mpr ⟨_, List.mem_of_getElem? hj, rfl⟩), o5.nd⟩
      refine he B' i z s σ2 G4 hzl eG4 hT q1 _ ⟨s1, H0, C0, cl0, fp0, rfl⟩ G5 H5 g5.gg onB _ fun w G6 H6 e6 o6 r6 => ?_
      have notM : D ∉ (Cf s).map (·.1) := fun hmem => by
        obtain ⟨pc, hpc, e⟩ := List.mem_map.mp hmem
        obtain ⟨j, hj⟩ := List.mem_iff_getElem?.mp hpc
        exact nc j pc.1 pc.2 hj e
      have hA6 : H6 D = some (.lst acc) := o6.gr.keep _ _ hA5 notM
      have n6 : G6 D = none := Gr.unk o6.gr hA5 n5
      have hM : ∀ v ∈ (Cf s).map (·.1), v ∈ B.M ∨ B.H v = none := fun v hv => by
        obtain ⟨pc, hpc, e⟩ := List.mem_map.mp hv
        obtain ⟨j, hj⟩ := List.mem_iff_getElem?.mp hpc
        rw [← e]
        exact o5.own j pc.1 pc.2 hj
      have nc6 : ∀ (j : Nat) v c, (Cf (f s z).2)[j]? = some (v, c) → v ≠ D := fun j v c hj e => by
        rcases o6.own j v c hj with h | h
        · exact notM (e ▸ h)
        · rw [e] at h
          have h' : H5 D = none := h
          rw [hA5] at h'; cases h'
      have gr6 : Gr B.M B.G B.H G6 H6 := o5.gr.trans o6.gr hM
      refine ⟨acc, hA6, by omega, G6, acc ++ [w], (f s z).2, rl ++ [(f s z).1], e3.trans (g4.gg.trans (g5.gg.trans e6)), ⟨gr6.set (.inr bD) n6, fun j v c hj => ?_, fun j v c hj => ?_, o6.nd⟩, n6, upd_same, by rw [List.length_append, List.length_singleton, hl], nc6, (Reps.mono (g4.gg.trans (g5.gg.trans e6)) r).app (.cons r6 .nil), ?_, q2⟩
      · obtain ⟨ob, c1, c2, c3⟩ := o6.at_ j v c hj
        exact ⟨ob, by rw [upd_ne (nc6 j v c hj)]; exact c1, c2, c3⟩
      · rcases o6.own j v c hj with h | h
        · exact hM v h
        · exact .inr (o5.gr.dom _ h)
      · rw [hm]
        show (rl ++ ((f s z).1 :: (mapS f (l.drop (i + 1)) (f s z).2).1), _) = _
        rw [List.append_assoc]
        rfl
    · rintro H ⟨G3, acc, s, rl, e3, o3, n3, hA, hl, nc, r, hm, ho3⟩
      rw [List.drop_length] at hm
      have em : mapS f l s0 = (rl, s) := by rw [hm]; simp [mapS]
      rw [em] at k
      exact k D G3 H (e2.trans e3) (o3.add hA n3 ⟨acc, rfl, by rw [hl]; exact hz, r⟩ (.inr bD) nc) bD
theorem so_rev {l : List α} {kk : Nat} {q1 q2 q3 : Pos} (ha : SE B X a σ G C l C1) : SO B X (.Subscript a (.Slice none none (some (.UnaryOp .USub (.Constant (.int 1) kk q1) q2)) q3) pos) σ G C l.reverse C1 := fun G1 H1 e1 o Q k =>
  ⟨_, pe_revL WE.pe, ha G1 H1 e1 o _ fun v G2 H2 e2 o2 r => by
    obtain ⟨p, vs, rfl, hp, hz, r⟩ := r
    have rv : ∀ {vs : List V} {l : List α}, Reps G2 vs l → Reps G2 vs.reverse l.reverse := by
      intro vs l r
      induction r with
      | nil => exact .nil
      | cons r t ih => rw [List.reverse_cons, List.reverse_cons]; exact ih.app (.cons r .nil)
    exact ⟨p, vs, rfl, .inl (.inl (o2.ex _ _ hp)), fun q hq => k q G2 _ e2 (o2.push hq ⟨_, rfl, by rw [List.length_reverse]; exact hz, rv r⟩) (o2.gr.dom _ hq)⟩⟩
theorem so_listOf {l : List α} {p : Pos} (hm : X.mg ("list" : Str) = none) (ha : SE B X a σ G C l C1) (hg : Gl X "list" := by rfl)
    (he : starEach [a] X.env = (false, eval a X.env) :: starEach [] X.env := by rfl) (hpl : (backTo pos (starEach [] X.env)).any (·.1) = false := by rfl) : SO B X (.Call (.Name "list" p) [a] [] pos) σ G C l C1 := fun G1 H1 e1 o Q k =>
  ⟨_, pe_callTy call_list_of hg hm (by decide +kernel) (pa_cons WE.pe pa_nil he) (by decide) (by decide) he hpl, ha G1 H1 e1 o _ fun v G2 H2 e2 o2 r => by
    obtain ⟨p, vs, rfl, hp, hz, r⟩ := r
    exact ⟨p, vs, rfl, .inl (.inl (.inl (o2.ex _ _ hp))), fun q hq => k q G2 _ e2 (o2.push hq ⟨_, rfl, hz, r⟩) (o2.gr.dom _ hq)⟩⟩
/-- one's own list, from here on known and never changed -/
theorem On.frzAt {H : Hp} {i : Nat} {u : Addr} {l : List α} (h : On B C G H) (hi : C[i]? = some (u, cl l)) (hB : B.H u = none) : ∃ vs, G u = none ∧ On B (C.eraseIdx i) (upd G u (.lst vs)) H ∧ rep (upd G u (.lst vs)) (.ref u) l := by
  obtain ⟨o, h1, h2, vs, rfl, hz, r⟩ := h.at_ _ _ _ hi
  have ex : Ex G (upd G u (.lst vs)) := Ex.new h2
  have back : ∀ (j : Nat) v c, (C.eraseIdx i)[j]? = some (v, c) → ∃ k, k ≠ i ∧ C[k]? = some (v, c) := fun j v c hj => by
    rw [List.getElem?_eraseIdx] at hj
    split at hj
    · exact ⟨j, by omega, hj⟩
    · exact ⟨j + 1, by omega, hj⟩
  refine ⟨vs, h2, ⟨?_, fun j v c hj => ?_, fun j v c hj => ?_, ?_⟩, u, vs, rfl, upd_same, hz, Reps.mono ex r⟩
  · refine ⟨h.gr.keep, h.gr.dom, h.gr.gg.trans ex, fun x w q => ?_, fun x w q1 q2 => ?_⟩
    · by_cases z : x = u
      · subst z; rw [upd_same] at q; cases q; exact h1
      · rw [upd_ne z] at q; exact h.gr.gh x w q
    · by_cases z : x = u
      · subst z; exact hB
      · rw [upd_ne z] at q1; exact h.gr.fr x w q1 q2
  · obtain ⟨k, hk, hj'⟩ := back j v c hj
    obtain ⟨o, q1, q2, q3⟩ := h.at_ k v c hj'
    have ne : v ≠ u := h.ne hj' hi hk
    exact ⟨o, q1, by rw [upd_ne ne]; exact q2, c.mono ex q3⟩
  · obtain ⟨k, hk, hj'⟩ := back j v c hj
    exact h.own k v c hj'
  · exact h.nd.sublist ((List.eraseIdx_sublist C i).map _)
theorem sb_frz {sts : List Stmt} {R : VK → Prop} {P : L2.St → Hp → Cs → Prop} {u : Addr} {l : List α} (i : Nat) (hi : C[i]? = some (u, cl l)) (hB : B.H u = none) (k : ∀ G', Ex G G' → rep G' (.ref u) l → SB B X sts σ G' (C.eraseIdx i) R P) : SB B X sts σ G C R P := fun G1 H1 e1 o D k1 k2 => by
  obtain ⟨vs, n, o2, r⟩ := o.frzAt hi hB
  exact k _ (e1.trans (Ex.new n)) r _ H1 (Ex.refl _) o2 D k1 fun σ3 G3 H3 C3 e3 o3 p3 => k2 σ3 G3 H3 C3 ((Ex.new n).trans e3) o3 p3
/-- range(b) etc. -/
theorem SI.cs {l : List α} (h : SI B X tg iter σ G C l C1) (q : C1 = C2) : SI B X tg iter σ G C l C2 := q ▸ h
/-- xs * n of one's own lists is not here; of data: -/
def rept (l : List α) (n : Int) : List α := (List.replicate n.toNat l).flatten
end
end Dn

namespace ZM
open PySem
open PySem.Sem (wp)
section
variable {prog : Program} {w : World} {A : Around} {E : Value → Shared → Prop} {s : Shared}
theorem zipM_next_item {z TI TO i1 i2 l1 l2 : Addr} {k1 k2 : Nat} {xs ys : Array Value} {x y a b : Value} {Q : Value → Shared → Prop} (D : ZipApart z TI TO i1 i2 l1 l2)
    (hz : IsZip s.heap z TI TO .none) (hTI : IsPair s.heap TI (.ref i1) (.ref i2)) (hTO : IsPair s.heap TO a b)
    (h1 : s.heap.IsListIter i1 l1 k1) (h2 : s.heap.IsTupleIter i2 l2 k2) (hl1 : s.heap.IsList l1 xs) (hl2 : s.heap.IsTuple l2 ys) (hx : xs[k1]? = some x) (hy : ys[k2]? = some y)
    (hQ : ∀ h', IsZip h' z TI TO (rawInt s.heap.objs.size) → IsPair h' TO x y → h'.IsListIter i1 l1 (k1 + 1) → h'.IsTupleIter i2 l2 (k2 + 1) → IsPair h' s.heap.objs.size x y → h'.objs.size = s.heap.objs.size + 1 →
      (∀ c o, c ≠ z → c ≠ TO → c ≠ i1 → c ≠ i2 → s.heap.get? c = some o → h'.get? c = some o) → Q (.ref s.heap.objs.size) { s with heap := h' }) :
    wpAny (model prog w) A (Builtin.«zip.__next__» ⟨[.ref z], []⟩) (fun fin s' => ∃ v, fin = .done (.ret v) ∧ Q v s') E s := by
  show wpAny _ _ (field (.ref z) 2 >>= _) _ _ _
  refine wpAny_bind (wpAny_field hz rfl (x := .bool false) rfl ?_)
  show wpAny _ _ (field (.ref z) 3 >>= _) _ _ _
  refine wpAny_bind (wpAny_field hz rfl (x := .ref TI) rfl ?_)
  refine wpAny_bind (wpAny_seqItems hTI rfl ?_)
  show wpAny _ _ (Builtin.SmallTypes.ownedTupleIsFree (.ref z) >>= _) _ _ _
  refine wpAny_bind ?_
  unfold Builtin.SmallTypes.ownedTupleIsFree
  refine wpAny_bind (wpAny_field hz rfl (x := .none) rfl (wpAny_pure ?_))
  simp only [if_true]
  refine wpAny_bind (wpAny_rule ?_)
  refine wpAny_bind (wpAny_field hz rfl (x := .ref TO) rfl ?_)
  refine wpAny_bind (wpAny_setField_rec hz (by simp) fun h₁ hz₁ hs₁ => ?_)
  replace hz₁ : IsZip h₁ z TI TO .ellipsis := hz₁
  refine wpAny_bind ?_
  simp only [List.zipIdx_cons, List.zipIdx_nil, List.forIn_cons, List.forIn_nil]

  refine wpAny_bind (wpAny_bind (wpAny_onRaise ?_))
  show wpAny _ _ (Builtin.SmallTypes.nextOf (.ref i1) >>= _) _ _ _
  refine wpAny_bind (wpAny_nextOf_list_item (h1.extBut hs₁.extBut D.i1z) (hl1.extBut hs₁.extBut D.l1z) hx fun h₂ h1₂ hs₂ => wpAny_pure ?_)
  have hTO₂ : IsPair h₂ TO a b := hs₂.extBut _ _ D.TOi1 (hs₁.extBut _ _ D.TOz hTO)
  refine wpAny_bind (wpAny_seqItems hTO₂ rfl ?_)
  refine wpAny_bind (wpAny_updateSeq_pair hTO₂ fun h₃ hTO₃ hs₃ => ?_)
  replace hTO₃ : IsPair h₃ TO x b := hTO₃
  refine wpAny_bind (wpAny_letGo (wpAny_pure ?_))

  refine wpAny_bind (wpAny_bind (wpAny_onRaise ?_))
  show wpAny _ _ (Builtin.SmallTypes.nextOf (.ref i2) >>= _) _ _ _
  refine wpAny_bind (RZ.nextOf_tuple_item (((h2.extBut hs₁.extBut D.i2z).extBut hs₂.extBut D.i12.symm).extBut hs₃.extBut D.TOi2.symm)
    (((hl2.extBut hs₁.extBut D.l2z).extBut hs₂.extBut D.l2i1).extBut hs₃.extBut D.l2TO) hy fun h₄ h2₄ hs₄ => wpAny_pure ?_)
  have hTO₄ : IsPair h₄ TO x b := hs₄.extBut _ _ D.TOi2 hTO₃
  refine wpAny_bind (wpAny_seqItems hTO₄ rfl ?_)
  refine wpAny_bind (wpAny_updateSeq_pair hTO₄ fun h₅ hTO₅ hs₅ => ?_)
  replace hTO₅ : IsPair h₅ TO x y := hTO₅
  refine wpAny_bind (wpAny_letGo (wpAny_pure (wpAny_pure ?_)))

  refine wpAny_bind (wpAny_seqItems hTO₅ rfl ?_)
  refine wpAny_bind (wpAny_newTuple ?_)
  have hsz : h₅.objs.size = s.heap.objs.size := by rw [hs₅.1, hs₄.1, hs₃.1, hs₂.1, hs₁.1]
  have hz₅ : IsZip h₅ z TI TO .ellipsis := hs₅.extBut _ _ D.TOz.symm (hs₄.extBut _ _ D.i2z.symm (hs₃.extBut _ _ D.TOz.symm (hs₂.extBut _ _ D.i1z.symm hz₁)))
  have hk₅ : ∀ c o, c ≠ z → c ≠ TO → c ≠ i1 → c ≠ i2 → s.heap.get? c = some o → h₅.get? c = some o := fun c o c1 c2 c3 c4 e =>
    hs₅.extBut _ _ c2 (hs₄.extBut _ _ c4 (hs₃.extBut _ _ c2 (hs₂.extBut _ _ c3 (hs₁.extBut _ _ c1 e))))
  have h1₅ : h₅.IsListIter i1 l1 (k1 + 1) := ((h1₂.extBut hs₃.extBut D.TOi1.symm).extBut hs₄.extBut D.i12).extBut hs₅.extBut D.TOi1.symm
  have h2₅ : h₅.IsTupleIter i2 l2 (k2 + 1) := h2₄.extBut hs₅.extBut D.TOi2.symm
  have hzlt : z < h₅.objs.size := Heap.lt_size hz₅
  have hTOlt : TO < h₅.objs.size := Heap.lt_size hTO₅
  have hi1lt : i1 < h₅.objs.size := by obtain ⟨_, e, _⟩ := h1₅; exact Heap.lt_size e
  have hi2lt : i2 < h₅.objs.size := by obtain ⟨_, e, _⟩ := h2₅; exact Heap.lt_size e
  show wpAny _ _ (Builtin.SmallTypes.ownedTupleHandOut (.ref z) (.ref h₅.objs.size) >>= _) _ _ _
  refine wpAny_bind ?_
  unfold Builtin.SmallTypes.ownedTupleHandOut
  have hz₆ : IsZip (h₅.push { cls := .type "tuple", data := .seq #[x, y] }) z TI TO .ellipsis := Heap.get?_push_of_some _ hz₅
  refine wpAny_bind (wpAny_setField_rec hz₆ (by simp) fun h₇ hz₇ hs₇ => ?_)
  replace hz₇ : IsZip h₇ z TI TO (rawInt h₅.objs.size) := hz₇
  refine wpAny_setField_rec hz₇ (by simp) fun h₈ hz₈ hs₈ => ?_
  replace hz₈ : IsZip h₈ z TI TO (rawInt h₅.objs.size) := hz₈
  have up : ∀ c o, c ≠ z → h₅.get? c = some o → h₈.get? c = some o := fun c o c1 e => hs₈.extBut _ _ c1 (hs₇.extBut _ _ c1 (Heap.get?_push_of_some _ e))
  have hT₈ : IsPair h₈ h₅.objs.size x y := hs₈.extBut _ _ (Nat.ne_of_gt hzlt) (hs₇.extBut _ _ (Nat.ne_of_gt hzlt) (Heap.get?_push_size _ rfl))
  have hz8 : h₈.objs.size = h₅.objs.size + 1 := by rw [hs₈.1, hs₇.1, Heap.size_push]
  rw [hsz] at hz₈ hT₈ hz8
  refine wpAny_pure ⟨_, rfl, ?_⟩
  show Q (.ref h₅.objs.size) _
  rw [hsz]
  exact hQ h₈ hz₈ (up _ _ D.TOz hTO₅) (h1₅.at fun o e => up _ o D.i1z e) (h2₅.at fun o e => up _ o D.i2z e) hT₈ hz8 fun c o c1 c2 c3 c4 e => up c o c1 (hk₅ c o c1 c2 c3 c4 e)

theorem zipM_next_end {z TI TO i1 i2 l1 l2 : Addr} {k1 k2 : Nat} {xs ys : Array Value} {a b : Value} {Q : Fin → Shared → Prop} (hh : A.handled = none) (D : ZipApart z TI TO i1 i2 l1 l2)
    (hz : IsZip s.heap z TI TO .none) (hTI : IsPair s.heap TI (.ref i1) (.ref i2)) (hTO : IsPair s.heap TO a b)
    (h1 : s.heap.IsListIter i1 l1 k1) (h2 : s.heap.IsTupleIter i2 l2 k2) (hl1 : s.heap.IsList l1 xs) (hl2 : s.heap.IsTuple l2 ys) (hend : xs[k1]? = none ∨ ys[k2]? = none)
    (hE : ∀ h' e, (∀ c o, c ≠ z → c ≠ TO → c ≠ i1 → c ≠ i2 → s.heap.get? c = some o → h'.get? c = some o) → (∃ o, h'.get? e = some o ∧ o.cls = .type "StopIteration") → E (.ref e) { s with heap := h' }) :
    wpAny (model prog w) A (Builtin.«zip.__next__» ⟨[.ref z], []⟩) Q E s := by
  show wpAny _ _ (field (.ref z) 2 >>= _) _ _ _
  refine wpAny_bind (wpAny_field hz rfl (x := .bool false) rfl ?_)
  show wpAny _ _ (field (.ref z) 3 >>= _) _ _ _
  refine wpAny_bind (wpAny_field hz rfl (x := .ref TI) rfl ?_)
  refine wpAny_bind (wpAny_seqItems hTI rfl ?_)
  show wpAny _ _ (Builtin.SmallTypes.ownedTupleIsFree (.ref z) >>= _) _ _ _
  refine wpAny_bind ?_
  unfold Builtin.SmallTypes.ownedTupleIsFree
  refine wpAny_bind (wpAny_field hz rfl (x := .none) rfl (wpAny_pure ?_))
  simp only [if_true]
  refine wpAny_bind (wpAny_rule ?_)
  refine wpAny_bind (wpAny_field hz rfl (x := .ref TO) rfl ?_)
  refine wpAny_bind (wpAny_setField_rec hz (by simp) fun h₁ hz₁ hs₁ => ?_)
  replace hz₁ : IsZip h₁ z TI TO .ellipsis := hz₁
  refine wpAny_bind ?_
  simp only [List.zipIdx_cons, List.zipIdx_nil, List.forIn_cons, List.forIn_nil]
  refine wpAny_bind (wpAny_bind (wpAny_onRaise ?_))
  show wpAny _ _ (Builtin.SmallTypes.nextOf (.ref i1) >>= _) _ _ _
  cases hx : xs[k1]? with
  | none =>
    refine wpAny_bind (wpAny_nextOf_list_end hh (h1.extBut hs₁.extBut D.i1z) (hl1.extBut hs₁.extBut D.l1z) hx fun h₂ e hs₂ he => ?_)
    obtain ⟨oe, hoe, hce⟩ := he
    have hz₂ : IsZip h₂ z TI TO .ellipsis := hs₂ _ _ D.i1z.symm hz₁
    have hez : e ≠ z := fun x => by subst x; rw [hz₂] at hoe; cases hoe; simp at hce
    refine wpAny_setField_rec hz₂ (by simp) fun h₃ _ hs₃ => hE h₃ e (fun c o c1 _ c3 _ x => hs₃.extBut _ _ c1 (hs₂ _ _ c3 (hs₁.extBut _ _ c1 x))) ⟨oe, hs₃.extBut _ _ hez hoe, hce⟩
  | some x =>
    have hy : ys[k2]? = none := by rcases hend with h | h; rw [hx] at h; cases h; exact h
    refine wpAny_bind (wpAny_nextOf_list_item (h1.extBut hs₁.extBut D.i1z) (hl1.extBut hs₁.extBut D.l1z) hx fun h₂ h1₂ hs₂ => wpAny_pure ?_)
    have hTO₂ : IsPair h₂ TO a b := hs₂.extBut _ _ D.TOi1 (hs₁.extBut _ _ D.TOz hTO)
    refine wpAny_bind (wpAny_seqItems hTO₂ rfl ?_)
    refine wpAny_bind (wpAny_updateSeq_pair hTO₂ fun h₃ hTO₃ hs₃ => ?_)
    refine wpAny_bind (wpAny_letGo (wpAny_pure ?_))
    refine wpAny_bind (wpAny_bind (wpAny_onRaise ?_))
    show wpAny _ _ (Builtin.SmallTypes.nextOf (.ref i2) >>= _) _ _ _
    refine wpAny_bind (RZ.nextOf_tuple_end hh (((h2.extBut hs₁.extBut D.i2z).extBut hs₂.extBut D.i12.symm).extBut hs₃.extBut D.TOi2.symm)
      (((hl2.extBut hs₁.extBut D.l2z).extBut hs₂.extBut D.l2i1).extBut hs₃.extBut D.l2TO) hy fun h₄ e hs₄ he => ?_)
    obtain ⟨oe, hoe, hce⟩ := he
    have hz₄ : IsZip h₄ z TI TO .ellipsis := hs₄ _ _ D.i2z.symm (hs₃.extBut _ _ D.TOz.symm (hs₂.extBut _ _ D.i1z.symm hz₁))
    have hez : e ≠ z := fun x => by subst x; rw [hz₄] at hoe; cases hoe; simp at hce
    refine wpAny_setField_rec hz₄ (by simp) fun h₅ _ hs₅ => hE h₅ e (fun c o c1 c2 c3 c4 x => hs₅.extBut _ _ c1 (hs₄ _ _ c4 (hs₃.extBut _ _ c2 (hs₂.extBut _ _ c3 (hs₁.extBut _ _ c1 x))))) ⟨oe, hs₅.extBut _ _ hez hoe, hce⟩

theorem pyNext_zipM_item {z TI TO i1 i2 l1 l2 : Addr} {k1 k2 : Nat} {xs ys : Array Value} {x y a b : Value} {Q : Option Value → Shared → Prop} (D : ZipApart z TI TO i1 i2 l1 l2)
    (hz : IsZip s.heap z TI TO .none) (hTI : IsPair s.heap TI (.ref i1) (.ref i2)) (hTO : IsPair s.heap TO a b)
    (h1 : s.heap.IsListIter i1 l1 k1) (h2 : s.heap.IsTupleIter i2 l2 k2) (hl1 : s.heap.IsList l1 xs) (hl2 : s.heap.IsTuple l2 ys) (hx : xs[k1]? = some x) (hy : ys[k2]? = some y)
    (hQ : ∀ h', IsZip h' z TI TO (rawInt s.heap.objs.size) → IsPair h' TO x y → h'.IsListIter i1 l1 (k1 + 1) → h'.IsTupleIter i2 l2 (k2 + 1) → IsPair h' s.heap.objs.size x y → h'.objs.size = s.heap.objs.size + 1 →
      (∀ c o, c ≠ z → c ≠ TO → c ≠ i1 → c ≠ i2 → s.heap.get? c = some o → h'.get? c = some o) → Q (some (.ref s.heap.objs.size)) { s with heap := h' }) :
    wpAny (model prog w) A (pyNext (.ref z)) Q E s := by
  have hT : s.TypeIs (.ref z) "zip" := ⟨_, hz, rfl⟩
  unfold pyNext
  exact wpAny_bind (wpAny_attempt (wpAny_callSpecial?_slot (name := Str.ofString "__next__") hT F.slot_zip_next
    (wpAny_call_entry F.slot_zip_next hT F.entry_zip_next
      (zipM_next_item D hz hTI hTO h1 h2 hl1 hl2 hx hy fun h' a1 a2 a3 a4 a5 a6 a7 => wpAny_pure (hQ h' a1 a2 a3 a4 a5 a6 a7)) (F.args_zip_next_1 _))))

theorem pyNext_zipM_end {z TI TO i1 i2 l1 l2 : Addr} {k1 k2 : Nat} {xs ys : Array Value} {a b : Value} {Q : Option Value → Shared → Prop} (hh : A.handled = none) (D : ZipApart z TI TO i1 i2 l1 l2)
    (hz : IsZip s.heap z TI TO .none) (hTI : IsPair s.heap TI (.ref i1) (.ref i2)) (hTO : IsPair s.heap TO a b)
    (h1 : s.heap.IsListIter i1 l1 k1) (h2 : s.heap.IsTupleIter i2 l2 k2) (hl1 : s.heap.IsList l1 xs) (hl2 : s.heap.IsTuple l2 ys) (hend : xs[k1]? = none ∨ ys[k2]? = none)
    (hQ : ∀ h', (∀ c o, c ≠ z → c ≠ TO → c ≠ i1 → c ≠ i2 → s.heap.get? c = some o → h'.get? c = some o) → Q none { s with heap := h' }) : wpAny (model prog w) A (pyNext (.ref z)) Q E s := by
  have hT : s.TypeIs (.ref z) "zip" := ⟨_, hz, rfl⟩
  unfold pyNext
  refine wpAny_bind (wpAny_attempt (wpAny_callSpecial?_slot (name := Str.ofString "__next__") hT F.slot_zip_next
    (wpAny_call_entry F.slot_zip_next hT F.entry_zip_next (zipM_next_end hh D hz hTI hTO h1 h2 hl1 hl2 hend fun h' e hk he => ?_) (F.args_zip_next_1 _))))
  obtain ⟨o, ho, hc⟩ := he
  refine wpAny_bind (wpAny_isInstance (T := "StopIteration") (b := true) ⟨o, ho, hc⟩ isSubtype_stop ?_)
  exact wpAny_pure (hQ _ hk)
end

abbrev zipMH1 (h : Heap) (l1 : Addr) : Heap := h.push { cls := .type "list_iterator", data := .fields #[.ref l1, .int 0 0] }
abbrev zipMH2 (h : Heap) (l1 l2 : Addr) : Heap := (zipMH1 h l1).push { cls := .type "tuple_iterator", data := .fields #[.ref l2, .int 0 0] }
abbrev zipMH3 (h : Heap) (l1 l2 : Addr) : Heap := (zipMH2 h l1 l2).push { cls := .type "tuple", data := .seq #[.ref h.objs.size, .ref (zipMH1 h l1).objs.size] }
abbrev zipMH4 (h : Heap) (l1 l2 : Addr) : Heap := (zipMH3 h l1 l2).push { cls := .type "tuple", data := .seq #[.none, .none] }
abbrev zipMH5 (h : Heap) (l1 l2 : Addr) : Heap := (zipMH4 h l1 l2).push { cls := .type "zip", data := .fields #[.none, .bool false, .bool false, .ref (zipMH2 h l1 l2).objs.size, .ref (zipMH3 h l1 l2).objs.size] }

theorem meets_zipM_new (l1 l2 : Addr) (xs ys : Array Value) :
    Meets (Builtin.«zip.__new__» ⟨[.type "zip", .ref l1, .ref l2], []⟩) (fun _ R s => s.heap.IsList l1 xs ∧ s.heap.IsTuple l2 ys ∧
      R (.ok (.ret (.ref (zipMH4 s.heap l1 l2).objs.size))) { s with heap := zipMH5 s.heap l1 l2 }) :=
  .of_wp fun prog w A R s h => by
    obtain ⟨hp, g, d, tk, os⟩ := s; obtain ⟨hl1, hl2, h⟩ := h
    have hsub := sub_zip
    have hL1 : Heap.IsList (Shared.heap ⟨hp, g, d, tk, os⟩) l1 xs := hl1
    have hL2 : Heap.IsTuple (Shared.heap ⟨hp.push { cls := .type "list_iterator", data := .fields #[.ref l1, .int 0 0] }, g, d, tk, os⟩) l2 ys := Heap.IsTuple.push hl2 _
    wp_walk using wpAny_pyIter_list hL1, wpAny_pyIter_tuple hL2
    exact ⟨_, rfl, h⟩

section
variable {prog : Program} {w : World} {A : Around} {E : Value → Shared → Prop} {s : Shared}

theorem call_zipM {l1 l2 : Addr} {xs ys : Array Value} {Q : Value → Shared → Prop} (hl1 : s.heap.IsList l1 xs) (hl2 : s.heap.IsTuple l2 ys)
    (h : ∀ h', IsZip h' (s.heap.objs.size + 4) (s.heap.objs.size + 2) (s.heap.objs.size + 3) .none → IsPair h' (s.heap.objs.size + 2) (.ref s.heap.objs.size) (.ref (s.heap.objs.size + 1)) →
      IsPair h' (s.heap.objs.size + 3) .none .none → h'.IsListIter s.heap.objs.size l1 0 → h'.IsTupleIter (s.heap.objs.size + 1) l2 0 → h'.objs.size = s.heap.objs.size + 5 →
      (∀ c o, s.heap.get? c = some o → h'.get? c = some o) → Q (.ref (s.heap.objs.size + 4)) { s with heap := h' }) :
    wpAny (model prog w) A (call (.type "zip") [.ref l1, .ref l2]) Q E s := by
  refine callType_new F.called_zip (by decide) (F.typeCall_zip_2 _ _) (F.newCall_zip_2 _ _) (fun obj => F.args_object_init_3 obj _ _) F.entry_zip_new
    (meets_zipM_new l1 l2 xs ys) ⟨hl1, hl2, ?_⟩
  have z1 : (zipMH1 s.heap l1).objs.size = s.heap.objs.size + 1 := Heap.size_push ..
  have z2 : (zipMH2 s.heap l1 l2).objs.size = s.heap.objs.size + 2 := by rw [Heap.size_push, z1]
  have z3 : (zipMH3 s.heap l1 l2).objs.size = s.heap.objs.size + 3 := by rw [Heap.size_push, z2]
  have z4 : (zipMH4 s.heap l1 l2).objs.size = s.heap.objs.size + 4 := by rw [Heap.size_push, z3]
  have z5 : (zipMH5 s.heap l1 l2).objs.size = s.heap.objs.size + 5 := by rw [Heap.size_push, z4]
  have g5 : (zipMH5 s.heap l1 l2).get? (zipMH4 s.heap l1 l2).objs.size = some _ := Heap.get?_push_size _ rfl
  have g4 : (zipMH5 s.heap l1 l2).get? (zipMH3 s.heap l1 l2).objs.size = some _ := Heap.get?_push_of_some _ (Heap.get?_push_size _ rfl)
  have g3 : (zipMH5 s.heap l1 l2).get? (zipMH2 s.heap l1 l2).objs.size = some _ := Heap.get?_push_of_some _ (Heap.get?_push_of_some _ (Heap.get?_push_size _ rfl))
  have g2 : (zipMH5 s.heap l1 l2).get? (zipMH1 s.heap l1).objs.size = some _ := Heap.get?_push_of_some _ (Heap.get?_push_of_some _ (Heap.get?_push_of_some _ (Heap.get?_push_size _ rfl)))
  have g1 : (zipMH5 s.heap l1 l2).get? s.heap.objs.size = some _ := Heap.get?_push_of_some _ (Heap.get?_push_of_some _ (Heap.get?_push_of_some _ (Heap.get?_push_of_some _ (Heap.get?_push_size _ rfl))))
  show _ ∧ _
  rw [z2, z3, z4] at g5
  rw [z1, z2] at g3
  rw [z3] at g4
  rw [z1] at g2
  rw [z4]
  exact ⟨⟨_, g5, rfl⟩, h _ g5 g3 g4 ⟨_, g1, rfl, rfl⟩ ⟨_, g2, rfl, rfl⟩ z5 fun c o x =>
    Heap.get?_push_of_some _ (Heap.get?_push_of_some _ (Heap.get?_push_of_some _ (Heap.get?_push_of_some _ (Heap.get?_push_of_some _ x))))⟩
end
end ZM
namespace ZM
open PySem PySem.Spec PyProof.Rows L2
def ItzM (K : PySem.W.Frag) (a b : Addr) : It :=
  ⟨fun i H => ∃ (xs ys : List V) (x y : V), SqL K H a xs ∧ SqT K H b ys ∧ xs[i]? = some x ∧ ys[i]? = some y,
    fun i H v H' => ∃ T x y, v = .ref T ∧ H T = none ∧ H' = upd H T (.tup [x, y]) ∧ (∀ xs, SqL K H a xs → xs[i]? = some x) ∧ ∀ ys, SqT K H b ys → ys[i]? = some y,
    fun i H => ∃ xs ys : List V, SqL K H a xs ∧ SqT K H b ys ∧ (xs.length ≤ i ∨ ys.length ≤ i)⟩
theorem turn_zipM {P : Program} {w : World} {K : PySem.W.Frag} {elts : List Expr} {kk : Nat} {tpos : Pos} {a b z TI TO i1 i2 : Addr} (D : ZipApart z TI TO i1 i2 a b) :
    Turn P w K (.Tuple elts kk tpos) (ItzM K a b) [z, TI, TO, i1, i2] z (fun i h => IsZip h z TI TO .none ∧ IsPair h TI (.ref i1) (.ref i2) ∧ (∃ x y, IsPair h TO x y) ∧ h.IsListIter i1 a i ∧ h.IsTupleIter i2 b i) where
  mem := by simp
  obj := fun i h st c hc => by
    obtain ⟨hz, hTI, ⟨x, y, hTO⟩, ⟨o1, e1, _, d1⟩, ⟨o2, e2, _, d2⟩⟩ := st
    have e' : c = z ∨ c = TI ∨ c = TO ∨ c = i1 ∨ c = i2 := by simpa using hc
    rcases e' with q | q | q | q | q
    · rw [q]; exact ⟨_, hz, fun v q => nomatch q⟩
    · rw [q]; exact ⟨_, hTI, fun v q => nomatch q⟩
    · rw [q]; exact ⟨_, hTO, fun v q => nomatch q⟩
    · rw [q]; exact ⟨o1, e1, fun v q => by rw [d1] at q; cases q⟩
    · rw [q]; exact ⟨o2, e2, fun v q => by rw [d2] at q; cases q⟩
  keep := fun i h h' st k => by
    obtain ⟨hz, hTI, ⟨x, y, hTO⟩, h1, h2⟩ := st
    exact ⟨k z (by simp) _ hz, k TI (by simp) _ hTI, ⟨x, y, k TO (by simp) _ hTO⟩, h1.at fun o q => k i1 (by simp) o q, h2.at fun o q => k i2 (by simp) o q⟩
  item := by
    intro X hP hw hK hc i pins s σ H E I hf st hg
    subst hP hw hK
    obtain ⟨hz, hTI, ⟨x0, y0, hTO⟩, h1, h2⟩ := st
    obtain ⟨xs, ys, x, y, hqx, hqy, hx, hy⟩ := hg
    obtain ⟨its, rv, p, _⟩ := I.list hqx
    obtain ⟨its2, rv2, p2, _⟩ := I.tuple hqy
    obtain ⟨u, hu, ru⟩ := rv.get hx
    obtain ⟨u2, hu2, ru2⟩ := rv2.get hy
    have hzl : z < s.heap.objs.size := Heap.lt_size hz
    refine pyNext_zipM_item D hz hTI hTO h1 h2 p.isList p2 (x := u) (y := u2) (by simpa using hu) (by simpa using hu2) fun h' z' TO' h1' h2' hT hsz hk => ?_
    refine ⟨_, rfl, wpAny_letOwnedTupleGo_zip (s := { s with heap := h' }) z' fun h'' z'' sb => ?_⟩
    have hT2 : h''.get? s.heap.objs.size = some { cls := .type "tuple", data := .seq #[u, u2] } := (sb.2 _ (Nat.ne_of_gt hzl)).trans hT
    have new : ObjOk X.prog X.w (upd H s.heap.objs.size (.tup [x, y])) h'' s.heap.objs.size (.tup [x, y]) :=
      ⟨by show 2 ≤ sizeLine; decide, [u, u2], .cons ru (.cons ru2 .nil), ⟨_, hT2, rfl, _, rfl⟩⟩
    have I1 : Inv X pins σ (upd H s.heap.objs.size (.tup [x, y])) { s with heap := h'' } :=
      I.turnedNew (t' := s.toks) (ch := [z, TI, TO, i1, i2]) (fun c o hb q => (sb.2 c (fun q' => hb (by simp [q']))).trans (hk c o (fun q' => hb (by simp [q'])) (fun q' => hb (by simp [q'])) (fun q' => hb (by simp [q'])) (fun q' => hb (by simp [q'])) q)) hf (Nat.le_refl _) new
    refine ⟨.ref s.heap.objs.size, _, I1, rfl, ⟨_, x, y, rfl, I.hok.fresh (Nat.le_refl _), rfl, fun l hl => by rw [I.list_inj hl hqx]; exact hx, fun l hl => by rw [I.tuple_inj hl hqy]; exact hy⟩, ⟨z'', ?_, ⟨u, u2, ?_⟩, ?_, ?_⟩, fun c hcm => ?_⟩
    · exact (sb.2 _ D.TIz).trans (hk _ _ D.TIz D.TITO D.TIi1 D.TIi2 hTI)
    · exact (sb.2 _ D.TOz).trans TO'
    · exact h1'.at fun o q => (sb.2 _ D.i1z).trans q
    · exact h2'.at fun o q => (sb.2 _ D.i2z).trans q
    · have hlt : c < s.heap.objs.size := by
        have e' : c = z ∨ c = TI ∨ c = TO ∨ c = i1 ∨ c = i2 := by simpa using hcm
        rcases e' with q | q | q | q | q
        · rw [q]; exact hzl
        · rw [q]; exact Heap.lt_size hTI
        · rw [q]; exact Heap.lt_size hTO
        · rw [q]; obtain ⟨_, e1, _⟩ := h1; exact Heap.lt_size e1
        · rw [q]; obtain ⟨_, e2, _⟩ := h2; exact Heap.lt_size e2
      rw [upd_ne (Nat.ne_of_lt hlt)]
      exact (hf c hcm).1
  done := by
    intro X hP hw hK hc i pins s σ H E I hf st hg
    subst hP hw hK
    obtain ⟨hz, hTI, ⟨x0, y0, hTO⟩, h1, h2⟩ := st
    obtain ⟨xs, ys, hqx, hqy, hend⟩ := hg
    obtain ⟨its, rv, p, _⟩ := I.list hqx
    obtain ⟨its2, rv2, p2, _⟩ := I.tuple hqy
    have l1 := rv.length
    have l2 := rv2.length
    have he : its.toArray[i]? = none ∨ its2.toArray[i]? = none := by
      rcases hend with q | q
      · exact .inl (by simp; omega)
      · exact .inr (by simp; omega)
    exact pyNext_zipM_end (I.ok.hd hc) D hz hTI hTO h1 h2 p.isList p2 he fun h' hk => ⟨rfl, I.turnedL (t' := s.toks) (ch := [z, TI, TO, i1, i2]) (fun c o hb q =>
      hk c o (fun q' => hb (by simp [q'])) (fun q' => hb (by simp [q'])) (fun q' => hb (by simp [q'])) (fun q' => hb (by simp [q'])) q) hf⟩
  self := fun A i s Q E st h => wpAny_pyIter_zip st.1 h

def iZipM (K : PySem.W.Frag) (ta : TA) : TI := fun σ H R => ta σ H fun vs H1 => ∃ a b xs ys, vs = [.ref a, .ref b] ∧ SqL K H1 a xs ∧ SqT K H1 b ys ∧ R (ItzM K a b) H1
theorem pi_zipM {X : Cx} {e e2 : Expr} {ta : TA} {p pos tpos : Pos} {elts : List Expr} {kk : Nat} (hg : Gl X "zip") (hm : X.mg "zip" = none) (ha : PA X [e, e2] ta)
    (hs : starEach [e, e2] X.env = (false, eval e X.env) :: starEach [e2] X.env := by rfl) (hpl : (backTo pos (starEach [e2] X.env)).any (·.1) = false := by rfl) :
    PI X (.Tuple elts kk tpos) (.Call (.Name "zip" p) [e, e2] [] pos) (iZipM X.K ta) := by
  refine ⟨fun pins s σ H R I h => ?_⟩
  refine Call_ (ld_blt I hg hm PyProof.Rows.boot_zip (PyProof.Rows.callWith_type1 (thn (ha.run pos pins s σ H _ I h) fun us s1 ⟨vs, H1, I1, r1, q1⟩ => ?_) hs hpl))
  obtain ⟨a, b, xs, ys, ex, hqx, hqy, q⟩ := q1
  subst ex
  cases r1 with
  | cons r rr =>
    cases rr with
    | cons r' rr =>
      cases rr
      cases r
      cases r'
      have fresh5 : ∀ c, c ∈ [s1.heap.objs.size + 4, s1.heap.objs.size + 2, s1.heap.objs.size + 3, s1.heap.objs.size, s1.heap.objs.size + 1] → FpOk X pins H1 c := fun c hcm => by
        have hle : s1.heap.objs.size ≤ c := by
          have e' : c = s1.heap.objs.size + 4 ∨ c = s1.heap.objs.size + 2 ∨ c = s1.heap.objs.size + 3 ∨ c = s1.heap.objs.size ∨ c = s1.heap.objs.size + 1 := by simpa using hcm
          omega
        exact I1.fpOk hle (I1.hok.fresh hle)
      obtain ⟨its, rv, p1, _⟩ := I1.list hqx
      obtain ⟨its2, rv2, p2, _⟩ := I1.tuple hqy
      obtain ⟨o2, ho2, _⟩ := id p2
      refine call_zipM (show s1.heap.IsList a its.toArray from p1.isList) (show s1.heap.IsTuple b its2.toArray from p2) fun h' hz hTI hTO h1 h2 hsz hk => wpAny_pyIter_zip hz ?_
      have I2 : Inv X pins σ H1 { s1 with heap := h' } := I1.kept (t' := s1.toks) hk
      exact ⟨s1.heap.objs.size + 4, [s1.heap.objs.size + 4, s1.heap.objs.size + 2, s1.heap.objs.size + 3, s1.heap.objs.size, s1.heap.objs.size + 1], _, _, H1, rfl, I2, turn_zipM (PySem.W.ktu_apart s1.heap.objs.size a b p1.lt (Heap.lt_size ho2)), ⟨hz, hTI, ⟨_, _, hTO⟩, h1, h2⟩, fresh5, q⟩
theorem walk_zipM {K : PySem.W.Frag} {a b : Addr} {xs ys : List V} {n : Nat} (hn : n = min xs.length ys.length) : Walk (ItzM K a b) n (fun H => SqL K H a xs ∧ SqT K H b ys) (YPair (fun i => xs[i]?) (fun i => ys[i]?)) := by
  subst hn
  refine ⟨fun i _ hi q => ?_, fun _ q => ⟨xs, ys, q.1, q.2, by omega⟩, fun i H v H' _ q y => ?_⟩
  · have h1 : i < xs.length := by omega
    have h2 : i < ys.length := by omega
    exact ⟨xs, ys, xs[i], ys[i], q.1, q.2, by simp [h1], by simp [h2]⟩
  · obtain ⟨T, x, z, h1, h2, h3, h4, h5⟩ := y
    exact ⟨T, x, z, h1, h2, h3, h4 xs q.1, h5 ys q.2⟩
end ZM

namespace Dn
open Dn.Rep (rep)
open PySem L2
section
variable {X : Cx} {α β γ A : Type} [Rep α] [Rep β] [Rep γ] [Args A] {e a b c tg : Expr} {es : List Expr} {σ : L2.St} {G G' : Hp} {pos pos' p2 p apos : Pos}
/-- for x in (a, b, ..) -/
theorem di_tup {x : Tup A} {m : List α} (h : DE X e σ G x) (hr : ∀ (G : Hp) (vs : List V), Args.rel x.val G vs → Reps G vs m) (hm : m.length ≤ 1000) : DI X tg e σ G m := fun G1 H1 e1 e2 R k =>
  ⟨_, pi_tup WE.pe, h G1 H1 e1 e2 _ fun v G2 H2 g r => by
    obtain ⟨p, vs, rfl, hp, r⟩ := r
    have r := hr _ _ r
    refine ⟨p, rfl, ⟨vs, .inl (.inl (g.gh _ _ hp))⟩, ?_⟩
    refine k (Itt X.K p) (fun H => SqT X.K H p vs) _ G2 H2 g (by rw [← r.len]; exact walk_tup (xs := vs)) (fun H3 e3 => .inl (.inl (e3 _ _ hp))) (fun i G3 H3 x H' hi e3 e4 y => ?_) (by rw [sizeLine_eq]; omega)
    obtain ⟨rfl, hy⟩ := y
    obtain ⟨q, h1, h2⟩ := r.get hy
    exact ⟨q, G3, h1, Gr.refl e4, Rep.mono e3 h2⟩⟩
theorem di_pair {x : α × α} (h : DE X e σ G x) : DI X tg e σ G [x.1, x.2] := fun G1 H1 e1 e2 R k =>
  ⟨_, pi_tup WE.pe, h G1 H1 e1 e2 _ fun v G2 H2 g r => by
    obtain ⟨p, v1, v2, rfl, hp, r1, r2⟩ := r
    have r : Reps G2 [v1, v2] [x.1, x.2] := .cons r1 (.cons r2 .nil)
    refine ⟨p, rfl, ⟨[v1, v2], .inl (.inl (g.gh _ _ hp))⟩, ?_⟩
    refine k (Itt X.K p) (fun H => SqT X.K H p [v1, v2]) _ G2 H2 g (by exact walk_tup (xs := [v1, v2])) (fun H3 e3 => .inl (.inl (e3 _ _ hp))) (fun i G3 H3 x H' hi e3 e4 y => ?_) (by rw [sizeLine_eq]; simp)
    obtain ⟨rfl, hy⟩ := y
    obtain ⟨q, h1, h2⟩ := r.get hy
    exact ⟨q, G3, h1, Gr.refl e4, Rep.mono e3 h2⟩⟩
/-- zip(xs, (a, b, ..)) -/
theorem di_zipM {l : List α} {x : Tup A} {m : List β} {elts : List Expr} {kk : Nat} {tpos : Pos} (hm : X.mg ("zip" : Str) = none) (h : DE X a σ G l) (h2 : DE X b σ G x) (hr : ∀ (G : Hp) (vs : List V), Args.rel x.val G vs → Reps G vs m) (hg : Gl X "zip" := by rfl) (he : starEach [a, b] X.env = (false, eval a X.env) :: starEach [b] X.env := by rfl) (he2 : starEach [b] X.env = (false, eval b X.env) :: starEach [] X.env := by rfl) (hpl : (backTo pos (starEach [b] X.env)).any (·.1) = false := by rfl) :
    DI X (.Tuple elts kk tpos) (.Call (.Name "zip" p) [a, b] [] pos) σ G (l.zip m) := fun G1 H1 e1 e2 R k =>
  ⟨_, ZM.pi_zipM hg hm (pa_cons WE.pe (pa_cons WE.pe pa_nil he2) he) he hpl, h G1 H1 e1 e2 _ fun v G2 H2 g r => h2 G2 H2 (e1.trans g.gg) g.gh _ fun w G3 H3 g3 r3 => by
    obtain ⟨p, vs, rfl, hp, hz, r⟩ := Rep.mono g3.gg r
    obtain ⟨q, ws, rfl, hq, r2⟩ := r3
    have r2 := hr _ _ r2
    refine ⟨p, q, vs, ws, rfl, .inl (.inl (g3.gh _ _ hp)), .inl (.inl (g3.gh _ _ hq)), ?_⟩
    have hl : (l.zip m).length = min vs.length ws.length := by rw [List.length_zip, r.len, r2.len]
    refine k (ZM.ItzM X.K p q) (fun H => SqL X.K H p vs ∧ SqT X.K H q ws) _ G3 H3 (g.and g3) (ZM.walk_zipM hl) (fun H4 e4 => ⟨.inl (.inl (e4 _ _ hp)), .inl (.inl (e4 _ _ hq))⟩) (fun i G4 H4 x H' hi e4 e5 y => ?_) (by rw [hl]; omega)
    obtain ⟨T, x1, x2, rfl, hT, rfl, q1, q2⟩ := y
    obtain ⟨z1, c1, c2⟩ := r.get q1
    obtain ⟨z2, d1, d2⟩ := r2.get q2
    exact ⟨(z1, z2), _, List.getElem?_zip_eq_some.mpr ⟨c1, d1⟩, Gr.new e5 hT, T, _, _, rfl, upd_same, Rep.mono (e4.trans (Ex.new (Ex.fresh e5 hT))) c2, Rep.mono (e4.trans (Ex.new (Ex.fresh e5 hT))) d2⟩⟩
theorem any_eqv [Dat α] [DecidableEq α] (x : α) (l : List α) : ((l.map Dat.dat).any fun z => PyData.eqv z (Dat.dat x)) = decide (x ∈ l) := by
  rw [List.any_map, Bool.eq_iff_iff, decide_eq_true_iff, List.any_eq_true]
  constructor
  · rintro ⟨y, hy, e⟩
    have := Dat.inj.mp e
    exact this ▸ hy
  · intro h
    exact ⟨x, h, Dat.inj.mpr rfl⟩
/-- nested data in a list of the like -/
theorem dc_inD [Dat α] [DecidableEq α] {x : α} {l : List α} {k : Nat} (hr : Room k X.A) (ha : DE X a σ G x) (hb : DE X b σ G l) (hd : Dat.dep α ≤ 60 := by decide) (hm : behindInMarks .In b = false := by rfl) : DC X .In a b σ G (decide (x ∈ l)) :=
  dc_cmp (op_inD (by have := hr.un; omega)) (fun G H u v e r1 r2 Q k => by
    have f1 := Rep.mono e r1
    have f2 := Rep.mono e r2
    have hd2 : Dat.dep (List α) = Dat.dep α + 1 := rfl
    refine ⟨Dat.dat x, l.map Dat.dat, Dat.dp X.K f1, Dat.dp X.K f2, shaped_of f1 (by omega), shaped_of f2 (by omega), k _ G H (Gr.refl e) ?_⟩
    rw [any_eqv]; rfl) ha hb hm
theorem dc_ninD [Dat α] [DecidableEq α] {x : α} {l : List α} {k : Nat} (hr : Room k X.A) (ha : DE X a σ G x) (hb : DE X b σ G l) (hd : Dat.dep α ≤ 60 := by decide) (hm : behindInMarks .NotIn b = false := by rfl) : DC X .NotIn a b σ G (!decide (x ∈ l)) :=
  dc_cmp (op_notInD (by have := hr.un; omega)) (fun G H u v e r1 r2 Q k => by
    have f1 := Rep.mono e r1
    have f2 := Rep.mono e r2
    have hd2 : Dat.dep (List α) = Dat.dep α + 1 := rfl
    refine ⟨Dat.dat x, l.map Dat.dat, Dat.dp X.K f1, Dat.dp X.K f2, shaped_of f1 (by omega), shaped_of f2 (by omega), k _ G H (Gr.refl e) ?_⟩
    rw [any_eqv]; rfl) ha hb hm
end
end Dn

namespace TT
open PySem PySem.Spec PyProof.Rows L2

/-- pigeons -/
theorem nat_nodup_len : ∀ (l D : List Nat), l.Nodup → (∀ x ∈ l, x ∈ D) → l.length ≤ D.length
  | [], _, _, _ => Nat.zero_le _
  | x :: l, D, hn, hs => by
    obtain ⟨h1, h2⟩ := List.nodup_cons.mp hn
    have hx : x ∈ D := hs x List.mem_cons_self
    have ih := nat_nodup_len l (D.erase x) h2 fun y hy => by
      have hne : y ≠ x := fun e => h1 (e ▸ hy)
      exact (List.mem_erase_of_ne hne).2 (hs y (List.mem_cons_of_mem _ hy))
    have e := List.length_erase_of_mem hx
    have hp : 0 < D.length := List.length_pos_of_mem hx
    rw [List.length_cons]
    omega
/-- a short list leaves a number out -/
theorem st_missing (l : List Nat) (n : Nat) (h : l.length < n) : ∃ j, j < n ∧ j ∉ l := by
  rcases Classical.em (∃ j, j < n ∧ j ∉ l) with c | c
  · exact c
  · exfalso
    have hs : ∀ x ∈ List.range n, x ∈ l := fun x hx => by
      rcases Classical.em (x ∈ l) with k | k
      · exact k
      · exact absurd ⟨x, List.mem_range.mp hx, k⟩ c
    have q := nat_nodup_len (List.range n) l List.nodup_range hs
    rw [List.length_range] at q
    omega
/-- the least number of which a property is true -/
theorem st_least {p : Nat → Prop} : ∀ n, p n → ∃ k, k ≤ n ∧ p k ∧ ∀ k', k' < k → ¬ p k' := by
  intro n
  induction n using Nat.strongRecOn with
  | ind n ih =>
    intro h
    rcases Classical.em (∃ k', k' < n ∧ p k') with ⟨k', h1, h2⟩ | c
    · obtain ⟨k, a, b, d⟩ := ih k' h1 h2
      exact ⟨k, Nat.le_trans a (Nat.le_of_lt h1), b, d⟩
    · exact ⟨n, Nat.le_refl _, h, fun k' hk hp => c ⟨k', hk, hp⟩⟩

def lcgN (m : Nat) : Nat → Nat
  | 0 => 0
  | k + 1 => (lcgN m k * 5 + 1) % (m + 1)
def lcgI (m i : Nat) : Nat → Nat
  | 0 => i
  | k + 1 => (lcgI m i k * 5 + 1) % (m + 1)
/-- the masks that come -/
def MaskOk (m : Nat) : Prop := m = 7 ∨ m = 31 ∨ m = 127 ∨ m = 511
theorem lcg_all7 : ((List.range 8).all fun j => (List.range 8).any fun b => lcgN 7 b == j) = true := by decide +kernel
theorem lcg_all31 : ((List.range 32).all fun j => (List.range 32).any fun b => lcgN 31 b == j) = true := by decide +kernel
theorem lcg_all127 : ((List.range 128).all fun j => (List.range 128).any fun b => lcgN 127 b == j) = true := by decide +kernel
def orb (m : Nat) : Nat → Nat → List Nat
  | 0, _ => []
  | n + 1, x => x :: orb m n ((x * 5 + 1) % (m + 1))
theorem orb_mem (m : Nat) : ∀ (n a : Nat) (y : Nat), y ∈ orb m n (lcgN m a) → ∃ k, k < n ∧ lcgN m (a + k) = y
  | 0, _, _, h => by cases h
  | n + 1, a, y, h => by
    rcases List.mem_cons.mp h with e | h
    · exact ⟨0, Nat.succ_pos _, e.symm⟩
    · obtain ⟨k, hk, e⟩ := orb_mem m n (a + 1) y h
      exact ⟨k + 1, Nat.succ_lt_succ hk, by rw [← e]; congr 1; omega⟩
theorem lcg_all511 : ((List.range 512).all fun j => (orb 511 512 0).contains j) = true := by decide +kernel
theorem lcg_all {m : Nat} (hm : MaskOk m) {j : Nat} (hj : j ≤ m) : ∃ b, b ≤ m ∧ lcgN m b = j := by
  have key : ∀ n : Nat, ((List.range (n + 1)).all fun j => (List.range (n + 1)).any fun b => lcgN n b == j) = true → ∀ j, j ≤ n → ∃ b, b ≤ n ∧ lcgN n b = j := by
    intro n h j hj
    have h1 := List.all_eq_true.mp h j (List.mem_range.mpr (Nat.lt_succ_of_le hj))
    obtain ⟨b, hb, e⟩ := List.any_eq_true.mp h1
    exact ⟨b, Nat.le_of_lt_succ (List.mem_range.mp hb), beq_iff_eq.mp e⟩
  rcases hm with e | e | e | e
  · subst e; exact key 7 lcg_all7 j hj
  · subst e; exact key 31 lcg_all31 j hj
  · subst e; exact key 127 lcg_all127 j hj
  · subst e
    have h1 := List.all_eq_true.mp lcg_all511 j (List.mem_range.mpr (Nat.lt_succ_of_le hj))
    obtain ⟨k, hk, e⟩ := orb_mem 511 512 0 j (List.contains_iff_mem.mp h1)
    exact ⟨k, by omega, by rw [← e]; congr 1; omega⟩
theorem lcg_round {m : Nat} (hm : MaskOk m) : lcgN m (m + 1) = 0 := by
  rcases hm with e | e | e | e
  · subst e; decide +kernel
  · subst e; decide +kernel
  · subst e; decide +kernel
  · subst e; decide +kernel
theorem lcgN_add (m a : Nat) : ∀ k, lcgI m (lcgN m a) k = lcgN m (a + k)
  | 0 => rfl
  | k + 1 => by
    show (lcgI m (lcgN m a) k * 5 + 1) % (m + 1) = (lcgN m (a + k) * 5 + 1) % (m + 1)
    rw [lcgN_add m a k]
theorem lcgN_mod {m : Nat} (hm : MaskOk m) : ∀ k, lcgN m (m + 1 + k) = lcgN m k
  | 0 => lcg_round hm
  | k + 1 => by
    show (lcgN m (m + 1 + k) * 5 + 1) % (m + 1) = (lcgN m k * 5 + 1) % (m + 1)
    rw [lcgN_mod hm k]
/-- from anywhere each slot is met within a round -/
theorem lcgI_all {m : Nat} (hm : MaskOk m) {i j : Nat} (hi : i ≤ m) (hj : j ≤ m) : ∃ k, k ≤ m ∧ lcgI m i k = j := by
  obtain ⟨a, ha, ea⟩ := lcg_all hm hi
  obtain ⟨b, hb, eb⟩ := lcg_all hm hj
  rw [← ea]
  rcases Nat.lt_or_ge b a with c | c
  · refine ⟨b + (m + 1) - a, by omega, ?_⟩
    rw [lcgN_add]
    have e : a + (b + (m + 1) - a) = m + 1 + b := by omega
    rw [e, lcgN_mod hm, eb]
  · refine ⟨b - a, by omega, ?_⟩
    rw [lcgN_add]
    have e : a + (b - a) = b := by omega
    rw [e, eb]

/-- SetTable.advance, by the mask alone -/
def adv (m : Nat) (p : SetTable.Probe) : SetTable.Probe :=
  if p.more > 0 then { p with j := p.j + 1, more := p.more - 1 } else
  { p with j := (SetTable.leap m p.i p.perturb).1, more := SetTable.runEnd m (SetTable.leap m p.i p.perturb).1 - (SetTable.leap m p.i p.perturb).1, i := (SetTable.leap m p.i p.perturb).1, perturb := (SetTable.leap m p.i p.perturb).2 }
theorem adv_eq (t : SetTable) (p : SetTable.Probe) : t.advance p = adv t.mask p := rfl
def nth (m : Nat) (p : SetTable.Probe) : Nat → SetTable.Probe
  | 0 => p
  | k + 1 => nth m (adv m p) k
theorem nth_add (m : Nat) : ∀ (a : Nat) (p : SetTable.Probe) (k : Nat), nth m p (a + k) = nth m (nth m p a) k
  | 0, p, k => by rw [Nat.zero_add]; rfl
  | a + 1, p, k => by
    have e : a + 1 + k = (a + k) + 1 := by omega
    rw [e]
    exact nth_add m a (adv m p) k
theorem nth_succ (m : Nat) (p : SetTable.Probe) (k : Nat) : nth m p (k + 1) = adv m (nth m p k) := nth_add m k p 1
/-- a run's first state -/
def runAt (m i perturb : Nat) : SetTable.Probe := { j := i, more := SetTable.runEnd m i - i, i, perturb, dummy := none }
theorem start_run (t : SetTable) (h : Int) : t.probeStart h = runAt t.mask (SetTable.bits h % (t.mask + 1)) (SetTable.bits h) := rfl
theorem runEnd_bd {m i : Nat} (hi : i ≤ m) : SetTable.runEnd m i ≤ m ∧ i ≤ SetTable.runEnd m i ∧ SetTable.runEnd m i ≤ i + 9 := by
  unfold SetTable.runEnd
  split <;> omega
/-- within a run -/
theorem nth_run (m : Nat) (i perturb : Nat) : ∀ k, k ≤ SetTable.runEnd m i - i → nth m (runAt m i perturb) k = { j := i + k, more := SetTable.runEnd m i - i - k, i, perturb, dummy := none }
  | 0, _ => rfl
  | k + 1, h => by
    rw [nth_succ, nth_run m i perturb k (by omega)]
    unfold adv
    have hp : SetTable.runEnd m i - i - k > 0 := by omega
    rw [if_pos hp]
    rfl
/-- behind a run comes the next -/
theorem nth_leap (m : Nat) (i perturb : Nat) : nth m (runAt m i perturb) (SetTable.runEnd m i - i + 1) = runAt m (SetTable.leap m i perturb).1 (SetTable.leap m i perturb).2 := by
  rw [nth_succ, nth_run m i perturb _ (Nat.le_refl _)]
  unfold adv
  have hp : ¬ (SetTable.runEnd m i - i - (SetTable.runEnd m i - i) > 0) := by omega
  rw [if_neg hp]
  rfl
/-- the runs' starts -/
def runI (m b : Nat) : Nat → Nat
  | 0 => b % (m + 1)
  | n + 1 => (runI m b n * 5 + 1 + b / 32 ^ (n + 1)) % (m + 1)
theorem pow_div (b n : Nat) : b / 32 ^ n / 32 = b / 32 ^ (n + 1) := by
  rw [Nat.div_div_eq_div_mul, Nat.pow_succ]
theorem runI_le (m b : Nat) : ∀ n, runI m b n ≤ m
  | 0 => Nat.le_of_lt_succ (Nat.mod_lt _ (Nat.succ_pos _))
  | n + 1 => Nat.le_of_lt_succ (Nat.mod_lt _ (Nat.succ_pos _))
/-- the n-th run begins within 10 n steps -/
theorem run_nth (m b : Nat) : ∀ n, ∃ k, k ≤ 10 * n ∧ nth m (runAt m (b % (m + 1)) b) k = runAt m (runI m b n) (b / 32 ^ n)
  | 0 => ⟨0, Nat.le_refl _, by
    show runAt m (b % (m + 1)) b = runAt m (b % (m + 1)) (b / 32 ^ 0)
    rw [Nat.pow_zero, Nat.div_one]⟩
  | n + 1 => by
    obtain ⟨k, hk, e⟩ := run_nth m b n
    have hr := runEnd_bd (runI_le m b n)
    refine ⟨k + (SetTable.runEnd m (runI m b n) - runI m b n + 1), by omega, ?_⟩
    rw [nth_add, e, nth_leap]
    show runAt m ((runI m b n * 5 + 1 + b / 32 ^ n / 32) % (m + 1)) (b / 32 ^ n / 32) = _
    rw [pow_div]
    rfl
theorem runI_tail {m b : Nat} (hb : b < 2 ^ 64) : ∀ k, runI m b (12 + k) = lcgI m (runI m b 12) k
  | 0 => rfl
  | k + 1 => by
    have z : b / 32 ^ (12 + k + 1) = 0 := by
      refine Nat.div_eq_of_lt (Nat.lt_of_lt_of_le hb ?_)
      have e : (32 : Nat) ^ (12 + k + 1) = 32 ^ 13 * 32 ^ k := by
        rw [← Nat.pow_add]
        have e2 : 12 + k + 1 = 13 + k := by omega
        rw [e2]
      rw [e]
      have h1 : 0 < (32 : Nat) ^ k := Nat.pow_pos (by decide)
      have h2 : (2 : Nat) ^ 64 ≤ 32 ^ 13 := by decide
      exact Nat.le_trans h2 (Nat.le_mul_of_pos_right _ h1)
    show (runI m b (12 + k) * 5 + 1 + b / 32 ^ (12 + k + 1)) % (m + 1) = (lcgI m (runI m b 12) k * 5 + 1) % (m + 1)
    rw [z, runI_tail hb k, Nat.add_zero]
theorem bits_lt (h : Int) : SetTable.bits h < 2 ^ 64 := by
  unfold SetTable.bits
  have h1 := Int.emod_nonneg h (show ((2 : Int) ^ 64) ≠ 0 by decide)
  have h2 := Int.emod_lt_of_pos h (show (0 : Int) < 2 ^ 64 by decide)
  omega
/-- each slot begins a run early enough -/
theorem run_meets {m : Nat} (hm : MaskOk m) (h : Int) {j : Nat} (hj : j ≤ m) : ∃ n, n ≤ m + 12 ∧ runI m (SetTable.bits h) n = j := by
  obtain ⟨k, hk, e⟩ := lcgI_all hm (runI_le m (SetTable.bits h) 12) hj
  exact ⟨12 + k, by omega, by rw [runI_tail (bits_lt h)]; exact e⟩
/-- each slot is met within the search's bound -/
theorem nth_meets {m : Nat} (hm : MaskOk m) (h : Int) {j : Nat} (hj : j ≤ m) : ∃ k, k < 10 * SetTable.turns m ∧ (nth m (runAt m (SetTable.bits h % (m + 1)) (SetTable.bits h)) k).j = j := by
  obtain ⟨n, hn, e⟩ := run_meets hm h hj
  obtain ⟨k, hk, e2⟩ := run_nth m (SetTable.bits h) n
  refine ⟨k, by unfold SetTable.turns; omega, ?_⟩
  rw [e2]
  exact e

theorem has_none (j : Nat) : SetTable.has #[] j = false := by
  unfold SetTable.has
  simp
theorem slot_live {t : SetTable} (r : Ris t.place.toList) {i j : Nat} (h : t.place.toList[i]? = some j) : t.slot j = .live i := by
  obtain ⟨c1, c2, c3⟩ := below_cut r j
  have hb : SetTable.below t.place j = i := by
    generalize SetTable.below t.place j = p at c1 c2 c3 ⊢
    rcases Nat.lt_trichotomy i p with k | k | k
    · exact absurd (c2 i j h k) (Nat.lt_irrefl _)
    · exact k.symm
    · have hl : i < t.place.toList.length := (List.getElem?_eq_some_iff.mp h).1
      have hp : p < t.place.toList.length := Nat.lt_trans k hl
      have e := List.getElem?_eq_getElem hp
      have h1 := c3 p _ e (Nat.le_refl _)
      have h2 := ris_lt r e h k
      exact absurd (Nat.lt_of_lt_of_le h2 h1) (Nat.lt_irrefl _)
  have e2 : t.place[i]? = some j := by rw [← Array.getElem?_toList]; exact h
  unfold SetTable.slot
  rw [hb]
  show (if (t.place[i]? == some j) = true then SetTable.Slot.live i else if SetTable.has t.dummies j = true then SetTable.Slot.dummy else SetTable.Slot.empty) = SetTable.Slot.live i
  rw [e2]
  simp
theorem slot_empty {t : SetTable} (hd : t.dummies = #[]) {j : Nat} (h : j ∉ t.place.toList) : t.slot j = .empty := by
  unfold SetTable.slot
  have e : (t.place[SetTable.below t.place j]? == some j) = false := by
    rcases Classical.em (t.place[SetTable.below t.place j]? = some j) with c | c
    · exact absurd (List.mem_of_getElem? (by rw [Array.getElem?_toList]; exact c)) h
    · exact beq_eq_false_iff_ne.mpr c
  rw [hd, has_none]
  simp only [e]
  rfl
theorem slot_cases {t : SetTable} (r : Ris t.place.toList) (hd : t.dummies = #[]) (j : Nat) : (j ∉ t.place.toList ∧ t.slot j = .empty) ∨ ∃ i, t.place.toList[i]? = some j ∧ t.slot j = .live i := by
  rcases Classical.em (j ∈ t.place.toList) with c | c
  · obtain ⟨i, hi, e⟩ := List.getElem_of_mem c
    have e2 : t.place.toList[i]? = some j := by rw [List.getElem?_eq_getElem hi, e]
    exact Or.inr ⟨i, e2, slot_live r e2⟩
  · exact Or.inl ⟨c, slot_empty hd c⟩

/-- what a probe answers: the first of equal hash before the first empty slot, or that slot -/
theorem go_spec (t : SetTable) (r : Ris t.place.toList) (hd : t.dummies = #[]) (hashAt : Nat → Int) (h : Int) : ∀ (f K : Nat) (p : SetTable.Probe), p.dummy = none → K < f →
    (∀ k, k < K → (nth t.mask p k).j ∈ t.place.toList) → (nth t.mask p K).j ∉ t.place.toList →
    (∃ k i, k < K ∧ t.place.toList[i]? = some (nth t.mask p k).j ∧ hashAt i = h ∧ (∀ k' i', k' < k → t.place.toList[i']? = some (nth t.mask p k').j → hashAt i' ≠ h) ∧
      SetTable.probe.go t hashAt h f p = some (.candidate (nth t.mask p k).j i (nth t.mask p (k + 1)))) ∨
    ((∀ k' i', k' < K → t.place.toList[i']? = some (nth t.mask p k').j → hashAt i' ≠ h) ∧ SetTable.probe.go t hashAt h f p = some (.empty (nth t.mask p K).j none))
  | 0, K, p, _, hK, _, _ => absurd hK (Nat.not_lt_zero _)
  | f + 1, 0, p, hp, _, _, he => by
    refine Or.inr ⟨fun k' i' hk => absurd hk (Nat.not_lt_zero _), ?_⟩
    have hs : t.slot p.j = .empty := slot_empty hd he
    unfold SetTable.probe.go
    rw [hs]
    show some (SetTable.Met.empty p.j p.dummy) = some (SetTable.Met.empty p.j none)
    rw [hp]
  | f + 1, K + 1, p, hp, hK, hin, he => by
    have h0 : p.j ∈ t.place.toList := hin 0 (Nat.succ_pos _)
    rcases slot_cases r hd p.j with ⟨c, _⟩ | ⟨i, hi, hs⟩
    · exact absurd h0 c
    · by_cases hh : hashAt i = h
      · refine Or.inl ⟨0, i, Nat.succ_pos _, hi, hh, fun k' i' hk => absurd hk (Nat.not_lt_zero _), ?_⟩
        unfold SetTable.probe.go
        rw [hs]
        show (if (hashAt i == h) = true then some (SetTable.Met.candidate p.j i (t.advance p)) else SetTable.probe.go t hashAt h f (t.advance p)) = _
        rw [if_pos (beq_iff_eq.mpr hh)]
        rfl
      · have e : SetTable.probe.go t hashAt h (f + 1) p = SetTable.probe.go t hashAt h f (adv t.mask p) := by
          conv => lhs; unfold SetTable.probe.go
          rw [hs]
          show (if (hashAt i == h) = true then some (SetTable.Met.candidate p.j i (t.advance p)) else SetTable.probe.go t hashAt h f (t.advance p)) = _
          rw [if_neg (by rw [beq_iff_eq]; exact hh)]
          rfl
        have hpd : (adv t.mask p).dummy = none := by
          unfold adv
          split <;> exact hp
        have one : ∀ i', t.place.toList[i']? = some p.j → hashAt i' ≠ h := fun i' hi' => by
          have e1 := slot_live r hi'
          rw [hs] at e1
          injection e1 with e1
          rw [← e1]
          exact hh
        rcases go_spec t r hd hashAt h f K (adv t.mask p) hpd (by omega) (fun k hk => hin (k + 1) (Nat.succ_lt_succ hk)) he with ⟨k, i2, a1, a2, a3, a4, a5⟩ | ⟨a1, a2⟩
        · refine Or.inl ⟨k + 1, i2, Nat.succ_lt_succ a1, a2, a3, fun k' i' hk hi' => ?_, by rw [e]; exact a5⟩
          cases k' with
          | zero => exact one i' hi'
          | succ k' => exact a4 k' i' (Nat.lt_of_succ_lt_succ hk) hi'
        · refine Or.inr ⟨fun k' i' hk hi' => ?_, by rw [e]; exact a2⟩
          cases k' with
          | zero => exact one i' hi'
          | succ k' => exact a1 k' i' (Nat.lt_of_succ_lt_succ hk) hi'

abbrev way (m : Nat) (h : Int) (k : Nat) : Nat := (nth m (runAt m (SetTable.bits h % (m + 1)) (SetTable.bits h)) k).j
/-- a table whose slots all are found again from their hashes -/
structure TabOk (t : SetTable) (hs : List Int) : Prop where
  ris : Ris t.place.toList
  dm : t.dummies = #[]
  sz : t.place.size = hs.length
  mok : MaskOk t.mask
  bd : ∀ x ∈ t.place.toList, x ≤ t.mask
  reach : ∀ (i : Nat) (h : Int) (j : Nat), hs[i]? = some h → t.place.toList[i]? = some j → ∃ k, way t.mask h k = j ∧ ∀ k', k' < k → way t.mask h k' ∈ t.place.toList
theorem mask_odd {m : Nat} (h : MaskOk m) : m % 2 = 1 := by
  rcases h with e | e | e | e <;> subst e <;> rfl
/-- the first empty slot on the way -/
theorem TabOk.first {t : SetTable} {hs : List Int} (T : TabOk t hs) (hl : hs.length ≤ t.mask) (h : Int) : ∃ K, K < 10 * SetTable.turns t.mask ∧ way t.mask h K ∉ t.place.toList ∧ ∀ k, k < K → way t.mask h k ∈ t.place.toList := by
  have hlen : t.place.toList.length < t.mask + 1 := by
    rw [Array.length_toList, T.sz]
    omega
  obtain ⟨j, hj, hn⟩ := st_missing t.place.toList (t.mask + 1) hlen
  obtain ⟨k, hk, e⟩ := nth_meets T.mok h (Nat.le_of_lt_succ hj)
  obtain ⟨K, h1, h2, h3⟩ := st_least (p := fun k => way t.mask h k ∉ t.place.toList) k (by show way t.mask h k ∉ _; rw [show way t.mask h k = j from e]; exact hn)
  refine ⟨K, Nat.lt_of_le_of_lt h1 hk, h2, fun k' hk' => ?_⟩
  rcases Classical.em (way t.mask h k' ∈ t.place.toList) with c | c
  · exact c
  · exact absurd c (h3 k' hk')
/-- what has the hash stands on the way before it -/
theorem TabOk.before {t : SetTable} {hs : List Int} (T : TabOk t hs) {h : Int} {K i j : Nat} (hK : way t.mask h K ∉ t.place.toList) (hi : hs[i]? = some h) (hj : t.place.toList[i]? = some j) : ∃ k, k < K ∧ way t.mask h k = j := by
  obtain ⟨k, e, hb⟩ := T.reach i h j hi hj
  refine ⟨k, ?_, e⟩
  rcases Nat.lt_trichotomy k K with c | c | c
  · exact c
  · rw [← c, e] at hK
    exact absurd (List.mem_of_getElem? hj) hK
  · exact absurd (hb K c) hK
end TT

namespace TT
open PySem PySem.Spec PyProof.Rows L2

theorem leap_le (m i b : Nat) : (SetTable.leap m i b).1 ≤ m := by
  show (i * 5 + 1 + b / 32) % (m + 1) ≤ m
  exact Nat.le_of_lt_succ (Nat.mod_lt _ (Nat.succ_pos _))
theorem adv_in {m : Nat} {p : SetTable.Probe} (h : p.j + p.more ≤ m) : (adv m p).j + (adv m p).more ≤ m := by
  unfold adv
  by_cases c : p.more > 0
  · rw [if_pos c]
    show p.j + 1 + (p.more - 1) ≤ m
    omega
  · rw [if_neg c]
    have r := runEnd_bd (leap_le m p.i p.perturb)
    show (SetTable.leap m p.i p.perturb).1 + (SetTable.runEnd m (SetTable.leap m p.i p.perturb).1 - (SetTable.leap m p.i p.perturb).1) ≤ m
    omega
theorem nth_in {m : Nat} : ∀ (k : Nat) (p : SetTable.Probe), p.j + p.more ≤ m → (nth m p k).j + (nth m p k).more ≤ m
  | 0, _, h => h
  | k + 1, p, h => nth_in k (adv m p) (adv_in h)
theorem way_le {m : Nat} (_hm : MaskOk m) {h : Int} {k : Nat} : way m h k ≤ m := by
  have hi : SetTable.bits h % (m + 1) ≤ m := Nat.le_of_lt_succ (Nat.mod_lt _ (Nat.succ_pos _))
  have r := runEnd_bd hi
  have q := nth_in (m := m) k (runAt m (SetTable.bits h % (m + 1)) (SetTable.bits h)) (by
    show SetTable.bits h % (m + 1) + (SetTable.runEnd m (SetTable.bits h % (m + 1)) - SetTable.bits h % (m + 1)) ≤ m
    omega)
  show (nth m (runAt m (SetTable.bits h % (m + 1)) (SetTable.bits h)) k).j ≤ m
  omega

theorem tins_get {α : Type} (l : List α) {p : Nat} (hp : p ≤ l.length) (x : α) (i : Nat) : (l.take p ++ x :: l.drop p)[i]? = if i < p then l[i]? else if i = p then some x else l[i - 1]? := by
  have ht : (l.take p).length = p := by
    rw [List.length_take]
    omega
  by_cases h1 : i < p
  · rw [if_pos h1, List.getElem?_append_left (by rw [ht]; exact h1)]
    simp [List.getElem?_take, h1]
  · rw [if_neg h1, List.getElem?_append_right (by rw [ht]; omega), ht]
    by_cases h2 : i = p
    · rw [if_pos h2, h2, Nat.sub_self] <;> rfl
    · rw [if_neg h2]
      obtain ⟨k, e⟩ : ∃ k, i - p = k + 1 := ⟨i - p - 1, by omega⟩
      have e2 : p + k = i - 1 := by omega
      rw [e, List.getElem?_cons_succ, List.getElem?_drop, e2]
theorem mem_ins {α : Type} {l : List α} {p : Nat} {x y : α} : x ∈ l.take p ++ y :: l.drop p ↔ x = y ∨ x ∈ l := by
  have e : x ∈ l ↔ x ∈ l.take p ∨ x ∈ l.drop p := by
    rw [← List.mem_append, List.take_append_drop]
  rw [List.mem_append, List.mem_cons]
  constructor
  · intro z
    rcases z with z | z | z
    · exact .inr (e.2 (.inl z))
    · exact .inl z
    · exact .inr (e.2 (.inr z))
  · intro z
    rcases z with z | z
    · exact .inr (.inl z)
    · rcases e.1 z with z | z
      · exact .inl z
      · exact .inr (.inr z)
theorem len_ins {α : Type} (l : List α) {p : Nat} (hp : p ≤ l.length) (x : α) : (l.take p ++ x :: l.drop p).length = l.length + 1 := by
  rw [List.length_append, List.length_cons, List.length_take, List.length_drop]
  omega
theorem put_place (t : SetTable) (j : Nat) : (t.put j).1.place.toList = t.place.toList.take (SetTable.below t.place j) ++ j :: t.place.toList.drop (SetTable.below t.place j) := SetTable.toList_insertAt _ _ _
theorem put_dm {t : SetTable} (hd : t.dummies = #[]) (j : Nat) : (t.put j).1.dummies = #[] := by
  show (if SetTable.has t.dummies j = true then SetTable.eraseAt t.dummies (SetTable.below t.dummies j) else t.dummies) = #[]
  rw [hd, has_none] <;> exact if_neg Bool.false_ne_true
theorem TabOk.put {t : SetTable} {hs : List Int} (T : TabOk t hs) {h : Int} {K : Nat} (hK : way t.mask h K ∉ t.place.toList) (hb : ∀ k, k < K → way t.mask h k ∈ t.place.toList) :
    (t.put (way t.mask h K)).2 = SetTable.below t.place (way t.mask h K) ∧ SetTable.below t.place (way t.mask h K) ≤ hs.length ∧
    TabOk (t.put (way t.mask h K)).1 (hs.take (SetTable.below t.place (way t.mask h K)) ++ h :: hs.drop (SetTable.below t.place (way t.mask h K))) ∧
    (t.put (way t.mask h K)).1.mask = t.mask ∧ (t.put (way t.mask h K)).1.led = t.led ∧ (t.put (way t.mask h K)).1.plain = t.plain ∧ (t.put (way t.mask h K)).1.moves = t.moves ∧ (t.put (way t.mask h K)).1.finger = t.finger ∧
    (t.put (way t.mask h K)).1.fill = hs.length + 1 := by
  have hjm : way t.mask h K ≤ t.mask := way_le T.mok
  obtain ⟨j, hj⟩ : ∃ j, j = way t.mask h K := ⟨_, rfl⟩
  rw [← hj] at hK hjm ⊢
  obtain ⟨c1, _, _⟩ := below_cut T.ris j
  have hpl : SetTable.below t.place j ≤ t.place.toList.length := by
    rw [Array.length_toList]
    exact c1
  have hph : SetTable.below t.place j ≤ hs.length := by
    rw [← T.sz]
    exact c1
  have hsz : t.place.toList.length = hs.length := by
    rw [Array.length_toList]
    exact T.sz
  have hnp : t.place[SetTable.below t.place j]? ≠ some j := fun e => hK (List.mem_of_getElem? (by rw [Array.getElem?_toList]; exact e))
  have hpp := put_place t j
  have hsize : (t.put j).1.place.size = hs.length + 1 := by
    rw [← Array.length_toList, hpp, len_ins _ hpl, hsz]
  have up : ∀ {x : Nat}, x ∈ t.place.toList → x ∈ (t.put j).1.place.toList := fun {x} hx => by
    rw [hpp]
    exact mem_ins.2 (.inr hx)
  refine ⟨rfl, hph, ⟨ris_insert T.ris hnp, put_dm T.dm j, ?_, T.mok, fun x hx => ?_, fun i h' j' h1 h2 => ?_⟩, rfl, rfl, rfl, rfl, rfl, ?_⟩
  · rw [len_ins _ hph]
    exact hsize
  · rw [hpp] at hx
    rcases mem_ins.1 hx with z | z
    · rw [z]
      exact hjm
    · exact T.bd x z
  · rw [tins_get hs hph] at h1
    rw [hpp, tins_get _ hpl] at h2
    show ∃ k, way t.mask h' k = j' ∧ ∀ k', k' < k → way t.mask h' k' ∈ (t.put j).1.place.toList
    by_cases c : i < SetTable.below t.place j
    · rw [if_pos c] at h1 h2
      obtain ⟨k, e, z⟩ := T.reach i h' j' h1 h2
      exact ⟨k, e, fun k' hk' => up (z k' hk')⟩
    · rw [if_neg c] at h1 h2
      by_cases d : i = SetTable.below t.place j
      · rw [if_pos d] at h1 h2
        have e1 : h = h' := Option.some.inj h1
        have e2 : j = j' := Option.some.inj h2
        subst e1
        subst e2
        exact ⟨K, hj.symm, fun k' hk' => up (hb k' hk')⟩
      · rw [if_neg d] at h1 h2
        obtain ⟨k, e, z⟩ := T.reach (i - 1) h' j' h1 h2
        exact ⟨k, e, fun k' hk' => up (z k' hk')⟩
  · show (t.put j).1.place.size + (t.put j).1.dummies.size = hs.length + 1
    rw [hsize, put_dm T.dm j] <;> rfl

theorem runEnd_ge (m i : Nat) : i ≤ SetTable.runEnd m i := by
  unfold SetTable.runEnd
  split <;> omega
theorem find_range' (p : Nat → Bool) : ∀ (n s k : Nat), s ≤ k → k < s + n → p k = true → (∀ k', s ≤ k' → k' < k → p k' = false) → (List.range' s n).find? p = some k
  | 0, s, k, h1, h2, _, _ => absurd h2 (by omega)
  | n + 1, s, k, h1, h2, hk, hb => by
    rw [List.range'_succ, List.find?_cons]
    by_cases c : s = k
    · subst c
      rw [hk] <;> rfl
    · rw [hb s (Nat.le_refl _) (by omega)]
      exact find_range' p n (s + 1) k (by omega) (by omega) hk fun k' a b => hb k' (by omega) b
theorem find_range (p : Nat → Bool) {n k : Nat} (h : k < n) (hk : p k = true) (hb : ∀ k', k' < k → p k' = false) : (List.range n).find? p = some k := by
  rw [List.range_eq_range']
  exact find_range' p n 0 k (Nat.zero_le _) (by omega) hk fun k' _ b => hb k' b
theorem find_range_none (p : Nat → Bool) {n : Nat} (hb : ∀ k', k' < n → p k' = false) : (List.range n).find? p = none := by
  rw [List.find?_eq_none]
  intro x hx hp
  rw [hb x (List.mem_range.mp hx)] at hp
  cases hp

/-- who sits at a slot -/
abbrev oAt (owner : Array (Option Nat)) (j : Nat) : Option Nat := owner.getD j (some 0)
def pickR (x : Option Nat) (i : Nat) (y : Option Nat) : Option Nat := match x with
  | some k => some (i + k)
  | none => y
theorem free_succ (m : Nat) (owner : Array (Option Nat)) (f i b : Nat) : SetTable.layClean.free m owner (f + 1) i b =
    pickR ((List.range (SetTable.runEnd m i + 1 - i)).find? fun k => (oAt owner (i + k)).isNone) i (SetTable.layClean.free m owner f (SetTable.leap m i b).1 (SetTable.leap m i b).2) := rfl
/-- the steps up to the n-th run -/
def off (m : Nat) : Nat → Nat → Nat → Nat
  | _, _, 0 => 0
  | i, b, n + 1 => (SetTable.runEnd m i - i + 1) + off m (SetTable.leap m i b).1 (SetTable.leap m i b).2 n
theorem free_spec (m : Nat) (owner : Array (Option Nat)) : ∀ (f n i b K : Nat), n < f → K ≤ off m i b n → (∀ k, k < K → (oAt owner (nth m (runAt m i b) k).j).isNone = false) → (oAt owner (nth m (runAt m i b) K).j).isNone = true →
    SetTable.layClean.free m owner f i b = some (nth m (runAt m i b) K).j
  | 0, _, _, _, _, hn, _, _, _ => absurd hn (Nat.not_lt_zero _)
  | f + 1, n, i, b, K, hn, hK, hocc, hfree => by
    have hge := runEnd_ge m i
    by_cases c : K ≤ SetTable.runEnd m i - i
    · have e := nth_run m i b K c
      have hf : ((List.range (SetTable.runEnd m i + 1 - i)).find? fun k => (oAt owner (i + k)).isNone) = some K :=
        find_range _ (by omega) (by rw [e] at hfree; exact hfree) fun k' hk' => by
          have q := hocc k' hk'
          rw [nth_run m i b k' (by omega)] at q
          exact q
      rw [free_succ, hf]
      exact congrArg some (congrArg SetTable.Probe.j e).symm
    · have hf : ((List.range (SetTable.runEnd m i + 1 - i)).find? fun k => (oAt owner (i + k)).isNone) = none :=
        find_range_none _ fun k' hk' => by
          have q := hocc k' (by omega)
          rw [nth_run m i b k' (by omega)] at q
          exact q
      cases n with
      | zero =>
        have z : K ≤ 0 := hK
        omega
      | succ n =>
        have z : K ≤ (SetTable.runEnd m i - i + 1) + off m (SetTable.leap m i b).1 (SetTable.leap m i b).2 n := hK
        obtain ⟨K', eK⟩ : ∃ K', K = SetTable.runEnd m i - i + 1 + K' := ⟨K - (SetTable.runEnd m i - i + 1), by omega⟩
        subst eK
        have shift : ∀ k, nth m (runAt m i b) (SetTable.runEnd m i - i + 1 + k) = nth m (runAt m (SetTable.leap m i b).1 (SetTable.leap m i b).2) k := fun k => by
          rw [nth_add, nth_leap]
        have ih := free_spec m owner f n (SetTable.leap m i b).1 (SetTable.leap m i b).2 K' (by omega) (by omega)
          (fun k hk => by
            have q := hocc (SetTable.runEnd m i - i + 1 + k) (by omega)
            rw [shift] at q
            exact q)
          (by rw [shift] at hfree; exact hfree)
        rw [free_succ, hf, shift]
        exact ih
/-- the n-th run's first state -/
def itL (m : Nat) : Nat → Nat → Nat → Nat × Nat
  | i, b, 0 => (i, b)
  | i, b, n + 1 => itL m (SetTable.leap m i b).1 (SetTable.leap m i b).2 n
theorem itL_back (m : Nat) : ∀ (n i b : Nat), itL m i b (n + 1) = SetTable.leap m (itL m i b n).1 (itL m i b n).2
  | 0, _, _ => rfl
  | n + 1, i, b => itL_back m n (SetTable.leap m i b).1 (SetTable.leap m i b).2
theorem nth_off (m : Nat) : ∀ (n i b : Nat), nth m (runAt m i b) (off m i b n) = runAt m (itL m i b n).1 (itL m i b n).2
  | 0, _, _ => rfl
  | n + 1, i, b => by
    show nth m (runAt m i b) ((SetTable.runEnd m i - i + 1) + off m (SetTable.leap m i b).1 (SetTable.leap m i b).2 n) = _
    rw [nth_add, nth_leap]
    exact nth_off m n _ _
theorem itL_run (m b : Nat) : ∀ n, itL m (b % (m + 1)) b n = (runI m b n, b / 32 ^ n)
  | 0 => by
    show (b % (m + 1), b) = (b % (m + 1), b / 32 ^ 0)
    rw [Nat.pow_zero, Nat.div_one]
  | n + 1 => by
    rw [itL_back, itL_run m b n]
    show ((runI m b n * 5 + 1 + b / 32 ^ n / 32) % (m + 1), b / 32 ^ n / 32) = _
    rw [pow_div] <;> rfl
/-- a free slot is found, at the first free place of the way -/
theorem free_find {m : Nat} (hm : MaskOk m) (owner : Array (Option Nat)) (h : Int) {j : Nat} (hj : j ≤ m) (hf : oAt owner j = none) :
    ∃ K, SetTable.layClean.free m owner (SetTable.turns m) (SetTable.bits h % (m + 1)) (SetTable.bits h) = some (way m h K) ∧ oAt owner (way m h K) = none ∧ ∀ k, k < K → oAt owner (way m h k) ≠ none := by
  obtain ⟨n, hn, e⟩ := run_meets hm h hj
  have hw : way m h (off m (SetTable.bits h % (m + 1)) (SetTable.bits h) n) = j := by
    show (nth m (runAt m (SetTable.bits h % (m + 1)) (SetTable.bits h)) (off m (SetTable.bits h % (m + 1)) (SetTable.bits h) n)).j = j
    rw [nth_off, itL_run]
    exact e
  obtain ⟨K, k1, k2, k3⟩ := st_least (p := fun k => oAt owner (way m h k) = none) (off m (SetTable.bits h % (m + 1)) (SetTable.bits h) n) (by
    show oAt owner (way m h (off m (SetTable.bits h % (m + 1)) (SetTable.bits h) n)) = none
    rw [show way m h (off m (SetTable.bits h % (m + 1)) (SetTable.bits h) n) = j from hw]
    exact hf)
  refine ⟨K, ?_, k2, k3⟩
  refine free_spec m owner (SetTable.turns m) n _ _ K (by unfold SetTable.turns; omega) k1 (fun k hk => ?_) ?_
  · have q := k3 k hk
    cases z : oAt owner (nth m (runAt m (SetTable.bits h % (m + 1)) (SetTable.bits h)) k).j with
    | none => exact absurd z q
    | some _ => rfl
  · have q : oAt owner (nth m (runAt m (SetTable.bits h % (m + 1)) (SetTable.bits h)) K).j = none := k2
    rw [q] <;> rfl

theorem oAt_set_self {owner : Array (Option Nat)} {j : Nat} (v : Option Nat) (hj : j < owner.size) : oAt (owner.setIfInBounds j v) j = v := by
  show (owner.setIfInBounds j v).getD j (some 0) = v
  rw [Array.getD_eq_getD_getElem?, Array.getElem?_setIfInBounds, if_pos rfl, if_pos hj] <;> rfl
theorem oAt_set_ne {owner : Array (Option Nat)} {i j : Nat} (v : Option Nat) (h : i ≠ j) : oAt (owner.setIfInBounds j v) i = oAt owner i := by
  show (owner.setIfInBounds j v).getD i (some 0) = owner.getD i (some 0)
  rw [Array.getD_eq_getD_getElem?, Array.getD_eq_getD_getElem?, Array.getElem?_setIfInBounds, if_neg (Ne.symm h)]
theorem oAt_init {m j : Nat} (hj : j ≤ m) : oAt (Array.replicate (m + 1) none) j = none := by
  have h : j < m + 1 := Nat.lt_succ_of_le hj
  show (Array.replicate (m + 1) (none : Option Nat)).getD j (some 0) = none
  rw [Array.getD_eq_getD_getElem?, Array.getElem?_replicate, if_pos h] <;> rfl
theorem oAt_none {owner : Array (Option Nat)} {j : Nat} (hj : j < owner.size) : owner.getD j none = oAt owner j := by
  show owner.getD j none = owner.getD j (some 0)
  rw [Array.getD_eq_getD_getElem?, Array.getD_eq_getD_getElem?, Array.getElem?_eq_getElem hj] <;> rfl
structure Own (m : Nat) (done : List Int) (owner : Array (Option Nat)) : Prop where
  sz : owner.size = m + 1
  at_ : ∀ j k, j ≤ m → oAt owner j = some k → ∃ h K, done[k]? = some h ∧ way m h K = j ∧ ∀ k', k' < K → oAt owner (way m h k') ≠ none
  all : ∀ k, k < done.length → ∃ j, j ≤ m ∧ oAt owner j = some k
  ps : ∃ ps : List Nat, ps.length = done.length ∧ ∀ j, j ≤ m → oAt owner j ≠ none → j ∈ ps
theorem Own.init (m : Nat) : Own m [] (Array.replicate (m + 1) none) where
  sz := by simp
  at_ := fun j k hj e => by
    rw [oAt_init hj] at e
    cases e
  all := fun k hk => absurd hk (Nat.not_lt_zero _)
  ps := ⟨[], rfl, fun j hj e => absurd (oAt_init hj) e⟩
theorem Own.step {m : Nat} (hm : MaskOk m) {done : List Int} {owner : Array (Option Nat)} (W : Own m done owner) (hl : done.length ≤ m) (h : Int) :
    ∃ j, SetTable.layClean.free m owner (SetTable.turns m) (SetTable.bits h % (m + 1)) (SetTable.bits h) = some j ∧ Own m (done ++ [h]) (owner.setIfInBounds j (some done.length)) := by
  obtain ⟨ps, hps, hin⟩ := W.ps
  obtain ⟨j0, h0, hn0⟩ := st_missing ps (m + 1) (by omega)
  have hj0 : oAt owner j0 = none := by
    cases z : oAt owner j0 with
    | none => rfl
    | some k => exact absurd (hin j0 (Nat.le_of_lt_succ h0) (by rw [z]; exact fun e => nomatch e)) hn0
  obtain ⟨K, e1, e2, e3⟩ := free_find hm owner h (Nat.le_of_lt_succ h0) hj0
  have hjm : way m h K ≤ m := way_le hm
  have hjs : way m h K < owner.size := by
    rw [W.sz]
    exact Nat.lt_succ_of_le hjm
  refine ⟨way m h K, e1, ?_⟩
  have hself := oAt_set_self (some done.length) hjs
  have mono : ∀ {i : Nat}, oAt owner i ≠ none → oAt (owner.setIfInBounds (way m h K) (some done.length)) i ≠ none := fun {i} hi => by
    by_cases c : i = way m h K
    · rw [c, hself]
      exact fun e => nomatch e
    · rw [oAt_set_ne _ c]
      exact hi
  refine ⟨by rw [Array.size_setIfInBounds]; exact W.sz, fun j k hj e => ?_, fun k hk => ?_, ⟨way m h K :: ps, by rw [List.length_cons, List.length_append, hps] <;> rfl, fun j hj e => ?_⟩⟩
  · by_cases c : j = way m h K
    · rw [c, hself] at e
      have ek : done.length = k := Option.some.inj e
      refine ⟨h, K, ?_, c.symm, fun k' hk' => mono (e3 k' hk')⟩
      rw [← ek, List.getElem?_append_right (Nat.le_refl _), Nat.sub_self] <;> rfl
    · rw [oAt_set_ne _ c] at e
      obtain ⟨h', K', a1, a2, a3⟩ := W.at_ j k hj e
      refine ⟨h', K', ?_, a2, fun k' hk' => mono (a3 k' hk')⟩
      rw [List.getElem?_append_left (List.getElem?_eq_some_iff.mp a1).1]
      exact a1
  · rw [List.length_append, List.length_singleton] at hk
    by_cases c : k < done.length
    · obtain ⟨j, hj, e⟩ := W.all k c
      refine ⟨j, hj, ?_⟩
      rw [oAt_set_ne _ (fun z => by rw [z, e2] at e; cases e)]
      exact e
    · have ek : k = done.length := by omega
      rw [ek]
      exact ⟨way m h K, hjm, hself⟩
  · by_cases c : j = way m h K
    · rw [c]
      exact List.mem_cons_self
    · rw [oAt_set_ne _ c] at e
      exact List.mem_cons_of_mem _ (hin j hj e)

def stepF (mask : Nat) (acc : Option (Array (Option Nat) × Nat)) (h : Int) : Option (Array (Option Nat) × Nat) := do
  let (owner, k) ← acc
  let j ← SetTable.layClean.free mask owner (SetTable.turns mask) (SetTable.bits h % (mask + 1)) (SetTable.bits h)
  pure (owner.setIfInBounds j (some k), k + 1)
theorem layClean_eq (m : Nat) (hs : Array Int) : SetTable.layClean m hs = (hs.toList.foldl (stepF m) (some (Array.replicate (m + 1) none, 0))).map (·.1) := by
  unfold SetTable.layClean
  rw [← Array.foldl_toList] <;> rfl
theorem stepF_some {m k j : Nat} {owner : Array (Option Nat)} {h : Int} (e : SetTable.layClean.free m owner (SetTable.turns m) (SetTable.bits h % (m + 1)) (SetTable.bits h) = some j) :
    stepF m (some (owner, k)) h = some (owner.setIfInBounds j (some k), k + 1) := by
  show (SetTable.layClean.free m owner (SetTable.turns m) (SetTable.bits h % (m + 1)) (SetTable.bits h)).bind (fun j => some (owner.setIfInBounds j (some k), k + 1)) = _
  rw [e] <;> rfl
theorem fold_ok {m : Nat} (hm : MaskOk m) : ∀ (rest done : List Int) (owner : Array (Option Nat)), Own m done owner → done.length + rest.length ≤ m →
    ∃ owner', rest.foldl (stepF m) (some (owner, done.length)) = some (owner', (done ++ rest).length) ∧ Own m (done ++ rest) owner'
  | [], done, owner, W, _ => ⟨owner, by rw [List.append_nil] <;> rfl, by rw [List.append_nil]; exact W⟩
  | h :: rest, done, owner, W, hl => by
    rw [List.length_cons] at hl
    obtain ⟨j, e, W'⟩ := W.step hm (by omega) h
    have hl' : (done ++ [h]).length = done.length + 1 := by rw [List.length_append] <;> rfl
    obtain ⟨owner', f, W2⟩ := fold_ok hm rest (done ++ [h]) _ W' (by rw [hl']; omega)
    have ea : done ++ [h] ++ rest = done ++ h :: rest := by rw [List.append_assoc] <;> rfl
    rw [ea, hl'] at f
    rw [ea] at W2
    refine ⟨owner', ?_, W2⟩
    rw [List.foldl_cons, stepF_some e]
    exact f
theorem layClean_ok {m : Nat} (hm : MaskOk m) {hs : Array Int} (hn : hs.size ≤ m) : ∃ owner, SetTable.layClean m hs = some owner ∧ Own m hs.toList owner := by
  obtain ⟨owner, f, W⟩ := fold_ok hm hs.toList [] _ (Own.init m) (by rw [Array.length_toList]; show 0 + hs.size ≤ m; omega)
  rw [List.nil_append] at W
  refine ⟨owner, ?_, W⟩
  rw [layClean_eq]
  have f' : hs.toList.foldl (stepF m) (some (Array.replicate (m + 1) none, 0)) = some (owner, ([] ++ hs.toList).length) := f
  rw [f'] <;> rfl

def liveOf (m : Nat) (owner : Array (Option Nat)) : List (Nat × Nat) := (List.range (m + 1)).filterMap fun j => (owner.getD j none).map (j, ·)
def tabOf (t : SetTable) (m : Nat) (owner : Array (Option Nat)) : SetTable :=
  { mask := m, place := ((liveOf m owner).map (·.1)).toArray, dummies := #[], finger := t.finger, led := t.led, moves := t.movedTo m, plain := t.plain }
theorem relaid_eq (t : SetTable) (hs : Array Int) (wanted : Nat) : t.relaid hs wanted = (SetTable.layClean (SetTable.sizeAbove wanted - 1) hs).bind fun owner =>
    some (tabOf t (SetTable.sizeAbove wanted - 1) owner, ((liveOf (SetTable.sizeAbove wanted - 1) owner).map (·.2)).toArray) := rfl
theorem mem_live {m : Nat} {owner : Array (Option Nat)} (hs : owner.size = m + 1) {j k : Nat} : (j, k) ∈ liveOf m owner ↔ j ≤ m ∧ oAt owner j = some k := by
  unfold liveOf
  rw [List.mem_filterMap]
  constructor
  · intro z
    obtain ⟨a, ha, e⟩ := z
    have ham : a < m + 1 := List.mem_range.mp ha
    rw [oAt_none (by rw [hs]; exact ham)] at e
    obtain ⟨x, hx, ex⟩ := Option.map_eq_some_iff.mp e
    have e1 : a = j := congrArg Prod.fst ex
    have e2 : x = k := congrArg Prod.snd ex
    subst e1
    subst e2
    exact ⟨Nat.le_of_lt_succ ham, hx⟩
  · intro z
    obtain ⟨hj, e⟩ := z
    refine ⟨j, List.mem_range.mpr (Nat.lt_succ_of_le hj), ?_⟩
    rw [oAt_none (by rw [hs]; exact Nat.lt_succ_of_le hj), e] <;> rfl
theorem perm_range : ∀ (n : Nat) (l : List Nat), l.length = n → (∀ k, k < n → k ∈ l) → l.Perm (List.range n)
  | 0, l, hl, _ => by
    rw [List.eq_nil_of_length_eq_zero hl]
    exact List.Perm.refl _
  | n + 1, l, hl, h => by
    have hn : n ∈ l := h n (Nat.lt_succ_self n)
    have ih := perm_range n (l.erase n) (by rw [List.length_erase_of_mem hn]; omega) fun k hk => (List.mem_erase_of_ne (Nat.ne_of_lt hk)).2 (h k (Nat.lt_succ_of_lt hk))
    rw [List.range_succ]
    exact (List.perm_cons_erase hn).trans ((ih.cons n).trans (List.perm_append_singleton n _).symm)
theorem relaid_ok (t : SetTable) {hs : Array Int} {wanted M : Nat} (hw : SetTable.sizeAbove wanted - 1 = M) (hM : MaskOk M) (hn : hs.size ≤ M) :
    ∃ t' order, t.relaid hs wanted = some (t', order) ∧ order.toList.Perm (List.range hs.size) ∧ TabOk t' (order.toList.map fun i => hs.getD i 0) ∧ t'.mask = M ∧ t'.led = t.led ∧ t'.plain = t.plain ∧ t'.dummies = #[] := by
  obtain ⟨owner, e, W⟩ := layClean_ok hM hn
  have hr : t.relaid hs wanted = some (tabOf t M owner, ((liveOf M owner).map (·.2)).toArray) := by
    rw [relaid_eq, hw, e] <;> rfl
  have ris := ris_live (fun j => owner.getD j none) (List.range (M + 1)) (by
    unfold Ris
    first | exact List.pairwise_lt_range | exact List.pairwise_lt_range _)
  have r1 : Ris ((liveOf M owner).map (·.1)) := ris.1
  have r2 : ∀ x ∈ (liveOf M owner).map (·.1), x ∈ List.range (M + 1) := ris.2
  have nd : ((liveOf M owner).map (·.1)).Nodup := List.Pairwise.imp (fun h => Nat.ne_of_lt h) r1
  have hlen : (liveOf M owner).length = hs.size := by
    obtain ⟨ps, p1, p2⟩ := W.ps
    have a := nat_nodup_len ((liveOf M owner).map (·.1)) ps nd fun x hx => by
      obtain ⟨q, hq, eq1⟩ := List.mem_map.mp hx
      obtain ⟨y, k⟩ := q
      have ey : y = x := eq1
      subst ey
      obtain ⟨b1, b2⟩ := (mem_live W.sz).1 hq
      exact p2 y b1 (by rw [b2]; exact fun z => nomatch z)
    have b := nat_nodup_len (List.range hs.size) ((liveOf M owner).map (·.2)) List.nodup_range fun k hk => by
      obtain ⟨j, b1, b2⟩ := W.all k (by rw [Array.length_toList]; exact List.mem_range.mp hk)
      exact List.mem_map.mpr ⟨(j, k), (mem_live W.sz).2 ⟨b1, b2⟩, rfl⟩
    rw [List.length_map, p1] at a
    rw [List.length_map, List.length_range] at b
    have hz : hs.toList.length = hs.size := rfl
    omega
  refine ⟨tabOf t M owner, ((liveOf M owner).map (·.2)).toArray, hr, ?_, ⟨r1, rfl, ?_, hM, fun x hx => ?_, fun i h j h1 h2 => ?_⟩, rfl, rfl, rfl, rfl⟩
  · refine perm_range hs.size _ ?_ fun k hk => ?_
    · show ((liveOf M owner).map (·.2)).length = hs.size
      rw [List.length_map]
      exact hlen
    · obtain ⟨j, b1, b2⟩ := W.all k (by rw [Array.length_toList]; exact hk)
      exact List.mem_map.mpr ⟨(j, k), (mem_live W.sz).2 ⟨b1, b2⟩, rfl⟩
  · show ((liveOf M owner).map (·.1)).toArray.size = (((liveOf M owner).map (·.2)).map fun i => hs.getD i 0).length
    rw [List.size_toArray, List.length_map, List.length_map, List.length_map]
  · exact Nat.le_of_lt_succ (List.mem_range.mp (r2 x hx))
  · have h1' : (((liveOf M owner).map (·.2)).map fun i => hs.getD i 0)[i]? = some h := h1
    have h2' : ((liveOf M owner).map (·.1))[i]? = some j := h2
    rw [List.getElem?_map, List.getElem?_map] at h1'
    rw [List.getElem?_map] at h2'
    cases hq : (liveOf M owner)[i]? with
    | none =>
      rw [hq] at h2'
      cases h2'
    | some q =>
      obtain ⟨y, k⟩ := q
      rw [hq] at h1' h2'
      have ej : y = j := Option.some.inj h2'
      have eh : hs.getD k 0 = h := Option.some.inj h1'
      subst ej
      obtain ⟨b1, b2⟩ := (mem_live W.sz).1 (List.mem_of_getElem? hq)
      obtain ⟨h0, K, a1, a2, a3⟩ := W.at_ y k b1 b2
      have e0 : hs.getD k 0 = h0 := by
        rw [Array.getD_eq_getD_getElem?, ← Array.getElem?_toList, a1] <;> rfl
      have ehh : h0 = h := e0.symm.trans eh
      subst ehh
      refine ⟨K, a2, fun k' hk' => ?_⟩
      show way M h0 k' ∈ (liveOf M owner).map (·.1)
      cases z : oAt owner (way M h0 k') with
      | none => exact absurd z (a3 k' hk')
      | some k2 => exact List.mem_map.mpr ⟨(way M h0 k', k2), (mem_live W.sz).2 ⟨way_le hM, z⟩, rfl⟩
theorem size_20 : SetTable.sizeAbove (SetTable.grown 5) = 32 := by decide +kernel
theorem size_308 : SetTable.sizeAbove (SetTable.grown 77) = 512 := by decide +kernel
theorem size_76 : SetTable.sizeAbove (SetTable.grown 19) = 128 := by decide +kernel
end TT

namespace TT
open PySem PySem.Spec PyProof.Rows L2

abbrev TK (P : Program) (w : World) : HeapKind P w (List Str) := tupleKind (strKind P w)
abbrev thash (P : Program) (w : World) (k : List Str) : Int := tupleKeyHash (strKind P w) k
/-- the tuple at a has the ints k -/
abbrev IsT (P : Program) (w : World) (h : Heap) (k : List Str) (a : Addr) : Prop := IsTupleKey (strKind P w) h k a

/-- behind a candidate (the model's text from «let some (_, y)» on) -/
def searchRest (a : Addr) (x : Value) (h : Int) (adding : Bool) (fuel : Nat) (es : Array (Int × Value)) (t : SetTable) (j i : Nat) (next : SetTable.Probe) : Sem SetFound := do
  let some (_, y) := es[i]? | unsupported "internal:set-entry"
  let equal ← holding [y] (eqBool y x)
  let (es', _, t') ← setState a
  if adding && equal then return .there none
  let some same := t'.sameMemory t.moves t.mask | unsupported "set.changed-during-lookup:is-the-new-block-at-the-old-address"
  let still ← match (if same then t'.slot j else .empty) with
    | .live i' => match es'[i']? with
      | some (_, y') => do pure (if ← isSame y' y then some i' else none)
      | none => pure none
    | _ => pure none
  match still with
  | none => rule "set.search.anew"; setSearchFrom a x h adding fuel none
  | some i' => if equal then return .there (some i') else setSearchFrom a x h adding fuel (some next)
theorem setSearchFrom_succ (a : Addr) (x : Value) (h : Int) (adding : Bool) (fuel : Nat) (stand : Option SetTable.Probe) : setSearchFrom a x h adding (fuel + 1) stand = (do
    let (es, _, t) ← setState a
    if t.gaveWay then unsupported "set:on-a-table-that-gave-way"
    let some met := t.probe (fun i => (es[i]?.map (·.1)).getD 0) h (stand.getD (t.probeStart h)) | unsupported "internal:set-table-without-an-empty-slot"
    match met with
    | .empty j dummy =>
      match dummy with
      | none => return .free j false
      | some d =>
        if adding && t.slot d != .dummy then rule "set.search.the-dummy-was-taken"; return ← setSearchFrom a x h adding fuel none
        return .free d true
    | .candidate j i next =>
      if !t.led then
        if ← searchCouldBeSeen x ((es.filter (·.1 == h)).toList.map (·.2)) then unsupported "set:the-search-would-show-the-table"
      searchRest a x h adding fuel es t j i next) := by rfl

section
variable {P : Program} {w : World} {A : Around} {E : Value → Shared → Prop} {s : Shared}

theorem items_int {k : List Str} {vs : List Value} (h : ItemsAre (strKind P w) k vs) : ∀ v ∈ vs, ∃ i t, v = Value.str i t := by
  induction h with
  | nil => intro v hv; cases hv
  | @cons k0 v' ks vs h1 _ ih =>
    intro v hv
    rcases List.mem_cons.mp hv with e | hv
    · obtain ⟨t, e2⟩ := Value.isStrOf_shape h1
      exact ⟨k0, t, e.trans e2⟩
    · exact ih v hv
/-- an int is of no class statement, by value -/
theorem ofAClass_int (n : Nat) (i : Str) (t : Tok) : ofAClassStatement n (.str i t) = pure false := by
  cases n <;> rfl
theorem hashBy_int (n : Nat) (i : Str) (t : Tok) : hashByValue n (.str i t) = pure false := by
  cases n <;> rfl
theorem ofAClass_tup {k : List Str} {b : Addr} {Q : Bool → Shared → Prop} (hk : IsT P w s.heap k b) (h : Q false s) : wpAny (model P w) A (ofAClassStatement 8 (.ref b)) Q E s := by
  have hT := hk.typeIs
  obtain ⟨o, items, n, ho, _, hd, hi⟩ := hk
  unfold ofAClassStatement
  refine wpAny_bind (wpAny_typeOf hT ?_)
  dsimp only
  have e : (("tuple" : String) == "tuple") = true := by decide
  simp only [e, if_true, Bool.not_true, Bool.false_eq_true, if_false]
  try refine wpAny_bind (wpAny_pure ?_)
  try simp only [Bool.not_true, Bool.false_eq_true, if_false]
  show wpAny _ _ (seqItems? (.ref b) >>= _) _ _ s
  refine wpAny_bind (wpAny_seqItems ho hd ?_)
  dsimp only
  refine wpAny_bind ?_
  show wpAny _ _ (forIn items _ _) _ _ s
  rw [← Array.forIn_toList]
  refine wpAny_forIn_list _ (fun rest r s' => r.1 = none ∧ s' = s ∧ ∀ v ∈ rest, ∃ i t, v = Value.str i t) _ ?_ ?_ _ _ ⟨rfl, rfl, items_int hi⟩
  · rintro v rest r s' ⟨hr, rfl, hall⟩
    obtain ⟨i, t, rfl⟩ := hall v List.mem_cons_self
    rw [ofAClass_int]
    refine wpAny_bind (wpAny_pure ?_)
    simp only [Bool.false_eq_true, if_false]
    exact wpAny_pure ⟨rfl, rfl, fun u hu' => hall u (List.mem_cons_of_mem _ hu')⟩
  · rintro ⟨r1, r2⟩ s' ⟨hr, rfl, _⟩
    simp only at hr
    subst hr
    exact wpAny_pure h
theorem hashBy_tup {k : List Str} {b : Addr} {Q : Bool → Shared → Prop} (hk : IsT P w s.heap k b) (h : ∀ bv, Q bv s) : wpAny (model P w) A (hashByValue 8 (.ref b)) Q E s := by
  have hT := hk.typeIs
  obtain ⟨o, items, n, ho, _, hd, hi⟩ := hk
  unfold hashByValue
  refine wpAny_bind (wpAny_specialOf hT F.slot_tuple_hash.lookup ?_)
  show wpAny _ _ (seqItems? (.ref b) >>= _) _ _ s
  refine wpAny_bind (wpAny_seqItems ho hd ?_)
  refine wpAny_bind ?_
  show wpAny _ _ (forIn items _ _) _ _ s
  rw [← Array.forIn_toList]
  refine wpAny_forIn_list _ (fun rest r s' => (r.1 = none ∨ r.1 = some false) ∧ s' = s ∧ ∀ v ∈ rest, ∃ i t, v = Value.str i t) _ ?_ ?_ _ _ ⟨.inl rfl, rfl, items_int hi⟩
  · rintro v rest r s' ⟨hr, rfl, hall⟩
    obtain ⟨i, t, rfl⟩ := hall v List.mem_cons_self
    rw [hashBy_int]
    refine wpAny_bind (wpAny_pure ?_)
    simp only [Bool.not_false, if_true]
    exact wpAny_pure (wpAny_pure (h false))
  · rintro ⟨r1, r2⟩ s' ⟨hr, rfl, _⟩
    simp only at hr
    rcases hr with hr | hr
    · subst hr
      exact wpAny_pure (h true)
    · subst hr
      exact wpAny_pure (h false)
theorem TabOk.unplain {t : SetTable} {hs : List Int} (T : TabOk t hs) (bv : Bool) : TabOk (if bv = true then t else { t with plain := false }) hs := by
  cases bv
  · exact ⟨T.ris, T.dm, T.sz, T.mok, T.bd, T.reach⟩
  · exact T
theorem unplain_eqs (t : SetTable) (bv : Bool) : (if bv = true then t else { t with plain := false }).mask = t.mask ∧ (if bv = true then t else { t with plain := false }).led = t.led ∧ (if bv = true then t else { t with plain := false }).fill = t.fill ∧ (if bv = true then t else { t with plain := false }).place = t.place := by
  cases bv <;> exact ⟨rfl, rfl, rfl, rfl⟩
/-- a search among tuples shows nothing -/
theorem seen_tup {k : List Str} {b : Addr} {Q : Bool → Shared → Prop} (hk : IsT P w s.heap k b) {ys : List Value} (hy : ∀ y ∈ ys, ∃ k' c, y = Value.ref c ∧ IsT P w s.heap k' c) (h : Q false s) :
    wpAny (model P w) A (searchCouldBeSeen (.ref b) ys) Q E s := by
  unfold searchCouldBeSeen
  refine wpAny_bind ?_
  refine wpAny_forIn_list _ (fun rest r s' => r.1 = none ∧ s' = s ∧ ∀ y ∈ rest, ∃ k' c, y = Value.ref c ∧ IsT P w s.heap k' c) _ ?_ ?_ _ _ ⟨rfl, rfl, hy⟩
  · rintro v rest r s' ⟨hr, rfl, hall⟩
    obtain ⟨k', c, rfl, hc⟩ := hall v List.mem_cons_self
    have rest' : ∀ y ∈ rest, ∃ k' c, y = Value.ref c ∧ IsT P w s'.heap k' c := fun u hu' => hall u (List.mem_cons_of_mem _ hu')
    dsimp only
    by_cases hv : (b == c || (carriedByValue (.ref b) && carriedByValue (.ref c))) = true
    · refine wp_if_pos hv ?_
      exact wpAny_pure ⟨rfl, rfl, rest'⟩
    · refine wp_if_neg hv ?_
      refine wpAny_bind (wpAny_eqIsQuiet_tuple hk ?_)
      simp only [Bool.not_true, Bool.false_eq_true, if_false]
      refine wpAny_bind (wpAny_eqIsQuiet_tuple hc ?_)
      simp only [Bool.not_true, Bool.false_eq_true, if_false]
      refine wpAny_bind (ofAClass_tup hk ?_)
      simp only [Bool.false_eq_true, if_false]
      refine wpAny_bind (ofAClass_tup hc ?_)
      simp only [Bool.false_eq_true, if_false]
      exact wpAny_pure ⟨rfl, rfl, rest'⟩
  · rintro ⟨r1, r2⟩ s' ⟨hr, rfl, _⟩
    simp only at hr
    subst hr
    exact wpAny_pure h

def rowsOf (P : Program) (w : World) (L : List (Addr × List Str)) : List (Int × Value) := L.map fun p => (thash P w p.2, Value.ref p.1)
structure SetTR (P : Program) (w : World) (h : Heap) (a : Addr) (L : List (Addr × List Str)) (es : Array (Int × Value)) (ep : Nat) (t : SetTable) : Prop where
  ob : ∃ o, h.get? a = some o ∧ o.ExactSet ∧ o.data = .set es ep t
  rows : es.toList = rowsOf P w L
  tab : TabOk t (L.map fun p => thash P w p.2)
  nd : (L.map (·.2)).Nodup
  tup : ∀ p ∈ L, IsT P w h p.2 p.1
  led : w.params.followText "set-order" = true ∨ t.led = true
  room : L.length * 5 < t.mask * 3
  few : L.length < 300
variable {a : Addr} {L : List (Addr × List Str)} {es : Array (Int × Value)} {ep : Nat} {t : SetTable}
theorem SetTR.size (R : SetTR P w s.heap a L es ep t) : es.size = L.length := by
  have h := congrArg List.length R.rows
  unfold rowsOf at h
  rw [Array.length_toList, List.length_map] at h
  exact h
theorem SetTR.fits (R : SetTR P w s.heap a L es ep t) : t.fits es.size = true := by
  have h1 := R.tab.sz
  rw [List.length_map] at h1
  have h2 := R.size
  have h3 := R.room
  unfold SetTable.fits SetTable.fill
  rw [R.tab.dm, Bool.and_eq_true, beq_iff_eq, decide_eq_true_eq]
  show t.place.size = es.size ∧ t.place.size + 0 ≤ t.mask
  omega
theorem SetTR.entry (R : SetTR P w s.heap a L es ep t) {i : Nat} {p : Addr × List Str} (h : L[i]? = some p) : es[i]? = some (thash P w p.2, Value.ref p.1) := by
  rw [← Array.getElem?_toList, R.rows]
  unfold rowsOf
  rw [List.getElem?_map, h] <;> rfl
theorem SetTR.gw (R : SetTR P w s.heap a L es ep t) : ¬ t.gaveWay = true := by
  unfold SetTable.gaveWay
  rw [mask_odd R.tab.mok]
  decide
theorem sameMem (t : SetTable) : t.sameMemory t.moves t.mask = some true := by
  unfold SetTable.sameMemory
  rw [if_pos (beq_self_eq_true _)]

/-- THE SEARCH: from the c-th step of the way on -/
theorem search_from (R : SetTR P w s.heap a L es ep t) {x : Addr} {k : List Str} (hx : IsT P w s.heap k x) (hu : A.units < cLine) {K : Nat} (hKf : K < 10 * SetTable.turns t.mask)
    (hK : way t.mask (thash P w k) K ∉ t.place.toList) (hKb : ∀ c, c < K → way t.mask (thash P w k) c ∈ t.place.toList) {Q : SetFound → Shared → Prop}
    (hin : k ∈ L.map (·.2) → Q (.there none) s) (hout : k ∉ L.map (·.2) → Q (.free (way t.mask (thash P w k) K) false) s) :
    ∀ (f c : Nat) (stand : Option SetTable.Probe), stand.getD (t.probeStart (thash P w k)) = nth t.mask (runAt t.mask (SetTable.bits (thash P w k) % (t.mask + 1)) (SetTable.bits (thash P w k))) c → c ≤ K → K - c < f →
      (∀ (i : Nat) p, L[i]? = some p → p.2 = k → ∃ c', c ≤ c' ∧ c' < K ∧ t.place.toList[i]? = some (way t.mask (thash P w k) c')) →
      wpAny (model P w) A (setSearchFrom a (.ref x) (thash P w k) true f stand) Q E s
  | 0, c, stand, _, _, hf, _ => absurd hf (Nat.not_lt_zero _)
  | f + 1, c, stand, hst, hc, hf, hre => by
    obtain ⟨o, ho, hex, hd⟩ := R.ob
    rw [setSearchFrom_succ]
    refine wpAny_bind (wpAny_setState_of ho hd R.fits ?_)
    dsimp only
    refine wp_if_neg R.gw ?_
    try refine wpAny_bind (wpAny_pure ?_)
    have hnd : (nth t.mask (runAt t.mask (SetTable.bits (thash P w k) % (t.mask + 1)) (SetTable.bits (thash P w k))) c).dummy = none := by
      have key : ∀ (n : Nat) (p : SetTable.Probe), p.dummy = none → (nth t.mask p n).dummy = none := by
        intro n
        induction n with
        | zero => intro p h; exact h
        | succ n ih =>
          intro p h
          refine ih (adv t.mask p) ?_
          unfold adv
          split <;> exact h
      exact key c _ rfl
    have sh : ∀ q, nth t.mask (nth t.mask (runAt t.mask (SetTable.bits (thash P w k) % (t.mask + 1)) (SetTable.bits (thash P w k))) c) q = nth t.mask (runAt t.mask (SetTable.bits (thash P w k) % (t.mask + 1)) (SetTable.bits (thash P w k))) (c + q) := fun q => (nth_add t.mask c _ q).symm
    have e1 : ∀ q, (nth t.mask (nth t.mask (runAt t.mask (SetTable.bits (thash P w k) % (t.mask + 1)) (SetTable.bits (thash P w k))) c) q).j = way t.mask (thash P w k) (c + q) := fun q => congrArg SetTable.Probe.j (sh q)
    have spec := go_spec t R.tab.ris R.tab.dm (fun i => (es[i]?.map (·.1)).getD 0) (thash P w k) (10 * SetTable.turns t.mask) (K - c) _ hnd (by omega)
      (fun q hq => by rw [e1]; exact hKb (c + q) (by omega)) (by rw [e1, show c + (K - c) = K by omega]; exact hK)
    have hashAt : ∀ (i : Nat) p, L[i]? = some p → (fun i => (es[i]?.map (·.1)).getD 0) i = thash P w p.2 := fun i p hp => by
      show (es[i]?.map (·.1)).getD 0 = _
      rw [R.entry hp] <;> rfl
    rcases spec with ⟨q, i, hq, hi, hh, hno, hpr⟩ | ⟨hno, hpr⟩
    · -- a candidate
      have hpr' : t.probe (fun i => (es[i]?.map (·.1)).getD 0) (thash P w k) (stand.getD (t.probeStart (thash P w k))) = some (.candidate (way t.mask (thash P w k) (c + q)) i (nth t.mask (runAt t.mask (SetTable.bits (thash P w k) % (t.mask + 1)) (SetTable.bits (thash P w k))) (c + (q + 1)))) := by
        rw [hst, ← e1, ← sh]
        exact hpr
      rw [hpr']
      dsimp only
      rw [e1] at hi
      -- the entry
      have hil : i < L.length := by
        have h1 : i < t.place.toList.length := (List.getElem?_eq_some_iff.mp hi).1
        have h2 := R.tab.sz
        rw [List.length_map] at h2
        rw [Array.length_toList] at h1
        omega
      have hp : L[i]? = some L[i] := List.getElem?_eq_getElem hil
      generalize hpe : L[i] = p at hp
      have hmem : p ∈ L := List.mem_of_getElem? hp
      have hpt := R.tup p hmem
      have rest : wpAny (model P w) A (searchRest a (.ref x) (thash P w k) true f es t (way t.mask (thash P w k) (c + q)) i (nth t.mask (runAt t.mask (SetTable.bits (thash P w k) % (t.mask + 1)) (SetTable.bits (thash P w k))) (c + (q + 1)))) Q E s := by
        unfold searchRest
        rw [R.entry hp]
        dsimp only
        refine wpAny_bind (wpAny_holding (wpAny_eqBool_tuple hu hpt hx ?_))
        refine wpAny_bind (wpAny_setState_of ho hd R.fits ?_)
        dsimp only
        by_cases hkk : p.2 = k
        · refine wp_if_pos (by simp [hkk]) ?_
          refine wpAny_pure (hin ?_)
          exact List.mem_map.mpr ⟨p, hmem, hkk⟩
        · refine wp_if_neg (by simp [hkk]) ?_
          try refine wpAny_bind (wpAny_pure ?_)
          rw [sameMem]
          dsimp only
          have hsl : t.slot (way t.mask (thash P w k) (c + q)) = .live i := slot_live R.tab.ris hi
          simp only [if_true, hsl, R.entry hp]
          refine wpAny_bind (wpAny_isSame_ref_self (wpAny_bind (wpAny_pure ?_)))
          simp only [if_true]
          refine wp_if_neg (by simp [hkk]) ?_
          refine search_from R hx hu hKf hK hKb hin hout f (c + (q + 1)) _ rfl (by omega) (by omega) fun i0 p0 h0 hk0 => ?_
          obtain ⟨c', a1, a2, a3⟩ := hre i0 p0 h0 hk0
          refine ⟨c', ?_, a2, a3⟩
          -- it isn't passed
          rcases Nat.lt_or_ge c' (c + q) with z | z
          · exfalso
            refine hno (c' - c) i0 (by omega) (by rw [e1, show c + (c' - c) = c' by omega]; exact a3) ?_
            exact (hashAt i0 p0 h0).trans (congrArg (thash P w) hk0)
          · rcases Nat.lt_or_ge (c + q) c' with y | y
            · omega
            · exfalso
              have ec : c' = c + q := Nat.le_antisymm y z
              rw [ec] at a3
              have s0 := slot_live R.tab.ris a3
              rw [hsl] at s0
              injection s0 with s0
              rw [← s0, hp] at h0
              exact hkk ((congrArg Prod.snd (Option.some.inj h0)).trans hk0)
      by_cases hl : t.led = true
      · refine wp_if_neg (by simp [hl]) ?_
        try refine wpAny_bind (wpAny_pure ?_)
        exact rest
      · refine wp_if_pos (by simp [hl]) ?_
        refine wpAny_bind (seen_tup hx (fun y hy => ?_) ?_)
        · obtain ⟨e, he, ee⟩ := List.mem_map.mp hy
          have he1 : e ∈ es ∧ e.1 = thash P w k := by simpa using he
          have he2 : e ∈ es.toList := by simpa using he1.1
          rw [R.rows] at he2
          obtain ⟨p2, hp2, e2⟩ := List.mem_map.mp he2
          refine ⟨p2.2, p2.1, ?_, R.tup p2 hp2⟩
          rw [← ee, ← e2]
        · refine wp_if_neg (by decide) ?_
          try refine wpAny_bind (wpAny_pure ?_)
          exact rest
    · -- the empty slot
      have hpr' : t.probe (fun i => (es[i]?.map (·.1)).getD 0) (thash P w k) (stand.getD (t.probeStart (thash P w k))) = some (.empty (way t.mask (thash P w k) K) none) := by
        have e2 : way t.mask (thash P w k) K = (nth t.mask (nth t.mask (runAt t.mask (SetTable.bits (thash P w k) % (t.mask + 1)) (SetTable.bits (thash P w k))) c) (K - c)).j := by
          rw [e1, show c + (K - c) = K by omega]
        rw [hst, e2]
        exact hpr
      rw [hpr']
      dsimp only
      refine wpAny_pure (hout fun hm => ?_)
      obtain ⟨p0, h0, hk0⟩ := List.mem_map.mp hm
      obtain ⟨i0, hi0, e0⟩ := List.getElem_of_mem h0
      have h00 : L[i0]? = some p0 := by rw [List.getElem?_eq_getElem hi0, e0]
      obtain ⟨c', a1, a2, a3⟩ := hre i0 p0 h00 hk0
      refine hno (c' - c) i0 (by omega) (by rw [e1, show c + (c' - c) = c' by omega]; exact a3) ?_
      exact (hashAt i0 p0 h00).trans (congrArg (thash P w) hk0)

/-- the search as adding asks for it -/
theorem search_at (R : SetTR P w s.heap a L es ep t) {x : Addr} {k : List Str} (hx : IsT P w s.heap k x) (hu : A.units < cLine) {Q : SetFound → Shared → Prop}
    (hin : k ∈ L.map (·.2) → Q (.there none) s)
    (hout : ∀ K, k ∉ L.map (·.2) → way t.mask (thash P w k) K ∉ t.place.toList → (∀ c, c < K → way t.mask (thash P w k) c ∈ t.place.toList) → Q (.free (way t.mask (thash P w k) K) false) s) :
    wpAny (model P w) A (setSearch a (.ref x) (thash P w k) true) Q E s := by
  have hroom := R.room
  obtain ⟨K, hKf, hK, hKb⟩ := R.tab.first (by rw [List.length_map]; omega) (thash P w k)
  have hbig : K < 100000 := by
    have : 10 * SetTable.turns t.mask ≤ 5260 := by
      unfold SetTable.turns
      rcases R.tab.mok with e | e | e | e <;> omega
    omega
  unfold setSearch
  refine search_from R hx hu hKf hK hKb hin (fun hn => hout K hn hK hKb) 100000 0 none rfl (Nat.zero_le _) (by omega) fun i p hp hk => ?_
  have hi : (L.map fun p => thash P w p.2)[i]? = some (thash P w k) := by rw [List.getElem?_map, hp, ← hk] <;> rfl
  have hil : i < t.place.toList.length := by
    have h1 : i < L.length := (List.getElem?_eq_some_iff.mp hp).1
    have h2 := R.tab.sz
    rw [List.length_map] at h2
    rw [Array.length_toList]
    omega
  have hj := List.getElem?_eq_getElem hil
  obtain ⟨c, hc, e⟩ := R.tab.before hK hi hj
  exact ⟨c, Nat.zero_le _, hc, by rw [hj, e]⟩
end
end TT

namespace TT
open PySem PySem.Spec PyProof.Rows L2
theorem setAddHashedIn_succ (a : Addr) (x : Value) (h : Int) (fuel : Nat) : setAddHashedIn a x h (fuel + 1) = (do
    let (es₀, _, t₀) ← setState a
    if byScan x es₀ then
      match ← setAddByScan a x h es₀ t₀ with
      | some added => return added
      | none => return ← setAddHashedIn a x h fuel
    let .free slot wasDummy ← setSearch a x h (adding := true) | return false
    let (es, _, t) ← setState a
    let (t, p) := t.put slot
    let byValue ← if t.plain then hashByValue 8 x else pure true
    let t := if byValue then t else { t with plain := false }
    storeSet a (SetTable.insertAt es p (h, x)) t
    if !wasDummy && t.tooFull then setRelay a (SetTable.grown (es.size + 1))
    return true) := by rfl
theorem setRelay_eq (a : Addr) (wanted : Nat) : setRelay a wanted = (do
    let (es, _, t) ← setState a
    if SetTable.sizeAbove wanted > sizeLine then unsupported "set:memory"
    let (es, t) ← (do
      let some (t, order) := t.relaid (es.map (·.1)) wanted | unsupported "internal:set-table-without-room"
      let es' := order.filterMap (es[·]?)
      if es'.size != es.size then unsupported "internal:set-table-lost-an-element"
      pure (es', t) : Sem (Array (Int × Value) × SetTable))
    storeSet a es t) := by rfl

section
variable {P : Program} {w : World} {A : Around} {E : Value → Shared → Prop} {s : Shared}
/-- a tuple isn't the set -/
theorem isT_same {h h' : Heap} {k : List Str} {a b : Addr} {o : Obj} {es : Array (Int × Value)} {ep : Nat} {t : SetTable} (hb : IsT P w h k b) (ho : h.get? a = some o) (hd : o.data = .set es ep t) (hs : Heap.SameBut a h h') : IsT P w h' k b := by
  obtain ⟨o', items, n, ho', hc, hd', hi⟩ := hb
  have hne : b ≠ a := by
    rintro rfl
    obtain rfl : o' = o := Option.some.inj (ho'.symm.trans ho)
    rw [hd] at hd'
    exact nomatch hd'
  exact ⟨o', items, n, (hs.2 b hne).trans ho', hc, hd', hi⟩
theorem rows_put (L : List (Addr × List Str)) (p : Nat) (x : Addr) (k : List Str) : rowsOf P w (L.take p ++ (x, k) :: L.drop p) = (rowsOf P w L).take p ++ (thash P w k, Value.ref x) :: (rowsOf P w L).drop p := by
  unfold rowsOf
  rw [List.map_append, List.map_cons, List.map_take, List.map_drop]
theorem put_perm {α : Type} (L : List α) (p : Nat) (x : α) : (L.take p ++ x :: L.drop p).Perm (x :: L) := by
  have h : (L.take p ++ x :: L.drop p).Perm (x :: (L.take p ++ L.drop p)) := List.perm_middle
  rw [List.take_append_drop] at h
  exact h
theorem order_rows (L : List (Addr × List Str)) (es : Array (Int × Value)) (order : Array Nat) (hr : es.toList = rowsOf P w L) (hp : order.toList.Perm (List.range L.length)) :
    ∃ L2, (order.filterMap (es[·]?)).toList = rowsOf P w L2 ∧ L2.Perm L ∧ (L2.map fun p => thash P w p.2) = order.toList.map fun i => (es.map (·.1)).getD i 0 := by
  have hsz : es.size = L.length := by
    have h := congrArg List.length hr
    unfold rowsOf at h
    rw [Array.length_toList, List.length_map] at h
    exact h
  have ent : ∀ i (h : i < L.length), es[i]? = some (thash P w (L[i]).2, Value.ref (L[i]).1) := fun i h => by
    rw [← Array.getElem?_toList, hr]
    unfold rowsOf
    rw [List.getElem?_map, List.getElem?_eq_getElem h] <;> rfl
  have key : ∀ l : List Nat, (∀ i ∈ l, i < L.length) → ∃ L2 : List (Addr × List Str), l.filterMap (fun i => es[i]?) = rowsOf P w L2 ∧ L2 = l.filterMap (fun i => L[i]?) ∧ (L2.map fun p => thash P w p.2) = l.map fun i => (es.map (·.1)).getD i 0 := by
    intro l
    induction l with
    | nil => intro _; exact ⟨[], rfl, rfl, rfl⟩
    | cons i l ih =>
      intro hl
      have hi := hl i List.mem_cons_self
      obtain ⟨L2, e1, e2, e3⟩ := ih fun j hj => hl j (List.mem_cons_of_mem _ hj)
      refine ⟨L[i] :: L2, ?_, ?_, ?_⟩
      · rw [List.filterMap_cons_some (ent i hi), e1] <;> rfl
      · rw [List.filterMap_cons_some (List.getElem?_eq_getElem hi), e2]
      · rw [List.map_cons, List.map_cons, e3]
        have hi2 : i < (es.map (·.1)).size := by rw [Array.size_map, hsz]; exact hi
        have e4 : (es.map (·.1)).getD i 0 = thash P w (L[i]).2 := by
          have e5 : (es.map (·.1))[i]? = some (thash P w (L[i]).2) := by rw [Array.getElem?_map, ent i hi] <;> rfl
          simp [Array.getD_eq_getD_getElem?, e5]
        rw [e4]
  obtain ⟨L2, e1, e2, e3⟩ := key order.toList fun i hi => List.mem_range.mp (hp.mem_iff.mp hi)
  refine ⟨L2, by first | (rw [Array.toList_filterMap]; exact e1) | simpa using e1, ?_, e3⟩
  have h1 : L2.Perm ((List.range L.length).filterMap fun i => L[i]?) := by
    rw [e2]
    exact hp.filterMap _
  have h2 : (List.range L.length).filterMap (fun i => L[i]?) = L := by
    have key2 : ∀ n, n ≤ L.length → (List.range n).filterMap (fun i => L[i]?) = L.take n := by
      intro n
      induction n with
      | zero => intro _; rfl
      | succ n ih =>
        intro hn
        have hlt : n < L.length := hn
        rw [List.range_succ, List.filterMap_append, ih (Nat.le_of_lt hlt), List.take_succ, List.getElem?_eq_getElem hlt]
        rw [List.filterMap_cons_some (List.getElem?_eq_getElem hlt)] <;> rfl
    rw [key2 L.length (Nat.le_refl _), List.take_length]
  rw [h2] at h1
  exact h1

variable {a : Addr} {L : List (Addr × List Str)} {es : Array (Int × Value)} {ep : Nat} {t : SetTable}
/-- the table laid anew, larger -/
theorem relay_at {o : Obj} (ho : s.heap.get? a = some o) (hex : o.ExactSet) (hd : o.data = .set es ep t) (hrows : es.toList = rowsOf P w L) (hsz : t.place.size = es.size) (hdm : t.dummies = #[]) (hfl : es.size ≤ t.mask)
    (nd : (L.map (·.2)).Nodup) (tup : ∀ p ∈ L, IsT P w s.heap p.2 p.1) (ld : w.params.followText "set-order" = true ∨ t.led = true) (few : L.length < 300) {wanted M : Nat}
    (hw : SetTable.sizeAbove wanted - 1 = M) (hM : MaskOk M) (hw2 : SetTable.sizeAbove wanted ≤ 512) (hn : L.length * 5 < M * 3) {Q : Unit → Shared → Prop}
    (hQ : ∀ h' L' es' ep' t', Heap.SameBut a s.heap h' → SetTR P w h' a L' es' ep' t' → L'.Perm L → Q () { s with heap := h' }) : wpAny (model P w) A (setRelay a wanted) Q E s := by
  have hsl : es.size = L.length := by
    have h := congrArg List.length hrows
    unfold rowsOf at h
    rw [Array.length_toList, List.length_map] at h
    exact h
  have hfits : t.fits es.size = true := by
    unfold SetTable.fits SetTable.fill
    rw [hdm, Bool.and_eq_true, beq_iff_eq, decide_eq_true_eq]
    show t.place.size = es.size ∧ t.place.size + 0 ≤ t.mask
    omega
  obtain ⟨t', order, e, hp, T, em, el, ep', ed⟩ := relaid_ok t (hs := es.map (·.1)) (wanted := wanted) hw hM (by rw [Array.size_map, hsl]; omega)
  rw [Array.size_map, hsl] at hp
  obtain ⟨L2, r1, r2, r3⟩ := order_rows L es order hrows hp
  rw [← r3] at T
  have hs2 : (order.filterMap (es[·]?)).size = es.size := by
    have h := congrArg List.length r1
    unfold rowsOf at h
    rw [Array.length_toList, List.length_map, r2.length_eq] at h
    rw [h, hsl]
  rw [setRelay_eq]
  refine wpAny_bind (wpAny_setState_of ho hd hfits ?_)
  dsimp only
  refine wp_if_neg (by rw [sizeLine_eq]; omega) ?_
  try refine wpAny_bind (wpAny_pure ?_)
  rw [e]
  dsimp only
  refine wpAny_bind ?_
  refine wp_if_neg (by rw [hs2]; simp) ?_
  try refine wpAny_bind (wpAny_pure ?_)
  refine wpAny_pure ?_
  dsimp only
  refine wpAny_storeSet_of ho hd ?_ (by rw [hs2, hsl, sizeLine_eq]; omega)
  have sb : Heap.SameBut a s.heap (s.heap.update a (Obj.putSet (order.filterMap (es[·]?)) t')) := Heap.SameBut.update ..
  refine hQ _ L2 (order.filterMap (es[·]?)) (ep + 1) t' sb ?_ r2
  refine ⟨⟨_, store_at ho hd, ⟨hex.1, hex.2.1, hex.2.2⟩, rfl⟩, r1, T, ?_, fun p hpm => isT_same (tup p (r2.mem_iff.mp hpm)) ho hd sb, by rw [el]; exact ld, ?_, by rw [r2.length_eq]; exact few⟩
  · exact (r2.map (·.2)).nodup_iff.mpr nd
  · rw [r2.length_eq, em]
    exact hn

theorem hash_fork {x : Addr} {k : List Str} (hx : IsT P w s.heap k x) {t1 : SetTable} {β : Type} {f : Bool → Sem β} {Q : β → Shared → Prop} (h : ∀ bv, wpAny (model P w) A (f bv) Q E s) :
    wpAny (model P w) A (if t1.plain = true then (hashByValue 8 (.ref x) >>= f) else (pure true >>= f)) Q E s := by
  by_cases hp : t1.plain = true
  · exact wp_if_pos hp (wpAny_bind (hashBy_tup hx h))
  · exact wp_if_neg hp (wpAny_bind (wpAny_pure (h true)))
/-- ADDING -/
theorem add_at (R : SetTR P w s.heap a L es ep t) {x : Addr} {k : List Str} (hx : IsT P w s.heap k x) (hu : A.units < cLine) (hfew : L.length + 1 < 300) {Q : Bool → Shared → Prop}
    (hQ : ∀ b h' L' es' ep' t', Heap.SameBut a s.heap h' → SetTR P w h' a L' es' ep' t' → (k ∈ L.map (·.2) → L' = L) → (k ∉ L.map (·.2) → L'.Perm ((x, k) :: L)) → Q b { s with heap := h' }) :
    wpAny (model P w) A (setAddHashed a (.ref x) (thash P w k)) Q E s := by
  obtain ⟨o, ho, hex, hd⟩ := R.ob
  have hsl := R.size
  have hroom := R.room
  unfold setAddHashed
  refine wpAny_holding ?_
  rw [show (100000 : Nat) = 99999 + 1 from rfl, setAddHashedIn_succ]
  refine wpAny_bind (wpAny_setState_of ho hd R.fits ?_)
  dsimp only
  refine wp_if_neg (by simp [byScan, Value.scannable]) ?_
  try refine wpAny_bind (wpAny_pure ?_)
  refine wpAny_bind (search_at R hx hu (fun hm => ?_) fun K hm hK hb => ?_)
  · dsimp only
    exact wpAny_pure (hQ false s.heap L es ep t (Heap.SameBut.refl a s.heap) R (fun _ => rfl) fun z => absurd hm z)
  · dsimp only
    refine wpAny_bind (wpAny_setState_of ho hd R.fits ?_)
    dsimp only
    obtain ⟨q1, q2, q3, q4, q5, q6, q7, q8, q9⟩ := R.tab.put hK hb
    generalize hpt : t.put (way t.mask (thash P w k) K) = pt at q1 q3 q4 q5 q6 q7 q8 q9 ⊢
    obtain ⟨t1, p⟩ := pt
    dsimp only at q1 q3 q4 q5 q6 q7 q8 q9 ⊢
    subst q1
    refine hash_fork hx fun bv => ?_
    obtain ⟨u1, u2, u3, u4⟩ := unplain_eqs t1 bv
    replace q3 := q3.unplain bv
    replace q4 := u1.trans q4
    replace q5 := u2.trans q5
    replace q9 := u3.trans q9
    clear u1 u2 u3 u4 hpt q6 q7 q8
    generalize (if bv = true then t1 else { t1 with plain := false }) = t1 at q3 q4 q5 q9 ⊢
    have hin : (SetTable.insertAt es (SetTable.below t.place (way t.mask (thash P w k) K)) (thash P w k, Value.ref x)).toList = rowsOf P w (L.take (SetTable.below t.place (way t.mask (thash P w k) K)) ++ (x, k) :: L.drop (SetTable.below t.place (way t.mask (thash P w k) K))) := by
      rw [SetTable.toList_insertAt, rows_put, R.rows]
    generalize hpp : SetTable.below t.place (way t.mask (thash P w k) K) = p at q2 q3 hin ⊢
    have pm := put_perm L p (x, k)
    have hlen : (L.take p ++ (x, k) :: L.drop p).length = L.length + 1 := pm.length_eq
    have hhs : (L.take p ++ (x, k) :: L.drop p).map (fun p => thash P w p.2) = (L.map fun p => thash P w p.2).take p ++ thash P w k :: (L.map fun p => thash P w p.2).drop p := by
      rw [List.map_append, List.map_cons, List.map_take, List.map_drop]
    rw [← hhs] at q3
    have nd1 : ((L.take p ++ (x, k) :: L.drop p).map (·.2)).Nodup := by
      refine (pm.map (·.2)).nodup_iff.mpr ?_
      rw [List.map_cons]
      exact List.nodup_cons.mpr ⟨hm, R.nd⟩
    have hes : (SetTable.insertAt es p (thash P w k, Value.ref x)).size = L.length + 1 := by
      have h := congrArg List.length hin
      unfold rowsOf at h
      rw [Array.length_toList, List.length_map, hlen] at h
      exact h
    generalize SetTable.insertAt es p (thash P w k, Value.ref x) = es1 at hin hes ⊢
    generalize L.take p ++ (x, k) :: L.drop p = L1 at pm hlen q3 nd1 hin
    refine wpAny_bind (wpAny_storeSet_of ho hd ?_ (by rw [hes, sizeLine_eq]; omega))
    have sb : Heap.SameBut a s.heap (s.heap.update a (Obj.putSet es1 t1)) := Heap.SameBut.update ..
    have ho1 := store_at (es' := es1) (t' := t1) ho hd
    generalize s.heap.update a (Obj.putSet es1 t1) = h1 at sb ho1 ⊢
    have tup1 : ∀ p ∈ L1, IsT P w h1 p.2 p.1 := fun p hp => by
      rcases List.mem_cons.mp (pm.mem_iff.mp hp) with e | hp
      · rw [e]; exact isT_same hx ho hd sb
      · exact isT_same (R.tup p hp) ho hd sb
    have ld1 : w.params.followText "set-order" = true ∨ t1.led = true := by rw [q5]; exact R.led
    by_cases hf : t1.tooFull = true
    · first
        | (refine wpAny_bind ?_; refine wp_if_pos (by simp [hf]) ?_)
        | (refine wp_if_pos (by simp [hf]) ?_; refine wpAny_bind ?_)
      have hfull : (L.length + 1) * 5 ≥ t1.mask * 3 := by
        have h := hf
        unfold SetTable.tooFull at h
        rw [decide_eq_true_eq, q9, List.length_map] at h
        exact h
      rw [hsl]
      have hsz1 : t1.place.size = es1.size := by
        have h := q3.sz
        rw [List.length_map, hlen] at h
        rw [h, hes]
      have cases2 : (t.mask = 7 ∧ L.length = 4) ∨ (t.mask = 31 ∧ L.length = 18) ∨ (t.mask = 127 ∧ L.length = 76) := by
        rcases R.tab.mok with e | e | e | e
        · left; rw [q4, e] at hfull; rw [e] at hroom; exact ⟨e, by omega⟩
        · right; left; rw [q4, e] at hfull; rw [e] at hroom; exact ⟨e, by omega⟩
        · right; right; rw [q4, e] at hfull; rw [e] at hroom; exact ⟨e, by omega⟩
        · exfalso; rw [q4, e] at hfull; omega
      have go : ∀ M, SetTable.sizeAbove (SetTable.grown (L.length + 1)) - 1 = M → MaskOk M → SetTable.sizeAbove (SetTable.grown (L.length + 1)) ≤ 512 → (L.length + 1) * 5 < M * 3 →
          wpAny (model P w) A (setRelay a (SetTable.grown (L.length + 1))) (fun _ s' => wpAny (model P w) A (pure true) Q E s') E { s with heap := h1 } := fun M h1' h2' h3' h4' => by
        refine relay_at (s := { s with heap := h1 }) ho1 ⟨hex.1, hex.2.1, hex.2.2⟩ rfl hin hsz1 q3.dm (by rw [hes, q4]; rcases cases2 with ⟨e, e2⟩ | ⟨e, e2⟩ | ⟨e, e2⟩ <;> omega) nd1 tup1 ld1 (by rw [hlen]; exact hfew) h1' h2' h3' (by rw [hlen]; exact h4') ?_
        intro h2 L2 es2 ep2 t2 sb2 R2 pm2
        refine wpAny_pure (hQ true h2 L2 es2 ep2 t2 (sb.trans sb2) R2 (fun z => absurd z hm) fun _ => pm2.trans pm)
      rcases cases2 with ⟨_, e2⟩ | ⟨_, e2⟩ | ⟨_, e2⟩
      · refine go 31 (by rw [e2, size_20]) (.inr (.inl rfl)) (by rw [e2, size_20]; decide) (by omega)
      · refine go 127 (by rw [e2, size_76]) (.inr (.inr (.inl rfl))) (by rw [e2, size_76]; decide) (by omega)
      · refine go 511 (by rw [e2, size_308]) (.inr (.inr (.inr rfl))) (by rw [e2, size_308]; decide) (by omega)
    · first
        | refine wp_if_neg (by simp [hf]) ?_
        | (refine wpAny_bind ?_; refine wp_if_neg (by simp [hf]) ?_; refine wpAny_pure ?_)
      refine wpAny_pure (hQ true h1 L1 es1 (ep + 1) t1 sb ⟨⟨_, ho1, ⟨hex.1, hex.2.1, hex.2.2⟩, rfl⟩, hin, q3, nd1, tup1, ld1, ?_, by rw [hlen]; exact hfew⟩ (fun z => absurd z hm) fun _ => pm)
      have h := hf
      unfold SetTable.tooFull at h
      rw [decide_eq_true_eq, q9, List.length_map] at h
      rw [hlen]
      omega
end
end TT

namespace TT
open PySem PySem.Spec PyProof.Rows L2

theorem nodup_of_map {α β : Type} {f : α → β} {l : List α} (h : (l.map f).Nodup) : l.Nodup := List.Pairwise.of_map f (fun _ _ hne e => hne (congrArg f e)) h
/-- what the set has got from the first i items -/
structure Got (ks : List (Addr × List Str)) (i : Nat) (L : List (Addr × List Str)) : Prop where
  sub : ∀ p ∈ L, p ∈ ks.take i
  all : ∀ p ∈ ks.take i, p.2 ∈ L.map (·.2)
  len : L.length ≤ i
theorem Got.zero (ks : List (Addr × List Str)) : Got ks 0 [] := ⟨fun p h => (by cases h), fun p h => (by simp at h), Nat.le_refl _⟩
theorem take_next {α : Type} {l : List α} {i : Nat} {x : α} (h : l[i]? = some x) : l.take (i + 1) = l.take i ++ [x] := by
  rw [List.take_succ, h] <;> rfl
theorem Got.same {ks L : List (Addr × List Str)} {i : Nat} {x : Addr × List Str} (g : Got ks i L) (h : ks[i]? = some x) (hm : x.2 ∈ L.map (·.2)) : Got ks (i + 1) L := by
  refine ⟨fun p hp => ?_, fun p hp => ?_, Nat.le_succ_of_le g.len⟩
  · rw [take_next h]
    exact List.mem_append_left _ (g.sub p hp)
  · rw [take_next h] at hp
    rcases List.mem_append.mp hp with z | z
    · exact g.all p z
    · rw [List.mem_singleton.mp z]; exact hm
theorem Got.more {ks L L' : List (Addr × List Str)} {i : Nat} {x : Addr × List Str} (g : Got ks i L) (h : ks[i]? = some x) (pm : L'.Perm (x :: L)) : Got ks (i + 1) L' := by
  refine ⟨fun p hp => ?_, fun p hp => ?_, ?_⟩
  · rw [take_next h]
    rcases List.mem_cons.mp (pm.mem_iff.mp hp) with e | z
    · rw [e]; exact List.mem_append_right _ (List.mem_singleton.mpr rfl)
    · exact List.mem_append_left _ (g.sub p z)
  · rw [(pm.map (·.2)).mem_iff, List.map_cons]
    rw [take_next h] at hp
    rcases List.mem_append.mp hp with z | z
    · exact List.mem_cons_of_mem _ (g.all p z)
    · rw [List.mem_singleton.mp z]; exact List.mem_cons_self
  · rw [pm.length_eq, List.length_cons]
    exact Nat.succ_le_succ g.len

section
variable {P : Program} {w : World} {A : Around} {E : Value → Shared → Prop} {s : Shared}
theorem isT_keep {h h' : Heap} {k : List Str} {b : Addr} (x : IsT P w h k b) (hk : ∀ c o, h.get? c = some o → h'.get? c = some o) : IsT P w h' k b := by
  obtain ⟨o, items, n, ho, r⟩ := x
  exact ⟨o, items, n, hk b o ho, r⟩
theorem SetTR.keep {h h' : Heap} {a : Addr} {L : List (Addr × List Str)} {es : Array (Int × Value)} {ep : Nat} {t : SetTable} (R : SetTR P w h a L es ep t) (ha : ∀ o, h.get? a = some o → h'.get? a = some o) (ht : ∀ p ∈ L, IsT P w h' p.2 p.1) : SetTR P w h' a L es ep t := by
  obtain ⟨o, ho, r⟩ := R.ob
  exact ⟨⟨o, ha o ho, r⟩, R.rows, R.tab, R.nd, ht, R.led, R.room, R.few⟩
/-- a new set -/
theorem setTR_fresh {h : Heap} {a : Addr} (ho : h.get? a = some { cls := .type "set", dict := none, data := .set #[] 0 (.fresh 0 0 (!w.params.followText "set-order")) }) : SetTR P w h a [] #[] 0 (.fresh 0 0 (!w.params.followText "set-order")) where
  ob := ⟨_, ho, ⟨rfl, rfl, rfl⟩, rfl⟩
  rows := rfl
  tab := ⟨List.Pairwise.nil, rfl, rfl, .inl rfl, fun x hx => (by cases hx), fun i h j hi => (by simp at hi)⟩
  nd := List.nodup_nil
  tup := fun p hp => (by cases hp)
  led := by
    show _ ∨ (!w.params.followText "set-order") = true
    cases w.params.followText "set-order"
    · exact .inr rfl
    · exact .inl rfl
  room := by
    show 0 * 5 < 7 * 3
    decide
  few := by
    show 0 < 300
    decide

/-- set.update's loop -/
theorem set_update_tups {I : Addr} {fp wr : List Addr} {G : Array GenState → Array GenState → Prop} {n : Nat} {Pv : Nat → Value → Prop} {St : Nat → Shared → Prop} {R : Result → Shared → Prop}
    (W : WalksS P w A.in1 I fp wr G n Pv St) (S : Addr) (hSf : S ∉ fp) (ks : List (Addr × List Str)) (hn : n = ks.length) (hfew : ks.length < 300) (hval : ∀ i v, Pv i v → ∃ p, ks[i]? = some p ∧ v = .ref p.1)
    (h0 : Heap) (hk : ∀ p ∈ ks, IsT P w h0 p.2 p.1) (hS0 : h0.get? S = none) (hw0 : ∀ b ∈ wr, h0.get? b = none) (hu : A.in1.units < cLine) :
    ∀ (k i : Nat) (s : Shared), n - i = k → i ≤ n → St i s → (∀ b o, h0.get? b = some o → s.heap.get? b = some o) → (∃ L es ep t, SetTR P w s.heap S L es ep t ∧ Got ks i L) →
      (∀ s' L es ep t, Moved (S :: wr) G s s' → SetTR P w s'.heap S L es ep t → Got ks n L → (∀ b o, h0.get? b = some o → s'.heap.get? b = some o) → R (.ok (.ret .none)) s') →
      codeAny (model P w) A (.builtin "set.update.loop" ⟨[.ref S, .ref I], []⟩) R s := by
  have hSw : S ∉ wr := fun h => hSf (W.sub _ h)
  have hsub : ∀ b ∈ wr, b ∈ S :: wr := fun b hb => List.mem_cons_of_mem _ hb
  have keepM : ∀ {s s' : Shared}, Moved wr G s s' → (∀ b o, h0.get? b = some o → s.heap.get? b = some o) → ∀ b o, h0.get? b = some o → s'.heap.get? b = some o := fun hm hkp b o e =>
    hm.heap b o (fun hb => by rw [hw0 b hb] at e; cases e) (hkp b o e)
  intro k
  induction k with
  | zero =>
    intro i s hk' hi hst hkp ⟨L, es, ep, t, hS, g⟩ hR
    have hin : i = n := by omega
    subst hin
    refine codeAny_builtin F.entry_set_update_loop ?_
    rw [Around.under_plainId F.plain_set_update_loop _]
    show wpAny _ A.in1 (pyNext (.ref I) >>= _) _ _ s
    refine wpAny_bind (W.done s _ _ hst fun s' hm => ?_)
    show wpAny _ A.in1 (ret Value.none) _ _ s'
    have hkp' := keepM hm hkp
    have sub : ∀ p ∈ L, p ∈ ks := fun p hp => List.mem_of_mem_take (g.sub p hp)
    exact wpAny_pure (hR s' L es ep t (hm.mono hsub) (hS.keep (fun o e => hm.heap S o hSw e) fun p hp => isT_keep (hk p (sub p hp)) hkp') g hkp')
  | succ k ih =>
    intro i s hk' hi hst hkp ⟨L, es, ep, t, hS, g⟩ hR
    have hlt : i < n := by omega
    refine codeAny_builtin F.entry_set_update_loop ?_
    rw [Around.under_plainId F.plain_set_update_loop _]
    show wpAny _ A.in1 (pyNext (.ref I) >>= _) _ _ s
    refine wpAny_bind (W.item i s _ _ hlt hst fun v s' hP hst' hm => ?_)
    obtain ⟨p, hp, rfl⟩ := hval i v hP
    have hkp' := keepM hm hkp
    have sub : ∀ p ∈ L, p ∈ ks := fun p hp => List.mem_of_mem_take (g.sub p hp)
    have hS' : SetTR P w s'.heap S L es ep t := hS.keep (fun o e => hm.heap S o hSw e) fun q hq => isT_keep (hk q (sub q hq)) hkp'
    have hx : IsT P w s'.heap p.2 p.1 := isT_keep (hk p (List.mem_of_getElem? hp)) hkp'
    show wpAny _ A.in1 (holding [Value.ref p.1] (setAdd S (.ref p.1)) >>= _) _ _ s'
    refine wpAny_bind (wpAny_holding ?_)
    unfold setAdd
    refine wpAny_holding ?_
    refine wpAny_bind (wpAny_pyHash_tuple hu hx ?_)
    refine add_at (s := { s' with toks := s'.toks + (p.2.length + 1) }) hS' hx hu (by have := g.len; omega) fun b h' L' es' ep' t' hsb hS2 c1 c2 => ?_
    have g' : Got ks (i + 1) L' := by
      rcases Classical.em (p.2 ∈ L.map (·.2)) with c | c
      · rw [c1 c]; exact g.same hp c
      · exact g.more hp (c2 c)
    have hkp2 : ∀ b o, h0.get? b = some o → h'.get? b = some o := fun b o e => (hsb.2 b (fun z => by rw [z, hS0] at e; cases e)).trans (hkp' b o e)
    refine wpAny_pure ⟨plainId_quiet F.plain_set_update_loop _, ih (i + 1) _ (by omega) hlt (W.frame _ s' _ _ hst' (Nat.le_add_right _ _) fun b hb o e => ?_) hkp2 ⟨L', es', ep', t', hS2, g'⟩ fun s'' L2 es2 ep2 t2 hm'' hS'' g'' hkp'' => ?_⟩
    · rw [hsb.2 b (fun h : b = S => hSf (by rw [← h]; exact hb))]; exact e
    · refine hR s'' L2 es2 ep2 t2 (Moved.trans W.gtrans ((hm.mono hsub).then_heap (Nat.le_add_right _ _) fun b o hb e => ?_) hm'') hS'' g'' hkp''
      rw [hsb.2 b (fun h : b = S => hb (by rw [h]; exact List.mem_cons_self))]; exact e

/-- set(xs) -/
theorem call_set_tups {l : Addr} {items : Array Value} (ks : List (Addr × List Str)) {Q : Value → Shared → Prop} (hh : A.handled = none) (hl : s.heap.IsList l items) (hit : items.toList = ks.map fun p => Value.ref p.1)
    (hk : ∀ p ∈ ks, IsT P w s.heap p.2 p.1) (hfew : ks.length < 300) (hu : A.units + 3 < cLine)
    (h : ∀ (h' : Heap) (tk : Nat) L es ep t, SetTR P w h' s.heap.objs.size L es ep t → Got ks ks.length L → (∀ b o, s.heap.get? b = some o → h'.get? b = some o) → Q (.ref s.heap.objs.size) { s with heap := h', toks := tk }) :
    wpAny (model P w) A (call (.type "set") [.ref l]) Q E s := by
  have hisz : items.size = ks.length := by
    have q := congrArg List.length hit
    rw [Array.length_toList, List.length_map] at q
    exact q
  obtain ⟨c, tl, hmro⟩ := F.called_set.mro
  have hmade := F.called_set.made
  have hsub := F.called_set.sub
  refine wpAny_call (codeAny_of_tree ?_)
  show wpAny _ _ (callAny (.type "set") _) _ _ _
  refine wpAny_pure ⟨Code.quiet_builtin _ (by decide +kernel), codeAny_builtin F.entry_type_call ?_⟩
  rw [Around.under_plain (weight_type_call_type "set" [.ref l] []) rfl]
  have h1 := F.called_set.notType
  have h2 := F.called_set.canCreate
  have hct := F.typeCall_set_1 (.ref l)
  repeat (any_goals (first | assumption | wp_step))

  refine codeAny_mono (code_set_led1 (.ref l) (E := E) (Q₁ := fun obj s₁ => obj = .ref s.heap.objs.size ∧ s₁ = { s with heap := s.heap.push { cls := .type "set", dict := none, data := .set #[] 0 (.fresh 0 0 (!w.params.followText "set-order")) } }) ⟨rfl, rfl⟩) fun r s₁ hr => ?_
  cases r with
  | error e => exact hr
  | ok fl =>
    cases fl with
    | ret obj =>
      obtain ⟨rfl, rfl⟩ := hr
      have hS : (s.heap.push { cls := .type "set", dict := none, data := .set #[] 0 (.fresh 0 0 (!w.params.followText "set-order")) }).get? s.heap.objs.size = some { cls := .type "set", dict := none, data := .set #[] 0 (.fresh 0 0 (!w.params.followText "set-order")) } := Heap.get?_push_size _ rfl
      have hT : Shared.TypeIs { s with heap := s.heap.push { cls := .type "set", dict := none, data := .set #[] 0 (.fresh 0 0 (!w.params.followText "set-order")) } } (.ref s.heap.objs.size) "set" := ⟨_, hS, rfl⟩
      have hli := F.called_set.init.lookup
      have hbi := F.called_set.init.bind (.ref s.heap.objs.size)
      repeat (any_goals (first | assumption | wp_step))

      refine codeAny_mono (codeAny_call_builtin (R := wants (fun r s₂ => r = .none ∧ ∃ h' tk L es ep t, s₂ = { s with heap := h', toks := tk } ∧ SetTR P w h' s.heap.objs.size L es ep t ∧ Got ks ks.length L ∧
          (∀ b o, s.heap.get? b = some o → h'.get? b = some o)) E) F.called_set.init.plain F.entry_set_init (check_set_init_1 hT ?_)) fun r₂ s₂ hr₂ => ?_
      · obtain ⟨ol, hol, hcl, nl, hdl⟩ := hl
        obtain ⟨ocls, odict, odata, oslots⟩ := ol
        simp only at hcl hdl
        subst hcl; subst hdl
        have hol' : (s.heap.push { cls := .type "set", dict := none, data := .set #[] 0 (.fresh 0 0 (!w.params.followText "set-order")) }).get? l = some { cls := .type "list", dict := odict, data := .seq items nl, slots := oslots } := Heap.get?_push_of_some _ hol
        have hsls := F.sub_list_set
        have hslf := F.sub_list_frozenset
        have hne : (Value.type "list" == Value.type "dict") = false := by decide
        have hl1 : (s.heap.push { cls := .type "set", dict := none, data := .set #[] 0 (.fresh 0 0 (!w.params.followText "set-order")) }).IsList l items := ⟨_, hol', rfl, nl, rfl⟩
        unfold Builtin.«set.__init__» noKeywords Builtin.Frozenset.updateFrom
        generalize hPI : pyIter = PI
        wp_walk
        subst hPI

        refine wpAny_pyIter_list hl1 ?_
        refine wpAny_bind (wpAny_runValue ?_)
        have hlS : l < s.heap.objs.size := Heap.lt_size hol
        have hh3 : A.in1.in1.in1.handled = none := by simp [hh]
        have hz1 : (s.heap.push { cls := .type "set", dict := none, data := .set #[] 0 (.fresh 0 0 (!w.params.followText "set-order")) }).objs.size = s.heap.objs.size + 1 := Heap.size_push ..
        have hneI : l ≠ (s.heap.push { cls := .type "set", dict := none, data := .set #[] 0 (.fresh 0 0 (!w.params.followText "set-order")) }).objs.size := by
          rw [Heap.size_push]; exact Nat.ne_of_lt (Nat.lt_succ_of_lt hlS)
        have hSf : s.heap.objs.size ∉ [(s.heap.push { cls := .type "set", dict := none, data := .set #[] 0 (.fresh 0 0 (!w.params.followText "set-order")) }).objs.size, l] := by
          rw [Heap.size_push]; simp only [List.mem_cons, List.mem_singleton, List.not_mem_nil, or_false, not_or]
          exact ⟨Nat.ne_of_lt (Nat.lt_succ_self _), Nat.ne_of_gt hlS⟩
        have hval : ∀ (i : Nat) (v : Value), items[i]? = some v → ∃ p, ks[i]? = some p ∧ v = .ref p.1 := fun i v hv => by
          have q : items.toList[i]? = some v := by rw [Array.getElem?_toList]; exact hv
          rw [hit, List.getElem?_map] at q
          cases hq : ks[i]? with
          | none => rw [hq] at q; cases q
          | some p =>
            rw [hq] at q
            exact ⟨p, rfl, (Option.some.inj q).symm⟩
        have none_of : ∀ b, s.heap.objs.size ≤ b → s.heap.get? b = none := fun b hb => by
          cases q : s.heap.get? b with
          | none => rfl
          | some o => exact absurd (Nat.lt_of_lt_of_le (Heap.lt_size q) hb) (Nat.lt_irrefl _)
        refine set_update_tups ((Walks.list hh3 _ l hneI items).toS) s.heap.objs.size
          hSf ks hisz hfew hval s.heap hk (none_of _ (Nat.le_refl _)) (fun b hb => none_of b (by
            rw [List.mem_singleton.mp hb, Heap.size_push]
            exact Nat.le_succ _)) hu (items.size - 0) 0 _ (by omega) (Nat.zero_le _)
          ⟨⟨_, Heap.get?_push_size _ rfl, rfl, rfl⟩, (hl1.push _)⟩ (fun b o e => Heap.get?_push_of_some _ (Heap.get?_push_of_some _ e)) ?hS0 ?hR
        case hS0 =>
          have hget : ((s.heap.push { cls := .type "set", dict := none, data := .set #[] 0 (.fresh 0 0 (!w.params.followText "set-order")) }).push { cls := .type "list_iterator", data := .fields #[.ref l, .int 0 0] }).get? s.heap.objs.size
              = some { cls := .type "set", dict := none, data := .set #[] 0 (.fresh 0 0 (!w.params.followText "set-order")) } := Heap.get?_push_of_some _ hS
          exact ⟨[], #[], 0, _, setTR_fresh hget, Got.zero ks⟩
        case hR =>
          intro s' L es ep t hm hS' g' hkp
          obtain ⟨h', g2, d', tk', os'⟩ := s'
          have eg : g2 = s.gens := hm.gens
          have ed : d' = s.drawn := hm.drawn
          have eo : os' = s.os := hm.os
          subst eg; subst ed; subst eo
          show wpAny _ _ _ _ _ _
          refine wpAny_pure ?_
          show wpAny _ _ (ret Value.none) _ _ _
          rw [hisz] at g'
          exact wpAny_pure ⟨rfl, h', tk', L, es, ep, t, rfl, hS', g', hkp⟩

      · cases r₂ with
        | error e => exact hr₂
        | ok fl₂ =>
          cases fl₂ with
          | ret r =>
            obtain ⟨rfl, h', tk, L, es, ep, t, rfl, hS', g', hk'⟩ := hr₂
            repeat (any_goals (first | assumption | wp_step))
            exact h _ _ _ _ _ _ hS' g' hk'
          | _ => exact hr₂.elim
    | _ => exact hr.elim

end
end TT

namespace TT
open PySem PySem.Spec PyProof.Rows L2
/-- the set at a, without the tuples themselves -/
structure SetT0 (P : Program) (w : World) (h : Heap) (a : Addr) (L : List (Addr × List Str)) : Prop where
  ex : ∃ (es : Array (Int × Value)) (ep : Nat) (t : SetTable), (∃ o, h.get? a = some o ∧ o.ExactSet ∧ o.data = .set es ep t) ∧ es.toList = rowsOf P w L ∧ TabOk t (L.map fun p => thash P w p.2) ∧ (L.map (·.2)).Nodup ∧
    (w.params.followText "set-order" = true ∨ t.led = true) ∧ L.length * 5 < t.mask * 3 ∧ L.length < 300
def SetTO (P : Program) (w : World) (a : Addr) (L : List (Addr × List Str)) : HO := .ext fun h => SetT0 P w h a L
theorem SetTR.t0 {P : Program} {w : World} {h : Heap} {a : Addr} {L : List (Addr × List Str)} {es : Array (Int × Value)} {ep : Nat} {t : SetTable} (R : SetTR P w h a L es ep t) : SetT0 P w h a L :=
  ⟨es, ep, t, R.ob, R.rows, R.tab, R.nd, R.led, R.room, R.few⟩
theorem SetT0.full {P : Program} {w : World} {h : Heap} {a : Addr} {L : List (Addr × List Str)} (R : SetT0 P w h a L) (ht : ∀ p ∈ L, IsT P w h p.2 p.1) : ∃ es ep t, SetTR P w h a L es ep t := by
  obtain ⟨es, ep, t, h1, h2, h3, h4, h6, h7, h8⟩ := R.ex
  exact ⟨es, ep, t, h1, h2, h3, h4, ht, h6, h7, h8⟩
theorem setTO_new {P : Program} {w : World} {H : Hp} {h : Heap} {a : Addr} {L : List (Addr × List Str)} (R : SetT0 P w h a L) : ObjOk P w H h a (SetTO P w a L) := by
  have ⟨es, ep, t, ⟨o, ho, r⟩, q⟩ := R.ex
  refine ⟨R, ⟨o, ho⟩, fun h1 h2 p k => ?_⟩
  have ⟨es', ep', t', ⟨o', ho', r'⟩, q'⟩ := SetT0.ex p
  exact ⟨es', ep', t', ⟨o', k o' ho', r'⟩, q'⟩
theorem items_of_vals {P : Program} {w : World} : ∀ {k : List Str} {us : List Value}, Vals (k.map V.str) us → ItemsAre (strKind P w) k us
  | [], _, .nil => .nil
  | n :: k, _, .cons r t => by
    obtain ⟨tk, rfl⟩ := r
    exact .cons (show Value.isStrOf n (.str n tk) = true by simp [Value.isStrOf]) (items_of_vals t)
theorem refs_of_vals : ∀ {ks : List (Addr × List Str)} {us : List Value}, Vals (ks.map fun p => V.ref p.1) us → us = ks.map fun p => Value.ref p.1
  | [], _, .nil => rfl
  | p :: ks, _, .cons r t => by
    cases r
    rw [refs_of_vals t] <;> rfl
theorem vals_of_refs : ∀ (ks : List (Addr × List Str)), Vals (ks.map fun p => V.ref p.1) (ks.map fun p => Value.ref p.1)
  | [] => .nil
  | p :: ks => .cons rfl (vals_of_refs ks)
section
variable {X : Cx}
theorem inv_isT {pins : List (Addr × Obj)} {σ : L2.St} {H : Hp} {s : Shared} {b : Addr} {k : List Str} (I : Inv X pins σ H s) (h : SqT X.K H b (k.map V.str)) : IsT X.prog X.w s.heap k b := by
  obtain ⟨its, r, ⟨o, ho, hc, n, hd⟩, _⟩ := I.tuple h
  exact ⟨o, its.toArray, n, ho, hc, hd, by simpa using items_of_vals r⟩
/-- set(xs), xs a list of tuples of ints -/
def rSetOfT (K : PySem.W.Frag) (P : Program) (w : World) : List V → Hp → VK → Prop := fun xs H Q => ∃ (l : Addr) (ks : List (Addr × List Str)), xs = [V.ref l] ∧ SqL K H l (ks.map fun p => V.ref p.1) ∧ (∀ p ∈ ks, SqT K H p.1 (p.2.map V.str)) ∧ ks.length < 300 ∧
  ∀ a L, H a = none → (∀ p ∈ L, p ∈ ks) → (∀ p ∈ ks, p.2 ∈ L.map (·.2)) → (L.map (·.2)).Nodup → Q (.ref a) (upd H a (SetTO P w a L))
theorem cr_setOfT (hc : X.calm = true) (hu : X.A.units + 64 < cLine) : CallR X (.type "set") (rSetOfT X.K X.prog X.w) := by
  intro pins s σ H xs us Q I r h
  obtain ⟨l, ks, rfl, hl, hk, hf, q⟩ := h
  rw [Vals.ref1 r]
  obtain ⟨its, rv, pl, hz⟩ := I.list hl
  have hn : H s.heap.objs.size = none := I.hok.fresh (Nat.le_refl _)
  refine call_set_tups (P := X.prog) (w := X.w) ks (I.ok.hd hc) pl.isList (by simpa using refs_of_vals rv) (fun p hp => inv_isT I (hk p hp)) hf (by omega) fun h' tk L es ep t R g k => ?_
  refine ⟨.ref s.heap.objs.size, upd H s.heap.objs.size (SetTO X.prog X.w s.heap.objs.size L), I.laid (t' := tk) k (Nat.le_refl _) (setTO_new R.t0), rfl, q _ L hn (fun p hp => ?_) (fun p hp => ?_) R.nd⟩
  · exact List.mem_of_mem_take (g.sub p hp)
  · exact g.all p (by rw [List.take_length]; exact hp)
end
end TT

namespace TT
open PySem PySem.Spec PyProof.Rows L2 PySem.W
open PySem.SeqAt (RcLt firstLt EqAt)
section
variable {prog : Program} {w : World} {A : Around} {E : Value → Shared → Prop} {s : Shared}
/-- the call of tuple's own __lt__, as sorting makes it -/
theorem call_tuple_lt {Q : Value → Shared → Prop} {l b : Addr} {items items2 : Array Value} {e r : Nat → Bool} (hl : s.heap.IsTuple l items) (hb : s.heap.IsTuple b items2)
    (he : ∀ j (h1 : j < items.size) (h2 : j < items2.size), EqAt A.in1 s items[j] items2[j] (e j)) (hr : ∀ j (h1 : j < items.size) (h2 : j < items2.size), e j = false → RcLt A.in1 s items[j] items2[j] (r j))
    (h : Q (.bool (firstLt e r (decide (items.size < items2.size)) (List.range (min items.size items2.size)))) s) : wpAny (model prog w) A (call (.builtin "tuple.__lt__") [.ref l, .ref b]) Q E s := by
  obtain ⟨⟨cls, dd, data, sl⟩, ho, hc, n, hd⟩ := id hl
  obtain ⟨⟨cls2, dd2, data2, sl2⟩, ho2, hc2, n2, hd2⟩ := id hb
  simp only at hc hd hc2 hd2
  subst hc hd hc2 hd2
  exact call_meets F.slot_tuple_lt ⟨_, ho, rfl⟩ F.entry_tuple_lt (F.args_tuple_lt_2 _ _) (SeqAt.tuple_ltAt l b items items2 n n2 dd dd2 sl sl2 e r) ⟨ho, ho2, he, hr, h⟩
/-- one tuple against another -/
theorem oneLt_tups {f : Bool} {xs ys : List PyData} {a b : Value} {as bs : List Addr} {Q : Bool → Shared → Prop} (ra : Reads s.heap a (.tuple xs) as) (rb : Reads s.heap b (.tuple ys) bs) (h : alike (.tuple xs) (.tuple ys) = true)
    (hu : A.units + min (PyData.tuple xs).depth (PyData.tuple ys).depth < cLine) (hq : Q (dataLt (.tuple xs) (.tuple ys)) s) : wpAny (model prog w) A (oneLt' f a b) Q E s := by
  cases f with
  | false => exact oneLt_alike (fun z => nomatch z) ra rb h (fun z => nomatch z) hu hq
  | true =>
    have hal : alikeAll xs ys = true := by simpa [alike] using h
    cases ra with
    | @tuple l o vs n _ as₁ h1 h2 h3 h4 =>
      cases rb with
      | @tuple l' o' vs' n' _ bs₁ k1 k2 k3 k4 =>
        have n1 : vs.size = xs.length := by simpa using SeqAt.ReadsAll.length _ _ _ h4
        have n2 : vs'.size = ys.length := by simpa using SeqAt.ReadsAll.length _ _ _ k4
        rw [dataLt_tuple, ← firstLt_toks xs ys hal, ← n1, ← n2] at hq
        rw [oneLt'_eq]
        simp only [if_true]
        refine wpAny_bind (wpAny_cRoomFor (SeqAt.room_here hu) ?_)
        refine wpAny_bind (wpAny_callSpecialIfBound?_slot (T := "tuple") ⟨_, h1, h2⟩ F.slot_tuple_lt (call_tuple_lt (e := SeqAt.pairEq xs ys) (r := fun j => dataLt (xs.getD j .none) (ys.getD j .none)) ⟨_, h1, h2, _, h3⟩ ⟨_, k1, k2, _, k3⟩ (fun j j1 j2 => ?_) (fun j j1 j2 hj => ?_) ?_))
        · have := eqAt_alikeAll xs ys A.in1 s vs.toList vs'.toList _ _ h4 k4 hal (SeqAt.room_in hu) j (by simpa using j1) (by simpa using j2)
          simpa using this
        · have := rcLt_alikeAll xs ys A.in1 s vs.toList vs'.toList _ _ h4 k4 hal (SeqAt.room_in hu) j (by simpa using j1) (by simpa using j2) hj
          simpa using this
        · exact wpAny_truthy_bool hq
theorem keyLt'_general (x y : Value) : keyLt' general' x y = oneLt' false x y := rfl
theorem firsts_tups : ∀ (vs : List Value) (ds : List PyData), EachIs (fun v d => ∃ as, Reads s.heap v d as) vs ds → (∀ d, d ∈ ds → ∃ xs, d = .tuple xs) →
    ∃ fs : List (Option Value), fs.length = vs.length ∧ ((∀ f, f ∈ fs → f.isSome = true) → ∀ d, d ∈ ds → ∃ x r, d = .tuple (x :: r)) ∧ ∀ (M : Model) (A : Around) (E : Value → Shared → Prop) {Q : List (Option Value) → Shared → Prop}, Q fs s → wpAny M A (vs.mapM firstOfTuple') Q E s
  | [], [], .nil, _ => ⟨[], rfl, fun _ d hd => absurd hd (by simp), fun _ _ _ _ h => by rw [List.mapM_nil]; exact wpAny_pure h⟩
  | v :: vs, d :: ds, .cons r t, ht => by
    obtain ⟨fs, l1, l2, l3⟩ := firsts_tups vs ds t fun d' hd => ht d' (List.mem_cons_of_mem _ hd)
    obtain ⟨xs, rfl⟩ := ht d List.mem_cons_self
    obtain ⟨as, r⟩ := r
    cases r with
    | @tuple l o ws n _ as₁ h1 h2 h3 h4 =>
      have hlen : ws.size = xs.length := by simpa using SeqAt.ReadsAll.length _ _ _ h4
      refine ⟨ws[0]? :: fs, by rw [List.length_cons, List.length_cons, l1], fun hs d' hd => ?_, fun M A E {Q} h => ?_⟩
      · rcases List.mem_cons.mp hd with e | hd
        · have h0 := hs _ List.mem_cons_self
          cases xs with
          | nil =>
            have z : ws.size = 0 := hlen
            rw [Array.getElem?_eq_none (by omega)] at h0
            cases h0
          | cons x r => exact ⟨x, r, e⟩
        · exact l2 (fun f hf => hs f (List.mem_cons_of_mem _ hf)) d' hd
      · rw [List.mapM_cons]
        refine wpAny_bind ?_
        rw [kas_first_eq]
        refine wpAny_bind (Looks.here (show Looks M s.heap (typeOf (.ref l)) o.cls from (Looks.ld h1).andThen .now) ?_)
        rw [h2, if_neg (by first | decide | simp)]
        refine wpAny_bind (listItems_at h1 h3 (wpAny_pure ?_))
        exact wpAny_bind (l3 M A E (Q := fun bs s' => wpAny M A (pure (ws[0]? :: bs)) Q E s') (wpAny_pure h))
/-- tuples, empty ones among them or not -/
theorem sortsAt_tups {vs : List Value} {ds : List PyData} (e : EachIs (fun v d => ∃ as, Reads s.heap v d as) vs ds) (hal : AllAlike ds) (ht : ∀ d, d ∈ ds → ∃ xs, d = .tuple xs) (hu : ∀ d, d ∈ ds → A.units + d.depth < cLine) : SortsAt prog w A s (dataKind s.heap ds) vs := by
  by_cases hne : ∀ d, d ∈ ds → ∃ x r, d = .tuple (x :: r)
  · exact SortsAt.data e hal (.inl hne) hu
  have room : ∀ {d d' : PyData}, d ∈ ds → A.units + min d.depth d'.depth < cLine := fun {d d'} hd => Nat.lt_of_le_of_lt (Nat.add_le_add_left (Nat.min_le_left _ _) _) (hu d hd)
  obtain ⟨fs, l1, l2, l3⟩ := firsts_tups vs ds e ht
  refine ⟨fun v hv => ?_, ?_⟩
  · obtain ⟨d, hd, as, r⟩ := e.left v hv
    exact ⟨_, dataKind_some hal hd r⟩
  · have lt : ∀ f : Bool, ∀ (E : Value → Shared → Prop) (x y : Value) (a b : List (Int ⊕ List Nat)) (Q : Bool → Shared → Prop), (dataKind s.heap ds).keyOf x = some a → (dataKind s.heap ds).keyOf y = some b → Q (PyProof.Rows.lexLt itemOrd a b) s → wpAny (model prog w) A (oneLt' f x y) Q E s := by
      intro f E x y a b Q ha hb hq
      obtain ⟨d, as, hd, ra, rfl⟩ := dataKind_inv ha
      obtain ⟨d', as', hd', rb, rfl⟩ := dataKind_inv hb
      obtain ⟨xs, rfl⟩ := ht d hd
      obtain ⟨ys, rfl⟩ := ht d' hd'
      exact oneLt_tups ra rb (hal _ hd _ hd') (room hd) hq
    have hnall : ¬ (fs.toArray.all fun x => x.isSome) = true := fun z => hne (l2 fun f hf => by
      rw [List.all_toArray, List.all_eq_true] at z
      exact z f hf)
    by_cases hb : ((fs.toArray[0]?).bind id).isSome = true
    · refine ⟨general', fun E x y a b Q ha hb hq => lt false E x y a b Q ha hb hq, fun h2 E Q hq => ?_⟩
      rw [keyKind'_eq, List.mapM_toArray, map_eq_pure_bind]
      refine wpAny_bind (wpAny_bind (l3 (model prog w) A E (wpAny_pure ?_)))
      rw [if_neg hnall, if_pos hb]
      exact wpAny_pure hq
    · refine ⟨oneType', fun E x y a b Q ha hb hq => lt true E x y a b Q ha hb hq, fun h2 E Q hq => ?_⟩
      obtain ⟨v₁, rest, rfl⟩ : ∃ v₁ rest, vs = v₁ :: rest := by
        cases vs with
        | nil => simp at h2
        | cons v r => exact ⟨v, r, rfl⟩
      have hT : ∀ v ∈ v₁ :: rest, Looks (model prog w) s.heap (typeOf v) (Value.type "tuple") := fun v hv => by
        obtain ⟨d, hd, as, r⟩ := e.left v hv
        obtain ⟨xs, rfl⟩ := ht d hd
        exact looks_reads r
      rw [keyKind'_eq, List.mapM_toArray, map_eq_pure_bind]
      refine wpAny_bind (wpAny_bind (l3 (model prog w) A E (wpAny_pure ?_)))
      rw [if_neg hnall, if_neg hb]
      rw [oneTypeOnly'_eq, List.mapM_toArray, map_eq_pure_bind]
      refine wpAny_bind (wpAny_bind (wpAny_bind (kas_mapM (r := Value.type "tuple") _ (fun v hv Q' hq => (hT v hv).here hq) (wpAny_pure ?_))))
      have hall : ((List.map (fun _ => Value.type "tuple") (v₁ :: rest)).toArray.all fun x => x == Value.type "tuple") = true := by
        simp only [List.all_toArray, List.all_map, List.all_eq_true]
        intro _ _
        rfl
      have h0 : (List.map (fun _ => Value.type "tuple") (v₁ :: rest)).toArray[0]? = some (Value.type "tuple") := by simp
      rw [h0]
      simp only [hall, if_true]
      exact wpAny_pure (wpAny_pure hq)
end
end TT

namespace TT
open PySem PySem.Spec PyProof.Rows L2 PySem.W
/-- all tuples, or no tuples -/
def SortG (ds : List PyData) : Prop := (∀ d, d ∈ ds → ∃ xs, d = .tuple xs) ∨ ∀ d, d ∈ ds → d ≠ .none ∧ ∀ xs, d ≠ .tuple xs
theorem sortsAt_any {prog : Program} {w : World} {A : Around} {s : Shared} {vs : List Value} {ds : List PyData} (e : EachIs (fun v d => ∃ as, Reads s.heap v d as) vs ds) (hal : AllAlike ds) (ht : SortG ds) (hu : ∀ d, d ∈ ds → A.units + d.depth < cLine) : SortsAt prog w A s (dataKind s.heap ds) vs := by
  rcases ht with h | h
  · exact sortsAt_tups e hal h hu
  · exact SortsAt.data e hal (.inr h) hu
section
variable {X : Cx} {pins : List (Addr × Obj)} {σ : L2.St} {H : Hp} {s : Shared}
/-- the values in their order -/
def outV (xs : List V) (ds : List PyData) : List V := ((xs.zip ds).mergeSort (dataLe false Prod.snd)).map Prod.fst
theorem each_dp (I : L2.Inv X pins σ H s) : ∀ {xs : List V} {ds : List PyData} {us : List Value}, DpAll X.K H xs ds → Vals xs us → EachIs (fun v b => RelV b.1 v ∧ ∃ as, Reads s.heap v b.2 as) us (xs.zip ds)
  | [], [], _, .nil, .nil => .nil
  | x :: xs, d :: ds, _, .cons h t, .cons r q => .cons ⟨r, Dp.reads I d x _ h r⟩ (each_dp I t q)
theorem dpAll_len {K : PySem.W.Frag} : ∀ {xs : List V} {ds : List PyData}, DpAll K H xs ds → xs.length = ds.length
  | _, _, .nil => rfl
  | _, _, .cons _ t => by rw [List.length_cons, List.length_cons, dpAll_len t]
theorem vals_each : ∀ {us : List Value} {bs : List (V × PyData)}, EachIs (fun v b => RelV b.1 v) us bs → Vals (bs.map Prod.fst) us
  | _, _, .nil => .nil
  | _, _, .cons h t => .cons h (vals_each t)
/-- sorted(xs), xs a list of alike data, of any length -/
def rSortedG (K : PySem.W.Frag) : List V → Hp → VK → Prop := fun vs H Q => ∃ (a : Addr) (xs : List V) (ds : List PyData), vs = [V.ref a] ∧ SqL K H a xs ∧ DpAll K H xs ds ∧ AllAlike ds ∧ SortG ds ∧ (∀ d, d ∈ ds → d.depth ≤ 60) ∧
  ∀ p : Addr, H p = none → Q (.ref p) (upd H p (.lst (outV xs ds)))
theorem cr_sortedG (hu : X.A.units + 64 < cLine) : CallR X (.builtin "sorted") (rSortedG X.K) := by
  intro pins s σ H vs us Q I r h
  obtain ⟨a, xs, ds, rfl, hs, hd, hal, hk, hdep, q⟩ := h
  obtain ⟨its, rv, hl, hz⟩ := I.list hs
  rw [Vals.ref1 r]
  have hlen := dpAll_len hd
  have em : (xs.zip ds).map Prod.snd = ds := List.map_snd_zip (by omega)
  have ee := each_dp I hd rv
  have e1 : EachIs (fun v (b : V × PyData) => RelV b.1 v) its (xs.zip ds) := ee.mono fun _ _ h => h.1
  have e2 : EachIs (fun v (b : V × PyData) => ∃ as, Reads s.heap v b.2 as) its (xs.zip ds) := ee.mono fun _ _ h => h.2
  have zl : its.length ≤ sizeLine := by rw [← rv.length]; exact hz
  have e3 : EachIs (fun v (b : V × PyData) => ∃ as, Reads (sortingHeap (copyHeap s.heap its) (s.heap.objs.size + 1) its) v b.2 as) its (xs.zip ds) := e2.mono fun _ _ ⟨as, r⟩ => ⟨as, PyProof.Rows.Reads.keeps (fun _ _ => sorting_copy_old) r⟩
  have e4 : EachIs (fun v d => ∃ as, Reads (sortingHeap (copyHeap s.heap its) (s.heap.objs.size + 1) its) v d as) its ds := by
    have z := each_map (R := fun v d => ∃ as, Reads (sortingHeap (copyHeap s.heap its) (s.heap.objs.size + 1) its) v d as) Prod.snd e3
    rw [em] at z
    exact z
  refine sorted_vals (s := s) hl.isList (sortsAt_any (s := { s with heap := sortingHeap (copyHeap s.heap its) (s.heap.objs.size + 1) its }) e4 hal hk fun d hm => ?_) zl ?_
  · have := hdep d hm
    show X.A.units + 2 + d.depth < cLine
    omega
  have out := sortVals_data (enc := Prod.snd) false e1 e3 (by rw [em]; exact hal)
  rw [em] at out
  generalize hout : sortVals (dataKind (sortingHeap (copyHeap s.heap its) (s.heap.objs.size + 1) its) ds) false its its = os at out
  obtain ⟨ep, he'⟩ := PyProof.Rows.sortedAll_at s.heap its os.toArray
  have hl2 : (outV xs ds).length ≤ sizeLine := by
    unfold outV
    rw [List.length_map, List.length_mergeSort, List.length_zip]
    omega
  exact ⟨.ref _, upd H (s.heap.objs.size + 1) (.lst (outV xs ds)), I.laid (t' := s.toks) (fun _ _ => PyProof.Rows.sortedAll_old) (Nat.le_succ _) ⟨hl2, os, ep, vals_each out, he'⟩, rfl, q _ (I.hok.fresh (Nat.le_succ _))⟩

abbrev encT (q : Addr × List Str) : PyData := .tuple (q.2.map PyData.str)
theorem alikeAll_strs : ∀ xs ys : List Str, alikeAll (xs.map PyData.str) (ys.map PyData.str) = true
  | [], _ => by simp [alikeAll]
  | _ :: _, [] => by simp [alikeAll]
  | x :: xs, y :: ys => by simp [alikeAll, alike, alikeAll_strs xs ys]
theorem depth_strs : ∀ xs : List Str, PyData.depthAll (xs.map PyData.str) = 0
  | [] => by simp [PyData.depthAll]
  | x :: xs => by simp [PyData.depthAll, PyData.depth, depth_strs xs]
theorem reads_isT {P : Program} {w : World} {h : Heap} {k : List Str} {b : Addr} (x : IsT P w h k b) : ∃ as, Reads h (.ref b) (.tuple (k.map PyData.str)) as := by
  obtain ⟨o, items, n, ho, hc, hd, hi⟩ := x
  have key : ∀ {k : List Str} {vs : List Value}, ItemsAre (strKind P w) k vs → ReadsAll h vs (k.map PyData.str) [] := by
    intro k vs hi
    induction hi with
    | nil => exact .nil
    | @cons k0 v ks vs h1 _ ih =>
      obtain ⟨t, rfl⟩ := Value.isStrOf_shape h1
      exact ReadsAll.cons (as := []) (bs := []) (.str k0 t) ih
  exact ⟨_, .tuple ho hc hd (key hi)⟩
theorem each_ref : ∀ {os : List Value} {L : List (Addr × List Str)}, EachIs (fun v (q : Addr × List Str) => v = Value.ref q.1) os L → os = L.map fun q => Value.ref q.1
  | _, _, .nil => rfl
  | _, _, .cons h t => by rw [h, each_ref t] <;> rfl
theorem ref_each : ∀ (L : List (Addr × List Str)), EachIs (fun v (q : Addr × List Str) => v = Value.ref q.1) (L.map fun q => Value.ref q.1) L
  | [] => .nil
  | _ :: L => .cons rfl (ref_each L)
theorem each_and {α β : Type} {R S : α → β → Prop} : ∀ {as : List α} {bs : List β}, EachIs R as bs → (∀ a b, b ∈ bs → R a b → S a b) → EachIs S as bs
  | _, _, .nil, _ => .nil
  | _, _, .cons h t, f => .cons (f _ _ List.mem_cons_self h) (each_and t fun a b hb => f a b (List.mem_cons_of_mem _ hb))
/-- sorted(set), tuples of texts -/
def rSortedT (K : PySem.W.Frag) (P : Program) (w : World) : List V → Hp → VK → Prop := fun vs H Q => ∃ (a : Addr) (L : List (Addr × List Str)), vs = [V.ref a] ∧ H a = some (SetTO P w a L) ∧ (∀ p ∈ L, SqT K H p.1 (p.2.map V.str)) ∧
  ∀ (L1 : List (Addr × List Str)) (p : Addr), L1.Perm L → H p = none → Q (.ref p) (upd H p (.lst ((L1.mergeSort (dataLe false encT)).map fun q => V.ref q.1)))
theorem cr_sortedT (hc : X.calm = true) (hu : X.A.units + 64 < cLine) : CallR X (.builtin "sorted") (rSortedT X.K X.prog X.w) := by
  intro pins s σ H vs us Q I r h
  obtain ⟨a, L, rfl, ha, hk, q⟩ := h
  have R0 : SetT0 X.prog X.w s.heap a L := (I.hok a _ ha).1
  obtain ⟨es, ep, t, R⟩ := R0.full fun p hp => inv_isT I (hk p hp)
  rw [Vals.ref1 r]
  obtain ⟨o, ho, hex, hd⟩ := R.ob
  have hsz := R.size
  have hfew := R.few
  refine Calls.call_function_entry kind_sorted plain_sorted entry_sorted (args_sorted1 _) ?_
  unfold Builtin.«sorted»
  refine wpAny_bind (m := checkCount "sorted" 1 1 _) (wpAny_pure ?_)
  refine wpAny_bind (collect_set (A := X.A.in1) (I.ok.hd hc) ⟨o, ho, hex.1, hd⟩ R.fits (by unfold scanBound; omega) R.tab.ris R.led fun s1 vs k1 hz g1 o1 pm => ?_)
  have hes : es.toList.map (·.2) = L.map fun q => Value.ref q.1 := by
    rw [R.rows]
    unfold rowsOf
    rw [List.map_map] <;> rfl
  rw [hes] at pm
  have ord : ∀ vs : List Value, (∀ v ∈ vs, ∃ q ∈ L, v = Value.ref q.1) → ∃ L1 : List (Addr × List Str), vs = L1.map (fun q => Value.ref q.1) ∧ ∀ q ∈ L1, q ∈ L := by
    intro vs
    induction vs with
    | nil => intro _; exact ⟨[], rfl, fun q hq => (by cases hq)⟩
    | cons v vs ih =>
      intro hv
      obtain ⟨q, hq, e⟩ := hv v List.mem_cons_self
      obtain ⟨L1, e1, hs⟩ := ih fun u hu => hv u (List.mem_cons_of_mem _ hu)
      refine ⟨q :: L1, by rw [List.map_cons, e, e1], fun r hr => ?_⟩
      rcases List.mem_cons.mp hr with z | z
      · rw [z]; exact hq
      · exact hs r z
  have one : ∀ q ∈ L, ∀ r ∈ L, q.1 = r.1 → q = r := fun q hq r hr e => by
    have a1 := R.tup q hq
    have a2 := R.tup r hr
    rw [e] at a1
    have e2 : q.2 = r.2 := a1.inj a2
    exact Prod.ext e e2
  have perm_of : ∀ L1 : List (Addr × List Str), (∀ q ∈ L1, q ∈ L) → (L1.map (fun q => Value.ref q.1)).Perm (L.map fun q => Value.ref q.1) → L1.Perm L := by
    intro L1 hs pm1
    have nL : L.Nodup := nodup_of_map R.nd
    have nref : (L.map fun q => Value.ref q.1).Nodup := by
      refine List.pairwise_map.mpr (List.Pairwise.imp_of_mem (fun {q r} hq hr hne e => ?_) nL)
      injection e with e
      exact hne (one q hq r hr e)
    have n1 : L1.Nodup := nodup_of_map (pm1.nodup_iff.mpr nref)
    refine (List.perm_ext_iff_of_nodup n1 nL).mpr fun q => ⟨hs q, fun hq => ?_⟩
    have hm : Value.ref q.1 ∈ L1.map (fun q => Value.ref q.1) := pm1.mem_iff.mpr (List.mem_map.mpr ⟨q, hq, rfl⟩)
    obtain ⟨r, hr, e⟩ := List.mem_map.mp hm
    injection e with e
    rw [← one r (hs r hr) q hq e]
    exact hr
  obtain ⟨L1, e1, hs1⟩ := ord vs fun v hv => by
    obtain ⟨q, hq, e⟩ := List.mem_map.mp (pm.mem_iff.mp hv)
    exact ⟨q, hq, e.symm⟩
  have pL : L1.Perm L := perm_of L1 hs1 (by rw [← e1]; exact pm)
  have hvl : vs.length < 300 := by rw [pm.length_eq, List.length_map]; exact hfew
  refine wpAny_bind (wpAny_newList ?_ (by rw [sizeLine_eq]; omega))
  have hoL : (s1.heap.push (seqObj "list" vs.toArray 0)).get? s1.heap.objs.size = some (seqObj "list" vs.toArray 0) := Heap.get?_push_size _ rfl
  have tk : ∀ q ∈ L, IsT X.prog X.w (sortingHeap (s1.heap.push (seqObj "list" vs.toArray 0)) s1.heap.objs.size vs) q.2 q.1 := fun q hq => isT_keep (R.tup q hq) fun b u e => by
    have e' := k1 b u e
    refine sortingHeap_old (Nat.ne_of_lt (Heap.lt_size e')) (Heap.get?_push_of_some _ e')
  have ev : EachIs (fun v (q : Addr × List Str) => v = Value.ref q.1) vs L1 := by rw [e1]; exact ref_each L1
  have e3 : EachIs (fun v (q : Addr × List Str) => ∃ as, Reads (sortingHeap (s1.heap.push (seqObj "list" vs.toArray 0)) s1.heap.objs.size vs) v (encT q) as) vs L1 := each_and ev fun v q hq e => by
    rw [e]
    exact reads_isT (tk q (hs1 q hq))
  have hal : AllAlike (L1.map encT) := fun d hd d' hd' => by
    obtain ⟨q, _, rfl⟩ := List.mem_map.mp hd
    obtain ⟨q', _, rfl⟩ := List.mem_map.mp hd'
    show alike (.tuple _) (.tuple _) = true
    simp only [alike]
    exact alikeAll_strs _ _
  have out := sortVals_data (enc := encT) false ev e3 hal
  generalize hout : sortVals (dataKind (sortingHeap (s1.heap.push (seqObj "list" vs.toArray 0)) s1.heap.objs.size vs) (L1.map encT)) false vs vs = os at out
  obtain ⟨c, hcc⟩ := sortedHeap_at (vs := vs) (out := os.toArray) hoL
  refine wpAny_bind (wpAny_holding (wpAny_call_entry slot_list_sort ⟨_, hoL, rfl⟩ entry_list_sort (list_sort_vals (s := { s1 with heap := s1.heap.push (seqObj "list" vs.toArray 0) }) (κ := dataKind (sortingHeap (s1.heap.push (seqObj "list" vs.toArray 0)) s1.heap.objs.size vs) (L1.map encT)) hoL
    (sortsAt_any (s := { s1 with heap := sortingHeap (s1.heap.push (seqObj "list" vs.toArray 0)) s1.heap.objs.size vs }) (each_map (R := fun v d => ∃ as, Reads (sortingHeap (s1.heap.push (seqObj "list" vs.toArray 0)) s1.heap.objs.size vs) v d as) encT e3) hal (.inl fun d hd => by
      obtain ⟨q, _, rfl⟩ := List.mem_map.mp hd
      exact ⟨_, rfl⟩) fun d hd => by
      obtain ⟨q, _, rfl⟩ := List.mem_map.mp hd
      show X.A.units + 2 + (PyData.tuple (q.2.map PyData.str)).depth < cLine
      simp only [PyData.depth, depth_strs]
      omega) (by rw [sizeLine_eq]; omega) ?_) (args_list_sort _)))
  refine ⟨_, rfl, ?_⟩
  rw [hout]
  have eo := each_ref out
  have hn : H s1.heap.objs.size = none := I.hok.fresh hz
  have hlen : ((L1.mergeSort (dataLe false encT)).map fun q => V.ref q.1).length ≤ sizeLine := by rw [List.length_map, List.length_mergeSort, pL.length_eq, sizeLine_eq]; omega
  have hv : Vals ((L1.mergeSort (dataLe false encT)).map fun q => V.ref q.1) os := by rw [eo]; exact vals_of_refs _
  have kk : ∀ b u, s.heap.get? b = some u → (sortedHeap (s1.heap.push (seqObj "list" vs.toArray 0)) s1.heap.objs.size vs os.toArray).get? b = some u := fun b u e => by
    have q := k1 b u e
    have hlt := Heap.lt_size q
    rw [sortedHeap_old (Nat.ne_of_lt hlt) (by rw [size_push']; exact Nat.lt_succ_of_lt hlt)]
    exact Heap.get?_push_of_some _ q
  have J : L2.Inv X pins σ (upd H s1.heap.objs.size (.lst ((L1.mergeSort (dataLe false encT)).map fun q => V.ref q.1))) { s with heap := sortedHeap (s1.heap.push (seqObj "list" vs.toArray 0)) s1.heap.objs.size vs os.toArray, gens := s1.gens, drawn := s1.drawn, toks := s1.toks } :=
    I.call (ch := []) (Un.laid kk hz hn) (I.hok.laid kk hz ⟨hlen, os, c, hv, hcc⟩) (by rw [g1]; exact I.bare) (fun _ z => nomatch z)
  have e : ({ s1 with heap := sortedHeap (s1.heap.push (seqObj "list" vs.toArray 0)) s1.heap.objs.size vs os.toArray } : Shared) = { s with heap := sortedHeap (s1.heap.push (seqObj "list" vs.toArray 0)) s1.heap.objs.size vs os.toArray, gens := s1.gens, drawn := s1.drawn, toks := s1.toks } := by
    cases s1
    cases s
    cases o1
    rfl
  refine wpAny_pure ⟨_, rfl, ?_⟩
  show EP X pins σ Q (Value.ref s1.heap.objs.size) ({ s1 with heap := sortedHeap (s1.heap.push (seqObj "list" vs.toArray 0)) s1.heap.objs.size vs os.toArray } : Shared)
  rw [e]
  exact ⟨.ref _, _, J, rfl, q L1 _ pL hn⟩
end
end TT

namespace Dn
open Dn.Rep (rep)
open PySem L2
open PySem.W (alike alikeAll dataLe dataLt)
class Alk (α : Type) [Rep α] [Dat α] : Prop where
  alk : ∀ a b : α, alike (Dat.dat a) (Dat.dat b) = true
class SrtK (α : Type) [Rep α] [Dat α] : Prop where
  k : (∀ a : α, ∃ xs, Dat.dat a = PyData.tuple xs) ∨ ∀ a : α, Dat.dat a ≠ PyData.none ∧ ∀ xs, Dat.dat a ≠ PyData.tuple xs
class HAlk (A : Type) [Args A] [HDat A] : Prop where
  alk : ∀ a b : A, alikeAll (HDat.dats a) (HDat.dats b) = true
section
variable {α β A : Type} [Rep α] [Dat α] [Rep β] [Dat β] [Args A] [HDat A]
theorem alkAll [Alk α] : ∀ l m : List α, alikeAll (l.map Dat.dat) (m.map Dat.dat) = true
  | [], _ => by simp [alikeAll]
  | _ :: _, [] => by simp [alikeAll]
  | a :: l, b :: m => by simp [alikeAll, Alk.alk a b, alkAll l m]
instance : Alk Int := ⟨fun _ _ => by simp [Dat.dat, alike]⟩
instance : Alk Str := ⟨fun _ _ => by simp [Dat.dat, alike]⟩
instance : Alk Bool := ⟨fun _ _ => by simp [Dat.dat, alike]⟩
instance instAlkList [Alk α] : Alk (List α) := ⟨fun a b => by show alike (.list _) (.list _) = true; simp only [alike]; exact alkAll a b⟩
instance instAlkProd [Alk α] [Alk β] : Alk (α × β) := ⟨fun a b => by show alike (.tuple [_, _]) (.tuple [_, _]) = true; simp [alike, alikeAll, Alk.alk]⟩
instance : HAlk Unit := ⟨fun _ _ => by show alikeAll [] [] = true; simp [alikeAll]⟩
instance instHAlkCons [Alk α] [HAlk A] : HAlk (α × A) := ⟨fun a b => by show alikeAll (_ :: _) (_ :: _) = true; simp [alikeAll, Alk.alk, HAlk.alk]⟩
instance instAlkTup [HAlk A] : Alk (Tup A) := ⟨fun a b => by show alike (.tuple _) (.tuple _) = true; simp only [alike]; exact HAlk.alk _ _⟩
instance : SrtK Int := ⟨.inr fun _ => ⟨fun z => (nomatch z), fun _ z => nomatch z⟩⟩
instance : SrtK Str := ⟨.inr fun _ => ⟨fun z => (nomatch z), fun _ z => nomatch z⟩⟩
instance instSrtKList : SrtK (List α) := ⟨.inr fun _ => ⟨fun z => (nomatch z), fun _ z => nomatch z⟩⟩
instance instSrtKProd : SrtK (α × β) := ⟨.inl fun _ => ⟨_, rfl⟩⟩
instance instSrtKTup : SrtK (Tup A) := ⟨.inl fun _ => ⟨_, rfl⟩⟩
end
/-- a tuple of any length, of one kind -/
structure TL (α : Type) where
  l : List α
  deriving DecidableEq
instance {α : Type} : Inhabited (TL α) := ⟨⟨[]⟩⟩
instance instRepTL {α : Type} [Rep α] : Rep (TL α) where
  rep := fun G v t => ∃ p vs, v = .ref p ∧ G p = some (.tup vs) ∧ vs.length ≤ sizeLine ∧ Reps G vs t.l
  mono := fun e ⟨p, vs, h1, h2, h3, h4⟩ => ⟨p, vs, h1, e _ _ h2, h3, Reps.mono e h4⟩
section
variable {α : Type} [Rep α] [Dat α]
instance instDatTL : Dat (TL α) := ⟨fun t => .tuple (t.l.map Dat.dat), fun K _ _ a h => by obtain ⟨p, vs, rfl, hp, _, r⟩ := h; exact .tup (.inl (.inl hp)) (dpAll K r), fun h => by obtain ⟨p, vs, rfl, hp, _, r⟩ := h; simpa [PyData.canLay0] using layAll r,
  Dat.dep α + 1, fun t => by have := depthAll t.l; simp only [PyData.depth]; omega, fun {a b} => by cases a; cases b; simp [PyData.eqv, injAll]⟩
instance instAlkTL [Alk α] : Alk (TL α) := ⟨fun a b => by show alike (.tuple _) (.tuple _) = true; simp only [alike]; exact alkAll a.l b.l⟩
instance instSrtKTL : SrtK (TL α) := ⟨.inl fun _ => ⟨_, rfl⟩⟩
/-- sorted -/
noncomputable def srtG (l : List α) : List α := l.mergeSort (dataLe false Dat.dat)
theorem dle_iff (a b : α) : dataLe false Dat.dat a b = !dataLt (Dat.dat b) (Dat.dat a) := by rw [PySem.W.dataLe_eq] <;> rfl
theorem dle_trans (a b c : α) (h1 : dataLe false Dat.dat a b = true) (h2 : dataLe false Dat.dat b c = true) : dataLe false Dat.dat a c = true := by
  rw [dle_iff, Bool.not_eq_true'] at *
  cases q : dataLt (Dat.dat c) (Dat.dat a) with
  | false => rfl
  | true =>
    rcases PyProof.Rows.lex_negTrans _ (PySem.W.keyToks (Dat.dat b)) _ q with z | z
    · rw [show PyProof.Rows.lexLt PyProof.Rows.itemOrd (PySem.W.keyToks (Dat.dat c)) (PySem.W.keyToks (Dat.dat b)) = dataLt (Dat.dat c) (Dat.dat b) from rfl, h2] at z
      exact absurd z (by decide)
    · rw [show PyProof.Rows.lexLt PyProof.Rows.itemOrd (PySem.W.keyToks (Dat.dat b)) (PySem.W.keyToks (Dat.dat a)) = dataLt (Dat.dat b) (Dat.dat a) from rfl, h1] at z
      exact absurd z (by decide)
theorem dle_total (a b : α) : (dataLe false Dat.dat a b || dataLe false Dat.dat b a) = true := by
  rw [dle_iff, dle_iff]
  cases q : dataLt (Dat.dat b) (Dat.dat a) with
  | false => rfl
  | true =>
    cases q2 : dataLt (Dat.dat a) (Dat.dat b) with
    | false => rfl
    | true =>
      have := PyProof.Rows.lex_trans _ _ _ q q2
      rw [PyProof.Rows.lex_irrefl] at this
      cases this
theorem dle_anti [Alk α] {a b : α} (h1 : dataLe false Dat.dat a b = true) (h2 : dataLe false Dat.dat b a = true) : a = b := by
  rw [dle_iff, Bool.not_eq_true'] at h1 h2
  have e := PyProof.Rows.lex_total _ _ h2 h1
  refine Dat.inj.mp ?_
  cases q : PyData.eqv (Dat.dat a) (Dat.dat b) with
  | true => rfl
  | false =>
    have z := (PySem.W.toks_eqv _ _ (Alk.alk a b)).2 q [] [.inl 0]
    rw [e, PySem.W.lex_pre, PyProof.Rows.lex_irrefl] at z
    cases z
abbrev AscG (l : List α) : Prop := l.Pairwise fun a b => dataLe false Dat.dat a b = true
theorem srtG_perm (l : List α) : (srtG l).Perm l := List.mergeSort_perm _ _
theorem srtG_asc (l : List α) : AscG (srtG l) := List.pairwise_mergeSort dle_trans dle_total l
theorem ascG_unique [Alk α] : ∀ {l m : List α}, l.Perm m → AscG l → AscG m → l = m
  | [], m, p, _, _ => by rw [List.nil_perm.mp p]
  | x :: l, [], p, _, _ => by have := p.length_eq; cases this
  | x :: l, y :: m, p, h1, h2 => by
    obtain ⟨a1, a2⟩ := List.pairwise_cons.mp h1
    obtain ⟨b1, b2⟩ := List.pairwise_cons.mp h2
    have e : x = y := by
      have hx : x ∈ y :: m := p.mem_iff.mp (List.mem_cons_self ..)
      have hy : y ∈ x :: l := p.mem_iff.mpr (List.mem_cons_self ..)
      rcases List.mem_cons.mp hx with q | q
      · exact q
      · rcases List.mem_cons.mp hy with r | r
        · exact r.symm
        · exact dle_anti (a1 y r) (b1 x q)
    subst e
    rw [ascG_unique (List.Perm.cons_inv p) a2 b2]
theorem srtG_congr [Alk α] {l m : List α} (p : l.Perm m) : srtG l = srtG m := ascG_unique ((srtG_perm l).trans (p.trans (srtG_perm m).symm)) (srtG_asc l) (srtG_asc m)
theorem srtG_id {l : List α} (h : AscG l) : srtG l = l := List.mergeSort_of_pairwise h
theorem mem_srtG {l : List α} {x : α} : x ∈ srtG l ↔ x ∈ l := (srtG_perm l).mem_iff
theorem srtG_len (l : List α) : (srtG l).length = l.length := (srtG_perm l).length_eq
/-- each once -/
def ddpG [DecidableEq α] : List α → List α
  | [] => []
  | x :: l => if x ∈ l then ddpG l else x :: ddpG l
end
theorem mem_ddpG {α : Type} [DecidableEq α] {x : α} : ∀ {l : List α}, x ∈ ddpG l ↔ x ∈ l
  | [] => Iff.rfl
  | y :: l => by
    unfold ddpG
    split
    · rename_i h
      rw [mem_ddpG, List.mem_cons]
      exact ⟨.inr, fun z => z.elim (fun e => e ▸ h) id⟩
    · rw [List.mem_cons, List.mem_cons, mem_ddpG]
theorem ddpG_nodup {α : Type} [DecidableEq α] : ∀ l : List α, (ddpG l).Nodup
  | [] => List.nodup_nil
  | x :: l => by
    unfold ddpG
    split
    · exact ddpG_nodup l
    · rename_i h
      exact List.nodup_cons.mpr ⟨fun z => h (mem_ddpG.mp z), ddpG_nodup l⟩
theorem ddpG_id {α : Type} [DecidableEq α] : ∀ {l : List α}, l.Nodup → ddpG l = l
  | [], _ => rfl
  | x :: l, h => by
    obtain ⟨h1, h2⟩ := List.nodup_cons.mp h
    unfold ddpG
    rw [if_neg h1, ddpG_id h2]
theorem ddpG_len_le {α : Type} [DecidableEq α] : ∀ l : List α, (ddpG l).length ≤ l.length
  | [] => Nat.le_refl _
  | x :: l => by
    unfold ddpG
    have := ddpG_len_le l
    split <;> simp only [List.length_cons] <;> omega

section
variable {α : Type} [Rep α] {G : Hp}
theorem reps_all : ∀ {vs : List V} {l : List α}, Reps G vs l → ∀ p ∈ vs.zip l, rep G p.1 p.2
  | _, _, .nil, p, h => by cases h
  | _, _, .cons r t, p, h => by
    rcases List.mem_cons.mp h with e | h
    · rw [e]; exact r
    · exact reps_all t p h
theorem reps_of_all : ∀ {z : List (V × α)}, (∀ p ∈ z, rep G p.1 p.2) → Reps G (z.map Prod.fst) (z.map Prod.snd)
  | [], _ => .nil
  | p :: z, h => .cons (h p List.mem_cons_self) (reps_of_all fun q hq => h q (List.mem_cons_of_mem _ hq))
theorem reps_sort [Dat α] {vs : List V} {l : List α} (r : Reps G vs l) : Reps G (TT.outV vs (l.map Dat.dat)) (srtG l) := by
  have hl := r.len
  have e1 : vs.zip (l.map Dat.dat) = (vs.zip l).map fun p => (p.1, Dat.dat p.2) := by
    rw [List.zip_map_right]
    rfl
  have e2 : TT.outV vs (l.map Dat.dat) = ((vs.zip l).mergeSort (fun p q => dataLe false Dat.dat p.2 q.2)).map Prod.fst := by
    unfold TT.outV
    rw [e1, ← List.map_mergeSort (r := fun p q => dataLe false Dat.dat p.2 q.2) (f := fun p : V × α => (p.1, Dat.dat p.2)) (fun _ _ _ _ => rfl), List.map_map]
    rfl
  have e3 : srtG l = ((vs.zip l).mergeSort (fun p q => dataLe false Dat.dat p.2 q.2)).map Prod.snd := by
    unfold srtG
    rw [List.map_mergeSort (s := dataLe false Dat.dat) (fun _ _ _ _ => rfl), List.map_snd_zip (by omega)]
  rw [e2, e3]
  exact reps_of_all fun p hp => reps_all r p (List.mem_mergeSort.mp hp)
end

section
variable {B : Bs} {X : Cx} {α β γ : Type} [Rep α] [Rep β] [Rep γ] {e a b c tg : Expr} {es : List Expr} {σ : L2.St} {G G' : Hp} {C C1 C2 : Cs} {pos pos' p2 p : Pos}
theorem alike_all [Dat α] [Alk α] (l : List α) : PySem.W.AllAlike (l.map Dat.dat) := fun d hd d' hd' => by
  obtain ⟨x, _, rfl⟩ := List.mem_map.mp hd
  obtain ⟨y, _, rfl⟩ := List.mem_map.mp hd'
  exact Alk.alk x y
theorem sort_all [Dat α] [SrtK α] (l : List α) : TT.SortG (l.map Dat.dat) := by
  rcases SrtK.k (α := α) with h | h
  · exact .inl fun d hd => by
      obtain ⟨x, _, rfl⟩ := List.mem_map.mp hd
      exact h x
  · exact .inr fun d hd => by
      obtain ⟨x, _, rfl⟩ := List.mem_map.mp hd
      exact h x
/-- sorted(xs), any number of data -/
theorem do_sortedG [Dat α] [Alk α] [SrtK α] {l : List α} (hu : X.A.units + 64 < cLine) (hm : X.mg ("sorted" : Str) = none) (ha : DE X a σ G l) (hd : Dat.dep α ≤ 60 := by decide) (hg : Gl X "sorted" := by rfl)
    (he : starEach [a] X.env = (false, eval a X.env) :: starEach [] X.env := by rfl) (hpl : (backTo pos (starEach [] X.env)).any (·.1) = false := by rfl) : DO X (.Call (.Name "sorted" p) [a] [] pos) σ G (srtG l) :=
  do_callB (TT.cr_sortedG hu) (fun G H u e r1 Q k => by
    obtain ⟨p, vs, rfl, hp, hz, r⟩ := r1
    refine ⟨p, vs, l.map Dat.dat, rfl, .inl (.inl (e _ _ hp)), dpAll X.K (Reps.mono e r), alike_all l, sort_all l, fun d hdm => ?_, fun q hq => ?_⟩
    · obtain ⟨x, _, rfl⟩ := List.mem_map.mp hdm
      exact Nat.le_trans (Dat.depth x) hd
    · have rr := reps_sort r
      exact k q _ G _ (Gr.own e hq) hq (Ex.fresh e hq) upd_same (by rw [rr.len, srtG_len, ← r.len]; exact hz) rr) hm ha hg (by decide +kernel) (by decide) (by decide) he hpl
theorem so_sortedG [Dat α] [Alk α] [SrtK α] {l : List α} (hu : X.A.units + 64 < cLine) (hm : X.mg ("sorted" : Str) = none) (ha : SE B X a σ G C l C1) (hd : Dat.dep α ≤ 60 := by decide) (hg : Gl X "sorted" := by rfl)
    (he : starEach [a] X.env = (false, eval a X.env) :: starEach [] X.env := by rfl) (hpl : (backTo pos (starEach [] X.env)).any (·.1) = false := by rfl) : SO B X (.Call (.Name "sorted" p) [a] [] pos) σ G C (srtG l) C1 := fun G1 H1 e1 o Q k =>
  ⟨_, pe_callB (TT.cr_sortedG hu) hg hm (by decide +kernel) (pa_cons WE.pe pa_nil he) (by decide) (by decide) he hpl, ha G1 H1 e1 o _ fun v G2 H2 e2 o2 r => by
    obtain ⟨p, vs, rfl, hp, hz, r⟩ := r
    refine ⟨p, vs, l.map Dat.dat, rfl, .inl (.inl (o2.ex _ _ hp)), dpAll X.K (Reps.mono o2.ex r), alike_all l, sort_all l, fun d hdm => ?_, fun q hq => ?_⟩
    · obtain ⟨x, _, rfl⟩ := List.mem_map.mp hdm
      exact Nat.le_trans (Dat.depth x) hd
    · have rr := reps_sort r
      exact k q G2 _ e2 (o2.push hq ⟨_, rfl, by rw [rr.len, srtG_len, ← r.len]; exact hz, rr⟩) (o2.gr.dom _ hq)⟩
/-- tuple(xs) -/
theorem de_tupleOf {l : List α} (hm : X.mg ("tuple" : Str) = none) (ha : DE X a σ G l) (hg : Gl X "tuple" := by rfl)
    (he : starEach [a] X.env = (false, eval a X.env) :: starEach [] X.env := by rfl) (hpl : (backTo pos (starEach [] X.env)).any (·.1) = false := by rfl) : DE X (.Call (.Name "tuple" p) [a] [] pos) σ G (TL.mk l) :=
  de_callTy call_tuple_of (fun G H u e r1 Q k => by
    obtain ⟨p, vs, rfl, hp, hz, r⟩ := r1
    exact ⟨p, vs, rfl, .inl ⟨.inl (.inl (e _ _ hp)), fun q hq => k (.ref q) _ _ (Gr.new (M := []) e hq) ⟨q, vs, rfl, upd_same, hz, Reps.mono (Ex.new (Ex.fresh e hq)) r⟩⟩⟩) hm ha hg (by decide +kernel) (by decide) (by decide) he hpl
/-- list(t) -/
theorem do_listOfT {t : TL α} (hm : X.mg ("list" : Str) = none) (ha : DE X a σ G t) (hg : Gl X "list" := by rfl)
    (he : starEach [a] X.env = (false, eval a X.env) :: starEach [] X.env := by rfl) (hpl : (backTo pos (starEach [] X.env)).any (·.1) = false := by rfl) : DO X (.Call (.Name "list" p) [a] [] pos) σ G t.l :=
  do_callTy call_list_of (fun G H u e r1 Q k => by
    obtain ⟨p, vs, rfl, hp, hz, r⟩ := r1
    exact ⟨p, vs, rfl, .inr (.inl (.inl (e _ _ hp))), fun q hq => k q vs G _ (Gr.own e hq) hq (Ex.fresh e hq) upd_same hz r⟩) hm ha hg (by decide +kernel) (by decide) (by decide) he hpl
theorem di_TL {t : TL α} (h : DE X e σ G t) : DI X tg e σ G t.l := fun G1 H1 e1 e2 R k =>
  ⟨_, pi_tup WE.pe, h G1 H1 e1 e2 _ fun v G2 H2 g r => by
    obtain ⟨p, vs, rfl, hp, hz, r⟩ := r
    refine ⟨p, rfl, ⟨vs, .inl (.inl (g.gh _ _ hp))⟩, ?_⟩
    refine k (Itt X.K p) (fun H => SqT X.K H p vs) _ G2 H2 g (by rw [← r.len]; exact walk_tup (xs := vs)) (fun H3 e3 => .inl (.inl (e3 _ _ hp))) (fun i G3 H3 x H' hi e3 e4 y => ?_) (by rw [← r.len]; exact hz)
    obtain ⟨rfl, hy⟩ := y
    obtain ⟨q, h1, h2⟩ := r.get hy
    exact ⟨q, G3, h1, Gr.refl e4, Rep.mono e3 h2⟩⟩
theorem tl_split {G : Hp} : ∀ {vs : List V} {l : List (TL Str)}, Reps G vs l → ∃ ks : List (Addr × List Str), vs = ks.map (fun p => V.ref p.1) ∧ ks.map (fun p => TL.mk p.2) = l ∧ ∀ p ∈ ks, G p.1 = some (.tup (p.2.map V.str)) ∧ p.2.length ≤ sizeLine ∧ ∀ x ∈ p.2, StrW x
  | _, _, .nil => ⟨[], rfl, rfl, fun _ h => by cases h⟩
  | _, _, .cons (b := t) r q => by
    obtain ⟨ks, h1, h2, h3⟩ := tl_split q
    obtain ⟨p, ws, rfl, hp, hz, rs⟩ := r
    obtain ⟨rfl, hw⟩ := reps_strs rs
    refine ⟨(p, t.l) :: ks, by rw [h1]; rfl, by rw [List.map_cons, h2], fun z hz' => ?_⟩
    rcases List.mem_cons.mp hz' with e | hz'
    · rw [e]; exact ⟨hp, by rw [List.length_map] at hz; exact hz, hw⟩
    · exact h3 z hz'
theorem tl_inj : Function.Injective (TL.mk (α := α)) := fun a b h => by cases h; rfl
theorem nodup_map_inj {α β : Type} {f : α → β} (hf : Function.Injective f) {l : List α} (h : l.Nodup) : (l.map f).Nodup := List.pairwise_map.mpr (List.Pairwise.imp (fun hne e => hne (hf e)) h)
/-- set(xs), tuples of texts -/
theorem we_setT {l : List (TL Str)} {H : Hp} {Q : VK} (hu : X.A.units + 64 < cLine) (hm : X.mg ("set" : Str) = none) (hc : X.calm = true) (ha : DE X a σ G l) (eG : Ex G H) (hl : l.length < 300)
    (k : ∀ (p : Addr) (L : List (Addr × List Str)) (G1 H1 : Hp), Gr [] G H G1 H1 → H1 p = none → (∀ z ∈ L, G1 z.1 = some (.tup (z.2.map V.str)) ∧ z.2.length ≤ sizeLine ∧ ∀ x ∈ z.2, StrW x) → (L.map fun z => TL.mk z.2).Perm (ddpG l) → Q (.ref p) (upd H1 p (TT.SetTO X.prog X.w p L))) (hg : Gl X "set" := by rfl)
    (he : starEach [a] X.env = (false, eval a X.env) :: starEach [] X.env := by rfl) (hpl : (backTo pos (starEach [] X.env)).any (·.1) = false := by rfl) : WE X (.Call (.Name "set" p) [a] [] pos) σ H Q :=
  ⟨_, pe_callTy (TT.cr_setOfT hc hu) hg hm (by decide +kernel) (pa_cons WE.pe pa_nil he) (by decide) (by decide) he hpl, ha G H (Ex.refl G) eG _ fun v G2 H2 g r => by
    obtain ⟨q, vs, rfl, hp, hz, r⟩ := r
    obtain ⟨ks, rfl, e2, h3⟩ := tl_split r
    refine ⟨q, ks, rfl, .inl (.inl (g.gh _ _ hp)), fun p hpm => .inl (.inl (g.gh _ _ (h3 p hpm).1)), by rw [← e2, List.length_map] at hl; exact hl, fun s L hn hs hm hnd => ?_⟩
    refine k s L G2 H2 g hn (fun z hzL => h3 z (hs z hzL)) ?_
    have n1 : (L.map fun z => TL.mk z.2).Nodup := by
      have z := nodup_map_inj (tl_inj (α := Str)) hnd
      rw [List.map_map] at z
      exact z
    refine (List.perm_ext_iff_of_nodup n1 (ddpG_nodup l)).mpr fun t => ?_
    rw [mem_ddpG, ← e2]
    constructor
    · intro ht
      obtain ⟨z, hz', rfl⟩ := List.mem_map.mp ht
      exact List.mem_map.mpr ⟨z, hs z hz', rfl⟩
    · intro ht
      obtain ⟨z, hz', rfl⟩ := List.mem_map.mp ht
      obtain ⟨y, hy, ey⟩ := List.mem_map.mp (hm z hz')
      exact List.mem_map.mpr ⟨y, hy, congrArg TL.mk ey⟩⟩
/-- sorted(set(xs)), tuples of texts -/
theorem do_sortSetT {p3 p4 : Pos} {l : List (TL Str)} (hu : X.A.units + 64 < cLine) (hm1 : X.mg ("sorted" : Str) = none) (hm : X.mg ("set" : Str) = none) (ha : DE X a σ G l) (hl : l.length < 300) (hc : X.calm = true := by rfl) (hg1 : Gl X "sorted" := by rfl) (hg : Gl X "set" := by rfl)
    (he : starEach [a] X.env = (false, eval a X.env) :: starEach [] X.env := by rfl) (hpl : (backTo p3 (starEach [] X.env)).any (·.1) = false := by rfl)
    (he2 : starEach [.Call (.Name "set" p2) [a] [] p3] X.env = (false, eval (.Call (.Name "set" p2) [a] [] p3) X.env) :: starEach [] X.env := by rfl) (hpl2 : (backTo pos (starEach [] X.env)).any (·.1) = false := by rfl) :
    DO X (.Call (.Name "sorted" p) [.Call (.Name "set" p2) [a] [] p3] [] pos) σ G (srtG (ddpG l)) := fun G1 H1 e1 e2 Q k =>
  ⟨_, pe_callB (TT.cr_sortedT hc hu) hg1 hm1 (by decide +kernel) (pa_cons WE.pe pa_nil he2) (by decide) (by decide) he2 hpl2, we_setT hu hm hc (ha.mono e1) e2 hl (fun q L G2 H2 g hq hL pm => by
    have e3 : Ex H2 (upd H2 q (TT.SetTO X.prog X.w q L)) := Ex.new hq
    refine ⟨q, L, rfl, upd_same, fun p hp => .inl (.inl (e3 _ _ (g.gh _ _ (hL p hp).1))), fun L1 s hp1 hn => ?_⟩
    have g2 := g.and (Gr.own (M := []) (o := TT.SetTO X.prog X.w q L) g.gh hq)
    have er : (L1.mergeSort (dataLe false TT.encT)).map (fun z => TL.mk z.2) = srtG (ddpG l) := by
      refine (List.map_mergeSort (r := dataLe false TT.encT) (s := dataLe false Dat.dat) (f := fun z : Addr × List Str => TL.mk z.2) (fun _ _ _ _ => rfl)).trans ?_
      exact srtG_congr ((hp1.map _).trans pm)
    have el : (L1.mergeSort (dataLe false TT.encT)).length = (srtG (ddpG l)).length := by rw [← er, List.length_map]
    have lz : (srtG (ddpG l)).length ≤ sizeLine := by
      rw [srtG_len, sizeLine_eq]
      have := ddpG_len_le l
      omega
    refine k s _ G2 _ (g2.and (Gr.own (M := []) g2.gh hn)) (g2.dom _ hn) (Ex.fresh g2.gh hn) upd_same (by rw [List.length_map, el]; exact lz) ?_
    rw [← er]
    have key : ∀ M : List (Addr × List Str), (∀ z ∈ M, z ∈ L) → Reps G2 (M.map fun z => V.ref z.1) (M.map fun z => TL.mk z.2) := by
      intro M
      induction M with
      | nil => intro _; exact .nil
      | cons z M ih =>
        intro h
        obtain ⟨y1, y2, y3⟩ := hL z (h z List.mem_cons_self)
        exact .cons ⟨z.1, _, rfl, y1, by rw [List.length_map]; exact y2, strs_reps y3⟩ (ih fun y hy => h y (List.mem_cons_of_mem _ hy))
    exact key _ fun z hz => hp1.mem_iff.mp (List.mem_mergeSort.mp hz)) hg he hpl⟩
end
end Dn

namespace Dn
open Dn.Rep (rep)
open PySem L2
def newTo (Hb G : Hp) : Hp := fun u => match Hb u with
  | none => G u
  | some _ => none
section
variable {Hb H1 G G' : Hp}
theorem newTo_none {u : Addr} (h : Hb u = none) : newTo Hb G u = G u := by unfold newTo; rw [h]
theorem newTo_some {u : Addr} {o : HO} (h : newTo Hb G u = some o) : Hb u = none ∧ G u = some o := by
  unfold newTo at h
  cases q : Hb u with
  | none => rw [q] at h; exact ⟨rfl, h⟩
  | some x => rw [q] at h; cases h
theorem newTo_mono (e : Ex G G') : Ex (newTo Hb G) (newTo Hb G') := fun u o h => by
  obtain ⟨h1, h2⟩ := newTo_some h
  rw [newTo_none h1]
  exact e _ _ h2
theorem newTo_sub : Ex (newTo Hb G) G := fun u o h => (newTo_some h).2
theorem newTo_weak (h : ∀ u, H1 u = none → Hb u = none) : Ex (newTo H1 G) (newTo Hb G) := fun u o q => by
  obtain ⟨h1, h2⟩ := newTo_some q
  rw [newTo_none (h u h1)]
  exact h2
end
structure Fr (Hb : Hp) (α : Type) where
  val : α
instance instRepFr {Hb : Hp} {α : Type} [Rep α] : Rep (Fr Hb α) := ⟨fun G v x => rep (newTo Hb G) v x.val, fun e h => Rep.mono (newTo_mono e) h⟩
instance {Hb : Hp} {α : Type} [Inhabited α] : Inhabited (Fr Hb α) := ⟨⟨default⟩⟩
def frs {α : Type} (Hb : Hp) (l : List α) : List (Fr Hb α) := l.map Fr.mk
section
variable {α : Type} [Rep α] {Hb H1 G : Hp}
theorem fr_out {v : V} {x : Fr Hb α} (h : rep G v x) : rep G v x.val := Rep.mono newTo_sub h
theorem reps_frs_out : ∀ {vs : List V} {l : List α}, Reps G vs (frs Hb l) → Reps G vs l
  | [], [], _ => .nil
  | _ :: _, _ :: _, .cons r t => .cons (fr_out r) (reps_frs_out t)
theorem rep_frs_out {v : V} {l : List α} (h : rep G v (frs Hb l)) : rep G v l := by
  obtain ⟨p, vs, h1, h2, h3, h4⟩ := h
  exact ⟨p, vs, h1, h2, h3, reps_frs_out h4⟩
theorem reps_frs_weak (h : ∀ u, H1 u = none → Hb u = none) : ∀ {vs : List V} {l : List α}, Reps G vs (frs H1 l) → Reps G vs (frs Hb l)
  | [], [], _ => .nil
  | _ :: _, _ :: _, .cons r t => .cons (Rep.mono (α := α) (newTo_weak h) r) (reps_frs_weak h t)
theorem filter_frs (l : List α) (c : α → Bool) : ((frs Hb l).filter fun y => c y.val) = frs Hb (l.filter c) := by
  unfold frs
  rw [List.filter_map]
  rfl
end
/-- a list of the caller's own, all that is in it new -/
def kOF {δ : Type} [Rep δ] : Kd (List δ) := ⟨fun l H G' H' w => (kO (δ := Fr H δ)).is (frs H l) H G' H' w⟩
def JOF {δ : Type} [Rep δ] (B : Bs) : Jd (List δ) := fun x => (RO B [] (frs B.H x), fun _ _ _ => False)
section
variable {P : Program} {w : World} {K : PySem.W.Frag} {mg : Str → Option Value} {base : Heap} {x qual : Str} {params : Arguments} {body : List Stmt} {scope : Scope} {f : Addr} {N ps : List Str} {k : Nat}
variable {A β δ : Type} [Args A] [Rep β] [Rep δ]
theorem has_OF {pre : A → Prop} {g : A → List δ} (F : ∃ fd, FunD K x qual params body scope [] [] f fd) (hm : mg x = some (.ref f)) (S : FnScope N ps scope) (hb : BindOk x qual params body scope ps) (len : ∀ a G vs, Args.rel (A := A) a G vs → vs.length = ps.length)
    (h : ∀ X, Body P w K mg base N qual scope f X → Rm k X.A → ∀ B vs a G, B.M = [] → Args.rel a G vs → pre a → SB B X body (start N vs) G [] (RO B [] (frs B.H (g a))) (fun _ _ _ => False)) : Has P w K mg base x f (k + 1) ps (SpN kOF pre g) :=
  has_of F hm S hb (fun vs H Q E ⟨G, a, eG, r, _⟩ => len a G vs r) fun X hX hr H vs Q E ⟨G, a, eG, r, hp, q⟩ => by
    refine h X hX hr ⟨[], G, H⟩ vs a G rfl r hp G H (Ex.refl _) ⟨Gr.refl eG, fun i u c hi => by simp at hi, fun i u c hi => by simp at hi, List.nodup_nil⟩ _ (fun p G' H' o hB => q _ G' H' o.gr ?_) fun _ _ _ _ _ _ z => z.elim
    obtain ⟨ob, h1, h2, h3⟩ := o.at_ 0 p _ rfl
    exact ⟨p, rfl, hB, h2, ob, h1, h3⟩
end
section
variable {B : Bs} {X : Cx} {α β γ δ A : Type} [Rep α] [Rep β] [Rep γ] [Rep δ] [Args A] {e a b c tg iter elt : Expr} {es : List Expr} {σ : L2.St} {G G' : Hp} {C C' C1 C2 C3 : Cs} {pos pos' p2 p pos2 : Pos} {x : Str} {f : Addr} {lvl k : Nat} {ps : List Str} {rest sts : List Stmt} {R : VK → Prop} {P : L2.St → Hp → Cs → Prop}
theorem do_callFZ {pre : A → Prop} {g : A → List δ} {y : A} {z : List δ} (F : Has X.prog X.w X.K X.mg X.base x f lvl ps (SpN kOF pre g)) (hr : Rm k X.A) (ha : DA X (e :: es) σ G y) (hp : pre y) (hz : g y = z := by rfl) (hl : lvl ≤ k := by decide) (hg : Gl X x := by rfl) (hdb : (x == ("__debug__" : Str)) = false := by decide)
    (he : starEach (e :: es) X.env = (false, eval e X.env) :: starEach es X.env := by rfl) (hpl : (backTo pos (starEach es X.env)).any (·.1) = false := by rfl) : DO X (.Call (.Name x p) (e :: es) [] pos) σ G z := fun G1 H1 e1 e2 Q k => by
  subst hz
  exact we_call F hr (ha G1 H1 e1 e2 _ fun vs G2 H2 g2 r => ⟨G2, y, g2.gh, r, hp, fun w G3 H3 g3 ⟨q, ew, n1, n2, o, h3, vs, eo, hz, r3⟩ => by
    subst ew; subst eo
    exact k q vs G3 H3 (g2.and g3) (g2.dom _ n1) n2 h3 hz (reps_frs_out r3)⟩) hl hg hdb he hpl
/-- handed on -/
theorem so_callRF {pre : A → Prop} {g : A → List δ} {y : A} {z : List δ} (F : Has X.prog X.w X.K X.mg X.base x f lvl ps (SpN kOF pre g)) (hr : Rm k X.A) (ha : DA X (e :: es) σ G y) (hp : pre y) (hz : g y = z := by rfl) (hl : lvl ≤ k := by decide) (hg : Gl X x := by rfl) (hdb : (x == ("__debug__" : Str)) = false := by decide)
    (he : starEach (e :: es) X.env = (false, eval e X.env) :: starEach es X.env := by rfl) (hpl : (backTo pos (starEach es X.env)).any (·.1) = false := by rfl) : SO B X (.Call (.Name x p) (e :: es) [] pos) σ G C (frs B.H z) C := fun G1 H1 e1 o Q k => by
  subst hz
  exact we_call F hr (ha G1 H1 e1 o.ex _ fun vs G2 H2 g2 r => ⟨G2, y, g2.gh, r, hp, fun w G3 H3 g3 ⟨q, ew, n1, n2, ob, h3, ws, eo, hz, r3⟩ => by
    subst ew; subst eo
    have o2 := o.grow g2
    exact k q G3 H3 (g2.gg.trans g3.gg) (o2.take_ g3 n1 n2 h3 ⟨ws, rfl, hz, reps_frs_weak (fun u hu => o2.gr.dom u hu) r3⟩) (o2.gr.dom _ n1)⟩) hl hg hdb he hpl
def knw (us : List Addr) (G H : Hp) : Hp := fun u => if u ∈ us then H u else G u
theorem know_ex {us : List Addr} {G H : Hp} (e : Ex G H) : Ex G (knw us G H) := fun u o h => by
  unfold knw
  split
  · exact e _ _ h
  · exact h
theorem know_sub {us : List Addr} {G H : Hp} (e : Ex G H) : Ex (knw us G H) H := fun u o h => by
  unfold knw at h
  split at h
  · exact h
  · exact e _ _ h
theorem know_in {us : List Addr} {G H : Hp} {u : Addr} (h : u ∈ us) : knw us G H u = H u := if_pos h
theorem On.knowM {us : List Addr} {H : Hp} (h : On B C G H) (hus : ∀ u ∈ us, B.H u = none) (hc : ∀ (i : Nat) u c, C[i]? = some (u, c) → u ∉ us) : On B C (knw us G H) H := by
  have ex := know_ex (us := us) h.ex
  refine ⟨⟨h.gr.keep, h.gr.dom, h.gr.gg.trans ex, know_sub h.ex, fun u o q1 q2 => ?_⟩, fun i u c hi => ?_, h.own, h.nd⟩
  · unfold knw at q1
    split at q1
    · exact hus u (by assumption)
    · exact h.gr.fr u o q1 q2
  · obtain ⟨o, h1, h2, h3⟩ := h.at_ i u c hi
    exact ⟨o, h1, by unfold knw; rw [if_neg (hc i u c hi)]; exact h2, c.mono ex h3⟩
/-- x = [list(..) for ..], all of it new -/
theorem sb_setP [Scal α] {x : Str} {ls : List (List α)} (i : Nat) (h : DPz X e σ G ls) (k : ∀ v G', Ex G G' → rep G' v (frs B.H ls) → SB B X rest (σ.set i (some v)) G' C R P) (hN : X.N.Nodup) (hi : X.N[i]? = some x := by rfl) (hx : L2.Loc X.env.scope x := by first | exact Or.inl rfl | exact Or.inr rfl)
    (hs : swapsWithSole [.Name x pos'] e pos.line X.env = pure false := by rfl) (hw : swappedStores [.Name x pos'] e X.env = pure none := by rfl) (h1 : (assignEach [.Name x pos'] X.env).map (·.2) = [assign (.Name x pos') X.env] := by rfl)
    (hf : X.fn x = true ∨ X.env.scope.names.lookup x = some .local := by first | exact .inl rfl | exact .inr rfl) : SB B X (.Assign [.Name x pos'] e pos :: rest) σ G C R P := fun G1 H1 e1 o1 D k1 k2 =>
  ⟨_, pss_cons (ps_asg WE.pe (pg_name hN hi hx hf) hs hw h1) WS.pss, h G1 H1 e1 o1.ex _ fun w G2 H2 g2 ⟨us, hul, hw', hnd, hus⟩ => by
    have o2 := o1.grow g2
    have hl : ∀ u ∈ us, H1 u = none := fun u hu => by
      obtain ⟨j, hj⟩ := List.mem_iff_getElem?.mp hu
      obtain ⟨hjl, _⟩ := List.getElem?_eq_some_iff.mp hj
      exact (hus j u _ hj (List.getElem?_eq_getElem (by omega))).1
    have o3 := o2.knowM (us := us) (fun u hu => o1.gr.dom _ (hl u hu)) fun j u c hj hu => by
      obtain ⟨o, q1, _⟩ := o1.at_ j u c hj
      rw [hl u hu] at q1; cases q1
    have ex := know_ex (us := us) g2.gh
    refine k w (knw us G2 H2) (e1.trans (g2.gg.trans ex)) ?_ _ H2 (Ex.refl _) o3 D k1 fun σ3 G3 H3 C3 e3 o4 p3 => k2 σ3 G3 H3 C3 ((g2.gg.trans ex).trans e3) o4 p3
    obtain ⟨q, vs, rfl, hq, hz, r⟩ := hw'
    refine ⟨q, vs, rfl, ex _ _ hq, hz, ?_⟩
    have key : ∀ {vs : List V} {us' : List Addr} {ls' : List (List α)}, us'.length = ls'.length → (∀ (j : Nat) u z, us'[j]? = some u → ls'[j]? = some z → u ∈ us ∧ ∃ ws, H2 u = some (.lst ws) ∧ ws.length ≤ sizeLine ∧ Reps G2 ws z) → Reps G2 vs (us'.map Hd.mk) → Reps (knw us G2 H2) vs (frs B.H ls') := by
      intro vs us'
      induction us' generalizing vs with
      | nil =>
        intro ls' hl' _ r
        cases ls' with
        | nil => cases r; exact .nil
        | cons _ _ => cases hl'
      | cons u us' ih =>
        intro ls' hl' hh r
        cases ls' with
        | nil => cases hl'
        | cons z ls' =>
          cases r with
          | cons r1 r2 =>
            have r1' : _ = V.ref u := r1
            subst r1'
            obtain ⟨hm, ws, hw1, hw2, hw3⟩ := hh 0 u z rfl rfl
            refine .cons ?_ (ih (by simpa using hl') (fun j u' z' h1 h2 => hh (j + 1) u' z' (by simpa using h1) (by simpa using h2)) r2)
            refine ⟨u, ws, rfl, ?_, hw2, reps_any hw3⟩
            rw [newTo_none (o1.gr.dom _ (hl u hm)), know_in hm]
            exact hw1
    refine key hul (fun j u z h1 h2 => ⟨List.mem_of_getElem? h1, ?_⟩) r
    obtain ⟨_, _, o, h3, ws, rfl, h4, h5⟩ := hus j u z h1 h2
    exact ⟨ws, h3, h4, h5⟩⟩

class RFun (α : Type) [Rep α] : Prop where
  fn : ∀ {G : Hp} {v : V} {a b : α}, rep G v a → rep G v b → a = b
instance : RFun Str := ⟨fun {_ _ _ _} h1 h2 => by
  have e := h1.1.symm.trans h2.1
  cases e
  rfl⟩
instance : RFun Int := ⟨fun {_ _ _ _} h1 h2 => by
  have e := Eq.trans (Eq.symm h1) h2
  cases e
  rfl⟩
theorem reps_fn [RFun α] {G : Hp} : ∀ {vs : List V} {l m : List α}, Reps G vs l → Reps G vs m → l = m
  | _, _, _, .nil, .nil => rfl
  | _, _, _, .cons r t, .cons r' t' => by rw [RFun.fn r r', reps_fn t t']
structure DeepC (us : List Addr) (l : List (List α)) (A : List (Addr × List α)) : Prop where
  len : us.length = l.length
  mem : ∀ (i : Nat) u x, us[i]? = some u → l[i]? = some x → (u, x) ∈ A
  sub : ∀ p ∈ A, p.2 ∈ l
abbrev inner (A : List (Addr × List α)) : Cs := A.map fun p => (p.1, cl p.2)
/-- each address once -/
def nubA : List (Addr × List α) → List (Addr × List α)
  | [] => []
  | p :: l => if p.1 ∈ l.map (·.1) then nubA l else p :: nubA l
theorem nubA_sub : ∀ {l : List (Addr × List α)} {p}, p ∈ nubA l → p ∈ l
  | [], _, h => h
  | q :: l, p, h => by
    unfold nubA at h
    split at h
    · exact List.mem_cons_of_mem _ (nubA_sub h)
    · rcases List.mem_cons.mp h with e | h
      · rw [e]; exact List.mem_cons_self
      · exact List.mem_cons_of_mem _ (nubA_sub h)
theorem nubA_fst : ∀ {l : List (Addr × List α)} {u}, u ∈ l.map (·.1) → u ∈ (nubA l).map (·.1)
  | [], _, h => h
  | q :: l, u, h => by
    unfold nubA
    split
    · rename_i hq
      rcases List.mem_cons.mp h with e | h
      · exact nubA_fst (e ▸ hq)
      · exact nubA_fst h
    · rcases List.mem_cons.mp h with e | h
      · rw [e]; exact List.mem_cons_self
      · exact List.mem_cons_of_mem _ (nubA_fst h)
theorem nubA_nd : ∀ l : List (Addr × List α), ((nubA l).map (·.1)).Nodup
  | [] => List.nodup_nil
  | q :: l => by
    unfold nubA
    split
    · exact nubA_nd l
    · rename_i hq
      refine List.nodup_cons.mpr ⟨fun z => hq ?_, nubA_nd l⟩
      obtain ⟨p, hp, e⟩ := List.mem_map.mp z
      exact List.mem_map.mpr ⟨p, nubA_sub hp, e⟩
theorem On.addM {H : Hp} : ∀ (A : List (Addr × List α)) {C : Cs}, On B C G H → (A.map (·.1)).Nodup → (∀ p ∈ A, (∃ o, H p.1 = some o ∧ (cl p.2).ok G o) ∧ G p.1 = none ∧ B.H p.1 = none ∧ ∀ (j : Nat) v d, C[j]? = some (v, d) → v ≠ p.1) → On B (C ++ inner A) G H
  | [], C, h, _, _ => by rw [show C ++ inner ([] : List (Addr × List α)) = C from List.append_nil C]; exact h
  | p :: A, C, h, hn, hA => by
    obtain ⟨n1, n2⟩ := List.nodup_cons.mp hn
    obtain ⟨⟨o, h1, h2⟩, h3, h4, h5⟩ := hA p List.mem_cons_self
    have h' := h.add h1 h3 h2 (.inr h4) h5
    have q := On.addM A h' n2 fun z hz => by
      obtain ⟨a1, a2, a3, a4⟩ := hA z (List.mem_cons_of_mem _ hz)
      refine ⟨a1, a2, a3, fun j v d hj => ?_⟩
      rw [List.getElem?_append] at hj
      split at hj
      · exact a4 j v d hj
      · have hl := (List.getElem?_eq_some_iff.mp hj).1
        have e : j - C.length = 0 := by simpa using hl
        rw [e] at hj
        cases hj
        exact fun e => n1 (List.mem_map.mpr ⟨z, hz, e.symm⟩)
    rw [List.append_assoc] at q
    exact q
/-- x, y = f(..), e: the first a list of lists, all one's own -/
theorem sb_parD [Scal α] [RFun α] {pre : A → Prop} {g : A → List (List α)} {yv : A} {l : List (List α)} {w0 : β} {xn yn : Str} {px py pt pt2 pc : Pos} {kt kt2 : Nat} (i j : Nat) (F : Has X.prog X.w X.K X.mg X.base x f lvl ps (SpN kOF pre g)) (hr : Rm k X.A) (ha : DA X (e :: es) σ G yv) (hpre : pre yv) (hb : DE X b σ G w0) (hl : g yv = l)
    (kk : ∀ u us A w G', Ex G G' → DeepC us l A → rep G' w w0 → SB B X rest ((σ.set i (some (.ref u))).set j (some w)) G' (C ++ (u, cl (us.map Hd.mk)) :: inner A) R P) (hN : X.N.Nodup) (hi : X.N[i]? = some xn := by rfl) (hj : X.N[j]? = some yn := by rfl) (hij : i ≠ j := by decide)
    (hx : X.env.scope.names.lookup xn = some .local := by rfl) (hy : X.env.scope.names.lookup yn = some .local := by rfl) (hc : X.calm = true := by rfl) (hlv : lvl ≤ k := by decide) (hg : Gl X x := by rfl) (hdb : (x == ("__debug__" : Str)) = false := by decide)
    (he : starEach (e :: es) X.env = (false, eval e X.env) :: starEach es X.env := by rfl) (hpl : (backTo pc (starEach es X.env)).any (·.1) = false := by rfl)
    (hw : swappedStores [.Tuple [.Name xn px, .Name yn py] kt pt] (.Tuple [.Call (.Name x p) (e :: es) [] pc, b] kt2 pt2) X.env = pure (some [xn, yn]) := by rfl) (hs : swapsWithSole [.Tuple [.Name xn px, .Name yn py] kt pt] (.Tuple [.Call (.Name x p) (e :: es) [] pc, b] kt2 pt2) pos.line X.env = pure false := by rfl)
    (h : starEach [.Call (.Name x p) (e :: es) [] pc, b] X.env = (false, eval (.Call (.Name x p) (e :: es) [] pc) X.env) :: starEach [b] X.env := by rfl) (h' : starEach [b] X.env = (false, eval b X.env) :: starEach [] X.env := by rfl) : SB B X (.Assign [.Tuple [.Name xn px, .Name yn py] kt pt] (.Tuple [.Call (.Name x p) (e :: es) [] pc, b] kt2 pt2) pos :: rest) σ G C R P := fun G1 H1 e1 o1 D k1 k2 =>
  ⟨_, pss_cons (ps_par hc hN hi hj hij hx hy (pa_cons WE.pe (pa_cons WE.pe pa_nil h') h) hw hs) WS.pss, we_call F hr (ha G1 H1 e1 o1.ex _ fun vs G2 H2 g2 r => ⟨G2, yv, g2.gh, r, hpre, fun wv G3 H3 g3 ⟨q, ew, n1, n2, ob, h3, ws, eo, hz, r3⟩ => by
    subst ew; subst eo; subst hl
    have o2 := o1.grow g2
    -- what the call made known is let go
    have gf : Gr [] G2 H2 G2 H3 := Gr.of_ex g2.gh g3.hh
    have o3 := o2.grow gf
    -- the items
    have items : ∀ {ws : List V} {m : List (List α)}, Reps G3 ws (frs H2 m) → ∃ us : List Addr, ws = us.map V.ref ∧ us.length = m.length ∧ ∀ (t : Nat) u z, us[t]? = some u → m[t]? = some z → H2 u = none ∧ ∃ vs, H3 u = some (.lst vs) ∧ vs.length ≤ sizeLine ∧ Reps G3 vs z := by
      intro ws
      induction ws with
      | nil =>
        intro m r
        cases m with
        | nil => exact ⟨[], rfl, rfl, fun t u z h => by simp at h⟩
        | cons _ _ => cases r
      | cons v ws ih =>
        intro m r
        cases m with
        | nil => cases r
        | cons z m =>
          cases r with
          | cons r1 r2 =>
            obtain ⟨us, rfl, hl', hh⟩ := ih r2
            obtain ⟨u, vs, rfl, hu, hz', rz⟩ := r1
            obtain ⟨m1, m2⟩ := newTo_some hu
            refine ⟨u :: us, rfl, by rw [List.length_cons, List.length_cons, hl'], fun t u' z' h1 h2 => ?_⟩
            cases t with
            | zero => cases h1; cases h2; exact ⟨m1, vs, g3.gh _ _ m2, hz', reps_any rz⟩
            | succ t => exact hh t u' z' (by simpa using h1) (by simpa using h2)
    obtain ⟨us, rfl, hul, hus⟩ := items r3
    have hzp : ∀ pr ∈ us.zip (g yv), H2 pr.1 = none ∧ ∃ vs, H3 pr.1 = some (.lst vs) ∧ vs.length ≤ sizeLine ∧ Reps G3 vs pr.2 := fun pr hpr => by
      obtain ⟨t, ht⟩ := List.mem_iff_getElem?.mp hpr
      rw [List.getElem?_zip_eq_some] at ht
      exact hus t pr.1 pr.2 ht.1 ht.2
    have hdeep : DeepC us (g yv) (nubA (us.zip (g yv))) := by
      refine ⟨hul, fun t u z h1 h2 => ?_, fun pr hpr => (List.of_mem_zip (nubA_sub (p := (pr.1, pr.2)) hpr)).2⟩
      have hm : (u, z) ∈ us.zip (g yv) := List.mem_iff_getElem?.mpr ⟨t, List.getElem?_zip_eq_some.mpr ⟨h1, h2⟩⟩
      obtain ⟨pr, hpr, e⟩ := List.mem_map.mp (nubA_fst (List.mem_map.mpr ⟨_, hm, rfl⟩))
      obtain ⟨_, v1, a1, _, a2⟩ := hzp _ hm
      obtain ⟨_, v2, b1, _, b2⟩ := hzp pr (nubA_sub hpr)
      have e' : pr.1 = u := e
      rw [e', a1] at b1
      cases b1
      have ez : z = pr.2 := reps_fn a2 b2
      rw [ez, ← e']
      exact hpr
    have qfresh : ∀ u ∈ us, u ≠ q := fun u hu e => by
      obtain ⟨t, ht⟩ := List.mem_iff_getElem?.mp hu
      obtain ⟨htl, _⟩ := List.getElem?_eq_some_iff.mp ht
      obtain ⟨z, hzz⟩ : ∃ z, (frs H2 (g yv))[t]? = some z := ⟨_, List.getElem?_eq_getElem (by unfold frs; rw [List.length_map]; omega)⟩
      obtain ⟨v, hv1, hv2⟩ := r3.get' hzz
      rw [List.getElem?_map, ht] at hv1
      cases hv1
      obtain ⟨u', vs', ee, hu', _⟩ := hv2
      cases ee
      have h9 := (newTo_some hu').2
      rw [e, n2] at h9
      cases h9
    have o4 : On B (C ++ [(q, cl (us.map Hd.mk))]) G2 H3 := o2.take_ gf n1 (Ex.fresh g2.gh n1) h3 ⟨_, rfl, hz, hd_reps us⟩
    have o5 : On B (C ++ [(q, cl (us.map Hd.mk))] ++ inner (nubA (us.zip (g yv)))) G2 H3 := o4.addM _ (nubA_nd _) fun pr hpr => by
      obtain ⟨a1, vs, a2, a3, a4⟩ := hzp pr (nubA_sub hpr)
      refine ⟨⟨_, a2, vs, rfl, a3, reps_any a4⟩, Ex.fresh g2.gh a1, o2.gr.dom _ a1, fun t v d ht => ?_⟩
      rw [List.getElem?_append] at ht
      split at ht
      · obtain ⟨o, q1, _⟩ := o2.at_ t v d ht
        intro e
        rw [e, a1] at q1
        cases q1
      · have hl := (List.getElem?_eq_some_iff.mp ht).1
        have e : t - C.length = 0 := by simpa using hl
        rw [e] at ht
        cases ht
        exact (qfresh pr.1 (List.of_mem_zip (nubA_sub (p := (pr.1, pr.2)) hpr)).1).symm
    rw [List.append_assoc] at o5
    refine hb G2 H3 (e1.trans g2.gg) o5.ex _ fun w4 G4 H4 g4 r4 => ?_
    exact ⟨.ref q, w4, rfl, kk q us _ w4 G4 (e1.trans (g2.gg.trans g4.gg)) hdeep r4 G4 H4 (Ex.refl _) (o5.grow g4) D k1 fun σ5 G5 H5 C5 e5 o6 p5 => k2 σ5 G5 H5 C5 ((g2.gg.trans g4.gg).trans e5) o6 p5⟩⟩) hlv hg hdb he hpl⟩
end
end Dn

namespace Dn
open Dn.Rep (rep)
open PySem L2
section
variable {B : Bs} {X : Cx} {α β γ δ A : Type} [Rep α] [Rep β] [Rep γ] [Rep δ] [Args A] {e a b c tg iter elt : Expr} {es : List Expr} {σ : L2.St} {G G' : Hp} {C C' C0 C1 C2 C3 : Cs} {pos pos' p2 p pos2 : Pos} {x : Str} {f : Addr} {lvl k : Nat} {ps : List Str} {rest sts : List Stmt} {R : VK → Prop} {P : L2.St → Hp → Cs → Prop}
theorem deep_at {u : Addr} {us : List Addr} {AA : List (Addr × List α)} {q : Addr} {z : List α} (hm : (q, z) ∈ AA) : ∃ i : Nat, (C0 ++ (u, cl (us.map Hd.mk)) :: inner AA)[i]? = some (q, cl z) := by
  obtain ⟨t, ht⟩ := List.mem_iff_getElem?.mp hm
  refine ⟨C0.length + (t + 1), ?_⟩
  rw [List.getElem?_append_right (by omega), show C0.length + (t + 1) - C0.length = t + 1 by omega, List.getElem?_cons_succ]
  show (AA.map fun p => (p.1, cl p.2))[t]? = _
  rw [List.getElem?_map, ht]
  rfl
theorem deep_fst {u : Addr} {us : List Addr} {AA : List (Addr × List α)} : (C0 ++ (u, cl (us.map Hd.mk)) :: inner AA)[C0.length]? = some (u, cl (us.map Hd.mk)) := by
  rw [List.getElem?_append_right (Nat.le_refl _), Nat.sub_self]
  rfl
theorem On.knowD [Scal α] {u : Addr} {us : List Addr} {AA : List (Addr × List α)} {l : List (List α)} {G1 H1 : Hp} (o : On B (C0 ++ (u, cl (us.map Hd.mk)) :: inner AA) G1 H1) (d : DeepC us l AA) : ∃ G2, Ex G1 G2 ∧ Ex G2 H1 ∧ rep G2 (.ref u) l := by
  obtain ⟨o0, h1, h2, vs, rfl, hz, r⟩ := o.at_ _ u _ deep_fst
  refine ⟨knw (u :: us) G1 H1, know_ex o.ex, know_sub o.ex, u, vs, rfl, by rw [know_in List.mem_cons_self]; exact h1, hz, ?_⟩
  have key : ∀ {vs : List V} {us' : List Addr} {l' : List (List α)}, us'.length = l'.length → (∀ (t : Nat) q z, us'[t]? = some q → l'[t]? = some z → q ∈ us ∧ (q, z) ∈ AA) → Reps G1 vs (us'.map Hd.mk) → Reps (knw (u :: us) G1 H1) vs l' := by
    intro vs us'
    induction us' generalizing vs with
    | nil =>
      intro l' hl _ r
      cases l' with
      | nil => cases r; exact .nil
      | cons _ _ => cases hl
    | cons q us' ih =>
      intro l' hl hh r
      cases l' with
      | nil => cases hl
      | cons z l' =>
        cases r with
        | cons r1 r2 =>
          have r1' : _ = V.ref q := r1
          subst r1'
          obtain ⟨m1, m2⟩ := hh 0 q z rfl rfl
          obtain ⟨i, hi⟩ := deep_at (C0 := C0) (u := u) (us := us) m2
          obtain ⟨o1, a1, a2, ws, rfl, a3, a4⟩ := o.at_ i q _ hi
          exact .cons ⟨q, ws, rfl, by rw [know_in (List.mem_cons_of_mem _ m1)]; exact a1, a3, reps_any a4⟩ (ih (by simpa using hl) (fun t q' z' b1 b2 => hh (t + 1) q' z' (by simpa using b1) (by simpa using b2)) r2)
  exact key d.len (fun t q z h1 h2 => ⟨List.mem_of_getElem? h1, d.mem t q z h1 h2⟩) r
theorem SE.deep [Scal α] [Scal γ] {y : γ} {u : Addr} {us : List Addr} {AA : List (Addr × List α)} {l : List (List α)} (d : DeepC us l AA) (h : ∀ G', Ex G G' → rep G' (.ref u) l → DE X e σ G' y) : SE B X e σ G (C0 ++ (u, cl (us.map Hd.mk)) :: inner AA) y (C0 ++ (u, cl (us.map Hd.mk)) :: inner AA) := fun G1 H1 e1 o Q k => by
  obtain ⟨G2, q1, q2, r⟩ := o.knowD d
  refine h G2 (e1.trans q1) r G2 H1 (Ex.refl _) q2 Q fun v G3 H3 g3 r3 => k v G1 H3 (Ex.refl _) (o.grow (Gr.of_ex o.ex g3.hh)) (Scal.any r3)
theorem ST.deep [Scal α] {y : Bool} {u : Addr} {us : List Addr} {AA : List (Addr × List α)} {l : List (List α)} (d : DeepC us l AA) (h : ∀ G', Ex G G' → rep G' (.ref u) l → DT X e σ G' y) : ST B X e σ G (C0 ++ (u, cl (us.map Hd.mk)) :: inner AA) y (C0 ++ (u, cl (us.map Hd.mk)) :: inner AA) := fun G1 H1 e1 o Q k => by
  obtain ⟨G2, q1, q2, r⟩ := o.knowD d
  exact h G2 (e1.trans q1) r G2 H1 (Ex.refl _) q2 Q fun G3 H3 g3 => k G1 H3 (Ex.refl _) (o.grow (Gr.of_ex o.ex g3.hh))

/-- some list, not longer than n -/
def jk (n : Nat) : Cont := ⟨fun _ o => ∃ ws, o = .lst ws ∧ ws.length ≤ n, fun _ h => h⟩
theorem On.weak {H : Hp} (h : On B C G H) (hn : C'.map (·.1) = C.map (·.1)) (hf : ∀ (i : Nat) u c', C'[i]? = some (u, c') → ∃ c, C[i]? = some (u, c) ∧ ∀ o, c.ok G o → c'.ok G o) : On B C' G H := by
  refine ⟨h.gr, fun i u c' hi => ?_, fun i u c' hi => ?_, by rw [hn]; exact h.nd⟩
  · obtain ⟨c, h1, h2⟩ := hf i u c' hi
    obtain ⟨o, q1, q2, q3⟩ := h.at_ i u c h1
    exact ⟨o, q1, q2, h2 o q3⟩
  · obtain ⟨c, h1, h2⟩ := hf i u c' hi
    exact h.own i u c h1
/-- the cells of the items behind n turns -/
abbrev junk (n : Nat) (AA : List (Addr × List α)) : Cs := AA.map fun p => (p.1, jk (p.2.length + n))
theorem On.junk0 {H : Hp} {u : Addr} {cu : Cont} {AA : List (Addr × List α)} (h : On B (C0 ++ (u, cu) :: inner AA) G H) : On B (C0 ++ (u, cu) :: junk 0 AA) G H := by
  refine h.weak ?_ fun i v c' hi => ?_
  · rw [List.map_append, List.map_append, List.map_cons, List.map_cons]
    congr 2
    show (AA.map fun p => (p.1, jk (p.2.length + 0))).map (·.1) = (AA.map fun p => (p.1, cl p.2)).map (·.1)
    rw [List.map_map, List.map_map]
    rfl
  · rw [List.getElem?_append] at hi
    by_cases hl : i < C0.length
    · rw [if_pos hl] at hi
      exact ⟨c', by rw [List.getElem?_append_left hl]; exact hi, fun _ q => q⟩
    · rw [if_neg hl] at hi
      rw [List.getElem?_append_right (by omega)]
      cases hq : i - C0.length with
      | zero => rw [hq] at hi; exact ⟨c', hi, fun _ q => q⟩
      | succ t =>
        rw [hq] at hi
        rw [List.getElem?_cons_succ] at hi ⊢
        have hi' : (AA.map fun p => (p.1, jk (p.2.length + 0)))[t]? = some (v, c') := hi
        rw [List.getElem?_map] at hi'
        obtain ⟨p, hp, e⟩ := Option.map_eq_some_iff.mp hi'
        cases e
        refine ⟨cl p.2, ?_, fun o ⟨ws, h1, h2, h3⟩ => ⟨ws, h1, by rw [h3.len]; exact Nat.le_refl _⟩⟩
        show (AA.map fun p => (p.1, cl p.2))[t]? = _
        rw [List.getElem?_map, hp]
        rfl
theorem On.junkS {H : Hp} {u : Addr} {cu : Cont} {n : Nat} {AA : List (Addr × List α)} {q : Addr} {ws : List V} {w : V} (h : On B (C0 ++ (u, cu) :: junk n AA) G H) {t : Nat} {z : List α} (ht : AA[t]? = some (q, z)) (hH : H q = some (.lst ws)) (hw : ws.length ≤ z.length + n) : On B (C0 ++ (u, cu) :: junk (n + 1) AA) G (upd H q (.lst (ws ++ [w]))) := by
  have hi : (C0 ++ (u, cu) :: junk n AA)[C0.length + (t + 1)]? = some (q, jk (z.length + n)) := by
    rw [List.getElem?_append_right (by omega), show C0.length + (t + 1) - C0.length = t + 1 by omega, List.getElem?_cons_succ]
    show (AA.map fun p => (p.1, jk (p.2.length + n)))[t]? = _
    rw [List.getElem?_map, ht]
    rfl
  have o2 := h.put (o := .lst (ws ++ [w])) (c' := jk (z.length + (n + 1))) hi ⟨_, rfl, by rw [List.length_append, List.length_singleton]; omega⟩
  refine o2.weak ?_ fun i v c' hi' => ?_
  · rw [map_set_fst hi, List.map_append, List.map_append, List.map_cons, List.map_cons]
    congr 2
    show (AA.map fun p => (p.1, jk (p.2.length + (n + 1)))).map (·.1) = (AA.map fun p => (p.1, jk (p.2.length + n))).map (·.1)
    rw [List.map_map, List.map_map]
    rfl
  · have old : ∃ c, (C0 ++ (u, cu) :: junk n AA)[i]? = some (v, c) ∧ (∀ o, c.ok G o → c'.ok G o) ∧ (i = C0.length + (t + 1) → c' = jk (z.length + (n + 1))) := by
      rw [List.getElem?_append] at hi'
      by_cases hl : i < C0.length
      · rw [if_pos hl] at hi'
        exact ⟨c', by rw [List.getElem?_append_left hl]; exact hi', fun _ q => q, fun e => by omega⟩
      · rw [if_neg hl] at hi'
        rw [List.getElem?_append_right (by omega)]
        cases hq : i - C0.length with
        | zero => rw [hq] at hi'; exact ⟨c', hi', fun _ q => q, fun e => by omega⟩
        | succ t' =>
          rw [hq] at hi'
          rw [List.getElem?_cons_succ] at hi' ⊢
          have hi2 : (AA.map fun p => (p.1, jk (p.2.length + (n + 1))))[t']? = some (v, c') := hi'
          rw [List.getElem?_map] at hi2
          obtain ⟨p, hp, e⟩ := Option.map_eq_some_iff.mp hi2
          cases e
          refine ⟨jk (p.2.length + n), ?_, fun o ⟨ws, h1, h2⟩ => ⟨ws, h1, by omega⟩, fun e => ?_⟩
          · show (AA.map fun p => (p.1, jk (p.2.length + n)))[t']? = _
            rw [List.getElem?_map, hp]
            rfl
          · have e2 : t' = t := by omega
            rw [e2, ht] at hp
            cases hp
            rfl
    obtain ⟨c, h1, h2, h3⟩ := old
    rw [List.getElem?_set]
    by_cases he : C0.length + (t + 1) = i
    · rw [if_pos he]
      subst he
      rw [hi] at h1
      cases h1
      obtain ⟨hlt, _⟩ := List.getElem?_eq_some_iff.mp hi
      rw [if_pos hlt]
      exact ⟨_, rfl, by rw [h3 rfl]; exact fun _ q => q⟩
    · rw [if_neg he]
      exact ⟨c, h1, h2⟩
/-- for lot in told: lot.append(..) -/
theorem sb_spoil {xn nm : Str} {u : Addr} {us : List Addr} {AA : List (Addr × List α)} {l : List (List α)} {y : β} {pn px py cpos apos : Pos} (j : Nat) (d : DeepC us l AA) (hz : ∀ z ∈ l, z.length + l.length ≤ sizeLine)
    (he : ∀ σ' G', Ex G G' → DE X e σ' G' y)
    (kk : ∀ t G', Ex G G' → SB B X rest (σ.set j t) G' (C0 ++ (u, jk l.length) :: junk l.length AA) R P) (hu : AtVar X σ xn u) (hN : X.N.Nodup) (hj : X.N[j]? = some nm := by rfl) (hlen : j < σ.length := by decide)
    (hx : L2.Loc X.env.scope nm := by first | exact Or.inl rfl | exact Or.inr rfl) (hvis : Vis X.env.scope nm := by first | exact Or.inl rfl | exact Or.inr (Or.inl rfl) | exact Or.inr (Or.inr rfl)) (hf : X.fn nm = true ∨ X.env.scope.names.lookup nm = some .local := by first | exact .inl rfl | exact .inr rfl)
    (hd1 : (nm == ("__debug__" : Str)) = false := by decide) (hd2 : (nm == ("__classdict__" : Str)) = false := by decide)
    (hp : PassesOwn (model X.prog X.w) X.A X.env X.xe := by exact PassesOwn.never) (hc : X.calm = true := by rfl) (hfs : ∀ x, foldedSetIterable (.Name xn pn) X.env x = pure x := by intro _; rfl)
    (hbase : attributeBase (.Name nm py) "append" X.env (eval (.Name nm py) X.env) = eval (.Name nm py) X.env := by rfl)
    (hfew : ((backTo cpos (starEach (e :: []) X.env)).all (fun x => !x.1) && (backToKw cpos (keywordEach [] X.env)).all (fun x => x.1.isSome) && decide ((e :: []).length + ([] : List Keyword).length + (if ([] : List Keyword).isEmpty then 0 else 1) < 30)) = true := by rfl)
    (hline : (apos.endLine == cpos.line) = true := by rfl) (hs : starEach [e] X.env = (false, eval e X.env) :: starEach [] X.env := by rfl) (hplain : (backTo cpos (starEach [] X.env)).any (·.1) = false := by rfl) (hsw : swapsWith (.Call (.Attribute (.Name nm py) "append" apos) [e] [] cpos) none pos2.line X.env = pure false := by rfl) :
    SB B X (.For (.Name nm px) (.Name xn pn) [.Expr (.Call (.Attribute (.Name nm py) "append" apos) [e] [] cpos) pos2] [] pos :: rest) σ G (C0 ++ (u, cl (us.map Hd.mk)) :: inner AA) R P := fun G1 H1 e1 o1 D k1 k2 => by
  have main : WE X (.Name xn pn) σ H1 fun w H2 => ∃ q, w = .ref q ∧ (∃ xs, SqL X.K H2 q xs) ∧ ∃ W : Nat → Nat → L2.St → Hp → Prop, (∃ m, W 0 m σ H2) ∧ ∀ i' m σ H, W i' m σ H →
      ((Itl X.K q).stop i' H ∧ (WS X rest D) σ H) ∨ ((Itl X.K q).go i' H ∧ ∃ N : L2.St → Hp → Prop, (∀ σ' H', N σ' H' → ∃ m', m' < m ∧ W (i' + 1) m' σ' H') ∧ ∀ x H', (Itl X.K q).yld i' H x H' → gName j x σ H' fun σ2 H2 => WS X [.Expr (.Call (.Attribute (.Name nm py) "append" apos) [e] [] cpos) pos2] { ({ D with nx := WS X rest D } : Ends) with nx := N, ct := N, bk := WS X rest D } σ2 H2) := by
    refine hu.we ?_
    have oj := o1.junk0
    obtain ⟨o0, h1, h2, vs, rfl, hzv, r⟩ := o1.at_ _ u _ deep_fst
    have hvs : vs = us.map V.ref := by
      have : ∀ {vs : List V} {us : List Addr}, Reps G1 vs (us.map Hd.mk) → vs = us.map V.ref := by
        intro vs us
        induction us generalizing vs with
        | nil => intro r; cases r; rfl
        | cons u us ih =>
          intro r
          cases r with
          | cons r1 r2 =>
            have r1' : _ = V.ref u := r1
            rw [r1', ih r2]; rfl
      exact this r
    subst hvs
    have hul := d.len
    have uat : ∀ {n : Nat} {G3 H3 : Hp}, On B (C0 ++ (u, cl (us.map Hd.mk)) :: junk n AA) G3 H3 → H3 u = some (.lst (us.map V.ref)) := fun {n G3 H3} o => by
      obtain ⟨o0, q1, q2, vs, rfl, q3, r⟩ := o.at_ C0.length u (cl (us.map Hd.mk)) (by rw [List.getElem?_append_right (Nat.le_refl _), Nat.sub_self]; rfl)
      have : ∀ {vs : List V} {us : List Addr}, Reps G3 vs (us.map Hd.mk) → vs = us.map V.ref := by
        intro vs us
        induction us generalizing vs with
        | nil => intro r; cases r; rfl
        | cons u us ih =>
          intro r
          cases r with
          | cons r1 r2 =>
            have r1' : _ = V.ref u := r1
            rw [r1', ih r2]; rfl
      rw [q1, this r]
    refine ⟨u, rfl, ⟨_, .inl (.inl h1)⟩, ?_⟩
    have wk : Walk (Itl X.K u) (us.map V.ref).length (fun H => SqL X.K H u (us.map V.ref)) _ := walk_list
    refine for_it wk (D := { D with nx := WS X rest D }) (tb := WS X [.Expr (.Call (.Attribute (.Name nm py) "append" apos) [e] [] cpos) pos2]) (g := gName j) (fun n σ' H => ∃ G3 t, Ex G1 G3 ∧ σ' = σ.set j t ∧ On B (C0 ++ (u, cl (us.map Hd.mk)) :: junk n AA) G3 H)
      ⟨G1, (σ[j]?).getD none, Ex.refl _, by rw [List.getElem?_eq_getElem hlen]; simp, oj⟩ (fun n σ' H _ ⟨G3, t, e3, _, o3⟩ => .inl (.inl (uat o3))) ?_ ?_
    · rintro n v' σ' H0 H hn ⟨G3, t, e3, rfl, o3⟩ ⟨rfl, hv⟩
      rw [List.getElem?_map] at hv
      obtain ⟨q, hq, rfl⟩ := Option.map_eq_some_iff.mp hv
      rw [List.length_map] at hn
      have hln : n < l.length := by rw [← hul]; exact hn
      obtain ⟨z, hzz⟩ : ∃ z, l[n]? = some z := ⟨_, List.getElem?_eq_getElem hln⟩
      obtain ⟨tt, htt⟩ := List.mem_iff_getElem?.mp (d.mem n q z hq hzz)
      show WS X _ _ ((σ.set j t).set j (some (.ref q))) H
      rw [List.set_set]
      have hvar : AtVar X (σ.set j (some (.ref q))) nm q := ⟨j, hj, by rw [List.getElem?_set_self hlen], hvis, hd1, hd2⟩
      have hqc : (C0 ++ (u, cl (us.map Hd.mk)) :: junk n AA)[C0.length + (tt + 1)]? = some (q, jk (z.length + n)) := by
        rw [List.getElem?_append_right (by omega), show C0.length + (tt + 1) - C0.length = tt + 1 by omega, List.getElem?_cons_succ]
        show (AA.map fun p => (p.1, jk (p.2.length + n)))[tt]? = _
        rw [List.getElem?_map, htt]
        rfl
      obtain ⟨ob, b1, b2, ws, rfl, b3⟩ := o3.at_ _ q _ hqc
      refine ⟨_, pss_cons (ps_expr (pe_bm PySem.F.plainAttrs_list PySem.F.slot_list_append PySem.F.type_list_append (name := "append") mt_append WE.pe (pa_cons WE.pe pa_nil hs) hbase hfew hline hs hplain) hsw) pss_nil, hvar.we ?_⟩
      refine ⟨.inl ⟨rfl, ws, .inl (.inl b1)⟩, he _ G3 (e1.trans e3) G3 H (Ex.refl _) o3.ex _ fun w G4 H4 g4 rw => ?_⟩
      have o4 := o3.grow g4
      have b4 : H4 q = some (.lst ws) := g4.hh _ _ b1
      have hzn := hz z (List.mem_of_getElem? hzz)
      exact ⟨q, ws, w, rfl, rfl, b4, by omega, G4, some (.ref q), e3.trans g4.gg, rfl, o4.junkS htt b4 b3⟩
    · rintro σ' H ⟨G3, t, e3, rfl, o3⟩
      rw [List.length_map, hul] at o3
      have o4 : On B (C0 ++ (u, jk l.length) :: junk l.length AA) G3 H := by
        refine o3.weak (by rw [List.map_append, List.map_append, List.map_cons, List.map_cons]) fun i v c' hi => ?_
        rw [List.getElem?_append] at hi
        by_cases hl : i < C0.length
        · rw [if_pos hl] at hi
          exact ⟨c', by rw [List.getElem?_append_left hl]; exact hi, fun _ q => q⟩
        · rw [if_neg hl] at hi
          rw [List.getElem?_append_right (by omega)]
          cases hq : i - C0.length with
          | zero =>
            rw [hq] at hi
            cases hi
            exact ⟨_, rfl, fun o ⟨ws, q1, q2, q3⟩ => ⟨ws, q1, by rw [q3.len, List.length_map, hul]; exact Nat.le_refl _⟩⟩
          | succ t =>
            rw [hq] at hi
            exact ⟨c', hi, fun _ q => q⟩
      exact kk t G3 (e1.trans e3) G3 H (Ex.refl _) o4 D k1 fun σ5 G5 H5 C5 e5 o5 p5 => k2 σ5 G5 H5 C5 (e3.trans e5) o5 p5
  exact ⟨_, pss_cons (ps_for hp hc (pi_list WE.pe) (pg_name hN hj hx hf) WS.pss hfs) WS.pss, main⟩
/-- told.append(..) of what is spoilt -/
theorem sb_junkApp {xn : Str} {u : Addr} {n : Nat} {y : β} {cpos apos : Pos} (i : Nat) (hu : AtVar X σ xn u) (he : DE X e σ G y) (hi : C[i]? = some (u, jk n)) (hz : n < sizeLine) (k : ∀ G', Ex G G' → SB B X rest σ G' (C.set i (u, jk (n + 1))) R P)
    (hbase : attributeBase (.Name xn pos') "append" X.env (eval (.Name xn pos') X.env) = eval (.Name xn pos') X.env := by rfl)
    (hfew : ((backTo cpos (starEach (e :: []) X.env)).all (fun x => !x.1) && (backToKw cpos (keywordEach [] X.env)).all (fun x => x.1.isSome) && decide ((e :: []).length + ([] : List Keyword).length + (if ([] : List Keyword).isEmpty then 0 else 1) < 30)) = true := by rfl)
    (hline : (apos.endLine == cpos.line) = true := by rfl) (hs : starEach [e] X.env = (false, eval e X.env) :: starEach [] X.env := by rfl) (hplain : (backTo cpos (starEach [] X.env)).any (·.1) = false := by rfl) (hsw : swapsWith (.Call (.Attribute (.Name xn pos') "append" apos) [e] [] cpos) none pos.line X.env = pure false := by rfl) :
    SB B X (.Expr (.Call (.Attribute (.Name xn pos') "append" apos) [e] [] cpos) pos :: rest) σ G C R P := fun G1 H1 e1 o1 D k1 k2 =>
  ⟨_, pss_cons (ps_expr (pe_bm PySem.F.plainAttrs_list PySem.F.slot_list_append PySem.F.type_list_append (name := "append") mt_append WE.pe (pa_cons WE.pe pa_nil hs) hbase hfew hline hs hplain) hsw) WS.pss, hu.we (by
    obtain ⟨ob, h1, h2, vs, rfl, hz0⟩ := o1.at_ i u _ hi
    refine ⟨.inl ⟨rfl, vs, .inl (.inl h1)⟩, he G1 H1 e1 o1.ex _ fun w G2 H2 g2 rw => ?_⟩
    have o2 := o1.grow g2
    have h3 := g2.hh _ _ h1
    refine ⟨u, vs, w, rfl, rfl, h3, by omega, ?_⟩
    refine k G2 (e1.trans g2.gg) G2 _ (Ex.refl _) (o2.put hi ⟨_, rfl, by rw [List.length_append, List.length_singleton]; omega⟩) D k1 fun σ3 G3 H3 C3 e3 o3 p3 => k2 σ3 G3 H3 C3 (g2.gg.trans e3) o3 p3)⟩
theorem set_mid {u : Addr} {c c' : Cont} {S : Cs} : (C0 ++ (u, c) :: S).set C0.length (u, c') = C0 ++ (u, c') :: S := by
  rw [List.set_append_right _ _ (Nat.le_refl _), Nat.sub_self]
  rfl
end
end Dn

namespace Dn
open Dn.Rep (rep)
open PySem L2
theorem frs_get {α : Type} {Hb : Hp} {l : List α} {i : Nat} {y : α} (h : (frs Hb l)[i]? = some ⟨y⟩) : l[i]? = some y := by
  unfold frs at h
  rw [List.getElem?_map] at h
  obtain ⟨z, hz, e⟩ := Option.map_eq_some_iff.mp h
  cases e
  exact hz
section
variable {B : Bs} {X : Cx} {α β γ δ A : Type} [Rep α] [Rep β] [Rep γ] [Rep δ] [Args A] {e a b c tg iter elt : Expr} {es : List Expr} {σ : L2.St} {G G' : Hp} {C C' C0 C1 C2 C3 : Cs} {pos pos' p2 p pos2 : Pos} {x : Str} {f : Addr} {lvl k : Nat} {ps : List Str} {rest sts : List Stmt} {R : VK → Prop} {P : L2.St → Hp → Cs → Prop}
/-- sorted(set(xs)), fewer than 64 of them apart -/
theorem do_sortSetB {p3 p4 : Pos} {l : List Str} (hm1 : X.mg ("sorted" : Str) = none) (hm : X.mg ("set" : Str) = none) (hc : X.calm = true) (ha : DE X a σ G l) (hl : l.length < 4000 ∧ (ddp l).length < 64) (hg1 : Gl X "sorted" := by rfl) (hg : Gl X "set" := by rfl)
    (he : starEach [a] X.env = (false, eval a X.env) :: starEach [] X.env := by rfl) (hpl : (backTo p3 (starEach [] X.env)).any (·.1) = false := by rfl)
    (he2 : starEach [.Call (.Name "set" p2) [a] [] p3] X.env = (false, eval (.Call (.Name "set" p2) [a] [] p3) X.env) :: starEach [] X.env := by rfl) (hpl2 : (backTo pos (starEach [] X.env)).any (·.1) = false := by rfl) :
    DO X (.Call (.Name "sorted" p) [.Call (.Name "set" p2) [a] [] p3] [] pos) σ G (srt (ddp l)) := fun G1 H1 e1 e2 Q k =>
  ⟨_, pe_callB (TX.cr_sortSetS hc) hg1 hm1 (by decide +kernel) (pa_cons WE.pe pa_nil he2) (by decide) (by decide) he2 hpl2, we_set hm hc (ha.mono e1) e2 hl.1 (fun q L G2 H2 g hq pm hw => by
    have l1 := hl.2
    have l2 := pm.length_eq
    refine ⟨q, L, rfl, upd_same, pm.nodup_iff.mpr (ddp_nodup l), by omega, fun ys s hpm hs hn => ?_⟩
    have eq : ys = srt (ddp l) := srt_of (hpm.trans pm) hs
    subst eq
    have g2 := g.and (Gr.own (M := []) (o := TX.SetTO X.w q L) g.gh hq)
    exact k s _ G2 _ (g2.and (Gr.own (M := []) g2.gh hn)) (g2.dom _ hn) (Ex.fresh g2.gh hn) upd_same (by rw [List.length_map, srt_len, sizeLine_eq]; omega) (strs_reps fun x hx => hw x (mem_ddp.mp (mem_srt.mp hx)))) hg he hpl⟩
theorem dc_inE [Dat α] [DecidableEq α] {y : α} {l : List α} {z : Bool} {k : Nat} (hr : Room k X.A) (ha : DE X a σ G y) (hb : DE X b σ G l) (hz : z = true ↔ y ∈ l := by simp) (hd : Dat.dep α ≤ 60 := by decide) (hm : behindInMarks .In b = false := by rfl) : DC X .In a b σ G z :=
  (dc_inD hr ha hb hd hm).cast (by rw [Bool.eq_iff_iff, decide_eq_true_iff, hz])
theorem dc_ninE [Dat α] [DecidableEq α] {y : α} {l : List α} {z : Bool} {k : Nat} (hr : Room k X.A) (ha : DE X a σ G y) (hb : DE X b σ G l) (hz : z = true ↔ y ∉ l := by simp) (hd : Dat.dep α ≤ 60 := by decide) (hm : behindInMarks .NotIn b = false := by rfl) : DC X .NotIn a b σ G z :=
  (dc_ninD hr ha hb hd hm).cast (by rw [Bool.eq_iff_iff, hz]; simp)
theorem ty_pair {K : PySem.W.Frag} (x : α × β) : ∀ G H v, Ex G H → rep G v x → TyOf K H v (.type "tuple") := fun G H v e r => by
  obtain ⟨p, u, w, rfl, hp, _⟩ := r
  exact .tup (e _ _ hp)
theorem ty_tup {K : PySem.W.Frag} (x : Tup A) : ∀ G H v, Ex G H → rep G v x → TyOf K H v (.type "tuple") := fun G H v e r => by
  obtain ⟨p, vs, rfl, hp, _⟩ := r
  exact .tup (e _ _ hp)
theorem ty_tl {K : PySem.W.Frag} (x : TL α) : ∀ G H v, Ex G H → rep G v x → TyOf K H v (.type "tuple") := fun G H v e r => by
  obtain ⟨p, vs, rfl, hp, _⟩ := r
  exact .tup (e _ _ hp)
theorem de_lenPair {x : α × β} (hm : X.mg ("len" : Str) = none) (ha : DE X a σ G x) (hg : Gl X "len" := by rfl)
    (he : starEach [a] X.env = (false, eval a X.env) :: starEach [] X.env := by rfl) (hpl : (backTo pos (starEach [] X.env)).any (·.1) = false := by rfl) : DE X (.Call (.Name "len" p) [a] [] pos) σ G (2 : Int) :=
  de_callB call_len_seq (fun G H u e r1 Q k => by
    obtain ⟨p, u, w, rfl, hp, _⟩ := r1
    exact ⟨p, _, rfl, .inr (.inl (.inl (e _ _ hp))), k _ G H (Gr.refl e) rfl⟩) hm ha hg (by decide +kernel) (by decide) (by decide) he hpl
theorem de_lenTup [HLen A] {x : Tup A} {n : Int} (hm : X.mg ("len" : Str) = none) (ha : DE X a σ G x) (hn : (HLen.n A : Int) = n := by rfl) (hg : Gl X "len" := by rfl)
    (he : starEach [a] X.env = (false, eval a X.env) :: starEach [] X.env := by rfl) (hpl : (backTo pos (starEach [] X.env)).any (·.1) = false := by rfl) : DE X (.Call (.Name "len" p) [a] [] pos) σ G n :=
  de_callB call_len_seq (fun G H u e r1 Q k => by
    obtain ⟨p, vs, rfl, hp, r⟩ := r1
    refine ⟨p, _, rfl, .inr (.inl (.inl (e _ _ hp))), k _ G H (Gr.refl e) ?_⟩
    show V.int _ = V.int n
    rw [HLen.len r, hn]) hm ha hg (by decide +kernel) (by decide) (by decide) he hpl
theorem de_lenTL {x : TL α} (hm : X.mg ("len" : Str) = none) (ha : DE X a σ G x) (hg : Gl X "len" := by rfl)
    (he : starEach [a] X.env = (false, eval a X.env) :: starEach [] X.env := by rfl) (hpl : (backTo pos (starEach [] X.env)).any (·.1) = false := by rfl) : DE X (.Call (.Name "len" p) [a] [] pos) σ G (x.l.length : Int) :=
  de_callB call_len_seq (fun G H u e r1 Q k => by
    obtain ⟨p, vs, rfl, hp, _, r⟩ := r1
    refine ⟨p, _, rfl, .inr (.inl (.inl (e _ _ hp))), k _ G H (Gr.refl e) ?_⟩
    show V.int _ = V.int _
    rw [r.len]) hm ha hg (by decide +kernel) (by decide) (by decide) he hpl
/-- a call that changes a list which nobody else has -/
theorem so_callUT {pre : List β → A → Prop} {g : List β → A → List δ × List β} {y : A} {l : List β} {z : List δ} (F : Has X.prog X.w X.K X.mg X.base x f lvl ps (SpU kO pre g)) (hr : Rm k X.A) (h0 : SO B X e σ G C l C1) (ha : DA X es σ G y) (hp : pre l y) (hz : (g l y).1 = z := by rfl)
    (hl : lvl ≤ k := by decide) (hg : Gl X x := by rfl) (hdb : (x == ("__debug__" : Str)) = false := by decide) (he : starEach (e :: es) X.env = (false, eval e X.env) :: starEach es X.env := by rfl) (hpl : (backTo pos (starEach es X.env)).any (·.1) = false := by rfl) :
    SO B X (.Call (.Name x p) (e :: es) [] pos) σ G C z C1 := fun G1 H1 e1 o Q k => by
  subst hz
  refine we_call F hr ⟨_, pa_cons WE.pe WA.pa he, h0 G1 H1 e1 o _ fun u G2 H2 e2 o2 hB => ha G2 H2 (e1.trans e2) o2.ex _ fun vs G3 H3 g3 r => ?_⟩ hl hg hdb he hpl
  have o3 := o2.grow g3
  have hi : (C1 ++ [(u, cl l)])[C1.length]? = some (u, cl l) := by simp
  obtain ⟨ob, h1, h2, h3⟩ := o3.at_ _ u _ hi
  refine ⟨G3, u, l, y, vs, rfl, o3.ex, h2, ⟨ob, h1, h3⟩, r, hp, fun w G4 H4 g4 ⟨ob', h4, h5⟩ ⟨q, ew, n1, n2, o', h6, h7⟩ => ?_⟩
  subst ew
  have oo := o3.chg hi g4 h4 h5
  have o5 : On B C1 G4 H4 := by
    have w := oo.first C1.length
    rw [List.set_append_right _ _ (Nat.le_refl _), Nat.sub_self, List.take_left'] at w
    · exact w
    · rfl
  refine k q G4 H4 (e2.trans (g3.gg.trans g4.gg)) (o5.add h6 n2 h7 (.inr (o3.gr.dom _ n1)) fun j v d hj e => ?_) (o3.gr.dom _ n1)
  have hj' : (C1 ++ [(u, cl l)])[j]? = some (v, d) := by
    rw [List.getElem?_append_left (List.getElem?_eq_some_iff.mp hj).1]; exact hj
  obtain ⟨ob2, q1, _⟩ := o3.at_ j v d hj'
  rw [e, n1] at q1
  cases q1
end
end Dn


namespace Pf
open Dn.Rep (rep)
open PySem PySem.Spec PyProof.Rows L2 Dn
def top (i : Nat) : Stmt := PySem.Challenge.pw_panelfairs_k61_whole_several_cards_and_l.main.body.getD i (.Pass ⟨0, 0, 0, 0⟩)
abbrev s_is_name : Stmt := top 8
abbrev s_is_whole : Stmt := top 9
abbrev s_is_count : Stmt := top 10
abbrev s_are_names : Stmt := top 11
abbrev s_are_entries : Stmt := top 12
abbrev s_is_ascending : Stmt := top 13
abbrev s_is_lot : Stmt := top 14
abbrev s_is_field : Stmt := top 15
abbrev s_is_entry : Stmt := top 16
abbrev s_check_entries : Stmt := top 17
abbrev s_check_field : Stmt := top 18
abbrev s_check_entry : Stmt := top 19
abbrev s_is_part : Stmt := top 21
abbrev s_least_of : Stmt := top 22
abbrev s_is_steward : Stmt := top 24
abbrev s_check_stewards : Stmt := top 25
abbrev s_several_cards : Stmt := top 26
abbrev s_lots_of_size : Stmt := top 27
abbrev s_lots_by : Stmt := top 28
abbrev s_lots_for : Stmt := top 29
abbrev s_several_lots : Stmt := top 30
abbrev s__law_purse : Stmt := top 32
abbrev s__law_mixed : Stmt := top 33
abbrev s__law_draw : Stmt := top 34
abbrev s__law_purses : Stmt := top 35
abbrev s__law_one_of : Stmt := top 36
abbrev s__law_shuffled : Stmt := top 37
abbrev s__law_word : Stmt := top 38
abbrev s__law_names : Stmt := top 39
abbrev s__law_fields : Stmt := top 40
abbrev s__law_is_part : Stmt := top 41
abbrev s__law_least : Stmt := top 42
abbrev s__law_wide_names : Stmt := top 43
abbrev s__law_stewards : Stmt := top 44
abbrev s__law_named_by : Stmt := top 45
abbrev s__law_several_lots : Stmt := top 46
abbrev s__law_right : Stmt := top 47
abbrev s_law : Stmt := top 48
abbrev R : PySem.W.OpenRow := PySem.W.OpenLaw.row PySem.Challenge.rw_panelfairs_k61_whole_several_cards_and_l
def fn : List He.DefD := (([⟨("is_name", none), "is_name", "is_name", defArgs (top 8), defBody (top 8), defScope (top 8), [], []⟩, ⟨("is_whole", none), "is_whole", "is_whole", defArgs (top 9), defBody (top 9), defScope (top 9), [], []⟩, ⟨("is_count", none), "is_count", "is_count", defArgs (top 10), defBody (top 10), defScope (top 10), [], []⟩, ⟨("are_names", none), "are_names", "are_names", defArgs (top 11), defBody (top 11), defScope (top 11), [], []⟩, ⟨("are_entries", none), "are_entries", "are_entries", defArgs (top 12), defBody (top 12), defScope (top 12), [], []⟩, ⟨("is_ascending", none), "is_ascending", "is_ascending", defArgs (top 13), defBody (top 13), defScope (top 13), [], []⟩, ⟨("is_lot", none), "is_lot", "is_lot", defArgs (top 14), defBody (top 14), defScope (top 14), [], []⟩, ⟨("is_field", none), "is_field", "is_field", defArgs (top 15), defBody (top 15), defScope (top 15), [], []⟩, ⟨("is_entry", none), "is_entry", "is_entry", defArgs (top 16), defBody (top 16), defScope (top 16), [], []⟩, ⟨("check_entries", none), "check_entries", "check_entries", defArgs (top 17), defBody (top 17), defScope (top 17), [], []⟩, ⟨("check_field", none), "check_field", "check_field", defArgs (top 18), defBody (top 18), defScope (top 18), [], []⟩, ⟨("check_entry", none), "check_entry", "check_entry", defArgs (top 19), defBody (top 19), defScope (top 19), [], []⟩, ⟨("is_part", none), "is_part", "is_part", defArgs (top 21), defBody (top 21), defScope (top 21), [], []⟩, ⟨("least_of", none), "least_of", "least_of", defArgs (top 22), defBody (top 22), defScope (top 22), [], []⟩, ⟨("is_steward", none), "is_steward", "is_steward", defArgs (top 24), defBody (top 24), defScope (top 24), [], []⟩, ⟨("check_stewards", none), "check_stewards", "check_stewards", defArgs (top 25), defBody (top 25), defScope (top 25), [], []⟩, ⟨("several_cards", none), "several_cards", "several_cards", defArgs (top 26), defBody (top 26), defScope (top 26), [], []⟩, ⟨("lots_of_size", none), "lots_of_size", "lots_of_size", defArgs (top 27), defBody (top 27), defScope (top 27), [], []⟩, ⟨("lots_by", none), "lots_by", "lots_by", defArgs (top 28), defBody (top 28), defScope (top 28), [], []⟩, ⟨("lots_for", none), "lots_for", "lots_for", defArgs (top 29), defBody (top 29), defScope (top 29), [], []⟩, ⟨("several_lots", none), "several_lots", "several_lots", defArgs (top 30), defBody (top 30), defScope (top 30), [], []⟩, ⟨("_law_purse", none), "_law_purse", "_law_purse", defArgs (top 32), defBody (top 32), defScope (top 32), [], []⟩, ⟨("_law_mixed", none), "_law_mixed", "_law_mixed", defArgs (top 33), defBody (top 33), defScope (top 33), [], []⟩, ⟨("_law_draw", none), "_law_draw", "_law_draw", defArgs (top 34), defBody (top 34), defScope (top 34), [], []⟩, ⟨("_law_purses", none), "_law_purses", "_law_purses", defArgs (top 35), defBody (top 35), defScope (top 35), [], []⟩, ⟨("_law_one_of", none), "_law_one_of", "_law_one_of", defArgs (top 36), defBody (top 36), defScope (top 36), [], []⟩, ⟨("_law_shuffled", none), "_law_shuffled", "_law_shuffled", defArgs (top 37), defBody (top 37), defScope (top 37), [], []⟩, ⟨("_law_word", none), "_law_word", "_law_word", defArgs (top 38), defBody (top 38), defScope (top 38), [], []⟩, ⟨("_law_names", none), "_law_names", "_law_names", defArgs (top 39), defBody (top 39), defScope (top 39), [], []⟩, ⟨("_law_fields", none), "_law_fields", "_law_fields", defArgs (top 40), defBody (top 40), defScope (top 40), [], []⟩] : List He.DefD) ++ ([⟨("_law_is_part", none), "_law_is_part", "_law_is_part", defArgs (top 41), defBody (top 41), defScope (top 41), [], []⟩, ⟨("_law_least", none), "_law_least", "_law_least", defArgs (top 42), defBody (top 42), defScope (top 42), [], []⟩, ⟨("_law_wide_names", none), "_law_wide_names", "_law_wide_names", defArgs (top 43), defBody (top 43), defScope (top 43), [], []⟩, ⟨("_law_stewards", none), "_law_stewards", "_law_stewards", defArgs (top 44), defBody (top 44), defScope (top 44), [], []⟩, ⟨("_law_named_by", none), "_law_named_by", "_law_named_by", defArgs (top 45), defBody (top 45), defScope (top 45), [], []⟩, ⟨("_law_several_lots", none), "_law_several_lots", "_law_several_lots", defArgs (top 46), defBody (top 46), defScope (top 46), [], []⟩, ⟨("_law_right", none), "_law_right", "_law_right", defArgs (top 47), defBody (top 47), defScope (top 47), [], []⟩, ⟨("law", none), "law", "law", defArgs (top 48), defBody (top 48), defScope (top 48), [], []⟩] : List He.DefD))
def fa : List He.Fa := (([.glo "is_name", .glo "is_whole", .glo "is_count", .glo "are_names", .glo "are_entries", .glo "is_ascending", .glo "is_lot", .glo "is_field", .glo "is_entry", .glo "check_entries", .glo "check_field", .glo "check_entry", .glo "is_part", .glo "least_of", .glo "is_steward", .glo "check_stewards", .glo "several_cards", .glo "lots_of_size", .glo "lots_by", .glo "lots_for", .glo "several_lots", .glo "_law_purse", .glo "_law_mixed", .glo "_law_draw", .glo "_law_purses", .glo "_law_one_of", .glo "_law_shuffled", .glo "_law_word", .glo "_law_names", .glo "_law_fields"] : List He.Fa) ++ ([.glo "_law_is_part", .glo "_law_least", .glo "_law_wide_names", .glo "_law_stewards", .glo "_law_named_by", .glo "_law_several_lots", .glo "_law_right", .glo "law", .free "ValueError", .free "bool", .free "enumerate", .free "int", .free "isinstance", .free "len", .free "list", .free "max", .free "min", .free "range", .free "set", .free "sorted", .free "str", .free "sum", .free "super", .free "tuple", .str "LETTERS" "abcdefghijklmnopqrstuvwxyz"] : List He.Fa))
def loose : List Str := ((["ShowError", "InvalidEntries", "InvalidField", "UnknownEntry", "InvalidStewards", "LETTERS", "is_name", "is_whole", "is_count", "are_names", "are_entries", "is_ascending", "is_lot", "is_field", "is_entry", "check_entries", "check_field", "check_entry", "is_part", "least_of", "is_steward", "check_stewards", "several_cards", "lots_of_size", "lots_by", "lots_for", "several_lots", "_law_purse", "_law_mixed", "_law_draw"] : List Str) ++ (["_law_purses", "_law_one_of", "_law_shuffled", "_law_word", "_law_names", "_law_fields", "_law_is_part", "_law_least", "_law_wide_names", "_law_stewards", "_law_named_by", "_law_several_lots", "_law_right"] : List Str))
def exB (K : PySem.W.Frag) : Bool := true
abbrev hk : PySem.W.Hook := hookE 5 fa fn exB
def ob (s : PySem.W.SharedT) : AlE := obsE 5 fa fn exB (HandSHeadRun.getT s)
theorem ob_eq (s : PySem.W.SharedT) : ob s = hk.obs s.abs := obsE_eq (HandSHeadRun.getT_eq s)
theorem run (w : World) : HandSHeadRun.RunEq R (PySem.W.view R.prog [48]) hk ob 6000 loose w := by
  intro os
  kernel_rfl
structure Tx [PC] (K : PySem.W.Frag) (mg : Str → Option Value) : Prop where
  pc : ∀ x, PC.at_ x = He.ga K x
  pk : PC.K = K
  says : SaysE fa fn exB K
  glo : ∀ x, (He.Fa.glo x).ok K = true → mg x = some (.ref (He.ga K x))
  free : ∀ x, (He.Fa.free x).ok K = true → mg x = none
  txt : ∀ x z, (He.Fa.str x z).ok K = true → ∃ t, mg x = some (.str z t)
section
variable [PC] {K : PySem.W.Frag} {mg : Str → Option Value}
theorem d_is_name (T : Tx K mg) : ∃ fd, FunD K "is_name" "is_name" (defArgs s_is_name) (defBody s_is_name) (defScope s_is_name) [] [] (He.ga K "is_name") fd := T.says.d.def_ 0 rfl
theorem d_is_whole (T : Tx K mg) : ∃ fd, FunD K "is_whole" "is_whole" (defArgs s_is_whole) (defBody s_is_whole) (defScope s_is_whole) [] [] (He.ga K "is_whole") fd := T.says.d.def_ 1 rfl
theorem d_is_count (T : Tx K mg) : ∃ fd, FunD K "is_count" "is_count" (defArgs s_is_count) (defBody s_is_count) (defScope s_is_count) [] [] (He.ga K "is_count") fd := T.says.d.def_ 2 rfl
theorem d_are_names (T : Tx K mg) : ∃ fd, FunD K "are_names" "are_names" (defArgs s_are_names) (defBody s_are_names) (defScope s_are_names) [] [] (He.ga K "are_names") fd := T.says.d.def_ 3 rfl
theorem d_are_entries (T : Tx K mg) : ∃ fd, FunD K "are_entries" "are_entries" (defArgs s_are_entries) (defBody s_are_entries) (defScope s_are_entries) [] [] (He.ga K "are_entries") fd := T.says.d.def_ 4 rfl
theorem d_is_ascending (T : Tx K mg) : ∃ fd, FunD K "is_ascending" "is_ascending" (defArgs s_is_ascending) (defBody s_is_ascending) (defScope s_is_ascending) [] [] (He.ga K "is_ascending") fd := T.says.d.def_ 5 rfl
theorem d_is_lot (T : Tx K mg) : ∃ fd, FunD K "is_lot" "is_lot" (defArgs s_is_lot) (defBody s_is_lot) (defScope s_is_lot) [] [] (He.ga K "is_lot") fd := T.says.d.def_ 6 rfl
theorem d_is_field (T : Tx K mg) : ∃ fd, FunD K "is_field" "is_field" (defArgs s_is_field) (defBody s_is_field) (defScope s_is_field) [] [] (He.ga K "is_field") fd := T.says.d.def_ 7 rfl
theorem d_is_entry (T : Tx K mg) : ∃ fd, FunD K "is_entry" "is_entry" (defArgs s_is_entry) (defBody s_is_entry) (defScope s_is_entry) [] [] (He.ga K "is_entry") fd := T.says.d.def_ 8 rfl
theorem d_check_entries (T : Tx K mg) : ∃ fd, FunD K "check_entries" "check_entries" (defArgs s_check_entries) (defBody s_check_entries) (defScope s_check_entries) [] [] (He.ga K "check_entries") fd := T.says.d.def_ 9 rfl
theorem d_check_field (T : Tx K mg) : ∃ fd, FunD K "check_field" "check_field" (defArgs s_check_field) (defBody s_check_field) (defScope s_check_field) [] [] (He.ga K "check_field") fd := T.says.d.def_ 10 rfl
theorem d_check_entry (T : Tx K mg) : ∃ fd, FunD K "check_entry" "check_entry" (defArgs s_check_entry) (defBody s_check_entry) (defScope s_check_entry) [] [] (He.ga K "check_entry") fd := T.says.d.def_ 11 rfl
theorem d_is_part (T : Tx K mg) : ∃ fd, FunD K "is_part" "is_part" (defArgs s_is_part) (defBody s_is_part) (defScope s_is_part) [] [] (He.ga K "is_part") fd := T.says.d.def_ 12 rfl
theorem d_least_of (T : Tx K mg) : ∃ fd, FunD K "least_of" "least_of" (defArgs s_least_of) (defBody s_least_of) (defScope s_least_of) [] [] (He.ga K "least_of") fd := T.says.d.def_ 13 rfl
theorem d_is_steward (T : Tx K mg) : ∃ fd, FunD K "is_steward" "is_steward" (defArgs s_is_steward) (defBody s_is_steward) (defScope s_is_steward) [] [] (He.ga K "is_steward") fd := T.says.d.def_ 14 rfl
theorem d_check_stewards (T : Tx K mg) : ∃ fd, FunD K "check_stewards" "check_stewards" (defArgs s_check_stewards) (defBody s_check_stewards) (defScope s_check_stewards) [] [] (He.ga K "check_stewards") fd := T.says.d.def_ 15 rfl
theorem d_several_cards (T : Tx K mg) : ∃ fd, FunD K "several_cards" "several_cards" (defArgs s_several_cards) (defBody s_several_cards) (defScope s_several_cards) [] [] (He.ga K "several_cards") fd := T.says.d.def_ 16 rfl
theorem d_lots_of_size (T : Tx K mg) : ∃ fd, FunD K "lots_of_size" "lots_of_size" (defArgs s_lots_of_size) (defBody s_lots_of_size) (defScope s_lots_of_size) [] [] (He.ga K "lots_of_size") fd := T.says.d.def_ 17 rfl
theorem d_lots_by (T : Tx K mg) : ∃ fd, FunD K "lots_by" "lots_by" (defArgs s_lots_by) (defBody s_lots_by) (defScope s_lots_by) [] [] (He.ga K "lots_by") fd := T.says.d.def_ 18 rfl
theorem d_lots_for (T : Tx K mg) : ∃ fd, FunD K "lots_for" "lots_for" (defArgs s_lots_for) (defBody s_lots_for) (defScope s_lots_for) [] [] (He.ga K "lots_for") fd := T.says.d.def_ 19 rfl
theorem d_several_lots (T : Tx K mg) : ∃ fd, FunD K "several_lots" "several_lots" (defArgs s_several_lots) (defBody s_several_lots) (defScope s_several_lots) [] [] (He.ga K "several_lots") fd := T.says.d.def_ 20 rfl
theorem d__law_purse (T : Tx K mg) : ∃ fd, FunD K "_law_purse" "_law_purse" (defArgs s__law_purse) (defBody s__law_purse) (defScope s__law_purse) [] [] (He.ga K "_law_purse") fd := T.says.d.def_ 21 rfl
theorem d__law_mixed (T : Tx K mg) : ∃ fd, FunD K "_law_mixed" "_law_mixed" (defArgs s__law_mixed) (defBody s__law_mixed) (defScope s__law_mixed) [] [] (He.ga K "_law_mixed") fd := T.says.d.def_ 22 rfl
theorem d__law_draw (T : Tx K mg) : ∃ fd, FunD K "_law_draw" "_law_draw" (defArgs s__law_draw) (defBody s__law_draw) (defScope s__law_draw) [] [] (He.ga K "_law_draw") fd := T.says.d.def_ 23 rfl
theorem d__law_purses (T : Tx K mg) : ∃ fd, FunD K "_law_purses" "_law_purses" (defArgs s__law_purses) (defBody s__law_purses) (defScope s__law_purses) [] [] (He.ga K "_law_purses") fd := T.says.d.def_ 24 rfl
theorem d__law_one_of (T : Tx K mg) : ∃ fd, FunD K "_law_one_of" "_law_one_of" (defArgs s__law_one_of) (defBody s__law_one_of) (defScope s__law_one_of) [] [] (He.ga K "_law_one_of") fd := T.says.d.def_ 25 rfl
theorem d__law_shuffled (T : Tx K mg) : ∃ fd, FunD K "_law_shuffled" "_law_shuffled" (defArgs s__law_shuffled) (defBody s__law_shuffled) (defScope s__law_shuffled) [] [] (He.ga K "_law_shuffled") fd := T.says.d.def_ 26 rfl
theorem d__law_word (T : Tx K mg) : ∃ fd, FunD K "_law_word" "_law_word" (defArgs s__law_word) (defBody s__law_word) (defScope s__law_word) [] [] (He.ga K "_law_word") fd := T.says.d.def_ 27 rfl
theorem d__law_names (T : Tx K mg) : ∃ fd, FunD K "_law_names" "_law_names" (defArgs s__law_names) (defBody s__law_names) (defScope s__law_names) [] [] (He.ga K "_law_names") fd := T.says.d.def_ 28 rfl
theorem d__law_fields (T : Tx K mg) : ∃ fd, FunD K "_law_fields" "_law_fields" (defArgs s__law_fields) (defBody s__law_fields) (defScope s__law_fields) [] [] (He.ga K "_law_fields") fd := T.says.d.def_ 29 rfl
theorem d__law_is_part (T : Tx K mg) : ∃ fd, FunD K "_law_is_part" "_law_is_part" (defArgs s__law_is_part) (defBody s__law_is_part) (defScope s__law_is_part) [] [] (He.ga K "_law_is_part") fd := T.says.d.def_ 30 rfl
theorem d__law_least (T : Tx K mg) : ∃ fd, FunD K "_law_least" "_law_least" (defArgs s__law_least) (defBody s__law_least) (defScope s__law_least) [] [] (He.ga K "_law_least") fd := T.says.d.def_ 31 rfl
theorem d__law_wide_names (T : Tx K mg) : ∃ fd, FunD K "_law_wide_names" "_law_wide_names" (defArgs s__law_wide_names) (defBody s__law_wide_names) (defScope s__law_wide_names) [] [] (He.ga K "_law_wide_names") fd := T.says.d.def_ 32 rfl
theorem d__law_stewards (T : Tx K mg) : ∃ fd, FunD K "_law_stewards" "_law_stewards" (defArgs s__law_stewards) (defBody s__law_stewards) (defScope s__law_stewards) [] [] (He.ga K "_law_stewards") fd := T.says.d.def_ 33 rfl
theorem d__law_named_by (T : Tx K mg) : ∃ fd, FunD K "_law_named_by" "_law_named_by" (defArgs s__law_named_by) (defBody s__law_named_by) (defScope s__law_named_by) [] [] (He.ga K "_law_named_by") fd := T.says.d.def_ 34 rfl
theorem d__law_several_lots (T : Tx K mg) : ∃ fd, FunD K "_law_several_lots" "_law_several_lots" (defArgs s__law_several_lots) (defBody s__law_several_lots) (defScope s__law_several_lots) [] [] (He.ga K "_law_several_lots") fd := T.says.d.def_ 35 rfl
theorem d__law_right (T : Tx K mg) : ∃ fd, FunD K "_law_right" "_law_right" (defArgs s__law_right) (defBody s__law_right) (defScope s__law_right) [] [] (He.ga K "_law_right") fd := T.says.d.def_ 36 rfl
theorem d_law (T : Tx K mg) : ∃ fd, FunD K "law" "law" (defArgs s_law) (defBody s_law) (defScope s_law) [] [] (He.ga K "law") fd := T.says.d.def_ 37 rfl
theorem g_is_name (T : Tx K mg) : mg "is_name" = some (.ref (He.ga K "is_name")) := T.glo _ (T.says.d.fact 0 rfl)
theorem g_is_whole (T : Tx K mg) : mg "is_whole" = some (.ref (He.ga K "is_whole")) := T.glo _ (T.says.d.fact 1 rfl)
theorem g_is_count (T : Tx K mg) : mg "is_count" = some (.ref (He.ga K "is_count")) := T.glo _ (T.says.d.fact 2 rfl)
theorem g_are_names (T : Tx K mg) : mg "are_names" = some (.ref (He.ga K "are_names")) := T.glo _ (T.says.d.fact 3 rfl)
theorem g_are_entries (T : Tx K mg) : mg "are_entries" = some (.ref (He.ga K "are_entries")) := T.glo _ (T.says.d.fact 4 rfl)
theorem g_is_ascending (T : Tx K mg) : mg "is_ascending" = some (.ref (He.ga K "is_ascending")) := T.glo _ (T.says.d.fact 5 rfl)
theorem g_is_lot (T : Tx K mg) : mg "is_lot" = some (.ref (He.ga K "is_lot")) := T.glo _ (T.says.d.fact 6 rfl)
theorem g_is_field (T : Tx K mg) : mg "is_field" = some (.ref (He.ga K "is_field")) := T.glo _ (T.says.d.fact 7 rfl)
theorem g_is_entry (T : Tx K mg) : mg "is_entry" = some (.ref (He.ga K "is_entry")) := T.glo _ (T.says.d.fact 8 rfl)
theorem g_check_entries (T : Tx K mg) : mg "check_entries" = some (.ref (He.ga K "check_entries")) := T.glo _ (T.says.d.fact 9 rfl)
theorem g_check_field (T : Tx K mg) : mg "check_field" = some (.ref (He.ga K "check_field")) := T.glo _ (T.says.d.fact 10 rfl)
theorem g_check_entry (T : Tx K mg) : mg "check_entry" = some (.ref (He.ga K "check_entry")) := T.glo _ (T.says.d.fact 11 rfl)
theorem g_is_part (T : Tx K mg) : mg "is_part" = some (.ref (He.ga K "is_part")) := T.glo _ (T.says.d.fact 12 rfl)
theorem g_least_of (T : Tx K mg) : mg "least_of" = some (.ref (He.ga K "least_of")) := T.glo _ (T.says.d.fact 13 rfl)
theorem g_is_steward (T : Tx K mg) : mg "is_steward" = some (.ref (He.ga K "is_steward")) := T.glo _ (T.says.d.fact 14 rfl)
theorem g_check_stewards (T : Tx K mg) : mg "check_stewards" = some (.ref (He.ga K "check_stewards")) := T.glo _ (T.says.d.fact 15 rfl)
theorem g_several_cards (T : Tx K mg) : mg "several_cards" = some (.ref (He.ga K "several_cards")) := T.glo _ (T.says.d.fact 16 rfl)
theorem g_lots_of_size (T : Tx K mg) : mg "lots_of_size" = some (.ref (He.ga K "lots_of_size")) := T.glo _ (T.says.d.fact 17 rfl)
theorem g_lots_by (T : Tx K mg) : mg "lots_by" = some (.ref (He.ga K "lots_by")) := T.glo _ (T.says.d.fact 18 rfl)
theorem g_lots_for (T : Tx K mg) : mg "lots_for" = some (.ref (He.ga K "lots_for")) := T.glo _ (T.says.d.fact 19 rfl)
theorem g_several_lots (T : Tx K mg) : mg "several_lots" = some (.ref (He.ga K "several_lots")) := T.glo _ (T.says.d.fact 20 rfl)
theorem g__law_purse (T : Tx K mg) : mg "_law_purse" = some (.ref (He.ga K "_law_purse")) := T.glo _ (T.says.d.fact 21 rfl)
theorem g__law_mixed (T : Tx K mg) : mg "_law_mixed" = some (.ref (He.ga K "_law_mixed")) := T.glo _ (T.says.d.fact 22 rfl)
theorem g__law_draw (T : Tx K mg) : mg "_law_draw" = some (.ref (He.ga K "_law_draw")) := T.glo _ (T.says.d.fact 23 rfl)
theorem g__law_purses (T : Tx K mg) : mg "_law_purses" = some (.ref (He.ga K "_law_purses")) := T.glo _ (T.says.d.fact 24 rfl)
theorem g__law_one_of (T : Tx K mg) : mg "_law_one_of" = some (.ref (He.ga K "_law_one_of")) := T.glo _ (T.says.d.fact 25 rfl)
theorem g__law_shuffled (T : Tx K mg) : mg "_law_shuffled" = some (.ref (He.ga K "_law_shuffled")) := T.glo _ (T.says.d.fact 26 rfl)
theorem g__law_word (T : Tx K mg) : mg "_law_word" = some (.ref (He.ga K "_law_word")) := T.glo _ (T.says.d.fact 27 rfl)
theorem g__law_names (T : Tx K mg) : mg "_law_names" = some (.ref (He.ga K "_law_names")) := T.glo _ (T.says.d.fact 28 rfl)
theorem g__law_fields (T : Tx K mg) : mg "_law_fields" = some (.ref (He.ga K "_law_fields")) := T.glo _ (T.says.d.fact 29 rfl)
theorem g__law_is_part (T : Tx K mg) : mg "_law_is_part" = some (.ref (He.ga K "_law_is_part")) := T.glo _ (T.says.d.fact 30 rfl)
theorem g__law_least (T : Tx K mg) : mg "_law_least" = some (.ref (He.ga K "_law_least")) := T.glo _ (T.says.d.fact 31 rfl)
theorem g__law_wide_names (T : Tx K mg) : mg "_law_wide_names" = some (.ref (He.ga K "_law_wide_names")) := T.glo _ (T.says.d.fact 32 rfl)
theorem g__law_stewards (T : Tx K mg) : mg "_law_stewards" = some (.ref (He.ga K "_law_stewards")) := T.glo _ (T.says.d.fact 33 rfl)
theorem g__law_named_by (T : Tx K mg) : mg "_law_named_by" = some (.ref (He.ga K "_law_named_by")) := T.glo _ (T.says.d.fact 34 rfl)
theorem g__law_several_lots (T : Tx K mg) : mg "_law_several_lots" = some (.ref (He.ga K "_law_several_lots")) := T.glo _ (T.says.d.fact 35 rfl)
theorem g__law_right (T : Tx K mg) : mg "_law_right" = some (.ref (He.ga K "_law_right")) := T.glo _ (T.says.d.fact 36 rfl)
theorem g_law (T : Tx K mg) : mg "law" = some (.ref (He.ga K "law")) := T.glo _ (T.says.d.fact 37 rfl)
theorem b_ValueError (T : Tx K mg) : mg "ValueError" = none := T.free _ (T.says.d.fact 38 rfl)
theorem b_bool (T : Tx K mg) : mg "bool" = none := T.free _ (T.says.d.fact 39 rfl)
theorem b_enumerate (T : Tx K mg) : mg "enumerate" = none := T.free _ (T.says.d.fact 40 rfl)
theorem b_int (T : Tx K mg) : mg "int" = none := T.free _ (T.says.d.fact 41 rfl)
theorem b_isinstance (T : Tx K mg) : mg "isinstance" = none := T.free _ (T.says.d.fact 42 rfl)
theorem b_len (T : Tx K mg) : mg "len" = none := T.free _ (T.says.d.fact 43 rfl)
theorem b_list (T : Tx K mg) : mg "list" = none := T.free _ (T.says.d.fact 44 rfl)
theorem b_max (T : Tx K mg) : mg "max" = none := T.free _ (T.says.d.fact 45 rfl)
theorem b_min (T : Tx K mg) : mg "min" = none := T.free _ (T.says.d.fact 46 rfl)
theorem b_range (T : Tx K mg) : mg "range" = none := T.free _ (T.says.d.fact 47 rfl)
theorem b_set (T : Tx K mg) : mg "set" = none := T.free _ (T.says.d.fact 48 rfl)
theorem b_sorted (T : Tx K mg) : mg "sorted" = none := T.free _ (T.says.d.fact 49 rfl)
theorem b_str (T : Tx K mg) : mg "str" = none := T.free _ (T.says.d.fact 50 rfl)
theorem b_sum (T : Tx K mg) : mg "sum" = none := T.free _ (T.says.d.fact 51 rfl)
theorem b_super (T : Tx K mg) : mg "super" = none := T.free _ (T.says.d.fact 52 rfl)
theorem b_tuple (T : Tx K mg) : mg "tuple" = none := T.free _ (T.says.d.fact 53 rfl)
theorem t_LETTERS (T : Tx K mg) : ∃ t, mg "LETTERS" = some (.str "abcdefghijklmnopqrstuvwxyz" t) := T.txt _ _ (T.says.d.fact 54 rfl)
end
end Pf

namespace Pf
open Dn.Rep (rep)
open PySem L2 Dn
noncomputable section
variable [PC] {P : Program} {w : World} {K : PySem.W.Frag} {mg : Str → Option Value} {base : Heap}
abbrev N_is_name : List Str := ["value", "sign"]
def m_is_name_1 (x_value : Str) : Bool := false
def ok_is_name_1 (x_value : Str) : Prop := True
def m_is_name_2 (x_value : Str) : Bool := decide (((signs x_value).filter fun y4 => (!decide (y4.c ∈ ("abcdefghijklmnopqrstuvwxyz" : Str).cps.toList))) = ([] : List Sign))
def ok_is_name_2 (x_value : Str) : Prop := True
def m_is_name_0 (x_value : Str) : Bool := if ((!true) || (decide ((x_value.length : Int) < (1 : Int)) || decide ((8 : Int) < (x_value.length : Int)))) = true then m_is_name_1 x_value else m_is_name_2 x_value
def ok_is_name_0 (x_value : Str) : Prop := (((!true) || (decide ((x_value.length : Int) < (1 : Int)) || decide ((8 : Int) < (x_value.length : Int)))) = true → ok_is_name_1 x_value) ∧ (((!true) || (decide ((x_value.length : Int) < (1 : Int)) || decide ((8 : Int) < (x_value.length : Int)))) = false → ok_is_name_2 x_value)
def m_is_name (x_value : Str) : Bool := m_is_name_0 x_value
def ok_is_name (x_value : Str) : Prop := ok_is_name_0 x_value
theorem h_is_name (T : Tx K mg) : Has P w K mg base "is_name" (He.ga K "is_name") 1 ["value"] (SpN kD (fun (a : Str × Unit) => ok_is_name a.1) (fun a => m_is_name a.1)) := by
  have sc : FnScope N_is_name ["value"] (defScope s_is_name) := ⟨rfl, rfl, rfl, by decide +kernel, rfl, by decide +kernel, by decide +kernel⟩
  refine has_D (d_is_name T) (g_is_name T) sc (fun _ _ _ _ _ _ us hl => match us, hl with | [_], _ => rfl) (by rintro a G vs ⟨v_value, _, rfl, r_value, rfl⟩; rfl) ?_
  rintro X ⟨cdv, AA, outer, ss, HH, EE, rfl⟩ hr B vs ⟨x_value, ⟨⟩⟩ G0 hB ⟨v_value, _, rfl, r_value, rfl⟩ hok
  replace hok : ok_is_name_0 x_value := hok
  show SJ B _ _ [some v_value, none] G0 [] (JD B []) (m_is_name_0 x_value)
  obtain ⟨hokA, hokB⟩ := hok
  refine sj_whenX (DT.st (DW.dt (dw_or (dt_not (dt_val (de_isTy (b_isinstance T) (b_str T) (de_var 0 r_value) (ty_str _) (kit_same "str")))) fun h2 => dw_or (DC.dt (dc_lt (de_lenSI (b_len T) (de_var 0 r_value)) de_int)) fun h1 => dw_or1 (DC.dt (dc_gt (de_lenSI (b_len T) (de_var 0 r_value)) de_int))))) (fun h3 => ?_) (fun h3 => ?_)
  · have hok := hokA h3; clear hokA hokB
    show SJ B _ _ [some v_value, none] G0 [] (JX (JD B [])) (m_is_name_1 x_value)
    exact sb_ret 0 (DE.se de_bl)
  · have hok := hokB h3; clear hokA hokB
    show SJ B _ _ [some v_value, none] G0 [] (JD B []) (m_is_name_2 x_value)
    exact sb_ret 0 (DE.se (DC.de (dc_eq hr.units (DO.de (do_lc (lc_fil (fun y4 => (!decide (y4.c ∈ ("abcdefghijklmnopqrstuvwxyz" : Str).cps.toList))) sc.nd rfl (di_str (de_var 0 r_value)) (blkOk_by (own := [("sign", 1)]) (N := N_is_name) (sc := _) (by first | decide +kernel | rfl)) rfl (dg_name sc.nd) (by intro i_ y4 σ_ G_ hy_ eG_ hT_; obtain ⟨v_y4, q_y4, rfl⟩ := hT_; have r_value := Rep.mono eG_ r_value; intro Y_ hY_; have hr := InBlk.room hY_ hr; obtain ⟨⟨s_, H_, C_, cl_, fp_, rfl⟩⟩ := hY_; exact df_one (DC.dt (dc_ninSign (de_var 1 q_y4) (de_gstr (t_LETTERS T))))) (by intro i_ y4 σ_ G_ hy_ eG_ hT_ hf_; obtain ⟨v_y4, q_y4, rfl⟩ := hT_; have r_value := Rep.mono eG_ r_value; intro Y_ hY_; have hr := InBlk.room hY_ hr; obtain ⟨⟨s_, H_, C_, cl_, fp_, rfl⟩⟩ := hY_; exact de_var 1 q_y4)))) (DO.de (do_list (hl := (by decide : (0 : Nat) ≤ sizeLine)) (des_nil (α := Sign)))))))

abbrev N_is_whole : List Str := ["value"]
def m_is_whole_0 (x_value : Int) : Bool := (true && (!false))
def ok_is_whole_0 (x_value : Int) : Prop := True
def m_is_whole (x_value : Int) : Bool := m_is_whole_0 x_value
def ok_is_whole (x_value : Int) : Prop := ok_is_whole_0 x_value
theorem h_is_whole (T : Tx K mg) : Has P w K mg base "is_whole" (He.ga K "is_whole") 1 ["value"] (SpN kD (fun (a : Int × Unit) => ok_is_whole a.1) (fun a => m_is_whole a.1)) := by
  have sc : FnScope N_is_whole ["value"] (defScope s_is_whole) := ⟨rfl, rfl, rfl, by decide +kernel, rfl, by decide +kernel, by decide +kernel⟩
  refine has_D (d_is_whole T) (g_is_whole T) sc (fun _ _ _ _ _ _ us hl => match us, hl with | [_], _ => rfl) (by rintro a G vs ⟨v_value, _, rfl, r_value, rfl⟩; rfl) ?_
  rintro X ⟨cdv, AA, outer, ss, HH, EE, rfl⟩ hr B vs ⟨x_value, ⟨⟩⟩ G0 hB ⟨v_value, _, rfl, r_value, rfl⟩ hok
  replace hok : ok_is_whole_0 x_value := hok
  show SJ B _ _ [some v_value] G0 [] (JD B []) (m_is_whole_0 x_value)
  exact sb_ret 0 (DE.se (de_and (de_isTy (b_isinstance T) (b_int T) (de_var 0 r_value) (ty_int _) (kit_same "int")) fun h2 => de_one (de_not (de_isTy (b_isinstance T) (b_bool T) (de_var 0 r_value) (ty_int _) kit_int_bool))))

abbrev N_is_count : List Str := ["value"]
def m_is_count_0 (x_value : Int) : Bool := ((m_is_whole x_value) && decide ((0 : Int) ≤ x_value))
def ok_is_count_0 (x_value : Int) : Prop := (ok_is_whole x_value) ∧ True
def m_is_count (x_value : Int) : Bool := m_is_count_0 x_value
def ok_is_count (x_value : Int) : Prop := ok_is_count_0 x_value
theorem h_is_count (T : Tx K mg) : Has P w K mg base "is_count" (He.ga K "is_count") 2 ["value"] (SpN kD (fun (a : Int × Unit) => ok_is_count a.1) (fun a => m_is_count a.1)) := by
  have sc : FnScope N_is_count ["value"] (defScope s_is_count) := ⟨rfl, rfl, rfl, by decide +kernel, rfl, by decide +kernel, by decide +kernel⟩
  refine has_D (d_is_count T) (g_is_count T) sc (fun _ _ _ _ _ _ us hl => match us, hl with | [_], _ => rfl) (by rintro a G vs ⟨v_value, _, rfl, r_value, rfl⟩; rfl) ?_
  rintro X ⟨cdv, AA, outer, ss, HH, EE, rfl⟩ hr B vs ⟨x_value, ⟨⟩⟩ G0 hB ⟨v_value, _, rfl, r_value, rfl⟩ hok
  replace hok : ok_is_count_0 x_value := hok
  show SJ B _ _ [some v_value] G0 [] (JD B []) (m_is_count_0 x_value)
  obtain ⟨k1, hok⟩ := hok
  exact sb_ret 0 (DE.se (de_and (de_callZ (y := (x_value, ())) (z := (m_is_whole x_value)) (h_is_whole T) hr (da_cons (de_var 0 r_value) da_nil) k1) fun h2 => de_one (DC.de (dc_ge (de_var 0 r_value) de_int))))

abbrev N_are_names : List Str := ["value", "name"]
def m_are_names_1 (x_value : List Str) : Bool := false
def ok_are_names_1 (x_value : List Str) : Prop := True
def m_are_names_2 (x_value : List Str) : Bool := decide (((ddp x_value).length : Int) = (x_value.length : Int))
def ok_are_names_2 (x_value : List Str) : Prop := (x_value.length < 64) ∧ True
def m_are_names_0 (x_value : List Str) : Bool := if ((!true) || (!decide ((x_value.filter fun y1 => (!(m_is_name y1))) = ([] : List Str)))) = true then m_are_names_1 x_value else m_are_names_2 x_value
def ok_are_names_0 (x_value : List Str) : Prop := (((!true) = false) → (∀ y1 ∈ x_value, (ok_is_name y1))) ∧ (((!true) || (!decide ((x_value.filter fun y1 => (!(m_is_name y1))) = ([] : List Str)))) = true → ok_are_names_1 x_value) ∧ (((!true) || (!decide ((x_value.filter fun y1 => (!(m_is_name y1))) = ([] : List Str)))) = false → ok_are_names_2 x_value)
def m_are_names (x_value : List Str) : Bool := m_are_names_0 x_value
def ok_are_names (x_value : List Str) : Prop := ok_are_names_0 x_value
theorem h_are_names (T : Tx K mg) : Has P w K mg base "are_names" (He.ga K "are_names") 2 ["value"] (SpN kD (fun (a : (List Str) × Unit) => ok_are_names a.1) (fun a => m_are_names a.1)) := by
  have sc : FnScope N_are_names ["value"] (defScope s_are_names) := ⟨rfl, rfl, rfl, by decide +kernel, rfl, by decide +kernel, by decide +kernel⟩
  refine has_D (d_are_names T) (g_are_names T) sc (fun _ _ _ _ _ _ us hl => match us, hl with | [_], _ => rfl) (by rintro a G vs ⟨v_value, _, rfl, r_value, rfl⟩; rfl) ?_
  rintro X ⟨cdv, AA, outer, ss, HH, EE, rfl⟩ hr B vs ⟨x_value, ⟨⟩⟩ G0 hB ⟨v_value, _, rfl, r_value, rfl⟩ hok
  replace hok : ok_are_names_0 x_value := hok
  show SJ B _ _ [some v_value, none] G0 [] (JD B []) (m_are_names_0 x_value)
  obtain ⟨k3, hokA, hokB⟩ := hok
  refine sj_whenX (DT.st (DW.dt (dw_or (dt_not (dt_val (de_isTy (b_isinstance T) (b_list T) (de_var 0 r_value) (ty_list _) (kit_same "list")))) fun h2 => (by have k2 := k3 h2; exact dw_or1 (DC.dt (dc_ne hr.units (DO.de (do_lc (lc_fil (fun y1 => (!(m_is_name y1))) sc.nd rfl (di_list (de_var 0 r_value)) (blkOk_by (own := [("name", 1)]) (N := N_are_names) (sc := _) (by first | decide +kernel | rfl)) rfl (dg_name sc.nd) (by intro i_ y1 σ_ G_ hy_ eG_ hT_; obtain ⟨v_y1, q_y1, rfl⟩ := hT_; have r_value := Rep.mono eG_ r_value; have z_ := k2 y1 (List.mem_of_getElem? hy_); have k1 := z_; intro Y_ hY_; have hr := InBlk.room hY_ hr; obtain ⟨⟨s_, H_, C_, cl_, fp_, rfl⟩⟩ := hY_; exact df_one (dt_not (dt_val (de_callZ (y := (y1, ())) (z := (m_is_name y1)) (h_is_name T) hr (da_cons (de_var 1 q_y1) da_nil) k1)))) (by intro i_ y1 σ_ G_ hy_ eG_ hT_ hf_; obtain ⟨v_y1, q_y1, rfl⟩ := hT_; have r_value := Rep.mono eG_ r_value; have z_ := k2 y1 (List.mem_of_getElem? hy_); have k1 := z_; intro Y_ hY_; have hr := InBlk.room hY_ hr; obtain ⟨⟨s_, H_, C_, cl_, fp_, rfl⟩⟩ := hY_; exact de_var 1 q_y1)))) (DO.de (do_list (hl := (by decide : (0 : Nat) ≤ sizeLine)) (des_nil (α := Str)))))))))) (fun h3 => ?_) (fun h3 => ?_)
  · have hok := hokA h3; clear hokA hokB
    show SJ B _ _ [some v_value, none] G0 [] (JX (JD B [])) (m_are_names_1 x_value)
    exact sb_ret 0 (DE.se de_bl)
  · have hok := hokB h3; clear hokA hokB
    show SJ B _ _ [some v_value, none] G0 [] (JD B []) (m_are_names_2 x_value)
    obtain ⟨k4, hok⟩ := hok
    exact sb_ret 0 (DE.se (DC.de (dc_eqI (de_lenSetI (b_len T) (b_set T) (de_var 0 r_value) k4) (de_lenI (b_len T) (de_var 0 r_value)))))

abbrev N_are_entries : List Str := ["value"]
def m_are_entries_0 (x_value : List Str) : Bool := ((m_are_names x_value) && (!decide (x_value = ([] : List Str))))
def ok_are_entries_0 (x_value : List Str) : Prop := (ok_are_names x_value) ∧ True
def m_are_entries (x_value : List Str) : Bool := m_are_entries_0 x_value
def ok_are_entries (x_value : List Str) : Prop := ok_are_entries_0 x_value
theorem h_are_entries (T : Tx K mg) : Has P w K mg base "are_entries" (He.ga K "are_entries") 3 ["value"] (SpN kD (fun (a : (List Str) × Unit) => ok_are_entries a.1) (fun a => m_are_entries a.1)) := by
  have sc : FnScope N_are_entries ["value"] (defScope s_are_entries) := ⟨rfl, rfl, rfl, by decide +kernel, rfl, by decide +kernel, by decide +kernel⟩
  refine has_D (d_are_entries T) (g_are_entries T) sc (fun _ _ _ _ _ _ us hl => match us, hl with | [_], _ => rfl) (by rintro a G vs ⟨v_value, _, rfl, r_value, rfl⟩; rfl) ?_
  rintro X ⟨cdv, AA, outer, ss, HH, EE, rfl⟩ hr B vs ⟨x_value, ⟨⟩⟩ G0 hB ⟨v_value, _, rfl, r_value, rfl⟩ hok
  replace hok : ok_are_entries_0 x_value := hok
  show SJ B _ _ [some v_value] G0 [] (JD B []) (m_are_entries_0 x_value)
  obtain ⟨k1, hok⟩ := hok
  exact sb_ret 0 (DE.se (de_and (de_callZ (y := (x_value, ())) (z := (m_are_names x_value)) (h_are_names T) hr (da_cons (de_var 0 r_value) da_nil) k1) fun h2 => de_one (DC.de (dc_ne hr.units (de_var 0 r_value) (DO.de (do_list (hl := (by decide : (0 : Nat) ≤ sizeLine)) (des_nil (α := Str))))))))

abbrev N_is_ascending : List Str := ["value"]
def m_is_ascending_0 (x_value : List Str) : Bool := ((m_are_names x_value) && decide (x_value = (srt x_value)))
def ok_is_ascending_0 (x_value : List Str) : Prop := (ok_are_names x_value) ∧ (((m_are_names x_value) = true) → (x_value.length < 64)) ∧ True
def m_is_ascending (x_value : List Str) : Bool := m_is_ascending_0 x_value
def ok_is_ascending (x_value : List Str) : Prop := ok_is_ascending_0 x_value
theorem h_is_ascending (T : Tx K mg) : Has P w K mg base "is_ascending" (He.ga K "is_ascending") 3 ["value"] (SpN kD (fun (a : (List Str) × Unit) => ok_is_ascending a.1) (fun a => m_is_ascending a.1)) := by
  have sc : FnScope N_is_ascending ["value"] (defScope s_is_ascending) := ⟨rfl, rfl, rfl, by decide +kernel, rfl, by decide +kernel, by decide +kernel⟩
  refine has_D (d_is_ascending T) (g_is_ascending T) sc (fun _ _ _ _ _ _ us hl => match us, hl with | [_], _ => rfl) (by rintro a G vs ⟨v_value, _, rfl, r_value, rfl⟩; rfl) ?_
  rintro X ⟨cdv, AA, outer, ss, HH, EE, rfl⟩ hr B vs ⟨x_value, ⟨⟩⟩ G0 hB ⟨v_value, _, rfl, r_value, rfl⟩ hok
  replace hok : ok_is_ascending_0 x_value := hok
  show SJ B _ _ [some v_value] G0 [] (JD B []) (m_is_ascending_0 x_value)
  obtain ⟨k1, k3, hok⟩ := hok
  exact sb_ret 0 (DE.se (de_and (de_callZ (y := (x_value, ())) (z := (m_are_names x_value)) (h_are_names T) hr (da_cons (de_var 0 r_value) da_nil) k1) fun h2 => (by have k2 := k3 h2; exact de_one (DC.de (dc_eq hr.units (de_var 0 r_value) (DO.de (do_sorted (b_sorted T) (de_var 0 r_value) k2)))))))

abbrev N_is_lot : List Str := ["value", "entries", "name"]
def m_is_lot_0 (x_value : List Str) (x_entries : List Str) : Bool := ((m_is_ascending x_value) && decide ((x_value.filter fun y1 => (!decide (y1 ∈ x_entries))) = ([] : List Str)))
def ok_is_lot_0 (x_value : List Str) (x_entries : List Str) : Prop := (ok_is_ascending x_value) ∧ True
def m_is_lot (x_value : List Str) (x_entries : List Str) : Bool := m_is_lot_0 x_value x_entries
def ok_is_lot (x_value : List Str) (x_entries : List Str) : Prop := ok_is_lot_0 x_value x_entries
theorem h_is_lot (T : Tx K mg) : Has P w K mg base "is_lot" (He.ga K "is_lot") 4 ["value", "entries"] (SpN kD (fun (a : (List Str) × (List Str) × Unit) => ok_is_lot a.1 a.2.1) (fun a => m_is_lot a.1 a.2.1)) := by
  have sc : FnScope N_is_lot ["value", "entries"] (defScope s_is_lot) := ⟨rfl, rfl, rfl, by decide +kernel, rfl, by decide +kernel, by decide +kernel⟩
  refine has_D (d_is_lot T) (g_is_lot T) sc (fun _ _ _ _ _ _ us hl => match us, hl with | [_, _], _ => rfl) (by rintro a G vs ⟨v_value, _, rfl, r_value, ⟨v_entries, _, rfl, r_entries, rfl⟩⟩; rfl) ?_
  rintro X ⟨cdv, AA, outer, ss, HH, EE, rfl⟩ hr B vs ⟨x_value, x_entries, ⟨⟩⟩ G0 hB ⟨v_value, _, rfl, r_value, ⟨v_entries, _, rfl, r_entries, rfl⟩⟩ hok
  replace hok : ok_is_lot_0 x_value x_entries := hok
  show SJ B _ _ [some v_value, some v_entries, none] G0 [] (JD B []) (m_is_lot_0 x_value x_entries)
  obtain ⟨k1, hok⟩ := hok
  exact sb_ret 0 (DE.se (de_and (de_callZ (y := (x_value, ())) (z := (m_is_ascending x_value)) (h_is_ascending T) hr (da_cons (de_var 0 r_value) da_nil) k1) fun h3 => de_one (DC.de (dc_eq hr.units (DO.de (do_lc (lc_fil (fun y1 => (!decide (y1 ∈ x_entries))) sc.nd rfl (di_list (de_var 0 r_value)) (blkOk_by (own := [("name", 2)]) (N := N_is_lot) (sc := _) (by first | decide +kernel | rfl)) rfl (dg_name sc.nd) (by intro i_ y1 σ_ G_ hy_ eG_ hT_; obtain ⟨v_y1, q_y1, rfl⟩ := hT_; have r_value := Rep.mono eG_ r_value; have r_entries := Rep.mono eG_ r_entries; intro Y_ hY_; have hr := InBlk.room hY_ hr; obtain ⟨⟨s_, H_, C_, cl_, fp_, rfl⟩⟩ := hY_; exact df_one (DC.dt (dc_nin (de_var 2 q_y1) (de_var 1 r_entries)))) (by intro i_ y1 σ_ G_ hy_ eG_ hT_ hf_; obtain ⟨v_y1, q_y1, rfl⟩ := hT_; have r_value := Rep.mono eG_ r_value; have r_entries := Rep.mono eG_ r_entries; intro Y_ hY_; have hr := InBlk.room hY_ hr; obtain ⟨⟨s_, H_, C_, cl_, fp_, rfl⟩⟩ := hY_; exact de_var 2 q_y1)))) (DO.de (do_list (hl := (by decide : (0 : Nat) ≤ sizeLine)) (des_nil (α := Str))))))))

abbrev N_is_field : List Str := ["value", "entries"]
def m_is_field_0 (x_value : List Str) (x_entries : List Str) : Bool := ((m_is_lot x_value x_entries) && (!decide (x_value = ([] : List Str))))
def ok_is_field_0 (x_value : List Str) (x_entries : List Str) : Prop := (ok_is_lot x_value x_entries) ∧ True
def m_is_field (x_value : List Str) (x_entries : List Str) : Bool := m_is_field_0 x_value x_entries
def ok_is_field (x_value : List Str) (x_entries : List Str) : Prop := ok_is_field_0 x_value x_entries
theorem h_is_field (T : Tx K mg) : Has P w K mg base "is_field" (He.ga K "is_field") 5 ["value", "entries"] (SpN kD (fun (a : (List Str) × (List Str) × Unit) => ok_is_field a.1 a.2.1) (fun a => m_is_field a.1 a.2.1)) := by
  have sc : FnScope N_is_field ["value", "entries"] (defScope s_is_field) := ⟨rfl, rfl, rfl, by decide +kernel, rfl, by decide +kernel, by decide +kernel⟩
  refine has_D (d_is_field T) (g_is_field T) sc (fun _ _ _ _ _ _ us hl => match us, hl with | [_, _], _ => rfl) (by rintro a G vs ⟨v_value, _, rfl, r_value, ⟨v_entries, _, rfl, r_entries, rfl⟩⟩; rfl) ?_
  rintro X ⟨cdv, AA, outer, ss, HH, EE, rfl⟩ hr B vs ⟨x_value, x_entries, ⟨⟩⟩ G0 hB ⟨v_value, _, rfl, r_value, ⟨v_entries, _, rfl, r_entries, rfl⟩⟩ hok
  replace hok : ok_is_field_0 x_value x_entries := hok
  show SJ B _ _ [some v_value, some v_entries] G0 [] (JD B []) (m_is_field_0 x_value x_entries)
  obtain ⟨k1, hok⟩ := hok
  exact sb_ret 0 (DE.se (de_and (de_callZ (y := (x_value, x_entries, ())) (z := (m_is_lot x_value x_entries)) (h_is_lot T) hr (da_cons (de_var 0 r_value) (da_cons (de_var 1 r_entries) da_nil)) k1) fun h2 => de_one (DC.de (dc_ne hr.units (de_var 0 r_value) (DO.de (do_list (hl := (by decide : (0 : Nat) ≤ sizeLine)) (des_nil (α := Str))))))))

abbrev N_is_entry : List Str := ["value", "entries"]
def m_is_entry_0 (x_value : Str) (x_entries : List Str) : Bool := ((m_is_name x_value) && decide (x_value ∈ x_entries))
def ok_is_entry_0 (x_value : Str) (x_entries : List Str) : Prop := (ok_is_name x_value) ∧ True
def m_is_entry (x_value : Str) (x_entries : List Str) : Bool := m_is_entry_0 x_value x_entries
def ok_is_entry (x_value : Str) (x_entries : List Str) : Prop := ok_is_entry_0 x_value x_entries
theorem h_is_entry (T : Tx K mg) : Has P w K mg base "is_entry" (He.ga K "is_entry") 2 ["value", "entries"] (SpN kD (fun (a : Str × (List Str) × Unit) => ok_is_entry a.1 a.2.1) (fun a => m_is_entry a.1 a.2.1)) := by
  have sc : FnScope N_is_entry ["value", "entries"] (defScope s_is_entry) := ⟨rfl, rfl, rfl, by decide +kernel, rfl, by decide +kernel, by decide +kernel⟩
  refine has_D (d_is_entry T) (g_is_entry T) sc (fun _ _ _ _ _ _ us hl => match us, hl with | [_, _], _ => rfl) (by rintro a G vs ⟨v_value, _, rfl, r_value, ⟨v_entries, _, rfl, r_entries, rfl⟩⟩; rfl) ?_
  rintro X ⟨cdv, AA, outer, ss, HH, EE, rfl⟩ hr B vs ⟨x_value, x_entries, ⟨⟩⟩ G0 hB ⟨v_value, _, rfl, r_value, ⟨v_entries, _, rfl, r_entries, rfl⟩⟩ hok
  replace hok : ok_is_entry_0 x_value x_entries := hok
  show SJ B _ _ [some v_value, some v_entries] G0 [] (JD B []) (m_is_entry_0 x_value x_entries)
  obtain ⟨k1, hok⟩ := hok
  exact sb_ret 0 (DE.se (de_and (de_callZ (y := (x_value, ())) (z := (m_is_name x_value)) (h_is_name T) hr (da_cons (de_var 0 r_value) da_nil) k1) fun h2 => de_one (DC.de (dc_in (de_var 0 r_value) (de_var 1 r_entries)))))

abbrev N_check_entries : List Str := ["value"]
def m_check_entries_1 (x_value : List Str) : Unit := ()
def ok_check_entries_1 (x_value : List Str) : Prop := True
def m_check_entries_0 (x_value : List Str) : Unit := m_check_entries_1 x_value
def ok_check_entries_0 (x_value : List Str) : Prop := (ok_are_entries x_value) ∧ ((!(m_are_entries x_value)) = false) ∧ ok_check_entries_1 x_value
def m_check_entries (x_value : List Str) : Unit := m_check_entries_0 x_value
def ok_check_entries (x_value : List Str) : Prop := ok_check_entries_0 x_value
theorem h_check_entries (T : Tx K mg) : Has P w K mg base "check_entries" (He.ga K "check_entries") 4 ["value"] (SpN kD (fun (a : (List Str) × Unit) => ok_check_entries a.1) (fun a => m_check_entries a.1)) := by
  have sc : FnScope N_check_entries ["value"] (defScope s_check_entries) := ⟨rfl, rfl, rfl, by decide +kernel, rfl, by decide +kernel, by decide +kernel⟩
  refine has_N (d_check_entries T) (g_check_entries T) sc (fun _ _ _ _ _ _ us hl => match us, hl with | [_], _ => rfl) (by rintro a G vs ⟨v_value, _, rfl, r_value, rfl⟩; rfl) ?_
  rintro X ⟨cdv, AA, outer, ss, HH, EE, rfl⟩ hr B vs ⟨x_value, ⟨⟩⟩ G0 hB ⟨v_value, _, rfl, r_value, rfl⟩ hok
  replace hok : ok_check_entries_0 x_value := hok
  show SJ B _ _ [some v_value] G0 [] (JN B) (m_check_entries_0 x_value)
  obtain ⟨k1, k2, hok⟩ := hok
  refine sj_ward (DT.st (dt_not (dt_val (de_callZ (y := (x_value, ())) (z := (m_are_entries x_value)) (h_are_entries T) hr (da_cons (de_var 0 r_value) da_nil) k1)))) k2 ?_
  replace hok : ok_check_entries_1 x_value := hok
  show SJ B _ _ [some v_value] G0 [] (JN B) (m_check_entries_1 x_value)
  exact sb_nil fun _ _ => trivial

abbrev N_check_field : List Str := ["value", "entries"]
def m_check_field_1 (x_value : List Str) (x_entries : List Str) : Unit := ()
def ok_check_field_1 (x_value : List Str) (x_entries : List Str) : Prop := True
def m_check_field_0 (x_value : List Str) (x_entries : List Str) : Unit := m_check_field_1 x_value x_entries
def ok_check_field_0 (x_value : List Str) (x_entries : List Str) : Prop := (ok_is_field x_value x_entries) ∧ ((!(m_is_field x_value x_entries)) = false) ∧ ok_check_field_1 x_value x_entries
def m_check_field (x_value : List Str) (x_entries : List Str) : Unit := m_check_field_0 x_value x_entries
def ok_check_field (x_value : List Str) (x_entries : List Str) : Prop := ok_check_field_0 x_value x_entries
theorem h_check_field (T : Tx K mg) : Has P w K mg base "check_field" (He.ga K "check_field") 6 ["value", "entries"] (SpN kD (fun (a : (List Str) × (List Str) × Unit) => ok_check_field a.1 a.2.1) (fun a => m_check_field a.1 a.2.1)) := by
  have sc : FnScope N_check_field ["value", "entries"] (defScope s_check_field) := ⟨rfl, rfl, rfl, by decide +kernel, rfl, by decide +kernel, by decide +kernel⟩
  refine has_N (d_check_field T) (g_check_field T) sc (fun _ _ _ _ _ _ us hl => match us, hl with | [_, _], _ => rfl) (by rintro a G vs ⟨v_value, _, rfl, r_value, ⟨v_entries, _, rfl, r_entries, rfl⟩⟩; rfl) ?_
  rintro X ⟨cdv, AA, outer, ss, HH, EE, rfl⟩ hr B vs ⟨x_value, x_entries, ⟨⟩⟩ G0 hB ⟨v_value, _, rfl, r_value, ⟨v_entries, _, rfl, r_entries, rfl⟩⟩ hok
  replace hok : ok_check_field_0 x_value x_entries := hok
  show SJ B _ _ [some v_value, some v_entries] G0 [] (JN B) (m_check_field_0 x_value x_entries)
  obtain ⟨k1, k2, hok⟩ := hok
  refine sj_ward (DT.st (dt_not (dt_val (de_callZ (y := (x_value, x_entries, ())) (z := (m_is_field x_value x_entries)) (h_is_field T) hr (da_cons (de_var 0 r_value) (da_cons (de_var 1 r_entries) da_nil)) k1)))) k2 ?_
  replace hok : ok_check_field_1 x_value x_entries := hok
  show SJ B _ _ [some v_value, some v_entries] G0 [] (JN B) (m_check_field_1 x_value x_entries)
  exact sb_nil fun _ _ => trivial

abbrev N_check_entry : List Str := ["value", "entries"]
def m_check_entry_1 (x_value : Str) (x_entries : List Str) : Unit := ()
def ok_check_entry_1 (x_value : Str) (x_entries : List Str) : Prop := True
def m_check_entry_0 (x_value : Str) (x_entries : List Str) : Unit := m_check_entry_1 x_value x_entries
def ok_check_entry_0 (x_value : Str) (x_entries : List Str) : Prop := (ok_is_entry x_value x_entries) ∧ ((!(m_is_entry x_value x_entries)) = false) ∧ ok_check_entry_1 x_value x_entries
def m_check_entry (x_value : Str) (x_entries : List Str) : Unit := m_check_entry_0 x_value x_entries
def ok_check_entry (x_value : Str) (x_entries : List Str) : Prop := ok_check_entry_0 x_value x_entries
theorem h_check_entry (T : Tx K mg) : Has P w K mg base "check_entry" (He.ga K "check_entry") 3 ["value", "entries"] (SpN kD (fun (a : Str × (List Str) × Unit) => ok_check_entry a.1 a.2.1) (fun a => m_check_entry a.1 a.2.1)) := by
  have sc : FnScope N_check_entry ["value", "entries"] (defScope s_check_entry) := ⟨rfl, rfl, rfl, by decide +kernel, rfl, by decide +kernel, by decide +kernel⟩
  refine has_N (d_check_entry T) (g_check_entry T) sc (fun _ _ _ _ _ _ us hl => match us, hl with | [_, _], _ => rfl) (by rintro a G vs ⟨v_value, _, rfl, r_value, ⟨v_entries, _, rfl, r_entries, rfl⟩⟩; rfl) ?_
  rintro X ⟨cdv, AA, outer, ss, HH, EE, rfl⟩ hr B vs ⟨x_value, x_entries, ⟨⟩⟩ G0 hB ⟨v_value, _, rfl, r_value, ⟨v_entries, _, rfl, r_entries, rfl⟩⟩ hok
  replace hok : ok_check_entry_0 x_value x_entries := hok
  show SJ B _ _ [some v_value, some v_entries] G0 [] (JN B) (m_check_entry_0 x_value x_entries)
  obtain ⟨k1, k2, hok⟩ := hok
  refine sj_ward (DT.st (dt_not (dt_val (de_callZ (y := (x_value, x_entries, ())) (z := (m_is_entry x_value x_entries)) (h_is_entry T) hr (da_cons (de_var 0 r_value) (da_cons (de_var 1 r_entries) da_nil)) k1)))) k2 ?_
  replace hok : ok_check_entry_1 x_value x_entries := hok
  show SJ B _ _ [some v_value, some v_entries] G0 [] (JN B) (m_check_entry_1 x_value x_entries)
  exact sb_nil fun _ _ => trivial

abbrev N__law_mixed : List Str := ["seed", "turn", "at", "mixed"]
def m__law_mixed_3 (x_seed : Int) (x_turn : Int) (x_at : Int) (x_mixed : Int) : Int := ((x_mixed * (48271 : Int)) % (2147483587 : Int))
def ok__law_mixed_3 (x_seed : Int) (x_turn : Int) (x_at : Int) (x_mixed : Int) : Prop := (CMul x_mixed (48271 : Int)) ∧ ((0 : Int) < (2147483587 : Int)) ∧ True
def m__law_mixed_2 (x_seed : Int) (x_turn : Int) (x_at : Int) (x_mixed : Int) : Int := m__law_mixed_3 x_seed x_turn x_at (((x_mixed * x_mixed) + (40503 : Int)) % (2147483629 : Int))
def ok__law_mixed_2 (x_seed : Int) (x_turn : Int) (x_at : Int) (x_mixed : Int) : Prop := (CMul x_mixed x_mixed) ∧ ((0 : Int) < (2147483629 : Int)) ∧ ok__law_mixed_3 x_seed x_turn x_at (((x_mixed * x_mixed) + (40503 : Int)) % (2147483629 : Int))
def m__law_mixed_1 (x_seed : Int) (x_turn : Int) (x_at : Int) (x_mixed : Int) : Int := m__law_mixed_2 x_seed x_turn x_at (((x_mixed + ((7919 : Int) * x_at)) + x_turn) % (2147483647 : Int))
def ok__law_mixed_1 (x_seed : Int) (x_turn : Int) (x_at : Int) (x_mixed : Int) : Prop := (CMul (7919 : Int) x_at) ∧ ((0 : Int) < (2147483647 : Int)) ∧ ok__law_mixed_2 x_seed x_turn x_at (((x_mixed + ((7919 : Int) * x_at)) + x_turn) % (2147483647 : Int))
def m__law_mixed_0 (x_seed : Int) (x_turn : Int) (x_at : Int) : Int := m__law_mixed_1 x_seed x_turn x_at ((x_seed * (69069 : Int)) + (((104729 : Int) * x_turn) * x_turn))
def ok__law_mixed_0 (x_seed : Int) (x_turn : Int) (x_at : Int) : Prop := (CMul x_seed (69069 : Int)) ∧ (CMul (104729 : Int) x_turn) ∧ (CMul ((104729 : Int) * x_turn) x_turn) ∧ ok__law_mixed_1 x_seed x_turn x_at ((x_seed * (69069 : Int)) + (((104729 : Int) * x_turn) * x_turn))
def m__law_mixed (x_seed : Int) (x_turn : Int) (x_at : Int) : Int := m__law_mixed_0 x_seed x_turn x_at
def ok__law_mixed (x_seed : Int) (x_turn : Int) (x_at : Int) : Prop := ok__law_mixed_0 x_seed x_turn x_at
theorem h__law_mixed (T : Tx K mg) : Has P w K mg base "_law_mixed" (He.ga K "_law_mixed") 1 ["seed", "turn", "at"] (SpN kD (fun (a : Int × Int × Int × Unit) => ok__law_mixed a.1 a.2.1 a.2.2.1) (fun a => m__law_mixed a.1 a.2.1 a.2.2.1)) := by
  have sc : FnScope N__law_mixed ["seed", "turn", "at"] (defScope s__law_mixed) := ⟨rfl, rfl, rfl, by decide +kernel, rfl, by decide +kernel, by decide +kernel⟩
  refine has_D (d__law_mixed T) (g__law_mixed T) sc (fun _ _ _ _ _ _ us hl => match us, hl with | [_, _, _], _ => rfl) (by rintro a G vs ⟨v_seed, _, rfl, r_seed, ⟨v_turn, _, rfl, r_turn, ⟨v_at, _, rfl, r_at, rfl⟩⟩⟩; rfl) ?_
  rintro X ⟨cdv, AA, outer, ss, HH, EE, rfl⟩ hr B vs ⟨x_seed, x_turn, x_at, ⟨⟩⟩ G0 hB ⟨v_seed, _, rfl, r_seed, ⟨v_turn, _, rfl, r_turn, ⟨v_at, _, rfl, r_at, rfl⟩⟩⟩ hok
  replace hok : ok__law_mixed_0 x_seed x_turn x_at := hok
  show SJ B _ _ [some v_seed, some v_turn, some v_at, none] G0 [] (JD B []) (m__law_mixed_0 x_seed x_turn x_at)
  obtain ⟨k1, k2, k3, hok⟩ := hok
  refine sb_set 3 (DE.se (de_add (de_mul (de_var 0 r_seed) de_int k1) (de_mul (de_mul de_int (de_var 1 r_turn) k2) (de_var 1 r_turn) k3))) (fun v_mixed G1 e1 r_mixed => ?_) sc.nd
  have r_seed := Rep.mono e1 r_seed
  have r_turn := Rep.mono e1 r_turn
  have r_at := Rep.mono e1 r_at
  replace r_mixed : rep G1 v_mixed ((x_seed * (69069 : Int)) + (((104729 : Int) * x_turn) * x_turn)) := r_mixed
  replace hok : ok__law_mixed_1 x_seed x_turn x_at ((x_seed * (69069 : Int)) + (((104729 : Int) * x_turn) * x_turn)) := hok
  show SJ B _ _ [some v_seed, some v_turn, some v_at, some v_mixed] G1 [] (JD B []) (m__law_mixed_0 x_seed x_turn x_at)
  rw [show m__law_mixed_0 x_seed x_turn x_at = m__law_mixed_1 x_seed x_turn x_at ((x_seed * (69069 : Int)) + (((104729 : Int) * x_turn) * x_turn)) from rfl]
  generalize ((x_seed * (69069 : Int)) + (((104729 : Int) * x_turn) * x_turn)) = x_mixed at r_mixed hok ⊢
  obtain ⟨k4, k5, hok⟩ := hok
  refine sb_set 3 (DE.se (de_mod (de_add (de_add (de_var 3 r_mixed) (de_mul de_int (de_var 2 r_at) k4)) (de_var 1 r_turn)) de_int k5)) (fun v_mixed G2 e2 r_mixed => ?_) sc.nd
  have r_seed := Rep.mono e2 r_seed
  have r_turn := Rep.mono e2 r_turn
  have r_at := Rep.mono e2 r_at
  replace r_mixed : rep G2 v_mixed (((x_mixed + ((7919 : Int) * x_at)) + x_turn) % (2147483647 : Int)) := r_mixed
  replace hok : ok__law_mixed_2 x_seed x_turn x_at (((x_mixed + ((7919 : Int) * x_at)) + x_turn) % (2147483647 : Int)) := hok
  show SJ B _ _ [some v_seed, some v_turn, some v_at, some v_mixed] G2 [] (JD B []) (m__law_mixed_1 x_seed x_turn x_at x_mixed)
  rw [show m__law_mixed_1 x_seed x_turn x_at x_mixed = m__law_mixed_2 x_seed x_turn x_at (((x_mixed + ((7919 : Int) * x_at)) + x_turn) % (2147483647 : Int)) from rfl]
  generalize (((x_mixed + ((7919 : Int) * x_at)) + x_turn) % (2147483647 : Int)) = x_mixed at r_mixed hok ⊢
  obtain ⟨k6, k7, hok⟩ := hok
  refine sb_set 3 (DE.se (de_mod (de_add (de_mul (de_var 3 r_mixed) (de_var 3 r_mixed) k6) de_int) de_int k7)) (fun v_mixed G3 e3 r_mixed => ?_) sc.nd
  have r_seed := Rep.mono e3 r_seed
  have r_turn := Rep.mono e3 r_turn
  have r_at := Rep.mono e3 r_at
  replace r_mixed : rep G3 v_mixed (((x_mixed * x_mixed) + (40503 : Int)) % (2147483629 : Int)) := r_mixed
  replace hok : ok__law_mixed_3 x_seed x_turn x_at (((x_mixed * x_mixed) + (40503 : Int)) % (2147483629 : Int)) := hok
  show SJ B _ _ [some v_seed, some v_turn, some v_at, some v_mixed] G3 [] (JD B []) (m__law_mixed_2 x_seed x_turn x_at x_mixed)
  rw [show m__law_mixed_2 x_seed x_turn x_at x_mixed = m__law_mixed_3 x_seed x_turn x_at (((x_mixed * x_mixed) + (40503 : Int)) % (2147483629 : Int)) from rfl]
  generalize (((x_mixed * x_mixed) + (40503 : Int)) % (2147483629 : Int)) = x_mixed at r_mixed hok ⊢
  obtain ⟨k8, k9, hok⟩ := hok
  exact sb_ret 0 (DE.se (de_mod (de_mul (de_var 3 r_mixed) de_int k8) de_int k9))

abbrev N__law_draw : List Str := ["purse", "many", "found", "piece", "drawn"]
def m__law_draw_3 (x_purse : List Int) (x_many : Int) (x_drawn : Int) : Int × (List Int) := (x_drawn, x_purse)
def ok__law_draw_3 (x_purse : List Int) (x_many : Int) (x_drawn : Int) : Prop := True
def m__law_draw_2 (x_purse : List Int) (x_many : Int) (x_drawn : Int) : Int × (List Int) := m__law_draw_3 (setI x_purse (0 : Int) ((getI x_purse (0 : Int)) / x_many)) x_many x_drawn
def ok__law_draw_2 (x_purse : List Int) (x_many : Int) (x_drawn : Int) : Prop := ((atI x_purse (0 : Int)).isSome = true) ∧ ((0 : Int) < x_many ∧ x_many < (1073741824 : Int)) ∧ ((ixN x_purse.length (0 : Int)).isSome = true) ∧ ok__law_draw_3 (setI x_purse (0 : Int) ((getI x_purse (0 : Int)) / x_many)) x_many x_drawn
def m__law_draw_1 (x_purse : List Int) (x_many : Int) : Int × (List Int) := m__law_draw_2 x_purse x_many ((getI x_purse (0 : Int)) % x_many)
def ok__law_draw_1 (x_purse : List Int) (x_many : Int) : Prop := ((atI x_purse (0 : Int)).isSome = true) ∧ ((0 : Int) < x_many) ∧ ok__law_draw_2 x_purse x_many ((getI x_purse (0 : Int)) % x_many)
def m__law_draw_8 (x_purse : List Int) (x_many : Int) (x_found : Int) (x_piece : Int) : (List Int) × Int := (x_purse, x_found)
def ok__law_draw_8 (x_purse : List Int) (x_many : Int) (x_found : Int) (x_piece : Int) : Prop := True
def m__law_draw_7 (x_purse : List Int) (x_many : Int) (x_found : Int) (x_piece : Int) : (List Int) × Int := m__law_draw_8 x_purse x_many ((x_found * (2147483587 : Int)) + (m__law_mixed (getI x_purse (1 : Int)) (getI x_purse (2 : Int)) (getI x_purse (3 : Int)))) x_piece
def ok__law_draw_7 (x_purse : List Int) (x_many : Int) (x_found : Int) (x_piece : Int) : Prop := (CMul x_found (2147483587 : Int)) ∧ ((atI x_purse (1 : Int)).isSome = true) ∧ ((atI x_purse (2 : Int)).isSome = true) ∧ ((atI x_purse (3 : Int)).isSome = true) ∧ (ok__law_mixed (getI x_purse (1 : Int)) (getI x_purse (2 : Int)) (getI x_purse (3 : Int))) ∧ ok__law_draw_8 x_purse x_many ((x_found * (2147483587 : Int)) + (m__law_mixed (getI x_purse (1 : Int)) (getI x_purse (2 : Int)) (getI x_purse (3 : Int)))) x_piece
def m__law_draw_6 (x_purse : List Int) (x_many : Int) (x_found : Int) (x_piece : Int) : (List Int) × Int := m__law_draw_7 (setI x_purse (2 : Int) ((getI x_purse (2 : Int)) + (1 : Int))) x_many x_found x_piece
def ok__law_draw_6 (x_purse : List Int) (x_many : Int) (x_found : Int) (x_piece : Int) : Prop := ((atI x_purse (2 : Int)).isSome = true) ∧ ((ixN x_purse.length (2 : Int)).isSome = true) ∧ ok__law_draw_7 (setI x_purse (2 : Int) ((getI x_purse (2 : Int)) + (1 : Int))) x_many x_found x_piece
def m__law_draw_9 (x_purse : List Int) (x_many : Int) (x_found : Int) : Int × (List Int) := ((x_found % x_many), x_purse)
def ok__law_draw_9 (x_purse : List Int) (x_many : Int) (x_found : Int) : Prop := ((0 : Int) < x_many) ∧ True
def m__law_draw_5 (x_purse : List Int) (x_many : Int) (x_found : Int) : Int × (List Int) := m__law_draw_9 ((List.foldl (fun (s : (List Int) × Int) (y : Int) => m__law_draw_6 s.1 x_many s.2 y) (x_purse, x_found) (irange ((1 : Int) + ((Builtin.Int.intBits x_many : Int) / (28 : Int))))).1) x_many ((List.foldl (fun (s : (List Int) × Int) (y : Int) => m__law_draw_6 s.1 x_many s.2 y) (x_purse, x_found) (irange ((1 : Int) + ((Builtin.Int.intBits x_many : Int) / (28 : Int))))).2)
def ok__law_draw_5 (x_purse : List Int) (x_many : Int) (x_found : Int) : Prop := ((0 : Int) < (28 : Int) ∧ (28 : Int) < (1073741824 : Int)) ∧ (-(2 ^ 24) ≤ ((1 : Int) + ((Builtin.Int.intBits x_many : Int) / (28 : Int))) ∧ ((1 : Int) + ((Builtin.Int.intBits x_many : Int) / (28 : Int))) ≤ 2 ^ 24) ∧ (foldOk (fun (s : (List Int) × Int) (y : Int) => m__law_draw_6 s.1 x_many s.2 y) (fun (s : (List Int) × Int) (y : Int) => ok__law_draw_6 s.1 x_many s.2 y) (irange ((1 : Int) + ((Builtin.Int.intBits x_many : Int) / (28 : Int)))) (x_purse, x_found)) ∧ ok__law_draw_9 ((List.foldl (fun (s : (List Int) × Int) (y : Int) => m__law_draw_6 s.1 x_many s.2 y) (x_purse, x_found) (irange ((1 : Int) + ((Builtin.Int.intBits x_many : Int) / (28 : Int))))).1) x_many ((List.foldl (fun (s : (List Int) × Int) (y : Int) => m__law_draw_6 s.1 x_many s.2 y) (x_purse, x_found) (irange ((1 : Int) + ((Builtin.Int.intBits x_many : Int) / (28 : Int))))).2)
def m__law_draw_4 (x_purse : List Int) (x_many : Int) : Int × (List Int) := m__law_draw_5 x_purse x_many (id (0 : Int))
def ok__law_draw_4 (x_purse : List Int) (x_many : Int) : Prop := ok__law_draw_5 x_purse x_many (id (0 : Int))
def m__law_draw_0 (x_purse : List Int) (x_many : Int) : Int × (List Int) := if decide ((0 : Int) < (getI x_purse (0 : Int))) = true then m__law_draw_1 x_purse x_many else m__law_draw_4 x_purse x_many
def ok__law_draw_0 (x_purse : List Int) (x_many : Int) : Prop := ((atI x_purse (0 : Int)).isSome = true) ∧ (decide ((0 : Int) < (getI x_purse (0 : Int))) = true → ok__law_draw_1 x_purse x_many) ∧ (decide ((0 : Int) < (getI x_purse (0 : Int))) = false → ok__law_draw_4 x_purse x_many)
def m__law_draw (x_purse : List Int) (x_many : Int) : Int × (List Int) := m__law_draw_0 x_purse x_many
def ok__law_draw (x_purse : List Int) (x_many : Int) : Prop := ok__law_draw_0 x_purse x_many
theorem h__law_draw (T : Tx K mg) : Has P w K mg base "_law_draw" (He.ga K "_law_draw") 2 ["purse", "many"] (SpU kD (fun p (a : Int × Unit) => ok__law_draw p a.1) (fun p a => m__law_draw p a.1)) := by
  have sc : FnScope N__law_draw ["purse", "many"] (defScope s__law_draw) := ⟨rfl, rfl, rfl, by decide +kernel, rfl, by decide +kernel, by decide +kernel⟩
  refine has_UD (d__law_draw T) (g__law_draw T) sc (fun _ _ _ _ _ _ us hl => match us, hl with | [_, _], _ => rfl) (by rintro a G vs ⟨v_many, _, rfl, r_many, rfl⟩; rfl) ?_
  rintro X ⟨cdv, AA, outer, ss, HH, EE, rfl⟩ hr B u_purse x_purse vs ⟨x_many, ⟨⟩⟩ G0 hB ⟨v_many, _, rfl, r_many, rfl⟩ hok
  replace hok : ok__law_draw_0 x_purse x_many := hok
  show SJ B _ _ [some (.ref u_purse), some v_many, none, none, none] G0 [(u_purse, cl x_purse)] (JUD B u_purse) (m__law_draw_0 x_purse x_many)
  obtain ⟨k1, hokA, hokB⟩ := hok
  refine sj_whenX (ST.cell 0 rfl (by intro G_ e_ r_purse; have r_many := Rep.mono e_ r_many; exact DC.dt (dc_gt (de_ixI (de_var 0 r_purse) de_int k1) de_int))) (fun h1 => ?_) (fun h1 => ?_)
  · have hok := hokA h1; clear hokA hokB
    show SJ B _ _ [some (.ref u_purse), some v_many, none, none, none] G0 [(u_purse, cl x_purse)] (JX (JUD B u_purse)) (m__law_draw_1 x_purse x_many)
    obtain ⟨k2, k3, hok⟩ := hok
    refine sb_set 4 (SE.cell 0 rfl (by intro G_ e_ r_purse; have r_many := Rep.mono e_ r_many; exact de_mod (de_ixI (de_var 0 r_purse) de_int k2) (de_var 1 r_many) k3)) (fun v_drawn G1 e1 r_drawn => ?_) sc.nd
    have r_many := Rep.mono e1 r_many
    replace r_drawn : rep G1 v_drawn ((getI x_purse (0 : Int)) % x_many) := r_drawn
    replace hok : ok__law_draw_2 x_purse x_many ((getI x_purse (0 : Int)) % x_many) := hok
    show SJ B _ _ [some (.ref u_purse), some v_many, none, none, some v_drawn] G1 [(u_purse, cl x_purse)] (JX (JUD B u_purse)) (m__law_draw_1 x_purse x_many)
    rw [show m__law_draw_1 x_purse x_many = m__law_draw_2 x_purse x_many ((getI x_purse (0 : Int)) % x_many) from rfl]
    generalize ((getI x_purse (0 : Int)) % x_many) = x_drawn at r_drawn hok ⊢
    obtain ⟨k4, k5, k6, hok⟩ := hok
    refine sb_setIxI 0 (at_var 0) (SE.cell 0 rfl (by intro G_ e_ r_purse; have r_many := Rep.mono e_ r_many; have r_drawn := Rep.mono e_ r_drawn; exact de_fdiv (de_ixI (de_var 0 r_purse) de_int k4) (de_var 1 r_many) k5.1 k5.2)) de_int rfl k6 fun G2 e2 => ?_
    have r_many := Rep.mono e2 r_many
    have r_drawn := Rep.mono e2 r_drawn
    replace hok : ok__law_draw_3 (setI x_purse (0 : Int) ((getI x_purse (0 : Int)) / x_many)) x_many x_drawn := hok
    show SJ B _ _ [some (.ref u_purse), some v_many, none, none, some v_drawn] G2 [(u_purse, cl (setI x_purse (0 : Int) ((getI x_purse (0 : Int)) / x_many)))] (JX (JUD B u_purse)) (m__law_draw_2 x_purse x_many x_drawn)
    rw [show m__law_draw_2 x_purse x_many x_drawn = m__law_draw_3 (setI x_purse (0 : Int) ((getI x_purse (0 : Int)) / x_many)) x_many x_drawn from rfl]
    generalize (setI x_purse (0 : Int) ((getI x_purse (0 : Int)) / x_many)) = x_purse at hok ⊢
    exact sb_ret 1 (DE.se (de_var 4 r_drawn))
  · have hok := hokB h1; clear hokA hokB
    show SJ B _ _ [some (.ref u_purse), some v_many, none, none, none] G0 [(u_purse, cl x_purse)] (JUD B u_purse) (m__law_draw_4 x_purse x_many)
    refine sb_set 2 (DE.se de_int) (fun v_found G3 e3 r_found => ?_) sc.nd
    have r_many := Rep.mono e3 r_many
    replace r_found : rep G3 v_found (id (0 : Int)) := r_found
    replace hok : ok__law_draw_5 x_purse x_many (id (0 : Int)) := hok
    show SJ B _ _ [some (.ref u_purse), some v_many, some v_found, none, none] G3 [(u_purse, cl x_purse)] (JUD B u_purse) (m__law_draw_4 x_purse x_many)
    rw [show m__law_draw_4 x_purse x_many = m__law_draw_5 x_purse x_many (id (0 : Int)) from rfl]
    generalize (id (0 : Int)) = x_found at r_found hok ⊢
    obtain ⟨k7, k8, k17, hok⟩ := hok
    have hok2 : ∀ s : (List Int) × Int, s = (List.foldl (fun (s : (List Int) × Int) (y : Int) => m__law_draw_6 s.1 x_many s.2 y) (x_purse, x_found) (irange ((1 : Int) + ((Builtin.Int.intBits x_many : Int) / (28 : Int))))) → ok__law_draw_9 s.1 x_many s.2 := fun s h => by subst h; exact hok
    refine sj_foldS (k := fun (s : (List Int) × Int) => m__law_draw_9 s.1 x_many s.2) (fun (s : (List Int) × Int) (σ_ : L2.St) (G_ : Hp) (C_ : Cs) => ∃ (v_found : V) (t_piece : Option V), (σ_ = [some (.ref u_purse), some v_many, some v_found, t_piece, none] ∧ rep G_ v_found s.2 ∧ C_ = ([(u_purse, cl s.1)] : Cs))) (fun (s : (List Int) × Int) (y : Int) => m__law_draw_6 s.1 x_many s.2 y) (fun (s : (List Int) × Int) (y : Int) => ok__law_draw_6 s.1 x_many s.2 y) (x_purse, x_found) (di_rangeI (b_range T) (de_add de_int (de_fdiv (de_bits (de_var 1 r_many)) de_int k7.1 k7.2)) k8) (sg_name 3 sc.nd) (fun G_ e_ => ⟨_, _, rfl, Rep.mono e_ r_found, rfl⟩) (by rintro ⟨x_purse, x_found⟩ σ_ G_ G2_ C_ e_ ⟨v_found, t_piece, rfl, r_found, rfl⟩; exact ⟨_, _, rfl, Rep.mono e_ r_found, rfl⟩) k17 ?_ ?_
    · rintro ⟨x_purse, x_found⟩ x_piece σ_ σ2_ G4 C_ hy_ e4 ⟨v_found, t_piece, rfl, r_found, rfl⟩ ⟨v_piece, r_piece, rfl⟩ hok
      have r_many := Rep.mono e4 r_many
      replace hok : ok__law_draw_6 x_purse x_many x_found x_piece := hok
      show SJ B _ _ [some (.ref u_purse), some v_many, some v_found, some v_piece, none] G4 [(u_purse, cl x_purse)] (JF (fun (s : (List Int) × Int) (σ_ : L2.St) (G_ : Hp) (C_ : Cs) => ∃ (v_found : V) (t_piece : Option V), (σ_ = [some (.ref u_purse), some v_many, some v_found, t_piece, none] ∧ rep G_ v_found s.2 ∧ C_ = ([(u_purse, cl s.1)] : Cs)))) (m__law_draw_6 x_purse x_many x_found x_piece)
      obtain ⟨k9, k10, hok⟩ := hok
      refine sb_setIxI 0 (at_var 0) (SE.cell 0 rfl (by intro G_ e_ r_purse; have r_many := Rep.mono e_ r_many; have r_found := Rep.mono e_ r_found; have r_piece := Rep.mono e_ r_piece; exact de_add (de_ixI (de_var 0 r_purse) de_int k9) de_int)) de_int rfl k10 fun G5 e5 => ?_
      have r_many := Rep.mono e5 r_many
      have r_found := Rep.mono e5 r_found
      have r_piece := Rep.mono e5 r_piece
      replace hok : ok__law_draw_7 (setI x_purse (2 : Int) ((getI x_purse (2 : Int)) + (1 : Int))) x_many x_found x_piece := hok
      show SJ B _ _ [some (.ref u_purse), some v_many, some v_found, some v_piece, none] G5 [(u_purse, cl (setI x_purse (2 : Int) ((getI x_purse (2 : Int)) + (1 : Int))))] (JF (fun (s : (List Int) × Int) (σ_ : L2.St) (G_ : Hp) (C_ : Cs) => ∃ (v_found : V) (t_piece : Option V), (σ_ = [some (.ref u_purse), some v_many, some v_found, t_piece, none] ∧ rep G_ v_found s.2 ∧ C_ = ([(u_purse, cl s.1)] : Cs)))) (m__law_draw_6 x_purse x_many x_found x_piece)
      rw [show m__law_draw_6 x_purse x_many x_found x_piece = m__law_draw_7 (setI x_purse (2 : Int) ((getI x_purse (2 : Int)) + (1 : Int))) x_many x_found x_piece from rfl]
      generalize (setI x_purse (2 : Int) ((getI x_purse (2 : Int)) + (1 : Int))) = x_purse at hok ⊢
      obtain ⟨k11, k12, k13, k14, k15, hok⟩ := hok
      refine sb_set 2 (SE.cell 0 rfl (by intro G_ e_ r_purse; have r_many := Rep.mono e_ r_many; have r_found := Rep.mono e_ r_found; have r_piece := Rep.mono e_ r_piece; exact de_add (de_mul (de_var 2 r_found) de_int k11) (de_callZ (y := ((getI x_purse (1 : Int)), (getI x_purse (2 : Int)), (getI x_purse (3 : Int)), ())) (z := (m__law_mixed (getI x_purse (1 : Int)) (getI x_purse (2 : Int)) (getI x_purse (3 : Int)))) (h__law_mixed T) hr (da_cons (de_ixI (de_var 0 r_purse) de_int k12) (da_cons (de_ixI (de_var 0 r_purse) de_int k13) (da_cons (de_ixI (de_var 0 r_purse) de_int k14) da_nil))) k15))) (fun v_found G6 e6 r_found => ?_) sc.nd
      have r_many := Rep.mono e6 r_many
      have r_piece := Rep.mono e6 r_piece
      replace r_found : rep G6 v_found ((x_found * (2147483587 : Int)) + (m__law_mixed (getI x_purse (1 : Int)) (getI x_purse (2 : Int)) (getI x_purse (3 : Int)))) := r_found
      replace hok : ok__law_draw_8 x_purse x_many ((x_found * (2147483587 : Int)) + (m__law_mixed (getI x_purse (1 : Int)) (getI x_purse (2 : Int)) (getI x_purse (3 : Int)))) x_piece := hok
      show SJ B _ _ [some (.ref u_purse), some v_many, some v_found, some v_piece, none] G6 [(u_purse, cl x_purse)] (JF (fun (s : (List Int) × Int) (σ_ : L2.St) (G_ : Hp) (C_ : Cs) => ∃ (v_found : V) (t_piece : Option V), (σ_ = [some (.ref u_purse), some v_many, some v_found, t_piece, none] ∧ rep G_ v_found s.2 ∧ C_ = ([(u_purse, cl s.1)] : Cs)))) (m__law_draw_7 x_purse x_many x_found x_piece)
      rw [show m__law_draw_7 x_purse x_many x_found x_piece = m__law_draw_8 x_purse x_many ((x_found * (2147483587 : Int)) + (m__law_mixed (getI x_purse (1 : Int)) (getI x_purse (2 : Int)) (getI x_purse (3 : Int)))) x_piece from rfl]
      generalize ((x_found * (2147483587 : Int)) + (m__law_mixed (getI x_purse (1 : Int)) (getI x_purse (2 : Int)) (getI x_purse (3 : Int)))) = x_found at r_found hok ⊢
      exact sb_nilF fun G_ e_ => ⟨_, _, rfl, Rep.mono e_ r_found, rfl⟩
    · rintro ⟨x_purse, x_found⟩ σ_ G7 C_ hl_ e7 ⟨v_found, t_piece, rfl, r_found, rfl⟩
      replace hok := hok2 _ hl_
      have r_many := Rep.mono e7 r_many
      replace hok : ok__law_draw_9 x_purse x_many x_found := hok
      show SJ B _ _ [some (.ref u_purse), some v_many, some v_found, t_piece, none] G7 [(u_purse, cl x_purse)] (JUD B u_purse) (m__law_draw_9 x_purse x_many x_found)
      obtain ⟨k16, hok⟩ := hok
      exact sb_ret 1 (DE.se (de_mod (de_var 2 r_found) (de_var 1 r_many) k16))

abbrev N__law_purse : List Str := ["script", "at", "seed"]
def m__law_purse_1 (x_script : Scr) (x_at : Int) (x_seed : Int) : List Int := ([((if (0 : Int) > (x_seed - ((10 : Int) ^ ((18 : Int)).toNat)) then (0 : Int) else (x_seed - ((10 : Int) ^ ((18 : Int)).toNat))) % (((10 : Int) ^ ((60 : Int)).toNat) ^ ((8 : Int)).toNat)), (x_seed % (2147483629 : Int)), (0 : Int), x_at] : List Int)
def ok__law_purse_1 (x_script : Scr) (x_at : Int) (x_seed : Int) : Prop := (CPowW (10 : Int) (18 : Int)) ∧ (CPowW (10 : Int) (60 : Int)) ∧ (CPowW ((10 : Int) ^ ((60 : Int)).toNat) (8 : Int)) ∧ ((0 : Int) < (((10 : Int) ^ ((60 : Int)).toNat) ^ ((8 : Int)).toNat)) ∧ ((0 : Int) < (2147483629 : Int)) ∧ True
def m__law_purse_0 (x_script : Scr) (x_at : Int) : List Int := m__law_purse_1 x_script x_at (List.sum (cut x_script.ns (some x_at) (some (x_at + (1 : Int)))))
def ok__law_purse_0 (x_script : Scr) (x_at : Int) : Prop := ok__law_purse_1 x_script x_at (List.sum (cut x_script.ns (some x_at) (some (x_at + (1 : Int)))))
def m__law_purse (x_script : Scr) (x_at : Int) : List Int := m__law_purse_0 x_script x_at
def ok__law_purse (x_script : Scr) (x_at : Int) : Prop := ok__law_purse_0 x_script x_at
theorem h__law_purse (T : Tx K mg) : Has P w K mg base "_law_purse" (He.ga K "_law_purse") 1 ["script", "at"] (SpN kO (fun (a : Scr × Int × Unit) => ok__law_purse a.1 a.2.1) (fun a => m__law_purse a.1 a.2.1)) := by
  have sc : FnScope N__law_purse ["script", "at"] (defScope s__law_purse) := ⟨rfl, rfl, rfl, by decide +kernel, rfl, by decide +kernel, by decide +kernel⟩
  refine has_O (d__law_purse T) (g__law_purse T) sc (fun _ _ _ _ _ _ us hl => match us, hl with | [_, _], _ => rfl) (by rintro a G vs ⟨v_script, _, rfl, r_script, ⟨v_at, _, rfl, r_at, rfl⟩⟩; rfl) ?_
  rintro X ⟨cdv, AA, outer, ss, HH, EE, rfl⟩ hr B vs ⟨x_script, x_at, ⟨⟩⟩ G0 hB ⟨v_script, _, rfl, r_script, ⟨v_at, _, rfl, r_at, rfl⟩⟩ hok
  replace hok : ok__law_purse_0 x_script x_at := hok
  show SJ B _ _ [some v_script, some v_at, none] G0 [] (JO B []) (m__law_purse_0 x_script x_at)
  refine sb_set 2 (DE.se (de_sum (b_sum T) (DO.de (do_sliceScr T.pk (de_var 0 r_script) (dp_some (de_var 1 r_at)) (dp_some (de_add (de_var 1 r_at) de_int)))))) (fun v_seed G1 e1 r_seed => ?_) sc.nd
  have r_script := Rep.mono e1 r_script
  have r_at := Rep.mono e1 r_at
  replace r_seed : rep G1 v_seed (List.sum (cut x_script.ns (some x_at) (some (x_at + (1 : Int))))) := r_seed
  replace hok : ok__law_purse_1 x_script x_at (List.sum (cut x_script.ns (some x_at) (some (x_at + (1 : Int))))) := hok
  show SJ B _ _ [some v_script, some v_at, some v_seed] G1 [] (JO B []) (m__law_purse_0 x_script x_at)
  rw [show m__law_purse_0 x_script x_at = m__law_purse_1 x_script x_at (List.sum (cut x_script.ns (some x_at) (some (x_at + (1 : Int))))) from rfl]
  generalize (List.sum (cut x_script.ns (some x_at) (some (x_at + (1 : Int))))) = x_seed at r_seed hok ⊢
  obtain ⟨k1, k2, k3, k4, k5, hok⟩ := hok
  exact sb_retO 0 (DO.so (do_list (hl := (by decide : (4 : Nat) ≤ sizeLine)) (des_cons (de_mod (de_max (b_max T) (de_sub (de_var 2 r_seed) (de_pow de_int de_int k1)) de_int) (de_pow (de_pow de_int de_int k2) de_int k3) k4) (des_cons (de_mod (de_var 2 r_seed) de_int k5) (des_cons de_int (des_cons (de_var 1 r_at) des_nil)))))) (by first | exact Nat.zero_le _ | simp)

abbrev N__law_purses : List Str := ["script", "few", "at"]
def m__law_purses (x_script : Scr) (x_few : Int) : List (List Int) := ((irange (if (if (x_script.ns.length : Int) < x_few then (x_script.ns.length : Int) else x_few) > (1 : Int) then (if (x_script.ns.length : Int) < x_few then (x_script.ns.length : Int) else x_few) else (1 : Int))).map fun y1 => (m__law_purse x_script y1))
def ok__law_purses (x_script : Scr) (x_few : Int) : Prop := (-(2 ^ 24) ≤ (if (if (x_script.ns.length : Int) < x_few then (x_script.ns.length : Int) else x_few) > (1 : Int) then (if (x_script.ns.length : Int) < x_few then (x_script.ns.length : Int) else x_few) else (1 : Int)) ∧ (if (if (x_script.ns.length : Int) < x_few then (x_script.ns.length : Int) else x_few) > (1 : Int) then (if (x_script.ns.length : Int) < x_few then (x_script.ns.length : Int) else x_few) else (1 : Int)) ≤ 2 ^ 24) ∧ (∀ y1 ∈ (irange (if (if (x_script.ns.length : Int) < x_few then (x_script.ns.length : Int) else x_few) > (1 : Int) then (if (x_script.ns.length : Int) < x_few then (x_script.ns.length : Int) else x_few) else (1 : Int))), (ok__law_purse x_script y1)) ∧ True
theorem h__law_purses (T : Tx K mg) : Has P w K mg base "_law_purses" (He.ga K "_law_purses") 2 ["script", "few"] (SpN kP (fun (a : Scr × Int × Unit) => ok__law_purses a.1 a.2.1) (fun a => m__law_purses a.1 a.2.1)) := by
  have sc : FnScope N__law_purses ["script", "few"] (defScope s__law_purses) := ⟨rfl, rfl, rfl, by decide +kernel, rfl, by decide +kernel, by decide +kernel⟩
  refine has_P (d__law_purses T) (g__law_purses T) sc (fun _ _ _ _ _ _ us hl => match us, hl with | [_, _], _ => rfl) (by rintro a G vs ⟨v_script, _, rfl, r_script, ⟨v_few, _, rfl, r_few, rfl⟩⟩; rfl) ?_
  rintro X ⟨cdv, AA, outer, ss, HH, EE, rfl⟩ hr vs ⟨x_script, x_few, ⟨⟩⟩ G0 ⟨v_script, _, rfl, r_script, ⟨v_few, _, rfl, r_few, rfl⟩⟩ hok
  replace hok : ok__law_purses x_script x_few := hok
  obtain ⟨k1, k3, hok⟩ := hok
  show DPz _ _ [some v_script, some v_few, none] G0 ((irange (if (if (x_script.ns.length : Int) < x_few then (x_script.ns.length : Int) else x_few) > (1 : Int) then (if (x_script.ns.length : Int) < x_few then (x_script.ns.length : Int) else x_few) else (1 : Int))).map fun y1 => (m__law_purse x_script y1))
  exact dp_lc (fun y1 => (m__law_purse x_script y1)) sc.nd rfl (di_rangeI (b_range T) (de_max (b_max T) de_int (de_min (b_min T) (de_var 1 r_few) (de_lenScr T.pk (b_len T) (de_var 0 r_script)))) k1) (blkOk_by (own := [("at", 2)]) (N := N__law_purses) (sc := _) (by first | decide +kernel | rfl)) rfl (dg_name sc.nd) (by intro i_ y1 σ_ G_ hy_ eG_ hT_; obtain ⟨v_y1, q_y1, rfl⟩ := hT_; have r_script := Rep.mono eG_ r_script; have r_few := Rep.mono eG_ r_few; have z_ := k3 y1 (List.mem_of_getElem? hy_); have ze_ := z_; have k2 := ze_; intro Y_ hY_; have hr := InBlk.room hY_ hr; obtain ⟨⟨s_, H_, C_, cl_, fp_, rfl⟩⟩ := hY_; exact do_callZ (y := (x_script, y1, ())) (z := (m__law_purse x_script y1)) (h__law_purse T) hr (da_cons (de_var 0 r_script) (da_cons (de_var 2 q_y1) da_nil)) k2)

abbrev N__law_shuffled : List Str := ["purse", "some", "found", "item"]
def m__law_shuffled_3 {α : Type} [Inhabited α] (x_purse : List Int) (x_some : List α) (x_found : List α) (x_item : α) : (List Int) × (List α) := (x_purse, x_found)
def ok__law_shuffled_3 {α : Type} [Inhabited α] (x_purse : List Int) (x_some : List α) (x_found : List α) (x_item : α) : Prop := True
def m__law_shuffled_2 {α : Type} [Inhabited α] (x_purse : List Int) (x_some : List α) (x_found : List α) (x_item : α) : (List Int) × (List α) := m__law_shuffled_3 ((m__law_draw x_purse ((x_found.length : Int) + (1 : Int))).2) x_some (insI x_found ((m__law_draw x_purse ((x_found.length : Int) + (1 : Int))).1) x_item) x_item
def ok__law_shuffled_2 {α : Type} [Inhabited α] (x_purse : List Int) (x_some : List α) (x_found : List α) (x_item : α) : Prop := (ok__law_draw x_purse ((x_found.length : Int) + (1 : Int))) ∧ (x_found.length < sizeLine) ∧ (0 ≤ (m__law_draw x_purse ((x_found.length : Int) + (1 : Int))).1 ∧ (m__law_draw x_purse ((x_found.length : Int) + (1 : Int))).1 < 2 ^ 63) ∧ ok__law_shuffled_3 ((m__law_draw x_purse ((x_found.length : Int) + (1 : Int))).2) x_some (insI x_found ((m__law_draw x_purse ((x_found.length : Int) + (1 : Int))).1) x_item) x_item
def m__law_shuffled_4 {α : Type} [Inhabited α] (x_purse : List Int) (x_some : List α) (x_found : List α) : (List α) × (List Int) := (x_found, x_purse)
def ok__law_shuffled_4 {α : Type} [Inhabited α] (x_purse : List Int) (x_some : List α) (x_found : List α) : Prop := True
def m__law_shuffled_1 {α : Type} [Inhabited α] (x_purse : List Int) (x_some : List α) (x_found : List α) : (List α) × (List Int) := m__law_shuffled_4 ((List.foldl (fun (s : (List Int) × (List α)) (y : α) => m__law_shuffled_2 s.1 x_some s.2 y) (x_purse, x_found) x_some).1) x_some ((List.foldl (fun (s : (List Int) × (List α)) (y : α) => m__law_shuffled_2 s.1 x_some s.2 y) (x_purse, x_found) x_some).2)
def ok__law_shuffled_1 {α : Type} [Inhabited α] (x_purse : List Int) (x_some : List α) (x_found : List α) : Prop := (foldOk (fun (s : (List Int) × (List α)) (y : α) => m__law_shuffled_2 s.1 x_some s.2 y) (fun (s : (List Int) × (List α)) (y : α) => ok__law_shuffled_2 s.1 x_some s.2 y) x_some (x_purse, x_found)) ∧ ok__law_shuffled_4 ((List.foldl (fun (s : (List Int) × (List α)) (y : α) => m__law_shuffled_2 s.1 x_some s.2 y) (x_purse, x_found) x_some).1) x_some ((List.foldl (fun (s : (List Int) × (List α)) (y : α) => m__law_shuffled_2 s.1 x_some s.2 y) (x_purse, x_found) x_some).2)
def m__law_shuffled_0 {α : Type} [Inhabited α] (x_purse : List Int) (x_some : List α) : (List α) × (List Int) := m__law_shuffled_1 x_purse x_some (id ([] : List α))
def ok__law_shuffled_0 {α : Type} [Inhabited α] (x_purse : List Int) (x_some : List α) : Prop := ok__law_shuffled_1 x_purse x_some (id ([] : List α))
def m__law_shuffled {α : Type} [Inhabited α] (x_purse : List Int) (x_some : List α) : (List α) × (List Int) := m__law_shuffled_0 x_purse x_some
def ok__law_shuffled {α : Type} [Inhabited α] (x_purse : List Int) (x_some : List α) : Prop := ok__law_shuffled_0 x_purse x_some
theorem h__law_shuffled {α : Type} [Inhabited α] [Rep α] (T : Tx K mg) : Has P w K mg base "_law_shuffled" (He.ga K "_law_shuffled") 3 ["purse", "some"] (SpU kO (fun p (a : (List α) × Unit) => ok__law_shuffled p a.1) (fun p a => m__law_shuffled p a.1)) := by
  have sc : FnScope N__law_shuffled ["purse", "some"] (defScope s__law_shuffled) := ⟨rfl, rfl, rfl, by decide +kernel, rfl, by decide +kernel, by decide +kernel⟩
  refine has_UO (d__law_shuffled T) (g__law_shuffled T) sc (fun _ _ _ _ _ _ us hl => match us, hl with | [_, _], _ => rfl) (by rintro a G vs ⟨v_some, _, rfl, r_some, rfl⟩; rfl) ?_
  rintro X ⟨cdv, AA, outer, ss, HH, EE, rfl⟩ hr B u_purse x_purse vs ⟨x_some, ⟨⟩⟩ G0 hB ⟨v_some, _, rfl, r_some, rfl⟩ hok
  replace hok : ok__law_shuffled_0 x_purse x_some := hok
  show SJ B _ _ [some (.ref u_purse), some v_some, none, none] G0 [(u_purse, cl x_purse)] (JUO B u_purse) (m__law_shuffled_0 x_purse x_some)
  refine sb_setO 2 (DO.so (do_list (hl := (by decide : (0 : Nat) ≤ sizeLine)) (des_nil (α := α)))) (fun u_found G1 e1 hB_found => ?_) sc.nd
  have r_some := Rep.mono e1 r_some
  replace hok : ok__law_shuffled_1 x_purse x_some (id ([] : List α)) := hok
  show SJ B _ _ [some (.ref u_purse), some v_some, some (.ref u_found), none] G1 [(u_purse, cl x_purse), (u_found, cl (id ([] : List α)))] (JUO B u_purse) (m__law_shuffled_0 x_purse x_some)
  rw [show m__law_shuffled_0 x_purse x_some = m__law_shuffled_1 x_purse x_some (id ([] : List α)) from rfl]
  generalize (id ([] : List α)) = x_found at hok ⊢
  obtain ⟨k4, hok⟩ := hok
  have hok2 : ∀ s : (List Int) × (List α), s = (List.foldl (fun (s : (List Int) × (List α)) (y : α) => m__law_shuffled_2 s.1 x_some s.2 y) (x_purse, x_found) x_some) → ok__law_shuffled_4 s.1 x_some s.2 := fun s h => by subst h; exact hok
  refine sj_foldS (k := fun (s : (List Int) × (List α)) => m__law_shuffled_4 s.1 x_some s.2) (fun (s : (List Int) × (List α)) (σ_ : L2.St) (G_ : Hp) (C_ : Cs) => ∃ (t_item : Option V), (σ_ = [some (.ref u_purse), some v_some, some (.ref u_found), t_item] ∧ C_ = ([(u_purse, cl s.1), (u_found, cl s.2)] : Cs))) (fun (s : (List Int) × (List α)) (y : α) => m__law_shuffled_2 s.1 x_some s.2 y) (fun (s : (List Int) × (List α)) (y : α) => ok__law_shuffled_2 s.1 x_some s.2 y) (x_purse, x_found) (di_list (de_var 1 r_some)) (sg_name 3 sc.nd) (fun G_ e_ => ⟨_, rfl, rfl⟩) (by rintro ⟨x_purse, x_found⟩ σ_ G_ G2_ C_ e_ ⟨t_item, rfl, rfl⟩; exact ⟨_, rfl, rfl⟩) k4 ?_ ?_
  · rintro ⟨x_purse, x_found⟩ x_item σ_ σ2_ G2 C_ hy_ e2 ⟨t_item, rfl, rfl⟩ ⟨v_item, r_item, rfl⟩ hok
    have r_some := Rep.mono e2 r_some
    replace hok : ok__law_shuffled_2 x_purse x_some x_found x_item := hok
    show SJ B _ _ [some (.ref u_purse), some v_some, some (.ref u_found), some v_item] G2 [(u_purse, cl x_purse), (u_found, cl x_found)] (JF (fun (s : (List Int) × (List α)) (σ_ : L2.St) (G_ : Hp) (C_ : Cs) => ∃ (t_item : Option V), (σ_ = [some (.ref u_purse), some v_some, some (.ref u_found), t_item] ∧ C_ = ([(u_purse, cl s.1), (u_found, cl s.2)] : Cs)))) (m__law_shuffled_2 x_purse x_some x_found x_item)
    obtain ⟨k1, k2, k3, hok⟩ := hok
    refine sb_insert 1 (at_var 2) (se_callUZ (z := (m__law_draw x_purse ((x_found.length : Int) + (1 : Int))).1) (l' := (m__law_draw x_purse ((x_found.length : Int) + (1 : Int))).2) 0 (h__law_draw T) hr (at_var 0) (sa_cons (SE.cell 1 rfl (by intro G_ e_ r_found; have r_some := Rep.mono e_ r_some; have r_item := Rep.mono e_ r_item; exact de_add (de_lenI (b_len T) (de_var 2 r_found)) de_int)) sa_nil) rfl k1) (DE.se (de_var 3 r_item)) rfl rfl k2 k3 fun G3 e3 => ?_
    have r_some := Rep.mono e3 r_some
    have r_item := Rep.mono e3 r_item
    replace hok : ok__law_shuffled_3 ((m__law_draw x_purse ((x_found.length : Int) + (1 : Int))).2) x_some (insI x_found ((m__law_draw x_purse ((x_found.length : Int) + (1 : Int))).1) x_item) x_item := hok
    show SJ B _ _ [some (.ref u_purse), some v_some, some (.ref u_found), some v_item] G3 [(u_purse, cl ((m__law_draw x_purse ((x_found.length : Int) + (1 : Int))).2)), (u_found, cl (insI x_found ((m__law_draw x_purse ((x_found.length : Int) + (1 : Int))).1) x_item))] (JF (fun (s : (List Int) × (List α)) (σ_ : L2.St) (G_ : Hp) (C_ : Cs) => ∃ (t_item : Option V), (σ_ = [some (.ref u_purse), some v_some, some (.ref u_found), t_item] ∧ C_ = ([(u_purse, cl s.1), (u_found, cl s.2)] : Cs)))) (m__law_shuffled_2 x_purse x_some x_found x_item)
    rw [show m__law_shuffled_2 x_purse x_some x_found x_item = m__law_shuffled_3 ((m__law_draw x_purse ((x_found.length : Int) + (1 : Int))).2) x_some (insI x_found ((m__law_draw x_purse ((x_found.length : Int) + (1 : Int))).1) x_item) x_item from rfl]
    generalize (m__law_draw x_purse ((x_found.length : Int) + (1 : Int))).2 = x_purse, (insI x_found ((m__law_draw x_purse ((x_found.length : Int) + (1 : Int))).1) x_item) = x_found at hok ⊢
    exact sb_nilF fun G_ e_ => ⟨_, rfl, rfl⟩
  · rintro ⟨x_purse, x_found⟩ σ_ G4 C_ hl_ e4 ⟨t_item, rfl, rfl⟩
    replace hok := hok2 _ hl_
    have r_some := Rep.mono e4 r_some
    replace hok : ok__law_shuffled_4 x_purse x_some x_found := hok
    show SJ B _ _ [some (.ref u_purse), some v_some, some (.ref u_found), t_item] G4 [(u_purse, cl x_purse), (u_found, cl x_found)] (JUO B u_purse) (m__law_shuffled_4 x_purse x_some x_found)
    exact sb_retCell 1 1 (at_var 2) rfl (by first | exact Nat.zero_le _ | decide) hB_found

abbrev N__law_word : List Str := ["purse", "found", "turn"]
def m__law_word_3 (x_purse : List Int) (x_found : Str) (x_turn : Int) : (List Int) × Str := (x_purse, x_found)
def ok__law_word_3 (x_purse : List Int) (x_found : Str) (x_turn : Int) : Prop := True
def m__law_word_2 (x_purse : List Int) (x_found : Str) (x_turn : Int) : (List Int) × Str := m__law_word_3 ((m__law_draw x_purse (26 : Int)).2) (x_found ++ (signAt ("abcdefghijklmnopqrstuvwxyz" : Str) ((m__law_draw x_purse (26 : Int)).1))) x_turn
def ok__law_word_2 (x_purse : List Int) (x_found : Str) (x_turn : Int) : Prop := (ok__law_draw x_purse (26 : Int)) ∧ ((atI ("abcdefghijklmnopqrstuvwxyz" : Str).cps.toList ((m__law_draw x_purse (26 : Int)).1)).isSome = true) ∧ (x_found.length + (signAt ("abcdefghijklmnopqrstuvwxyz" : Str) ((m__law_draw x_purse (26 : Int)).1)).length ≤ sizeLine) ∧ ok__law_word_3 ((m__law_draw x_purse (26 : Int)).2) (x_found ++ (signAt ("abcdefghijklmnopqrstuvwxyz" : Str) ((m__law_draw x_purse (26 : Int)).1))) x_turn
def m__law_word_4 (x_purse : List Int) (x_found : Str) : Str × (List Int) := (x_found, x_purse)
def ok__law_word_4 (x_purse : List Int) (x_found : Str) : Prop := True
def m__law_word_1 (x_purse : List Int) (x_found : Str) : Str × (List Int) := m__law_word_4 ((List.foldl (fun (s : (List Int) × Str) (y : Int) => m__law_word_2 s.1 s.2 y) ((m__law_draw x_purse (8 : Int)).2, x_found) (irange ((1 : Int) + (m__law_draw x_purse (8 : Int)).1))).1) ((List.foldl (fun (s : (List Int) × Str) (y : Int) => m__law_word_2 s.1 s.2 y) ((m__law_draw x_purse (8 : Int)).2, x_found) (irange ((1 : Int) + (m__law_draw x_purse (8 : Int)).1))).2)
def ok__law_word_1 (x_purse : List Int) (x_found : Str) : Prop := (ok__law_draw x_purse (8 : Int)) ∧ (-(2 ^ 24) ≤ ((1 : Int) + (m__law_draw x_purse (8 : Int)).1) ∧ ((1 : Int) + (m__law_draw x_purse (8 : Int)).1) ≤ 2 ^ 24) ∧ (foldOk (fun (s : (List Int) × Str) (y : Int) => m__law_word_2 s.1 s.2 y) (fun (s : (List Int) × Str) (y : Int) => ok__law_word_2 s.1 s.2 y) (irange ((1 : Int) + (m__law_draw x_purse (8 : Int)).1)) ((m__law_draw x_purse (8 : Int)).2, x_found)) ∧ ok__law_word_4 ((List.foldl (fun (s : (List Int) × Str) (y : Int) => m__law_word_2 s.1 s.2 y) ((m__law_draw x_purse (8 : Int)).2, x_found) (irange ((1 : Int) + (m__law_draw x_purse (8 : Int)).1))).1) ((List.foldl (fun (s : (List Int) × Str) (y : Int) => m__law_word_2 s.1 s.2 y) ((m__law_draw x_purse (8 : Int)).2, x_found) (irange ((1 : Int) + (m__law_draw x_purse (8 : Int)).1))).2)
def m__law_word_0 (x_purse : List Int) : Str × (List Int) := m__law_word_1 x_purse (id ("" : Str))
def ok__law_word_0 (x_purse : List Int) : Prop := ok__law_word_1 x_purse (id ("" : Str))
def m__law_word (x_purse : List Int) : Str × (List Int) := m__law_word_0 x_purse
def ok__law_word (x_purse : List Int) : Prop := ok__law_word_0 x_purse
theorem h__law_word (T : Tx K mg) : Has P w K mg base "_law_word" (He.ga K "_law_word") 3 ["purse"] (SpU kD (fun p (a : Unit) => ok__law_word p) (fun p a => m__law_word p)) := by
  have sc : FnScope N__law_word ["purse"] (defScope s__law_word) := ⟨rfl, rfl, rfl, by decide +kernel, rfl, by decide +kernel, by decide +kernel⟩
  refine has_UD (d__law_word T) (g__law_word T) sc (fun _ _ _ _ _ _ us hl => match us, hl with | [_], _ => rfl) (by rintro a G vs rfl; rfl) ?_
  rintro X ⟨cdv, AA, outer, ss, HH, EE, rfl⟩ hr B u_purse x_purse vs ⟨⟩ G0 hB rfl hok
  replace hok : ok__law_word_0 x_purse := hok
  show SJ B _ _ [some (.ref u_purse), none, none] G0 [(u_purse, cl x_purse)] (JUD B u_purse) (m__law_word_0 x_purse)
  refine sb_set 1 (DE.se de_str) (fun v_found G1 e1 r_found => ?_) sc.nd
  replace r_found : rep G1 v_found (id ("" : Str)) := r_found
  replace hok : ok__law_word_1 x_purse (id ("" : Str)) := hok
  show SJ B _ _ [some (.ref u_purse), some v_found, none] G1 [(u_purse, cl x_purse)] (JUD B u_purse) (m__law_word_0 x_purse)
  rw [show m__law_word_0 x_purse = m__law_word_1 x_purse (id ("" : Str)) from rfl]
  generalize (id ("" : Str)) = x_found at r_found hok ⊢
  obtain ⟨k1, k2, k6, hok⟩ := hok
  have hok2 : ∀ s : (List Int) × Str, s = (List.foldl (fun (s : (List Int) × Str) (y : Int) => m__law_word_2 s.1 s.2 y) ((m__law_draw x_purse (8 : Int)).2, x_found) (irange ((1 : Int) + (m__law_draw x_purse (8 : Int)).1))) → ok__law_word_4 s.1 s.2 := fun s h => by subst h; exact hok
  refine sj_foldSS (k := fun (s : (List Int) × Str) => m__law_word_4 s.1 s.2) (fun (s : (List Int) × Str) (σ_ : L2.St) (G_ : Hp) (C_ : Cs) => ∃ (v_found : V) (t_turn : Option V), (σ_ = [some (.ref u_purse), some v_found, t_turn] ∧ rep G_ v_found s.2 ∧ C_ = ([(u_purse, cl s.1)] : Cs))) (fun (s : (List Int) × Str) (y : Int) => m__law_word_2 s.1 s.2 y) (fun (s : (List Int) × Str) (y : Int) => ok__law_word_2 s.1 s.2 y) ((m__law_draw x_purse (8 : Int)).2, x_found) (si_rangeI (b_range T) (se_add (DE.se de_int) (se_callUZ (z := (m__law_draw x_purse (8 : Int)).1) (l' := (m__law_draw x_purse (8 : Int)).2) 0 (h__law_draw T) hr (at_var 0) (DA.sa (da_cons de_int da_nil)) rfl k1)) k2) (sg_name 2 sc.nd) (fun G_ e_ => ⟨_, _, rfl, Rep.mono e_ r_found, rfl⟩) (by rintro ⟨x_purse, x_found⟩ σ_ G_ G2_ C_ e_ ⟨v_found, t_turn, rfl, r_found, rfl⟩; exact ⟨_, _, rfl, Rep.mono e_ r_found, rfl⟩) k6 ?_ ?_
  · rintro ⟨x_purse, x_found⟩ x_turn σ_ σ2_ G2 C_ hy_ e2 ⟨v_found, t_turn, rfl, r_found, rfl⟩ ⟨v_turn, r_turn, rfl⟩ hok
    replace hok : ok__law_word_2 x_purse x_found x_turn := hok
    show SJ B _ _ [some (.ref u_purse), some v_found, some v_turn] G2 [(u_purse, cl x_purse)] (JF (fun (s : (List Int) × Str) (σ_ : L2.St) (G_ : Hp) (C_ : Cs) => ∃ (v_found : V) (t_turn : Option V), (σ_ = [some (.ref u_purse), some v_found, t_turn] ∧ rep G_ v_found s.2 ∧ C_ = ([(u_purse, cl s.1)] : Cs)))) (m__law_word_2 x_purse x_found x_turn)
    obtain ⟨k3, k4, k5, hok⟩ := hok
    refine sb_set 1 (se_op op_add_str (r2_addS k5) (DE.se (de_var 1 r_found)) (se_signI (DE.se de_str) (se_callUZ (z := (m__law_draw x_purse (26 : Int)).1) (l' := (m__law_draw x_purse (26 : Int)).2) 0 (h__law_draw T) hr (at_var 0) (DA.sa (da_cons de_int da_nil)) rfl k3) k4)) (fun v_found G3 e3 r_found => ?_) sc.nd
    have r_turn := Rep.mono e3 r_turn
    replace r_found : rep G3 v_found (x_found ++ (signAt ("abcdefghijklmnopqrstuvwxyz" : Str) ((m__law_draw x_purse (26 : Int)).1))) := r_found
    replace hok : ok__law_word_3 ((m__law_draw x_purse (26 : Int)).2) (x_found ++ (signAt ("abcdefghijklmnopqrstuvwxyz" : Str) ((m__law_draw x_purse (26 : Int)).1))) x_turn := hok
    show SJ B _ _ [some (.ref u_purse), some v_found, some v_turn] G3 [(u_purse, cl ((m__law_draw x_purse (26 : Int)).2))] (JF (fun (s : (List Int) × Str) (σ_ : L2.St) (G_ : Hp) (C_ : Cs) => ∃ (v_found : V) (t_turn : Option V), (σ_ = [some (.ref u_purse), some v_found, t_turn] ∧ rep G_ v_found s.2 ∧ C_ = ([(u_purse, cl s.1)] : Cs)))) (m__law_word_2 x_purse x_found x_turn)
    rw [show m__law_word_2 x_purse x_found x_turn = m__law_word_3 ((m__law_draw x_purse (26 : Int)).2) (x_found ++ (signAt ("abcdefghijklmnopqrstuvwxyz" : Str) ((m__law_draw x_purse (26 : Int)).1))) x_turn from rfl]
    generalize (m__law_draw x_purse (26 : Int)).2 = x_purse, (x_found ++ (signAt ("abcdefghijklmnopqrstuvwxyz" : Str) ((m__law_draw x_purse (26 : Int)).1))) = x_found at r_found hok ⊢
    exact sb_nilF fun G_ e_ => ⟨_, _, rfl, Rep.mono e_ r_found, rfl⟩
  · rintro ⟨x_purse, x_found⟩ σ_ G4 C_ hl_ e4 ⟨v_found, t_turn, rfl, r_found, rfl⟩
    replace hok := hok2 _ hl_
    replace hok : ok__law_word_4 x_purse x_found := hok
    show SJ B _ _ [some (.ref u_purse), some v_found, t_turn] G4 [(u_purse, cl x_purse)] (JUD B u_purse) (m__law_word_4 x_purse x_found)
    exact sb_ret 1 (DE.se (de_var 1 r_found))

abbrev N__law_names : List Str := ["purse", "many", "some", "fresh", "word"]
def m__law_names_1 (x_purse : List Int) (x_many : Int) (x_some : List Str) (x_fresh : Str) : (List Str) × (List Int) := ((srt (cut ((m__law_shuffled x_purse (x_some ++ (([x_fresh] : List Str).filter fun y1 => (!decide (y1 ∈ x_some))))).1) none (some x_many))), (m__law_shuffled x_purse (x_some ++ (([x_fresh] : List Str).filter fun y1 => (!decide (y1 ∈ x_some))))).2)
def ok__law_names_1 (x_purse : List Int) (x_many : Int) (x_some : List Str) (x_fresh : Str) : Prop := (x_some.length + (([x_fresh] : List Str).filter fun y1 => (!decide (y1 ∈ x_some))).length ≤ sizeLine) ∧ (ok__law_shuffled x_purse (x_some ++ (([x_fresh] : List Str).filter fun y1 => (!decide (y1 ∈ x_some))))) ∧ ((cut ((m__law_shuffled x_purse (x_some ++ (([x_fresh] : List Str).filter fun y1 => (!decide (y1 ∈ x_some))))).1) none (some x_many)).length < 64) ∧ True
def m__law_names_0 (x_purse : List Int) (x_many : Int) : (List Str) × (List Int) := m__law_names_1 ((m__law_word x_purse ).2) x_many ([("ale" : Str), ("bun" : Str), ("cob" : Str), ("a" : Str), ("zz" : Str), ("egg" : Str), ("marrows" : Str), ("jam" : Str)] : List Str) ((m__law_word x_purse ).1)
def ok__law_names_0 (x_purse : List Int) (x_many : Int) : Prop := (ok__law_word x_purse ) ∧ ok__law_names_1 ((m__law_word x_purse ).2) x_many ([("ale" : Str), ("bun" : Str), ("cob" : Str), ("a" : Str), ("zz" : Str), ("egg" : Str), ("marrows" : Str), ("jam" : Str)] : List Str) ((m__law_word x_purse ).1)
def m__law_names (x_purse : List Int) (x_many : Int) : (List Str) × (List Int) := m__law_names_0 x_purse x_many
def ok__law_names (x_purse : List Int) (x_many : Int) : Prop := ok__law_names_0 x_purse x_many
theorem h__law_names (T : Tx K mg) : Has P w K mg base "_law_names" (He.ga K "_law_names") 4 ["purse", "many"] (SpU kO (fun p (a : Int × Unit) => ok__law_names p a.1) (fun p a => m__law_names p a.1)) := by
  have sc : FnScope N__law_names ["purse", "many"] (defScope s__law_names) := ⟨rfl, rfl, rfl, by decide +kernel, rfl, by decide +kernel, by decide +kernel⟩
  refine has_UO (d__law_names T) (g__law_names T) sc (fun _ _ _ _ _ _ us hl => match us, hl with | [_, _], _ => rfl) (by rintro a G vs ⟨v_many, _, rfl, r_many, rfl⟩; rfl) ?_
  rintro X ⟨cdv, AA, outer, ss, HH, EE, rfl⟩ hr B u_purse x_purse vs ⟨x_many, ⟨⟩⟩ G0 hB ⟨v_many, _, rfl, r_many, rfl⟩ hok
  replace hok : ok__law_names_0 x_purse x_many := hok
  show SJ B _ _ [some (.ref u_purse), some v_many, none, none, none] G0 [(u_purse, cl x_purse)] (JUO B u_purse) (m__law_names_0 x_purse x_many)
  obtain ⟨k1, hok⟩ := hok
  refine sb_parT 2 3 (DE.se (DO.de (do_list (hl := (by decide : (8 : Nat) ≤ sizeLine)) (des_cons de_str (des_cons de_str (des_cons de_str (des_cons de_str (des_cons de_str (des_cons de_str (des_cons de_str (des_cons de_str des_nil))))))))))) (se_callUZ (z := (m__law_word x_purse ).1) (l' := (m__law_word x_purse ).2) 0 (h__law_word T) hr (at_var 0) (DA.sa da_nil) rfl k1) (fun v_some v_fresh G1 e1 r_some r_fresh => ?_) sc.nd
  have r_many := Rep.mono e1 r_many
  replace r_some : rep G1 v_some ([("ale" : Str), ("bun" : Str), ("cob" : Str), ("a" : Str), ("zz" : Str), ("egg" : Str), ("marrows" : Str), ("jam" : Str)] : List Str) := r_some
  replace r_fresh : rep G1 v_fresh ((m__law_word x_purse ).1) := r_fresh
  replace hok : ok__law_names_1 ((m__law_word x_purse ).2) x_many ([("ale" : Str), ("bun" : Str), ("cob" : Str), ("a" : Str), ("zz" : Str), ("egg" : Str), ("marrows" : Str), ("jam" : Str)] : List Str) ((m__law_word x_purse ).1) := hok
  show SJ B _ _ [some (.ref u_purse), some v_many, some v_some, some v_fresh, none] G1 [(u_purse, cl ((m__law_word x_purse ).2))] (JUO B u_purse) (m__law_names_0 x_purse x_many)
  rw [show m__law_names_0 x_purse x_many = m__law_names_1 ((m__law_word x_purse ).2) x_many ([("ale" : Str), ("bun" : Str), ("cob" : Str), ("a" : Str), ("zz" : Str), ("egg" : Str), ("marrows" : Str), ("jam" : Str)] : List Str) ((m__law_word x_purse ).1) from rfl]
  generalize (m__law_word x_purse ).2 = x_purse, ([("ale" : Str), ("bun" : Str), ("cob" : Str), ("a" : Str), ("zz" : Str), ("egg" : Str), ("marrows" : Str), ("jam" : Str)] : List Str) = x_some, (m__law_word x_purse ).1 = x_fresh at r_some r_fresh hok ⊢
  obtain ⟨k2, k3, k4, hok⟩ := hok
  exact sb_retO 1 (so_sorted (b_sorted T) (SO.se (so_slice (SO.se (so_callUZ (z := (m__law_shuffled x_purse (x_some ++ (([x_fresh] : List Str).filter fun y1 => (!decide (y1 ∈ x_some))))).1) (l' := (m__law_shuffled x_purse (x_some ++ (([x_fresh] : List Str).filter fun y1 => (!decide (y1 ∈ x_some))))).2) 0 (h__law_shuffled T) hr (at_var 0) (DA.sa (da_cons (DO.de (do_cat (de_var 2 r_some) (DO.de (do_lc (lc_fil (fun y1 => (!decide (y1 ∈ x_some))) sc.nd rfl (di_list (DO.de (do_list (hl := (by decide : (1 : Nat) ≤ sizeLine)) (des_cons (de_var 3 r_fresh) des_nil)))) (blkOk_by (own := [("word", 4)]) (N := N__law_names) (sc := _) (by first | decide +kernel | rfl)) rfl (dg_name sc.nd) (by intro i_ y1 σ_ G_ hy_ eG_ hT_; obtain ⟨v_y1, q_y1, rfl⟩ := hT_; have r_many := Rep.mono eG_ r_many; have r_some := Rep.mono eG_ r_some; have r_fresh := Rep.mono eG_ r_fresh; intro Y_ hY_; have hr := InBlk.room hY_ hr; obtain ⟨⟨s_, H_, C_, cl_, fp_, rfl⟩⟩ := hY_; exact df_one (DC.dt (dc_nin (de_var 4 q_y1) (de_var 2 r_some)))) (by intro i_ y1 σ_ G_ hy_ eG_ hT_ hf_; obtain ⟨v_y1, q_y1, rfl⟩ := hT_; have r_many := Rep.mono eG_ r_many; have r_some := Rep.mono eG_ r_some; have r_fresh := Rep.mono eG_ r_fresh; intro Y_ hY_; have hr := InBlk.room hY_ hr; obtain ⟨⟨s_, H_, C_, cl_, fp_, rfl⟩⟩ := hY_; exact de_var 4 q_y1)))) k2)) da_nil)) rfl k3)) sp_none (sp_some (DE.se (de_var 1 r_many))))) k4) (by first | exact Nat.zero_le _ | simp)

abbrev N__law_fields : List Str := ["names", "found", "name", "some"]
def m__law_fields_3 (x_names : List Str) (x_found : List (List Str)) (x_name : Str) : List (List Str) := x_found
def ok__law_fields_3 (x_names : List Str) (x_found : List (List Str)) (x_name : Str) : Prop := True
def m__law_fields_2 (x_names : List Str) (x_found : List (List Str)) (x_name : Str) : List (List Str) := m__law_fields_3 x_names (x_found ++ (x_found.map fun y1 => (y1 ++ ([x_name] : List Str)))) x_name
def ok__law_fields_2 (x_names : List Str) (x_found : List (List Str)) (x_name : Str) : Prop := (∀ y1 ∈ x_found, (y1.length + ([x_name] : List Str).length ≤ sizeLine)) ∧ (x_found.length + (x_found.map fun y1 => (y1 ++ ([x_name] : List Str))).length ≤ sizeLine) ∧ ok__law_fields_3 x_names (x_found ++ (x_found.map fun y1 => (y1 ++ ([x_name] : List Str)))) x_name
def m__law_fields_4 (x_names : List Str) (x_found : List (List Str)) : List (List Str) := (cut x_found (some (1 : Int)) none)
def ok__law_fields_4 (x_names : List Str) (x_found : List (List Str)) : Prop := True
def m__law_fields_1 (x_names : List Str) (x_found : List (List Str)) : List (List Str) := m__law_fields_4 x_names (List.foldl (fun (s : List (List Str)) (y : Str) => m__law_fields_2 x_names s y) x_found x_names)
def ok__law_fields_1 (x_names : List Str) (x_found : List (List Str)) : Prop := (foldOk (fun (s : List (List Str)) (y : Str) => m__law_fields_2 x_names s y) (fun (s : List (List Str)) (y : Str) => ok__law_fields_2 x_names s y) x_names x_found) ∧ ok__law_fields_4 x_names (List.foldl (fun (s : List (List Str)) (y : Str) => m__law_fields_2 x_names s y) x_found x_names)
def m__law_fields_0 (x_names : List Str) : List (List Str) := m__law_fields_1 x_names ([([] : List Str)] : List (List Str))
def ok__law_fields_0 (x_names : List Str) : Prop := ok__law_fields_1 x_names ([([] : List Str)] : List (List Str))
def m__law_fields (x_names : List Str) : List (List Str) := m__law_fields_0 x_names
def ok__law_fields (x_names : List Str) : Prop := ok__law_fields_0 x_names
theorem h__law_fields (T : Tx K mg) : Has P w K mg base "_law_fields" (He.ga K "_law_fields") 1 ["names"] (SpN kO (fun (a : (List Str) × Unit) => ok__law_fields a.1) (fun a => m__law_fields a.1)) := by
  have sc : FnScope N__law_fields ["names"] (defScope s__law_fields) := ⟨rfl, rfl, rfl, by decide +kernel, rfl, by decide +kernel, by decide +kernel⟩
  refine has_O (d__law_fields T) (g__law_fields T) sc (fun _ _ _ _ _ _ us hl => match us, hl with | [_], _ => rfl) (by rintro a G vs ⟨v_names, _, rfl, r_names, rfl⟩; rfl) ?_
  rintro X ⟨cdv, AA, outer, ss, HH, EE, rfl⟩ hr B vs ⟨x_names, ⟨⟩⟩ G0 hB ⟨v_names, _, rfl, r_names, rfl⟩ hok
  replace hok : ok__law_fields_0 x_names := hok
  show SJ B _ _ [some v_names, none, none, none] G0 [] (JO B []) (m__law_fields_0 x_names)
  refine sb_set 1 (DE.se (DO.de (do_list (hl := (by decide : (1 : Nat) ≤ sizeLine)) (des_cons (DO.de (do_list (hl := (by decide : (0 : Nat) ≤ sizeLine)) (des_nil (α := Str)))) des_nil)))) (fun v_found G1 e1 r_found => ?_) sc.nd
  have r_names := Rep.mono e1 r_names
  replace r_found : rep G1 v_found ([([] : List Str)] : List (List Str)) := r_found
  replace hok : ok__law_fields_1 x_names ([([] : List Str)] : List (List Str)) := hok
  show SJ B _ _ [some v_names, some v_found, none, none] G1 [] (JO B []) (m__law_fields_0 x_names)
  rw [show m__law_fields_0 x_names = m__law_fields_1 x_names ([([] : List Str)] : List (List Str)) from rfl]
  generalize ([([] : List Str)] : List (List Str)) = x_found at r_found hok ⊢
  obtain ⟨k4, hok⟩ := hok
  have hok2 : ∀ s : List (List Str), s = (List.foldl (fun (s : List (List Str)) (y : Str) => m__law_fields_2 x_names s y) x_found x_names) → ok__law_fields_4 x_names s := fun s h => by subst h; exact hok
  refine sj_foldS (k := fun (s : List (List Str)) => m__law_fields_4 x_names s) (fun (s : List (List Str)) (σ_ : L2.St) (G_ : Hp) (C_ : Cs) => ∃ (v_found : V) (t_name : Option V), (σ_ = [some v_names, some v_found, t_name, none] ∧ rep G_ v_found s ∧ C_ = ([] : Cs))) (fun (s : List (List Str)) (y : Str) => m__law_fields_2 x_names s y) (fun (s : List (List Str)) (y : Str) => ok__law_fields_2 x_names s y) x_found (di_list (de_var 0 r_names)) (sg_name 2 sc.nd) (fun G_ e_ => ⟨_, _, rfl, Rep.mono e_ r_found, rfl⟩) (by rintro x_found σ_ G_ G2_ C_ e_ ⟨v_found, t_name, rfl, r_found, rfl⟩; exact ⟨_, _, rfl, Rep.mono e_ r_found, rfl⟩) k4 ?_ ?_
  · rintro x_found x_name σ_ σ2_ G2 C_ hy_ e2 ⟨v_found, t_name, rfl, r_found, rfl⟩ ⟨v_name, r_name, rfl⟩ hok
    have r_names := Rep.mono e2 r_names
    replace hok : ok__law_fields_2 x_names x_found x_name := hok
    show SJ B _ _ [some v_names, some v_found, some v_name, none] G2 [] (JF (fun (s : List (List Str)) (σ_ : L2.St) (G_ : Hp) (C_ : Cs) => ∃ (v_found : V) (t_name : Option V), (σ_ = [some v_names, some v_found, t_name, none] ∧ rep G_ v_found s ∧ C_ = ([] : Cs)))) (m__law_fields_2 x_names x_found x_name)
    obtain ⟨k2, k3, hok⟩ := hok
    refine sb_set 1 (DE.se (DO.de (do_cat (de_var 1 r_found) (DO.de (do_lc (lc_map (fun y1 => (y1 ++ ([x_name] : List Str))) sc.nd rfl (di_list (de_var 1 r_found)) (blkOk_by (own := [("some", 3)]) (N := N__law_fields) (sc := _) (by first | decide +kernel | rfl)) rfl (dg_name sc.nd) (by intro i_ y1 σ_ G_ hy_ eG_ hT_; obtain ⟨v_y1, q_y1, rfl⟩ := hT_; have r_names := Rep.mono eG_ r_names; have r_found := Rep.mono eG_ r_found; have r_name := Rep.mono eG_ r_name; have z_ := k2 y1 (List.mem_of_getElem? hy_); have ze_ := z_; have k1 := ze_; intro Y_ hY_; have hr := InBlk.room hY_ hr; obtain ⟨⟨s_, H_, C_, cl_, fp_, rfl⟩⟩ := hY_; exact DO.de (do_cat (de_var 3 q_y1) (DO.de (do_list (hl := (by decide : (1 : Nat) ≤ sizeLine)) (des_cons (de_var 2 r_name) des_nil))) k1))))) k3))) (fun v_found G3 e3 r_found => ?_) sc.nd
    have r_names := Rep.mono e3 r_names
    have r_name := Rep.mono e3 r_name
    replace r_found : rep G3 v_found (x_found ++ (x_found.map fun y1 => (y1 ++ ([x_name] : List Str)))) := r_found
    replace hok : ok__law_fields_3 x_names (x_found ++ (x_found.map fun y1 => (y1 ++ ([x_name] : List Str)))) x_name := hok
    show SJ B _ _ [some v_names, some v_found, some v_name, none] G3 [] (JF (fun (s : List (List Str)) (σ_ : L2.St) (G_ : Hp) (C_ : Cs) => ∃ (v_found : V) (t_name : Option V), (σ_ = [some v_names, some v_found, t_name, none] ∧ rep G_ v_found s ∧ C_ = ([] : Cs)))) (m__law_fields_2 x_names x_found x_name)
    rw [show m__law_fields_2 x_names x_found x_name = m__law_fields_3 x_names (x_found ++ (x_found.map fun y1 => (y1 ++ ([x_name] : List Str)))) x_name from rfl]
    generalize (x_found ++ (x_found.map fun y1 => (y1 ++ ([x_name] : List Str)))) = x_found at r_found hok ⊢
    exact sb_nilF fun G_ e_ => ⟨_, _, rfl, Rep.mono e_ r_found, rfl⟩
  · rintro x_found σ_ G4 C_ hl_ e4 ⟨v_found, t_name, rfl, r_found, rfl⟩
    replace hok := hok2 _ hl_
    have r_names := Rep.mono e4 r_names
    replace hok : ok__law_fields_4 x_names x_found := hok
    show SJ B _ _ [some v_names, some v_found, t_name, none] G4 [] (JO B []) (m__law_fields_4 x_names x_found)
    exact sb_retO 0 (DO.so (do_slice (de_var 1 r_found) (dp_some de_int) dp_none)) (by first | exact Nat.zero_le _ | simp)

abbrev N__law_is_part : List Str := ["one", "other", "name"]
def m__law_is_part_0 (x_one : List Str) (x_other : List Str) : Bool := decide ((x_one.filter fun y1 => (!decide (y1 ∈ x_other))) = ([] : List Str))
def ok__law_is_part_0 (x_one : List Str) (x_other : List Str) : Prop := True
def m__law_is_part (x_one : List Str) (x_other : List Str) : Bool := m__law_is_part_0 x_one x_other
def ok__law_is_part (x_one : List Str) (x_other : List Str) : Prop := ok__law_is_part_0 x_one x_other
theorem h__law_is_part (T : Tx K mg) : Has P w K mg base "_law_is_part" (He.ga K "_law_is_part") 1 ["one", "other"] (SpN kD (fun (a : (List Str) × (List Str) × Unit) => ok__law_is_part a.1 a.2.1) (fun a => m__law_is_part a.1 a.2.1)) := by
  have sc : FnScope N__law_is_part ["one", "other"] (defScope s__law_is_part) := ⟨rfl, rfl, rfl, by decide +kernel, rfl, by decide +kernel, by decide +kernel⟩
  refine has_D (d__law_is_part T) (g__law_is_part T) sc (fun _ _ _ _ _ _ us hl => match us, hl with | [_, _], _ => rfl) (by rintro a G vs ⟨v_one, _, rfl, r_one, ⟨v_other, _, rfl, r_other, rfl⟩⟩; rfl) ?_
  rintro X ⟨cdv, AA, outer, ss, HH, EE, rfl⟩ hr B vs ⟨x_one, x_other, ⟨⟩⟩ G0 hB ⟨v_one, _, rfl, r_one, ⟨v_other, _, rfl, r_other, rfl⟩⟩ hok
  replace hok : ok__law_is_part_0 x_one x_other := hok
  show SJ B _ _ [some v_one, some v_other, none] G0 [] (JD B []) (m__law_is_part_0 x_one x_other)
  exact sb_ret 0 (DE.se (DC.de (dc_eq hr.units (DO.de (do_lc (lc_fil (fun y1 => (!decide (y1 ∈ x_other))) sc.nd rfl (di_list (de_var 0 r_one)) (blkOk_by (own := [("name", 2)]) (N := N__law_is_part) (sc := _) (by first | decide +kernel | rfl)) rfl (dg_name sc.nd) (by intro i_ y1 σ_ G_ hy_ eG_ hT_; obtain ⟨v_y1, q_y1, rfl⟩ := hT_; have r_one := Rep.mono eG_ r_one; have r_other := Rep.mono eG_ r_other; intro Y_ hY_; have hr := InBlk.room hY_ hr; obtain ⟨⟨s_, H_, C_, cl_, fp_, rfl⟩⟩ := hY_; exact df_one (DC.dt (dc_nin (de_var 2 q_y1) (de_var 1 r_other)))) (by intro i_ y1 σ_ G_ hy_ eG_ hT_ hf_; obtain ⟨v_y1, q_y1, rfl⟩ := hT_; have r_one := Rep.mono eG_ r_one; have r_other := Rep.mono eG_ r_other; intro Y_ hY_; have hr := InBlk.room hY_ hr; obtain ⟨⟨s_, H_, C_, cl_, fp_, rfl⟩⟩ := hY_; exact de_var 2 q_y1)))) (DO.de (do_list (hl := (by decide : (0 : Nat) ≤ sizeLine)) (des_nil (α := Str)))))))

abbrev N__law_one_of : List Str := ["purse", "some"]
def m__law_one_of_0 {α : Type} [Inhabited α] (x_purse : List Int) (x_some : List α) : α × (List Int) := ((getI x_some ((m__law_draw x_purse (x_some.length : Int)).1)), (m__law_draw x_purse (x_some.length : Int)).2)
def ok__law_one_of_0 {α : Type} [Inhabited α] (x_purse : List Int) (x_some : List α) : Prop := (ok__law_draw x_purse (x_some.length : Int)) ∧ ((atI x_some ((m__law_draw x_purse (x_some.length : Int)).1)).isSome = true) ∧ True
def m__law_one_of {α : Type} [Inhabited α] (x_purse : List Int) (x_some : List α) : α × (List Int) := m__law_one_of_0 x_purse x_some
def ok__law_one_of {α : Type} [Inhabited α] (x_purse : List Int) (x_some : List α) : Prop := ok__law_one_of_0 x_purse x_some
theorem h__law_one_of {α : Type} [Inhabited α] [Rep α] (T : Tx K mg) : Has P w K mg base "_law_one_of" (He.ga K "_law_one_of") 3 ["purse", "some"] (SpU kD (fun p (a : (List α) × Unit) => ok__law_one_of p a.1) (fun p a => m__law_one_of p a.1)) := by
  have sc : FnScope N__law_one_of ["purse", "some"] (defScope s__law_one_of) := ⟨rfl, rfl, rfl, by decide +kernel, rfl, by decide +kernel, by decide +kernel⟩
  refine has_UD (d__law_one_of T) (g__law_one_of T) sc (fun _ _ _ _ _ _ us hl => match us, hl with | [_, _], _ => rfl) (by rintro a G vs ⟨v_some, _, rfl, r_some, rfl⟩; rfl) ?_
  rintro X ⟨cdv, AA, outer, ss, HH, EE, rfl⟩ hr B u_purse x_purse vs ⟨x_some, ⟨⟩⟩ G0 hB ⟨v_some, _, rfl, r_some, rfl⟩ hok
  replace hok : ok__law_one_of_0 x_purse x_some := hok
  show SJ B _ _ [some (.ref u_purse), some v_some] G0 [(u_purse, cl x_purse)] (JUD B u_purse) (m__law_one_of_0 x_purse x_some)
  obtain ⟨k1, k2, hok⟩ := hok
  exact sb_ret 1 (se_ixI (DE.se (de_var 1 r_some)) (se_callUZ (z := (m__law_draw x_purse (x_some.length : Int)).1) (l' := (m__law_draw x_purse (x_some.length : Int)).2) 0 (h__law_draw T) hr (at_var 0) (DA.sa (da_cons (de_lenI (b_len T) (de_var 1 r_some)) da_nil)) rfl k1) k2)

abbrev N__law_stewards : List Str := ["purse", "names", "most", "turn", "found", "size", "many"]
def m__law_stewards_4 (x_purse : List Int) (x_names : List Str) (x_most : Int) (x_turn : Int) (x_found : List (Int × (List Str))) (x_size : Int) (x_many : Int) : (List Int) × (List (Int × (List Str))) := (x_purse, x_found)
def ok__law_stewards_4 (x_purse : List Int) (x_names : List Str) (x_most : Int) (x_turn : Int) (x_found : List (Int × (List Str))) (x_size : Int) (x_many : Int) : Prop := True
def m__law_stewards_3 (x_purse : List Int) (x_names : List Str) (x_most : Int) (x_turn : Int) (x_found : List (Int × (List Str))) (x_size : Int) (x_many : Int) : (List Int) × (List (Int × (List Str))) := m__law_stewards_4 ((m__law_shuffled x_purse x_names).2) x_names x_most x_turn (x_found ++ [(x_many, (m__law_shuffled x_purse x_names).1)]) x_size x_many
def ok__law_stewards_3 (x_purse : List Int) (x_names : List Str) (x_most : Int) (x_turn : Int) (x_found : List (Int × (List Str))) (x_size : Int) (x_many : Int) : Prop := (ok__law_shuffled x_purse x_names) ∧ (x_found.length < sizeLine) ∧ ok__law_stewards_4 ((m__law_shuffled x_purse x_names).2) x_names x_most x_turn (x_found ++ [(x_many, (m__law_shuffled x_purse x_names).1)]) x_size x_many
def m__law_stewards_2 (x_purse : List Int) (x_names : List Str) (x_most : Int) (x_turn : Int) (x_found : List (Int × (List Str))) (x_size : Int) : (List Int) × (List (Int × (List Str))) := m__law_stewards_3 ((m__law_one_of ((m__law_draw x_purse (4 : Int)).2) ([(1 : Int), (2 : Int), (2 : Int), (3 : Int), (3 : Int), x_size, ((x_size + (1 : Int)) + (m__law_draw x_purse (4 : Int)).1), ((10 : Int) ^ ((29 : Int)).toNat)] : List Int)).2) x_names x_most x_turn x_found x_size ((m__law_one_of ((m__law_draw x_purse (4 : Int)).2) ([(1 : Int), (2 : Int), (2 : Int), (3 : Int), (3 : Int), x_size, ((x_size + (1 : Int)) + (m__law_draw x_purse (4 : Int)).1), ((10 : Int) ^ ((29 : Int)).toNat)] : List Int)).1)
def ok__law_stewards_2 (x_purse : List Int) (x_names : List Str) (x_most : Int) (x_turn : Int) (x_found : List (Int × (List Str))) (x_size : Int) : Prop := (ok__law_draw x_purse (4 : Int)) ∧ (CPowW (10 : Int) (29 : Int)) ∧ (ok__law_one_of ((m__law_draw x_purse (4 : Int)).2) ([(1 : Int), (2 : Int), (2 : Int), (3 : Int), (3 : Int), x_size, ((x_size + (1 : Int)) + (m__law_draw x_purse (4 : Int)).1), ((10 : Int) ^ ((29 : Int)).toNat)] : List Int)) ∧ ok__law_stewards_3 ((m__law_one_of ((m__law_draw x_purse (4 : Int)).2) ([(1 : Int), (2 : Int), (2 : Int), (3 : Int), (3 : Int), x_size, ((x_size + (1 : Int)) + (m__law_draw x_purse (4 : Int)).1), ((10 : Int) ^ ((29 : Int)).toNat)] : List Int)).2) x_names x_most x_turn x_found x_size ((m__law_one_of ((m__law_draw x_purse (4 : Int)).2) ([(1 : Int), (2 : Int), (2 : Int), (3 : Int), (3 : Int), x_size, ((x_size + (1 : Int)) + (m__law_draw x_purse (4 : Int)).1), ((10 : Int) ^ ((29 : Int)).toNat)] : List Int)).1)
def m__law_stewards_5 (x_purse : List Int) (x_names : List Str) (x_most : Int) (x_found : List (Int × (List Str))) (x_size : Int) : (List (Int × (List Str))) × (List Int) := (x_found, x_purse)
def ok__law_stewards_5 (x_purse : List Int) (x_names : List Str) (x_most : Int) (x_found : List (Int × (List Str))) (x_size : Int) : Prop := True
def m__law_stewards_1 (x_purse : List Int) (x_names : List Str) (x_most : Int) (x_found : List (Int × (List Str))) (x_size : Int) : (List (Int × (List Str))) × (List Int) := m__law_stewards_5 ((List.foldl (fun (s : (List Int) × (List (Int × (List Str)))) (y : Int) => m__law_stewards_2 s.1 x_names x_most y s.2 x_size) ((m__law_draw x_purse x_most).2, x_found) (irange ((1 : Int) + (m__law_draw x_purse x_most).1))).1) x_names x_most ((List.foldl (fun (s : (List Int) × (List (Int × (List Str)))) (y : Int) => m__law_stewards_2 s.1 x_names x_most y s.2 x_size) ((m__law_draw x_purse x_most).2, x_found) (irange ((1 : Int) + (m__law_draw x_purse x_most).1))).2) x_size
def ok__law_stewards_1 (x_purse : List Int) (x_names : List Str) (x_most : Int) (x_found : List (Int × (List Str))) (x_size : Int) : Prop := (ok__law_draw x_purse x_most) ∧ (-(2 ^ 24) ≤ ((1 : Int) + (m__law_draw x_purse x_most).1) ∧ ((1 : Int) + (m__law_draw x_purse x_most).1) ≤ 2 ^ 24) ∧ (foldOk (fun (s : (List Int) × (List (Int × (List Str)))) (y : Int) => m__law_stewards_2 s.1 x_names x_most y s.2 x_size) (fun (s : (List Int) × (List (Int × (List Str)))) (y : Int) => ok__law_stewards_2 s.1 x_names x_most y s.2 x_size) (irange ((1 : Int) + (m__law_draw x_purse x_most).1)) ((m__law_draw x_purse x_most).2, x_found)) ∧ ok__law_stewards_5 ((List.foldl (fun (s : (List Int) × (List (Int × (List Str)))) (y : Int) => m__law_stewards_2 s.1 x_names x_most y s.2 x_size) ((m__law_draw x_purse x_most).2, x_found) (irange ((1 : Int) + (m__law_draw x_purse x_most).1))).1) x_names x_most ((List.foldl (fun (s : (List Int) × (List (Int × (List Str)))) (y : Int) => m__law_stewards_2 s.1 x_names x_most y s.2 x_size) ((m__law_draw x_purse x_most).2, x_found) (irange ((1 : Int) + (m__law_draw x_purse x_most).1))).2) x_size
def m__law_stewards_0 (x_purse : List Int) (x_names : List Str) (x_most : Int) : (List (Int × (List Str))) × (List Int) := m__law_stewards_1 x_purse x_names x_most ([] : List (Int × (List Str))) (x_names.length : Int)
def ok__law_stewards_0 (x_purse : List Int) (x_names : List Str) (x_most : Int) : Prop := ok__law_stewards_1 x_purse x_names x_most ([] : List (Int × (List Str))) (x_names.length : Int)
def m__law_stewards (x_purse : List Int) (x_names : List Str) (x_most : Int) : (List (Int × (List Str))) × (List Int) := m__law_stewards_0 x_purse x_names x_most
def ok__law_stewards (x_purse : List Int) (x_names : List Str) (x_most : Int) : Prop := ok__law_stewards_0 x_purse x_names x_most
theorem h__law_stewards (T : Tx K mg) : Has P w K mg base "_law_stewards" (He.ga K "_law_stewards") 4 ["purse", "names", "most"] (SpU kO (fun p (a : (List Str) × Int × Unit) => ok__law_stewards p a.1 a.2.1) (fun p a => m__law_stewards p a.1 a.2.1)) := by
  have sc : FnScope N__law_stewards ["purse", "names", "most"] (defScope s__law_stewards) := ⟨rfl, rfl, rfl, by decide +kernel, rfl, by decide +kernel, by decide +kernel⟩
  refine has_UO (d__law_stewards T) (g__law_stewards T) sc (fun _ _ _ _ _ _ us hl => match us, hl with | [_, _, _], _ => rfl) (by rintro a G vs ⟨v_names, _, rfl, r_names, ⟨v_most, _, rfl, r_most, rfl⟩⟩; rfl) ?_
  rintro X ⟨cdv, AA, outer, ss, HH, EE, rfl⟩ hr B u_purse x_purse vs ⟨x_names, x_most, ⟨⟩⟩ G0 hB ⟨v_names, _, rfl, r_names, ⟨v_most, _, rfl, r_most, rfl⟩⟩ hok
  replace hok : ok__law_stewards_0 x_purse x_names x_most := hok
  show SJ B _ _ [some (.ref u_purse), some v_names, some v_most, none, none, none, none] G0 [(u_purse, cl x_purse)] (JUO B u_purse) (m__law_stewards_0 x_purse x_names x_most)
  refine sb_parM2 4 5 (sm_own (DO.so (do_list (hl := (by decide : (0 : Nat) ≤ sizeLine)) (des_nil (α := Int × (List Str))))) fun u_found => (sm_data (DE.se (de_lenI (b_len T) (de_var 1 r_names))) sm_nil)) (fun vs_ G1 e1 hu_ => ?_) sc.nd
  obtain ⟨u_found, _, rfl, hB_found, v_size, _, rfl, r_size, hu_⟩ := hu_
  cases hu_
  have r_names := Rep.mono e1 r_names
  have r_most := Rep.mono e1 r_most
  replace r_size : rep G1 v_size (x_names.length : Int) := r_size
  replace hok : ok__law_stewards_1 x_purse x_names x_most ([] : List (Int × (List Str))) (x_names.length : Int) := hok
  show SJ B _ _ [some (.ref u_purse), some v_names, some v_most, none, some (.ref u_found), some v_size, none] G1 [(u_purse, cl x_purse), (u_found, cl ([] : List (Int × (List Str))))] (JUO B u_purse) (m__law_stewards_0 x_purse x_names x_most)
  rw [show m__law_stewards_0 x_purse x_names x_most = m__law_stewards_1 x_purse x_names x_most ([] : List (Int × (List Str))) (x_names.length : Int) from rfl]
  generalize ([] : List (Int × (List Str))) = x_found, (x_names.length : Int) = x_size at r_size hok ⊢
  obtain ⟨k1, k2, k8, hok⟩ := hok
  have hok2 : ∀ s : (List Int) × (List (Int × (List Str))), s = (List.foldl (fun (s : (List Int) × (List (Int × (List Str)))) (y : Int) => m__law_stewards_2 s.1 x_names x_most y s.2 x_size) ((m__law_draw x_purse x_most).2, x_found) (irange ((1 : Int) + (m__law_draw x_purse x_most).1))) → ok__law_stewards_5 s.1 x_names x_most s.2 x_size := fun s h => by subst h; exact hok
  refine sj_foldSS (k := fun (s : (List Int) × (List (Int × (List Str)))) => m__law_stewards_5 s.1 x_names x_most s.2 x_size) (fun (s : (List Int) × (List (Int × (List Str)))) (σ_ : L2.St) (G_ : Hp) (C_ : Cs) => ∃ (t_turn : Option V) (t_many : Option V), (σ_ = [some (.ref u_purse), some v_names, some v_most, t_turn, some (.ref u_found), some v_size, t_many] ∧ C_ = ([(u_purse, cl s.1), (u_found, cl s.2)] : Cs))) (fun (s : (List Int) × (List (Int × (List Str)))) (y : Int) => m__law_stewards_2 s.1 x_names x_most y s.2 x_size) (fun (s : (List Int) × (List (Int × (List Str)))) (y : Int) => ok__law_stewards_2 s.1 x_names x_most y s.2 x_size) ((m__law_draw x_purse x_most).2, x_found) (si_rangeI (b_range T) (se_add (DE.se de_int) (se_callUZ (z := (m__law_draw x_purse x_most).1) (l' := (m__law_draw x_purse x_most).2) 0 (h__law_draw T) hr (at_var 0) (DA.sa (da_cons (de_var 2 r_most) da_nil)) rfl k1)) k2) (sg_name 3 sc.nd) (fun G_ e_ => ⟨_, _, rfl, rfl⟩) (by rintro ⟨x_purse, x_found⟩ σ_ G_ G2_ C_ e_ ⟨t_turn, t_many, rfl, rfl⟩; exact ⟨_, _, rfl, rfl⟩) k8 ?_ ?_
  · rintro ⟨x_purse, x_found⟩ x_turn σ_ σ2_ G2 C_ hy_ e2 ⟨t_turn, t_many, rfl, rfl⟩ ⟨v_turn, r_turn, rfl⟩ hok
    have r_names := Rep.mono e2 r_names
    have r_most := Rep.mono e2 r_most
    have r_size := Rep.mono e2 r_size
    replace hok : ok__law_stewards_2 x_purse x_names x_most x_turn x_found x_size := hok
    show SJ B _ _ [some (.ref u_purse), some v_names, some v_most, some v_turn, some (.ref u_found), some v_size, t_many] G2 [(u_purse, cl x_purse), (u_found, cl x_found)] (JF (fun (s : (List Int) × (List (Int × (List Str)))) (σ_ : L2.St) (G_ : Hp) (C_ : Cs) => ∃ (t_turn : Option V) (t_many : Option V), (σ_ = [some (.ref u_purse), some v_names, some v_most, t_turn, some (.ref u_found), some v_size, t_many] ∧ C_ = ([(u_purse, cl s.1), (u_found, cl s.2)] : Cs)))) (m__law_stewards_2 x_purse x_names x_most x_turn x_found x_size)
    obtain ⟨k3, k4, k5, hok⟩ := hok
    refine sb_set 6 (se_callUZ (z := (m__law_one_of ((m__law_draw x_purse (4 : Int)).2) ([(1 : Int), (2 : Int), (2 : Int), (3 : Int), (3 : Int), x_size, ((x_size + (1 : Int)) + (m__law_draw x_purse (4 : Int)).1), ((10 : Int) ^ ((29 : Int)).toNat)] : List Int)).1) (l' := (m__law_one_of ((m__law_draw x_purse (4 : Int)).2) ([(1 : Int), (2 : Int), (2 : Int), (3 : Int), (3 : Int), x_size, ((x_size + (1 : Int)) + (m__law_draw x_purse (4 : Int)).1), ((10 : Int) ^ ((29 : Int)).toNat)] : List Int)).2) 0 (h__law_one_of T) hr (at_var 0) (sa_cons (SO.se (so_listK (ses_cons (DE.se de_int) (ses_cons (DE.se de_int) (ses_cons (DE.se de_int) (ses_cons (DE.se de_int) (ses_cons (DE.se de_int) (ses_cons (DE.se (de_var 5 r_size)) (ses_cons (se_add (DE.se (de_add (de_var 5 r_size) de_int)) (se_callUZ (z := (m__law_draw x_purse (4 : Int)).1) (l' := (m__law_draw x_purse (4 : Int)).2) 0 (h__law_draw T) hr (at_var 0) (DA.sa (da_cons de_int da_nil)) rfl k3)) (ses_cons (DE.se (de_pow de_int de_int k4)) ses_nil)))))))) (by decide : (8 : Nat) ≤ sizeLine))) sa_nil) rfl k5) (fun v_many G3 e3 r_many => ?_) sc.nd
    have r_names := Rep.mono e3 r_names
    have r_most := Rep.mono e3 r_most
    have r_size := Rep.mono e3 r_size
    have r_turn := Rep.mono e3 r_turn
    replace r_many : rep G3 v_many ((m__law_one_of ((m__law_draw x_purse (4 : Int)).2) ([(1 : Int), (2 : Int), (2 : Int), (3 : Int), (3 : Int), x_size, ((x_size + (1 : Int)) + (m__law_draw x_purse (4 : Int)).1), ((10 : Int) ^ ((29 : Int)).toNat)] : List Int)).1) := r_many
    replace hok : ok__law_stewards_3 ((m__law_one_of ((m__law_draw x_purse (4 : Int)).2) ([(1 : Int), (2 : Int), (2 : Int), (3 : Int), (3 : Int), x_size, ((x_size + (1 : Int)) + (m__law_draw x_purse (4 : Int)).1), ((10 : Int) ^ ((29 : Int)).toNat)] : List Int)).2) x_names x_most x_turn x_found x_size ((m__law_one_of ((m__law_draw x_purse (4 : Int)).2) ([(1 : Int), (2 : Int), (2 : Int), (3 : Int), (3 : Int), x_size, ((x_size + (1 : Int)) + (m__law_draw x_purse (4 : Int)).1), ((10 : Int) ^ ((29 : Int)).toNat)] : List Int)).1) := hok
    show SJ B _ _ [some (.ref u_purse), some v_names, some v_most, some v_turn, some (.ref u_found), some v_size, some v_many] G3 [(u_purse, cl ((m__law_one_of ((m__law_draw x_purse (4 : Int)).2) ([(1 : Int), (2 : Int), (2 : Int), (3 : Int), (3 : Int), x_size, ((x_size + (1 : Int)) + (m__law_draw x_purse (4 : Int)).1), ((10 : Int) ^ ((29 : Int)).toNat)] : List Int)).2)), (u_found, cl x_found)] (JF (fun (s : (List Int) × (List (Int × (List Str)))) (σ_ : L2.St) (G_ : Hp) (C_ : Cs) => ∃ (t_turn : Option V) (t_many : Option V), (σ_ = [some (.ref u_purse), some v_names, some v_most, t_turn, some (.ref u_found), some v_size, t_many] ∧ C_ = ([(u_purse, cl s.1), (u_found, cl s.2)] : Cs)))) (m__law_stewards_2 x_purse x_names x_most x_turn x_found x_size)
    rw [show m__law_stewards_2 x_purse x_names x_most x_turn x_found x_size = m__law_stewards_3 ((m__law_one_of ((m__law_draw x_purse (4 : Int)).2) ([(1 : Int), (2 : Int), (2 : Int), (3 : Int), (3 : Int), x_size, ((x_size + (1 : Int)) + (m__law_draw x_purse (4 : Int)).1), ((10 : Int) ^ ((29 : Int)).toNat)] : List Int)).2) x_names x_most x_turn x_found x_size ((m__law_one_of ((m__law_draw x_purse (4 : Int)).2) ([(1 : Int), (2 : Int), (2 : Int), (3 : Int), (3 : Int), x_size, ((x_size + (1 : Int)) + (m__law_draw x_purse (4 : Int)).1), ((10 : Int) ^ ((29 : Int)).toNat)] : List Int)).1) from rfl]
    generalize (m__law_one_of ((m__law_draw x_purse (4 : Int)).2) ([(1 : Int), (2 : Int), (2 : Int), (3 : Int), (3 : Int), x_size, ((x_size + (1 : Int)) + (m__law_draw x_purse (4 : Int)).1), ((10 : Int) ^ ((29 : Int)).toNat)] : List Int)).2 = x_purse, (m__law_one_of ((m__law_draw x_purse (4 : Int)).2) ([(1 : Int), (2 : Int), (2 : Int), (3 : Int), (3 : Int), x_size, ((x_size + (1 : Int)) + (m__law_draw x_purse (4 : Int)).1), ((10 : Int) ^ ((29 : Int)).toNat)] : List Int)).1 = x_many at r_many hok ⊢
    obtain ⟨k6, k7, hok⟩ := hok
    refine sb_append 1 (at_var 4) (se_tup (DE.se (de_var 6 r_many)) (SO.se (so_callUZ (z := (m__law_shuffled x_purse x_names).1) (l' := (m__law_shuffled x_purse x_names).2) 0 (h__law_shuffled T) hr (at_var 0) (DA.sa (da_cons (de_var 1 r_names) da_nil)) rfl k6))) rfl rfl k7 fun G4 e4 => ?_
    have r_names := Rep.mono e4 r_names
    have r_most := Rep.mono e4 r_most
    have r_size := Rep.mono e4 r_size
    have r_turn := Rep.mono e4 r_turn
    have r_many := Rep.mono e4 r_many
    replace hok : ok__law_stewards_4 ((m__law_shuffled x_purse x_names).2) x_names x_most x_turn (x_found ++ [(x_many, (m__law_shuffled x_purse x_names).1)]) x_size x_many := hok
    show SJ B _ _ [some (.ref u_purse), some v_names, some v_most, some v_turn, some (.ref u_found), some v_size, some v_many] G4 [(u_purse, cl ((m__law_shuffled x_purse x_names).2)), (u_found, cl (x_found ++ [(x_many, (m__law_shuffled x_purse x_names).1)]))] (JF (fun (s : (List Int) × (List (Int × (List Str)))) (σ_ : L2.St) (G_ : Hp) (C_ : Cs) => ∃ (t_turn : Option V) (t_many : Option V), (σ_ = [some (.ref u_purse), some v_names, some v_most, t_turn, some (.ref u_found), some v_size, t_many] ∧ C_ = ([(u_purse, cl s.1), (u_found, cl s.2)] : Cs)))) (m__law_stewards_3 x_purse x_names x_most x_turn x_found x_size x_many)
    rw [show m__law_stewards_3 x_purse x_names x_most x_turn x_found x_size x_many = m__law_stewards_4 ((m__law_shuffled x_purse x_names).2) x_names x_most x_turn (x_found ++ [(x_many, (m__law_shuffled x_purse x_names).1)]) x_size x_many from rfl]
    generalize (m__law_shuffled x_purse x_names).2 = x_purse, (x_found ++ [(x_many, (m__law_shuffled x_purse x_names).1)]) = x_found at hok ⊢
    exact sb_nilF fun G_ e_ => ⟨_, _, rfl, rfl⟩
  · rintro ⟨x_purse, x_found⟩ σ_ G5 C_ hl_ e5 ⟨t_turn, t_many, rfl, rfl⟩
    replace hok := hok2 _ hl_
    have r_names := Rep.mono e5 r_names
    have r_most := Rep.mono e5 r_most
    have r_size := Rep.mono e5 r_size
    replace hok : ok__law_stewards_5 x_purse x_names x_most x_found x_size := hok
    show SJ B _ _ [some (.ref u_purse), some v_names, some v_most, t_turn, some (.ref u_found), some v_size, t_many] G5 [(u_purse, cl x_purse), (u_found, cl x_found)] (JUO B u_purse) (m__law_stewards_5 x_purse x_names x_most x_found x_size)
    exact sb_retCell 1 1 (at_var 4) rfl (by first | exact Nat.zero_le _ | decide) hB_found

abbrev N_is_steward : List Str := ["value", "entries", "name"]
def m_is_steward_1 (x_value : Int × (List Str)) (x_entries : List Str) : Bool := false
def ok_is_steward_1 (x_value : Int × (List Str)) (x_entries : List Str) : Prop := True
def m_is_steward_3 (x_value : Int × (List Str)) (x_entries : List Str) : Bool := false
def ok_is_steward_3 (x_value : Int × (List Str)) (x_entries : List Str) : Prop := True
def m_is_steward_4 (x_value : Int × (List Str)) (x_entries : List Str) : Bool := decide ((srt x_value.2) = (srt x_entries))
def ok_is_steward_4 (x_value : Int × (List Str)) (x_entries : List Str) : Prop := (x_value.2.length < 64) ∧ (x_entries.length < 64) ∧ True
def m_is_steward_2 (x_value : Int × (List Str)) (x_entries : List Str) : Bool := if ((!true) || (!decide ((x_value.2.filter fun y5 => (!true)) = ([] : List Str)))) = true then m_is_steward_3 x_value x_entries else m_is_steward_4 x_value x_entries
def ok_is_steward_2 (x_value : Int × (List Str)) (x_entries : List Str) : Prop := (((!true) || (!decide ((x_value.2.filter fun y5 => (!true)) = ([] : List Str)))) = true → ok_is_steward_3 x_value x_entries) ∧ (((!true) || (!decide ((x_value.2.filter fun y5 => (!true)) = ([] : List Str)))) = false → ok_is_steward_4 x_value x_entries)
def m_is_steward_0 (x_value : Int × (List Str)) (x_entries : List Str) : Bool := if ((!true) || ((!decide ((2 : Int) = (2 : Int))) || ((!(m_is_count x_value.1)) || decide (x_value.1 < (1 : Int))))) = true then m_is_steward_1 x_value x_entries else m_is_steward_2 x_value x_entries
def ok_is_steward_0 (x_value : Int × (List Str)) (x_entries : List Str) : Prop := (((!true) = false) → (((!decide ((2 : Int) = (2 : Int))) = false) → (ok_is_count x_value.1))) ∧ (((!true) || ((!decide ((2 : Int) = (2 : Int))) || ((!(m_is_count x_value.1)) || decide (x_value.1 < (1 : Int))))) = true → ok_is_steward_1 x_value x_entries) ∧ (((!true) || ((!decide ((2 : Int) = (2 : Int))) || ((!(m_is_count x_value.1)) || decide (x_value.1 < (1 : Int))))) = false → ok_is_steward_2 x_value x_entries)
def m_is_steward (x_value : Int × (List Str)) (x_entries : List Str) : Bool := m_is_steward_0 x_value x_entries
def ok_is_steward (x_value : Int × (List Str)) (x_entries : List Str) : Prop := ok_is_steward_0 x_value x_entries
theorem h_is_steward (T : Tx K mg) : Has P w K mg base "is_steward" (He.ga K "is_steward") 3 ["value", "entries"] (SpN kD (fun (a : (Int × (List Str)) × (List Str) × Unit) => ok_is_steward a.1 a.2.1) (fun a => m_is_steward a.1 a.2.1)) := by
  have sc : FnScope N_is_steward ["value", "entries"] (defScope s_is_steward) := ⟨rfl, rfl, rfl, by decide +kernel, rfl, by decide +kernel, by decide +kernel⟩
  refine has_D (d_is_steward T) (g_is_steward T) sc (fun _ _ _ _ _ _ us hl => match us, hl with | [_, _], _ => rfl) (by rintro a G vs ⟨v_value, _, rfl, r_value, ⟨v_entries, _, rfl, r_entries, rfl⟩⟩; rfl) ?_
  rintro X ⟨cdv, AA, outer, ss, HH, EE, rfl⟩ hr B vs ⟨x_value, x_entries, ⟨⟩⟩ G0 hB ⟨v_value, _, rfl, r_value, ⟨v_entries, _, rfl, r_entries, rfl⟩⟩ hok
  replace hok : ok_is_steward_0 x_value x_entries := hok
  show SJ B _ _ [some v_value, some v_entries, none] G0 [] (JD B []) (m_is_steward_0 x_value x_entries)
  obtain ⟨k3, hokA, hokB⟩ := hok
  refine sj_whenX (DT.st (DW.dt (dw_or (dt_not (dt_val (de_isTy (b_isinstance T) (b_tuple T) (de_var 0 r_value) (ty_pair _) (kit_same "tuple")))) fun h3 => (by have k2 := k3 h3; exact dw_or (DC.dt (dc_neI (de_lenPair (b_len T) (de_var 0 r_value)) de_int)) fun h2 => (by have k1 := k2 h2; exact dw_or (dt_not (dt_val (de_callZ (y := (x_value.1, ())) (z := (m_is_count x_value.1)) (h_is_count T) hr (da_cons (de_fst (de_var 0 r_value) de_int) da_nil) k1))) fun h1 => dw_or1 (DC.dt (dc_lt (de_fst (de_var 0 r_value) de_int) de_int))))))) (fun h4 => ?_) (fun h4 => ?_)
  · have hok := hokA h4; clear hokA hokB
    show SJ B _ _ [some v_value, some v_entries, none] G0 [] (JX (JD B [])) (m_is_steward_1 x_value x_entries)
    exact sb_ret 0 (DE.se de_bl)
  · have hok := hokB h4; clear hokA hokB
    show SJ B _ _ [some v_value, some v_entries, none] G0 [] (JD B []) (m_is_steward_2 x_value x_entries)
    obtain ⟨hokA, hokB⟩ := hok
    refine sj_whenX (DT.st (DW.dt (dw_or (dt_not (dt_val (de_isTy (b_isinstance T) (b_list T) (de_snd (de_var 0 r_value) de_int) (ty_list _) (kit_same "list")))) fun h6 => dw_or1 (DC.dt (dc_ne hr.units (DO.de (do_lc (lc_fil (fun y5 => (!true)) sc.nd rfl (di_list (de_snd (de_var 0 r_value) de_int)) (blkOk_by (own := [("name", 2)]) (N := N_is_steward) (sc := _) (by first | decide +kernel | rfl)) rfl (dg_name sc.nd) (by intro i_ y5 σ_ G_ hy_ eG_ hT_; obtain ⟨v_y5, q_y5, rfl⟩ := hT_; have r_value := Rep.mono eG_ r_value; have r_entries := Rep.mono eG_ r_entries; intro Y_ hY_; have hr := InBlk.room hY_ hr; obtain ⟨⟨s_, H_, C_, cl_, fp_, rfl⟩⟩ := hY_; exact df_one (dt_not (dt_val (de_isTy (b_isinstance T) (b_str T) (de_var 2 q_y5) (ty_str _) (kit_same "str"))))) (by intro i_ y5 σ_ G_ hy_ eG_ hT_ hf_; obtain ⟨v_y5, q_y5, rfl⟩ := hT_; have r_value := Rep.mono eG_ r_value; have r_entries := Rep.mono eG_ r_entries; intro Y_ hY_; have hr := InBlk.room hY_ hr; obtain ⟨⟨s_, H_, C_, cl_, fp_, rfl⟩⟩ := hY_; exact de_var 2 q_y5)))) (DO.de (do_list (hl := (by decide : (0 : Nat) ≤ sizeLine)) (des_nil (α := Str))))))))) (fun h7 => ?_) (fun h7 => ?_)
    · have hok := hokA h7; clear hokA hokB
      show SJ B _ _ [some v_value, some v_entries, none] G0 [] (JX (JD B [])) (m_is_steward_3 x_value x_entries)
      exact sb_ret 0 (DE.se de_bl)
    · have hok := hokB h7; clear hokA hokB
      show SJ B _ _ [some v_value, some v_entries, none] G0 [] (JD B []) (m_is_steward_4 x_value x_entries)
      obtain ⟨k4, k5, hok⟩ := hok
      exact sb_ret 0 (DE.se (DC.de (dc_eq hr.units (DO.de (do_sorted (b_sorted T) (de_snd (de_var 0 r_value) de_int) k4)) (DO.de (do_sorted (b_sorted T) (de_var 1 r_entries) k5)))))

abbrev N_check_stewards : List Str := ["entries", "value", "one"]
def m_check_stewards_1 (x_entries : List Str) (x_value : List (Int × (List Str))) : Unit := ()
def ok_check_stewards_1 (x_entries : List Str) (x_value : List (Int × (List Str))) : Prop := True
def m_check_stewards_0 (x_entries : List Str) (x_value : List (Int × (List Str))) : Unit := m_check_stewards_1 x_entries x_value
def ok_check_stewards_0 (x_entries : List Str) (x_value : List (Int × (List Str))) : Prop := (((!true) = false) → ((decide (x_value = ([] : List (Int × (List Str)))) = false) → (∀ y1 ∈ x_value, (ok_is_steward y1 x_entries)))) ∧ (((!true) || (decide (x_value = ([] : List (Int × (List Str)))) || (!decide ((x_value.filter fun y1 => (!(m_is_steward y1 x_entries))) = ([] : List (Int × (List Str))))))) = false) ∧ ok_check_stewards_1 x_entries x_value
def m_check_stewards (x_entries : List Str) (x_value : List (Int × (List Str))) : Unit := m_check_stewards_0 x_entries x_value
def ok_check_stewards (x_entries : List Str) (x_value : List (Int × (List Str))) : Prop := ok_check_stewards_0 x_entries x_value
theorem h_check_stewards (T : Tx K mg) : Has P w K mg base "check_stewards" (He.ga K "check_stewards") 4 ["entries", "value"] (SpN kD (fun (a : (List Str) × (List (Int × (List Str))) × Unit) => ok_check_stewards a.1 a.2.1) (fun a => m_check_stewards a.1 a.2.1)) := by
  have sc : FnScope N_check_stewards ["entries", "value"] (defScope s_check_stewards) := ⟨rfl, rfl, rfl, by decide +kernel, rfl, by decide +kernel, by decide +kernel⟩
  refine has_N (d_check_stewards T) (g_check_stewards T) sc (fun _ _ _ _ _ _ us hl => match us, hl with | [_, _], _ => rfl) (by rintro a G vs ⟨v_entries, _, rfl, r_entries, ⟨v_value, _, rfl, r_value, rfl⟩⟩; rfl) ?_
  rintro X ⟨cdv, AA, outer, ss, HH, EE, rfl⟩ hr B vs ⟨x_entries, x_value, ⟨⟩⟩ G0 hB ⟨v_entries, _, rfl, r_entries, ⟨v_value, _, rfl, r_value, rfl⟩⟩ hok
  replace hok : ok_check_stewards_0 x_entries x_value := hok
  show SJ B _ _ [some v_entries, some v_value, none] G0 [] (JN B) (m_check_stewards_0 x_entries x_value)
  obtain ⟨k4, k5, hok⟩ := hok
  refine sj_ward (DT.st (DW.dt (dw_or (dt_not (dt_val (de_isTy (b_isinstance T) (b_list T) (de_var 1 r_value) (ty_list _) (kit_same "list")))) fun h3 => (by have k3 := k4 h3; exact dw_or (DC.dt (dc_eq hr.units (de_var 1 r_value) (DO.de (do_list (hl := (by decide : (0 : Nat) ≤ sizeLine)) (des_nil (α := Int × (List Str))))))) fun h2 => (by have k2 := k3 h2; exact dw_or1 (DC.dt (dc_ne hr.units (DO.de (do_lc (lc_fil (fun y1 => (!(m_is_steward y1 x_entries))) sc.nd rfl (di_list (de_var 1 r_value)) (blkOk_by (own := [("one", 2)]) (N := N_check_stewards) (sc := _) (by first | decide +kernel | rfl)) rfl (dg_name sc.nd) (by intro i_ y1 σ_ G_ hy_ eG_ hT_; obtain ⟨v_y1, q_y1, rfl⟩ := hT_; have r_entries := Rep.mono eG_ r_entries; have r_value := Rep.mono eG_ r_value; have z_ := k2 y1 (List.mem_of_getElem? hy_); have k1 := z_; intro Y_ hY_; have hr := InBlk.room hY_ hr; obtain ⟨⟨s_, H_, C_, cl_, fp_, rfl⟩⟩ := hY_; exact df_one (dt_not (dt_val (de_callZ (y := (y1, x_entries, ())) (z := (m_is_steward y1 x_entries)) (h_is_steward T) hr (da_cons (de_var 2 q_y1) (da_cons (de_var 0 r_entries) da_nil)) k1)))) (by intro i_ y1 σ_ G_ hy_ eG_ hT_ hf_; obtain ⟨v_y1, q_y1, rfl⟩ := hT_; have r_entries := Rep.mono eG_ r_entries; have r_value := Rep.mono eG_ r_value; have z_ := k2 y1 (List.mem_of_getElem? hy_); have k1 := z_; intro Y_ hY_; have hr := InBlk.room hY_ hr; obtain ⟨⟨s_, H_, C_, cl_, fp_, rfl⟩⟩ := hY_; exact de_var 2 q_y1)))) (DO.de (do_list (hl := (by decide : (0 : Nat) ≤ sizeLine)) (des_nil (α := Int × (List Str)))))))))))) k5 ?_
  replace hok : ok_check_stewards_1 x_entries x_value := hok
  show SJ B _ _ [some v_entries, some v_value, none] G0 [] (JN B) (m_check_stewards_1 x_entries x_value)
  exact sb_nil fun _ _ => trivial

abbrev N_several_cards : List Str := ["entries", "stewards", "field", "found", "many", "row", "name"]
def m_several_cards_6 (x_entries : List Str) (x_stewards : List (Int × (List Str))) (x_field : List Str) (x_found : List Str) (x_many : Int) (x_row : List Str) : List Str := x_found
def ok_several_cards_6 (x_entries : List Str) (x_stewards : List (Int × (List Str))) (x_field : List Str) (x_found : List Str) (x_many : Int) (x_row : List Str) : Prop := True
def m_several_cards_5 (x_entries : List Str) (x_stewards : List (Int × (List Str))) (x_field : List Str) (x_found : List Str) (x_many : Int) (x_row : List Str) : List Str := m_several_cards_6 x_entries x_stewards x_field (x_found ++ (cut (x_row.filter fun y1 => decide (y1 ∈ x_field)) none (some x_many))) x_many x_row
def ok_several_cards_5 (x_entries : List Str) (x_stewards : List (Int × (List Str))) (x_field : List Str) (x_found : List Str) (x_many : Int) (x_row : List Str) : Prop := (x_found.length + (cut (x_row.filter fun y1 => decide (y1 ∈ x_field)) none (some x_many)).length ≤ sizeLine) ∧ ok_several_cards_6 x_entries x_stewards x_field (x_found ++ (cut (x_row.filter fun y1 => decide (y1 ∈ x_field)) none (some x_many))) x_many x_row
def m_several_cards_7 (x_entries : List Str) (x_stewards : List (Int × (List Str))) (x_field : List Str) (x_found : List Str) : List Str := (srt (ddp x_found))
def ok_several_cards_7 (x_entries : List Str) (x_stewards : List (Int × (List Str))) (x_field : List Str) (x_found : List Str) : Prop := (x_found.length < 4000 ∧ (ddp x_found).length < 64) ∧ True
def m_several_cards_4 (x_entries : List Str) (x_stewards : List (Int × (List Str))) (x_field : List Str) (x_found : List Str) : List Str := m_several_cards_7 x_entries x_stewards x_field (List.foldl (fun (s : List Str) (y : Int × (List Str)) => m_several_cards_5 x_entries x_stewards x_field s y.1 y.2) x_found x_stewards)
def ok_several_cards_4 (x_entries : List Str) (x_stewards : List (Int × (List Str))) (x_field : List Str) (x_found : List Str) : Prop := (foldOk (fun (s : List Str) (y : Int × (List Str)) => m_several_cards_5 x_entries x_stewards x_field s y.1 y.2) (fun (s : List Str) (y : Int × (List Str)) => ok_several_cards_5 x_entries x_stewards x_field s y.1 y.2) x_stewards x_found) ∧ ok_several_cards_7 x_entries x_stewards x_field (List.foldl (fun (s : List Str) (y : Int × (List Str)) => m_several_cards_5 x_entries x_stewards x_field s y.1 y.2) x_found x_stewards)
def m_several_cards_3 (x_entries : List Str) (x_stewards : List (Int × (List Str))) (x_field : List Str) : List Str := m_several_cards_4 x_entries x_stewards x_field (id ([] : List Str))
def ok_several_cards_3 (x_entries : List Str) (x_stewards : List (Int × (List Str))) (x_field : List Str) : Prop := ok_several_cards_4 x_entries x_stewards x_field (id ([] : List Str))
def m_several_cards_2 (x_entries : List Str) (x_stewards : List (Int × (List Str))) (x_field : List Str) : List Str := m_several_cards_3 x_entries x_stewards x_field
def ok_several_cards_2 (x_entries : List Str) (x_stewards : List (Int × (List Str))) (x_field : List Str) : Prop := (ok_check_field x_field x_entries) ∧ ok_several_cards_3 x_entries x_stewards x_field
def m_several_cards_1 (x_entries : List Str) (x_stewards : List (Int × (List Str))) (x_field : List Str) : List Str := m_several_cards_2 x_entries x_stewards x_field
def ok_several_cards_1 (x_entries : List Str) (x_stewards : List (Int × (List Str))) (x_field : List Str) : Prop := (ok_check_stewards x_entries x_stewards) ∧ ok_several_cards_2 x_entries x_stewards x_field
def m_several_cards_0 (x_entries : List Str) (x_stewards : List (Int × (List Str))) (x_field : List Str) : List Str := m_several_cards_1 x_entries x_stewards x_field
def ok_several_cards_0 (x_entries : List Str) (x_stewards : List (Int × (List Str))) (x_field : List Str) : Prop := (ok_check_entries x_entries) ∧ ok_several_cards_1 x_entries x_stewards x_field
def m_several_cards (x_entries : List Str) (x_stewards : List (Int × (List Str))) (x_field : List Str) : List Str := m_several_cards_0 x_entries x_stewards x_field
def ok_several_cards (x_entries : List Str) (x_stewards : List (Int × (List Str))) (x_field : List Str) : Prop := ok_several_cards_0 x_entries x_stewards x_field
theorem h_several_cards (T : Tx K mg) : Has P w K mg base "several_cards" (He.ga K "several_cards") 7 ["entries", "stewards", "field"] (SpN kO (fun (a : (List Str) × (List (Int × (List Str))) × (List Str) × Unit) => ok_several_cards a.1 a.2.1 a.2.2.1) (fun a => m_several_cards a.1 a.2.1 a.2.2.1)) := by
  have sc : FnScope N_several_cards ["entries", "stewards", "field"] (defScope s_several_cards) := ⟨rfl, rfl, rfl, by decide +kernel, rfl, by decide +kernel, by decide +kernel⟩
  refine has_O (d_several_cards T) (g_several_cards T) sc (fun _ _ _ _ _ _ us hl => match us, hl with | [_, _, _], _ => rfl) (by rintro a G vs ⟨v_entries, _, rfl, r_entries, ⟨v_stewards, _, rfl, r_stewards, ⟨v_field, _, rfl, r_field, rfl⟩⟩⟩; rfl) ?_
  rintro X ⟨cdv, AA, outer, ss, HH, EE, rfl⟩ hr B vs ⟨x_entries, x_stewards, x_field, ⟨⟩⟩ G0 hB ⟨v_entries, _, rfl, r_entries, ⟨v_stewards, _, rfl, r_stewards, ⟨v_field, _, rfl, r_field, rfl⟩⟩⟩ hok
  replace hok : ok_several_cards_0 x_entries x_stewards x_field := hok
  show SJ B _ _ [some v_entries, some v_stewards, some v_field, none, none, none, none] G0 [] (JO B []) (m_several_cards_0 x_entries x_stewards x_field)
  obtain ⟨k1, hok⟩ := hok
  refine sb_expr (DE.se (de_callZ (y := (x_entries, ())) (z := (m_check_entries x_entries)) (h_check_entries T) hr (da_cons (de_var 0 r_entries) da_nil) k1)) fun G1 e1 => ?_
  have r_entries := Rep.mono e1 r_entries
  have r_stewards := Rep.mono e1 r_stewards
  have r_field := Rep.mono e1 r_field
  replace hok : ok_several_cards_1 x_entries x_stewards x_field := hok
  show SJ B _ _ [some v_entries, some v_stewards, some v_field, none, none, none, none] G1 [] (JO B []) (m_several_cards_0 x_entries x_stewards x_field)
  rw [show m_several_cards_0 x_entries x_stewards x_field = m_several_cards_1 x_entries x_stewards x_field from rfl]
  obtain ⟨k2, hok⟩ := hok
  refine sb_expr (DE.se (de_callZ (y := (x_entries, x_stewards, ())) (z := (m_check_stewards x_entries x_stewards)) (h_check_stewards T) hr (da_cons (de_var 0 r_entries) (da_cons (de_var 1 r_stewards) da_nil)) k2)) fun G2 e2 => ?_
  have r_entries := Rep.mono e2 r_entries
  have r_stewards := Rep.mono e2 r_stewards
  have r_field := Rep.mono e2 r_field
  replace hok : ok_several_cards_2 x_entries x_stewards x_field := hok
  show SJ B _ _ [some v_entries, some v_stewards, some v_field, none, none, none, none] G2 [] (JO B []) (m_several_cards_1 x_entries x_stewards x_field)
  rw [show m_several_cards_1 x_entries x_stewards x_field = m_several_cards_2 x_entries x_stewards x_field from rfl]
  obtain ⟨k3, hok⟩ := hok
  refine sb_expr (DE.se (de_callZ (y := (x_field, x_entries, ())) (z := (m_check_field x_field x_entries)) (h_check_field T) hr (da_cons (de_var 2 r_field) (da_cons (de_var 0 r_entries) da_nil)) k3)) fun G3 e3 => ?_
  have r_entries := Rep.mono e3 r_entries
  have r_stewards := Rep.mono e3 r_stewards
  have r_field := Rep.mono e3 r_field
  replace hok : ok_several_cards_3 x_entries x_stewards x_field := hok
  show SJ B _ _ [some v_entries, some v_stewards, some v_field, none, none, none, none] G3 [] (JO B []) (m_several_cards_2 x_entries x_stewards x_field)
  rw [show m_several_cards_2 x_entries x_stewards x_field = m_several_cards_3 x_entries x_stewards x_field from rfl]
  refine sb_set 3 (DE.se (DO.de (do_list (hl := (by decide : (0 : Nat) ≤ sizeLine)) (des_nil (α := Str))))) (fun v_found G4 e4 r_found => ?_) sc.nd
  have r_entries := Rep.mono e4 r_entries
  have r_stewards := Rep.mono e4 r_stewards
  have r_field := Rep.mono e4 r_field
  replace r_found : rep G4 v_found (id ([] : List Str)) := r_found
  replace hok : ok_several_cards_4 x_entries x_stewards x_field (id ([] : List Str)) := hok
  show SJ B _ _ [some v_entries, some v_stewards, some v_field, some v_found, none, none, none] G4 [] (JO B []) (m_several_cards_3 x_entries x_stewards x_field)
  rw [show m_several_cards_3 x_entries x_stewards x_field = m_several_cards_4 x_entries x_stewards x_field (id ([] : List Str)) from rfl]
  generalize (id ([] : List Str)) = x_found at r_found hok ⊢
  obtain ⟨k6, hok⟩ := hok
  have hok2 : ∀ s : List Str, s = (List.foldl (fun (s : List Str) (y : Int × (List Str)) => m_several_cards_5 x_entries x_stewards x_field s y.1 y.2) x_found x_stewards) → ok_several_cards_7 x_entries x_stewards x_field s := fun s h => by subst h; exact hok
  refine sj_foldS (k := fun (s : List Str) => m_several_cards_7 x_entries x_stewards x_field s) (fun (s : List Str) (σ_ : L2.St) (G_ : Hp) (C_ : Cs) => ∃ (v_found : V) (t_many : Option V) (t_row : Option V), (σ_ = [some v_entries, some v_stewards, some v_field, some v_found, t_many, t_row, none] ∧ rep G_ v_found s ∧ C_ = ([] : Cs))) (fun (s : List Str) (y : Int × (List Str)) => m_several_cards_5 x_entries x_stewards x_field s y.1 y.2) (fun (s : List Str) (y : Int × (List Str)) => ok_several_cards_5 x_entries x_stewards x_field s y.1 y.2) x_found (di_list (de_var 1 r_stewards)) (sg_pair 4 5 sc.nd) (fun G_ e_ => ⟨_, _, _, rfl, Rep.mono e_ r_found, rfl⟩) (by rintro x_found σ_ G_ G2_ C_ e_ ⟨v_found, t_many, t_row, rfl, r_found, rfl⟩; exact ⟨_, _, _, rfl, Rep.mono e_ r_found, rfl⟩) k6 ?_ ?_
  · rintro x_found ⟨x_many, x_row⟩ σ_ σ2_ G5 C_ hy_ e5 ⟨v_found, t_many, t_row, rfl, r_found, rfl⟩ ⟨v_many, v_row, r_many, r_row, rfl⟩ hok
    have r_entries := Rep.mono e5 r_entries
    have r_stewards := Rep.mono e5 r_stewards
    have r_field := Rep.mono e5 r_field
    replace hok : ok_several_cards_5 x_entries x_stewards x_field x_found x_many x_row := hok
    show SJ B _ _ [some v_entries, some v_stewards, some v_field, some v_found, some v_many, some v_row, none] G5 [] (JF (fun (s : List Str) (σ_ : L2.St) (G_ : Hp) (C_ : Cs) => ∃ (v_found : V) (t_many : Option V) (t_row : Option V), (σ_ = [some v_entries, some v_stewards, some v_field, some v_found, t_many, t_row, none] ∧ rep G_ v_found s ∧ C_ = ([] : Cs)))) (m_several_cards_5 x_entries x_stewards x_field x_found x_many x_row)
    obtain ⟨k4, hok⟩ := hok
    refine sb_set 3 (DE.se (DO.de (do_cat (de_var 3 r_found) (DO.de (do_slice (DO.de (do_lc (lc_fil (fun y1 => decide (y1 ∈ x_field)) sc.nd rfl (di_list (de_var 5 r_row)) (blkOk_by (own := [("name", 6)]) (N := N_several_cards) (sc := _) (by first | decide +kernel | rfl)) rfl (dg_name sc.nd) (by intro i_ y1 σ_ G_ hy_ eG_ hT_; obtain ⟨v_y1, q_y1, rfl⟩ := hT_; have r_entries := Rep.mono eG_ r_entries; have r_stewards := Rep.mono eG_ r_stewards; have r_field := Rep.mono eG_ r_field; have r_found := Rep.mono eG_ r_found; have r_many := Rep.mono eG_ r_many; have r_row := Rep.mono eG_ r_row; intro Y_ hY_; have hr := InBlk.room hY_ hr; obtain ⟨⟨s_, H_, C_, cl_, fp_, rfl⟩⟩ := hY_; exact df_one (DC.dt (dc_in (de_var 6 q_y1) (de_var 2 r_field)))) (by intro i_ y1 σ_ G_ hy_ eG_ hT_ hf_; obtain ⟨v_y1, q_y1, rfl⟩ := hT_; have r_entries := Rep.mono eG_ r_entries; have r_stewards := Rep.mono eG_ r_stewards; have r_field := Rep.mono eG_ r_field; have r_found := Rep.mono eG_ r_found; have r_many := Rep.mono eG_ r_many; have r_row := Rep.mono eG_ r_row; intro Y_ hY_; have hr := InBlk.room hY_ hr; obtain ⟨⟨s_, H_, C_, cl_, fp_, rfl⟩⟩ := hY_; exact de_var 6 q_y1)))) dp_none (dp_some (de_var 4 r_many)))) k4))) (fun v_found G6 e6 r_found => ?_) sc.nd
    have r_entries := Rep.mono e6 r_entries
    have r_stewards := Rep.mono e6 r_stewards
    have r_field := Rep.mono e6 r_field
    have r_many := Rep.mono e6 r_many
    have r_row := Rep.mono e6 r_row
    replace r_found : rep G6 v_found (x_found ++ (cut (x_row.filter fun y1 => decide (y1 ∈ x_field)) none (some x_many))) := r_found
    replace hok : ok_several_cards_6 x_entries x_stewards x_field (x_found ++ (cut (x_row.filter fun y1 => decide (y1 ∈ x_field)) none (some x_many))) x_many x_row := hok
    show SJ B _ _ [some v_entries, some v_stewards, some v_field, some v_found, some v_many, some v_row, none] G6 [] (JF (fun (s : List Str) (σ_ : L2.St) (G_ : Hp) (C_ : Cs) => ∃ (v_found : V) (t_many : Option V) (t_row : Option V), (σ_ = [some v_entries, some v_stewards, some v_field, some v_found, t_many, t_row, none] ∧ rep G_ v_found s ∧ C_ = ([] : Cs)))) (m_several_cards_5 x_entries x_stewards x_field x_found x_many x_row)
    rw [show m_several_cards_5 x_entries x_stewards x_field x_found x_many x_row = m_several_cards_6 x_entries x_stewards x_field (x_found ++ (cut (x_row.filter fun y1 => decide (y1 ∈ x_field)) none (some x_many))) x_many x_row from rfl]
    generalize (x_found ++ (cut (x_row.filter fun y1 => decide (y1 ∈ x_field)) none (some x_many))) = x_found at r_found hok ⊢
    exact sb_nilF fun G_ e_ => ⟨_, _, _, rfl, Rep.mono e_ r_found, rfl⟩
  · rintro x_found σ_ G7 C_ hl_ e7 ⟨v_found, t_many, t_row, rfl, r_found, rfl⟩
    replace hok := hok2 _ hl_
    have r_entries := Rep.mono e7 r_entries
    have r_stewards := Rep.mono e7 r_stewards
    have r_field := Rep.mono e7 r_field
    replace hok : ok_several_cards_7 x_entries x_stewards x_field x_found := hok
    show SJ B _ _ [some v_entries, some v_stewards, some v_field, some v_found, t_many, t_row, none] G7 [] (JO B []) (m_several_cards_7 x_entries x_stewards x_field x_found)
    obtain ⟨k5, hok⟩ := hok
    exact sb_retO 0 (DO.so (do_sortSetB (p4 := default) (b_sorted T) (b_set T) rfl (de_var 3 r_found) k5)) (by first | exact Nat.zero_le _ | simp)

abbrev N__law_named_by : List Str := ["stewards", "field", "found", "many", "row", "name"]
def m__law_named_by_3 (x_stewards : List (Int × (List Str))) (x_field : List Str) (x_found : List Str) (x_many : Int) (x_row : List Str) : List Str := x_found
def ok__law_named_by_3 (x_stewards : List (Int × (List Str))) (x_field : List Str) (x_found : List Str) (x_many : Int) (x_row : List Str) : Prop := True
def m__law_named_by_2 (x_stewards : List (Int × (List Str))) (x_field : List Str) (x_found : List Str) (x_many : Int) (x_row : List Str) : List Str := m__law_named_by_3 x_stewards x_field (x_found ++ (cut (x_row.filter fun y1 => decide (y1 ∈ x_field)) none (some x_many))) x_many x_row
def ok__law_named_by_2 (x_stewards : List (Int × (List Str))) (x_field : List Str) (x_found : List Str) (x_many : Int) (x_row : List Str) : Prop := (x_found.length + (cut (x_row.filter fun y1 => decide (y1 ∈ x_field)) none (some x_many)).length ≤ sizeLine) ∧ ok__law_named_by_3 x_stewards x_field (x_found ++ (cut (x_row.filter fun y1 => decide (y1 ∈ x_field)) none (some x_many))) x_many x_row
def m__law_named_by_4 (x_stewards : List (Int × (List Str))) (x_field : List Str) (x_found : List Str) : List Str := (srt (ddp x_found))
def ok__law_named_by_4 (x_stewards : List (Int × (List Str))) (x_field : List Str) (x_found : List Str) : Prop := (x_found.length < 4000 ∧ (ddp x_found).length < 64) ∧ True
def m__law_named_by_1 (x_stewards : List (Int × (List Str))) (x_field : List Str) (x_found : List Str) : List Str := m__law_named_by_4 x_stewards x_field (List.foldl (fun (s : List Str) (y : Int × (List Str)) => m__law_named_by_2 x_stewards x_field s y.1 y.2) x_found x_stewards)
def ok__law_named_by_1 (x_stewards : List (Int × (List Str))) (x_field : List Str) (x_found : List Str) : Prop := (foldOk (fun (s : List Str) (y : Int × (List Str)) => m__law_named_by_2 x_stewards x_field s y.1 y.2) (fun (s : List Str) (y : Int × (List Str)) => ok__law_named_by_2 x_stewards x_field s y.1 y.2) x_stewards x_found) ∧ ok__law_named_by_4 x_stewards x_field (List.foldl (fun (s : List Str) (y : Int × (List Str)) => m__law_named_by_2 x_stewards x_field s y.1 y.2) x_found x_stewards)
def m__law_named_by_0 (x_stewards : List (Int × (List Str))) (x_field : List Str) : List Str := m__law_named_by_1 x_stewards x_field (id ([] : List Str))
def ok__law_named_by_0 (x_stewards : List (Int × (List Str))) (x_field : List Str) : Prop := ok__law_named_by_1 x_stewards x_field (id ([] : List Str))
def m__law_named_by (x_stewards : List (Int × (List Str))) (x_field : List Str) : List Str := m__law_named_by_0 x_stewards x_field
def ok__law_named_by (x_stewards : List (Int × (List Str))) (x_field : List Str) : Prop := ok__law_named_by_0 x_stewards x_field
theorem h__law_named_by (T : Tx K mg) : Has P w K mg base "_law_named_by" (He.ga K "_law_named_by") 1 ["stewards", "field"] (SpN kO (fun (a : (List (Int × (List Str))) × (List Str) × Unit) => ok__law_named_by a.1 a.2.1) (fun a => m__law_named_by a.1 a.2.1)) := by
  have sc : FnScope N__law_named_by ["stewards", "field"] (defScope s__law_named_by) := ⟨rfl, rfl, rfl, by decide +kernel, rfl, by decide +kernel, by decide +kernel⟩
  refine has_O (d__law_named_by T) (g__law_named_by T) sc (fun _ _ _ _ _ _ us hl => match us, hl with | [_, _], _ => rfl) (by rintro a G vs ⟨v_stewards, _, rfl, r_stewards, ⟨v_field, _, rfl, r_field, rfl⟩⟩; rfl) ?_
  rintro X ⟨cdv, AA, outer, ss, HH, EE, rfl⟩ hr B vs ⟨x_stewards, x_field, ⟨⟩⟩ G0 hB ⟨v_stewards, _, rfl, r_stewards, ⟨v_field, _, rfl, r_field, rfl⟩⟩ hok
  replace hok : ok__law_named_by_0 x_stewards x_field := hok
  show SJ B _ _ [some v_stewards, some v_field, none, none, none, none] G0 [] (JO B []) (m__law_named_by_0 x_stewards x_field)
  refine sb_set 2 (DE.se (DO.de (do_list (hl := (by decide : (0 : Nat) ≤ sizeLine)) (des_nil (α := Str))))) (fun v_found G1 e1 r_found => ?_) sc.nd
  have r_stewards := Rep.mono e1 r_stewards
  have r_field := Rep.mono e1 r_field
  replace r_found : rep G1 v_found (id ([] : List Str)) := r_found
  replace hok : ok__law_named_by_1 x_stewards x_field (id ([] : List Str)) := hok
  show SJ B _ _ [some v_stewards, some v_field, some v_found, none, none, none] G1 [] (JO B []) (m__law_named_by_0 x_stewards x_field)
  rw [show m__law_named_by_0 x_stewards x_field = m__law_named_by_1 x_stewards x_field (id ([] : List Str)) from rfl]
  generalize (id ([] : List Str)) = x_found at r_found hok ⊢
  obtain ⟨k3, hok⟩ := hok
  have hok2 : ∀ s : List Str, s = (List.foldl (fun (s : List Str) (y : Int × (List Str)) => m__law_named_by_2 x_stewards x_field s y.1 y.2) x_found x_stewards) → ok__law_named_by_4 x_stewards x_field s := fun s h => by subst h; exact hok
  refine sj_foldS (k := fun (s : List Str) => m__law_named_by_4 x_stewards x_field s) (fun (s : List Str) (σ_ : L2.St) (G_ : Hp) (C_ : Cs) => ∃ (v_found : V) (t_many : Option V) (t_row : Option V), (σ_ = [some v_stewards, some v_field, some v_found, t_many, t_row, none] ∧ rep G_ v_found s ∧ C_ = ([] : Cs))) (fun (s : List Str) (y : Int × (List Str)) => m__law_named_by_2 x_stewards x_field s y.1 y.2) (fun (s : List Str) (y : Int × (List Str)) => ok__law_named_by_2 x_stewards x_field s y.1 y.2) x_found (di_list (de_var 0 r_stewards)) (sg_pair 3 4 sc.nd) (fun G_ e_ => ⟨_, _, _, rfl, Rep.mono e_ r_found, rfl⟩) (by rintro x_found σ_ G_ G2_ C_ e_ ⟨v_found, t_many, t_row, rfl, r_found, rfl⟩; exact ⟨_, _, _, rfl, Rep.mono e_ r_found, rfl⟩) k3 ?_ ?_
  · rintro x_found ⟨x_many, x_row⟩ σ_ σ2_ G2 C_ hy_ e2 ⟨v_found, t_many, t_row, rfl, r_found, rfl⟩ ⟨v_many, v_row, r_many, r_row, rfl⟩ hok
    have r_stewards := Rep.mono e2 r_stewards
    have r_field := Rep.mono e2 r_field
    replace hok : ok__law_named_by_2 x_stewards x_field x_found x_many x_row := hok
    show SJ B _ _ [some v_stewards, some v_field, some v_found, some v_many, some v_row, none] G2 [] (JF (fun (s : List Str) (σ_ : L2.St) (G_ : Hp) (C_ : Cs) => ∃ (v_found : V) (t_many : Option V) (t_row : Option V), (σ_ = [some v_stewards, some v_field, some v_found, t_many, t_row, none] ∧ rep G_ v_found s ∧ C_ = ([] : Cs)))) (m__law_named_by_2 x_stewards x_field x_found x_many x_row)
    obtain ⟨k1, hok⟩ := hok
    refine sb_set 2 (DE.se (DO.de (do_cat (de_var 2 r_found) (DO.de (do_slice (DO.de (do_lc (lc_fil (fun y1 => decide (y1 ∈ x_field)) sc.nd rfl (di_list (de_var 4 r_row)) (blkOk_by (own := [("name", 5)]) (N := N__law_named_by) (sc := _) (by first | decide +kernel | rfl)) rfl (dg_name sc.nd) (by intro i_ y1 σ_ G_ hy_ eG_ hT_; obtain ⟨v_y1, q_y1, rfl⟩ := hT_; have r_stewards := Rep.mono eG_ r_stewards; have r_field := Rep.mono eG_ r_field; have r_found := Rep.mono eG_ r_found; have r_many := Rep.mono eG_ r_many; have r_row := Rep.mono eG_ r_row; intro Y_ hY_; have hr := InBlk.room hY_ hr; obtain ⟨⟨s_, H_, C_, cl_, fp_, rfl⟩⟩ := hY_; exact df_one (DC.dt (dc_in (de_var 5 q_y1) (de_var 1 r_field)))) (by intro i_ y1 σ_ G_ hy_ eG_ hT_ hf_; obtain ⟨v_y1, q_y1, rfl⟩ := hT_; have r_stewards := Rep.mono eG_ r_stewards; have r_field := Rep.mono eG_ r_field; have r_found := Rep.mono eG_ r_found; have r_many := Rep.mono eG_ r_many; have r_row := Rep.mono eG_ r_row; intro Y_ hY_; have hr := InBlk.room hY_ hr; obtain ⟨⟨s_, H_, C_, cl_, fp_, rfl⟩⟩ := hY_; exact de_var 5 q_y1)))) dp_none (dp_some (de_var 3 r_many)))) k1))) (fun v_found G3 e3 r_found => ?_) sc.nd
    have r_stewards := Rep.mono e3 r_stewards
    have r_field := Rep.mono e3 r_field
    have r_many := Rep.mono e3 r_many
    have r_row := Rep.mono e3 r_row
    replace r_found : rep G3 v_found (x_found ++ (cut (x_row.filter fun y1 => decide (y1 ∈ x_field)) none (some x_many))) := r_found
    replace hok : ok__law_named_by_3 x_stewards x_field (x_found ++ (cut (x_row.filter fun y1 => decide (y1 ∈ x_field)) none (some x_many))) x_many x_row := hok
    show SJ B _ _ [some v_stewards, some v_field, some v_found, some v_many, some v_row, none] G3 [] (JF (fun (s : List Str) (σ_ : L2.St) (G_ : Hp) (C_ : Cs) => ∃ (v_found : V) (t_many : Option V) (t_row : Option V), (σ_ = [some v_stewards, some v_field, some v_found, t_many, t_row, none] ∧ rep G_ v_found s ∧ C_ = ([] : Cs)))) (m__law_named_by_2 x_stewards x_field x_found x_many x_row)
    rw [show m__law_named_by_2 x_stewards x_field x_found x_many x_row = m__law_named_by_3 x_stewards x_field (x_found ++ (cut (x_row.filter fun y1 => decide (y1 ∈ x_field)) none (some x_many))) x_many x_row from rfl]
    generalize (x_found ++ (cut (x_row.filter fun y1 => decide (y1 ∈ x_field)) none (some x_many))) = x_found at r_found hok ⊢
    exact sb_nilF fun G_ e_ => ⟨_, _, _, rfl, Rep.mono e_ r_found, rfl⟩
  · rintro x_found σ_ G4 C_ hl_ e4 ⟨v_found, t_many, t_row, rfl, r_found, rfl⟩
    replace hok := hok2 _ hl_
    have r_stewards := Rep.mono e4 r_stewards
    have r_field := Rep.mono e4 r_field
    replace hok : ok__law_named_by_4 x_stewards x_field x_found := hok
    show SJ B _ _ [some v_stewards, some v_field, some v_found, t_many, t_row, none] G4 [] (JO B []) (m__law_named_by_4 x_stewards x_field x_found)
    obtain ⟨k2, hok⟩ := hok
    exact sb_retO 0 (DO.so (do_sortSetB (p4 := default) (b_sorted T) (b_set T) rfl (de_var 2 r_found) k2)) (by first | exact Nat.zero_le _ | simp)

abbrev N_lots_of_size : List Str := ["some", "size", "found", "at", "thing", "rest", "longer", "lot"]
def m_lots_of_size_5 (x_some : List Str) (x_size : Int) (x_found : List (List Str)) (x_at : Int) (x_thing : Str) (x_rest : Int) (x_longer : List (List Str)) : List (List Str) := x_found
def ok_lots_of_size_5 (x_some : List Str) (x_size : Int) (x_found : List (List Str)) (x_at : Int) (x_thing : Str) (x_rest : Int) (x_longer : List (List Str)) : Prop := True
def m_lots_of_size_4 (x_some : List Str) (x_size : Int) (x_found : List (List Str)) (x_at : Int) (x_thing : Str) (x_rest : Int) (x_longer : List (List Str)) : List (List Str) := m_lots_of_size_5 x_some x_size ((x_found.filter fun y2 => decide (x_size < ((y2.length : Int) + x_rest))) ++ x_longer) x_at x_thing x_rest x_longer
def ok_lots_of_size_4 (x_some : List Str) (x_size : Int) (x_found : List (List Str)) (x_at : Int) (x_thing : Str) (x_rest : Int) (x_longer : List (List Str)) : Prop := ((x_found.filter fun y2 => decide (x_size < ((y2.length : Int) + x_rest))).length + x_longer.length ≤ sizeLine) ∧ ok_lots_of_size_5 x_some x_size ((x_found.filter fun y2 => decide (x_size < ((y2.length : Int) + x_rest))) ++ x_longer) x_at x_thing x_rest x_longer
def m_lots_of_size_3 (x_some : List Str) (x_size : Int) (x_found : List (List Str)) (x_at : Int) (x_thing : Str) (x_rest : Int) : List (List Str) := m_lots_of_size_4 x_some x_size x_found x_at x_thing x_rest ((x_found.filter fun y1 => decide ((y1.length : Int) < x_size)).map fun y1 => (y1 ++ (x_thing :: ([] : List Str))))
def ok_lots_of_size_3 (x_some : List Str) (x_size : Int) (x_found : List (List Str)) (x_at : Int) (x_thing : Str) (x_rest : Int) : Prop := (∀ y1 ∈ x_found, (decide ((y1.length : Int) < x_size) = true → ((y1 ++ (x_thing :: ([] : List Str))).length ≤ sizeLine))) ∧ ok_lots_of_size_4 x_some x_size x_found x_at x_thing x_rest ((x_found.filter fun y1 => decide ((y1.length : Int) < x_size)).map fun y1 => (y1 ++ (x_thing :: ([] : List Str))))
def m_lots_of_size_2 (x_some : List Str) (x_size : Int) (x_found : List (List Str)) (x_at : Int) (x_thing : Str) : List (List Str) := m_lots_of_size_3 x_some x_size x_found x_at x_thing ((x_some.length : Int) - x_at)
def ok_lots_of_size_2 (x_some : List Str) (x_size : Int) (x_found : List (List Str)) (x_at : Int) (x_thing : Str) : Prop := ok_lots_of_size_3 x_some x_size x_found x_at x_thing ((x_some.length : Int) - x_at)
def m_lots_of_size_6 (x_some : List Str) (x_size : Int) (x_found : List (List Str)) : List (List Str) := x_found
def ok_lots_of_size_6 (x_some : List Str) (x_size : Int) (x_found : List (List Str)) : Prop := True
def m_lots_of_size_1 (x_some : List Str) (x_size : Int) (x_found : List (List Str)) : List (List Str) := m_lots_of_size_6 x_some x_size (List.foldl (fun (s : List (List Str)) (y : Int × Str) => m_lots_of_size_2 x_some x_size s y.1 y.2) x_found (enumI x_some))
def ok_lots_of_size_1 (x_some : List Str) (x_size : Int) (x_found : List (List Str)) : Prop := (foldOk (fun (s : List (List Str)) (y : Int × Str) => m_lots_of_size_2 x_some x_size s y.1 y.2) (fun (s : List (List Str)) (y : Int × Str) => ok_lots_of_size_2 x_some x_size s y.1 y.2) (enumI x_some) x_found) ∧ ok_lots_of_size_6 x_some x_size (List.foldl (fun (s : List (List Str)) (y : Int × Str) => m_lots_of_size_2 x_some x_size s y.1 y.2) x_found (enumI x_some))
def m_lots_of_size_0 (x_some : List Str) (x_size : Int) : List (List Str) := m_lots_of_size_1 x_some x_size ([([] : List Str)] : List (List Str))
def ok_lots_of_size_0 (x_some : List Str) (x_size : Int) : Prop := ok_lots_of_size_1 x_some x_size ([([] : List Str)] : List (List Str))
def m_lots_of_size (x_some : List Str) (x_size : Int) : List (List Str) := m_lots_of_size_0 x_some x_size
def ok_lots_of_size (x_some : List Str) (x_size : Int) : Prop := ok_lots_of_size_0 x_some x_size
theorem h_lots_of_size (T : Tx K mg) : Has P w K mg base "lots_of_size" (He.ga K "lots_of_size") 1 ["some", "size"] (SpN kD (fun (a : (List Str) × Int × Unit) => ok_lots_of_size a.1 a.2.1) (fun a => m_lots_of_size a.1 a.2.1)) := by
  have sc : FnScope N_lots_of_size ["some", "size"] (defScope s_lots_of_size) := ⟨rfl, rfl, rfl, by decide +kernel, rfl, by decide +kernel, by decide +kernel⟩
  refine has_D (d_lots_of_size T) (g_lots_of_size T) sc (fun _ _ _ _ _ _ us hl => match us, hl with | [_, _], _ => rfl) (by rintro a G vs ⟨v_some, _, rfl, r_some, ⟨v_size, _, rfl, r_size, rfl⟩⟩; rfl) ?_
  rintro X ⟨cdv, AA, outer, ss, HH, EE, rfl⟩ hr B vs ⟨x_some, x_size, ⟨⟩⟩ G0 hB ⟨v_some, _, rfl, r_some, ⟨v_size, _, rfl, r_size, rfl⟩⟩ hok
  replace hok : ok_lots_of_size_0 x_some x_size := hok
  show SJ B _ _ [some v_some, some v_size, none, none, none, none, none, none] G0 [] (JD B []) (m_lots_of_size_0 x_some x_size)
  refine sb_set 2 (DE.se (DO.de (do_list (hl := (by decide : (1 : Nat) ≤ sizeLine)) (des_cons (DO.de (do_list (hl := (by decide : (0 : Nat) ≤ sizeLine)) (des_nil (α := Str)))) des_nil)))) (fun v_found G1 e1 r_found => ?_) sc.nd
  have r_some := Rep.mono e1 r_some
  have r_size := Rep.mono e1 r_size
  replace r_found : rep G1 v_found ([([] : List Str)] : List (List Str)) := r_found
  replace hok : ok_lots_of_size_1 x_some x_size ([([] : List Str)] : List (List Str)) := hok
  show SJ B _ _ [some v_some, some v_size, some v_found, none, none, none, none, none] G1 [] (JD B []) (m_lots_of_size_0 x_some x_size)
  rw [show m_lots_of_size_0 x_some x_size = m_lots_of_size_1 x_some x_size ([([] : List Str)] : List (List Str)) from rfl]
  generalize ([([] : List Str)] : List (List Str)) = x_found at r_found hok ⊢
  obtain ⟨k4, hok⟩ := hok
  have hok2 : ∀ s : List (List Str), s = (List.foldl (fun (s : List (List Str)) (y : Int × Str) => m_lots_of_size_2 x_some x_size s y.1 y.2) x_found (enumI x_some)) → ok_lots_of_size_6 x_some x_size s := fun s h => by subst h; exact hok
  refine sj_foldS (k := fun (s : List (List Str)) => m_lots_of_size_6 x_some x_size s) (fun (s : List (List Str)) (σ_ : L2.St) (G_ : Hp) (C_ : Cs) => ∃ (v_found : V) (t_at : Option V) (t_thing : Option V) (t_rest : Option V) (t_longer : Option V), (σ_ = [some v_some, some v_size, some v_found, t_at, t_thing, t_rest, t_longer, none] ∧ rep G_ v_found s ∧ C_ = ([] : Cs))) (fun (s : List (List Str)) (y : Int × Str) => m_lots_of_size_2 x_some x_size s y.1 y.2) (fun (s : List (List Str)) (y : Int × Str) => ok_lots_of_size_2 x_some x_size s y.1 y.2) x_found (di_enumI (b_enumerate T) (de_var 0 r_some)) (sg_pair 3 4 sc.nd) (fun G_ e_ => ⟨_, _, _, _, _, rfl, Rep.mono e_ r_found, rfl⟩) (by rintro x_found σ_ G_ G2_ C_ e_ ⟨v_found, t_at, t_thing, t_rest, t_longer, rfl, r_found, rfl⟩; exact ⟨_, _, _, _, _, rfl, Rep.mono e_ r_found, rfl⟩) k4 ?_ ?_
  · rintro x_found ⟨x_at, x_thing⟩ σ_ σ2_ G2 C_ hy_ e2 ⟨v_found, t_at, t_thing, t_rest, t_longer, rfl, r_found, rfl⟩ ⟨v_at, v_thing, r_at, r_thing, rfl⟩ hok
    have r_some := Rep.mono e2 r_some
    have r_size := Rep.mono e2 r_size
    replace hok : ok_lots_of_size_2 x_some x_size x_found x_at x_thing := hok
    show SJ B _ _ [some v_some, some v_size, some v_found, some v_at, some v_thing, t_rest, t_longer, none] G2 [] (JF (fun (s : List (List Str)) (σ_ : L2.St) (G_ : Hp) (C_ : Cs) => ∃ (v_found : V) (t_at : Option V) (t_thing : Option V) (t_rest : Option V) (t_longer : Option V), (σ_ = [some v_some, some v_size, some v_found, t_at, t_thing, t_rest, t_longer, none] ∧ rep G_ v_found s ∧ C_ = ([] : Cs)))) (m_lots_of_size_2 x_some x_size x_found x_at x_thing)
    refine sb_set 5 (DE.se (de_sub (de_lenI (b_len T) (de_var 0 r_some)) (de_var 3 r_at))) (fun v_rest G3 e3 r_rest => ?_) sc.nd
    have r_some := Rep.mono e3 r_some
    have r_size := Rep.mono e3 r_size
    have r_found := Rep.mono e3 r_found
    have r_at := Rep.mono e3 r_at
    have r_thing := Rep.mono e3 r_thing
    replace r_rest : rep G3 v_rest ((x_some.length : Int) - x_at) := r_rest
    replace hok : ok_lots_of_size_3 x_some x_size x_found x_at x_thing ((x_some.length : Int) - x_at) := hok
    show SJ B _ _ [some v_some, some v_size, some v_found, some v_at, some v_thing, some v_rest, t_longer, none] G3 [] (JF (fun (s : List (List Str)) (σ_ : L2.St) (G_ : Hp) (C_ : Cs) => ∃ (v_found : V) (t_at : Option V) (t_thing : Option V) (t_rest : Option V) (t_longer : Option V), (σ_ = [some v_some, some v_size, some v_found, t_at, t_thing, t_rest, t_longer, none] ∧ rep G_ v_found s ∧ C_ = ([] : Cs)))) (m_lots_of_size_2 x_some x_size x_found x_at x_thing)
    rw [show m_lots_of_size_2 x_some x_size x_found x_at x_thing = m_lots_of_size_3 x_some x_size x_found x_at x_thing ((x_some.length : Int) - x_at) from rfl]
    generalize ((x_some.length : Int) - x_at) = x_rest at r_rest hok ⊢
    obtain ⟨k2, hok⟩ := hok
    refine sb_setLc 6 (lc_mk (fun y1 => decide ((y1.length : Int) < x_size)) (fun y1 => (y1 ++ (x_thing :: ([] : List Str)))) sc.nd rfl (di_list (de_var 2 r_found)) (blkOk_by (own := [("lot", 7)]) (N := N_lots_of_size) (sc := _) (by first | decide +kernel | rfl)) rfl (dg_name sc.nd) (by intro i_ y1 σ_ G_ hy_ eG_ hT_; obtain ⟨v_y1, q_y1, rfl⟩ := hT_; have r_some := Rep.mono eG_ r_some; have r_size := Rep.mono eG_ r_size; have r_found := Rep.mono eG_ r_found; have r_at := Rep.mono eG_ r_at; have r_thing := Rep.mono eG_ r_thing; have r_rest := Rep.mono eG_ r_rest; have z_ := k2 y1 (List.mem_of_getElem? hy_); have ze_ := z_; intro Y_ hY_; have hr := InBlk.room hY_ hr; obtain ⟨⟨s_, H_, C_, cl_, fp_, rfl⟩⟩ := hY_; exact df_one (DC.dt (dc_lt (de_lenI (b_len T) (de_var 7 q_y1)) (de_var 1 r_size)))) (by intro i_ y1 σ_ G_ hy_ eG_ hT_ hf_; obtain ⟨v_y1, q_y1, rfl⟩ := hT_; have r_some := Rep.mono eG_ r_some; have r_size := Rep.mono eG_ r_size; have r_found := Rep.mono eG_ r_found; have r_at := Rep.mono eG_ r_at; have r_thing := Rep.mono eG_ r_thing; have r_rest := Rep.mono eG_ r_rest; have z_ := k2 y1 (List.mem_of_getElem? hy_); have ze_ := z_; have k1 := (ze_ hf_); intro Y_ hY_; have hr := InBlk.room hY_ hr; obtain ⟨⟨s_, H_, C_, cl_, fp_, rfl⟩⟩ := hY_; exact DO.de (do_listK (des_star (de_var 7 q_y1) (des_cons (de_var 4 r_thing) (des_nil (α := Str)))) k1))) (fun v_longer G4 e4 r_longer => ?_)
    have r_some := Rep.mono e4 r_some
    have r_size := Rep.mono e4 r_size
    have r_found := Rep.mono e4 r_found
    have r_at := Rep.mono e4 r_at
    have r_thing := Rep.mono e4 r_thing
    have r_rest := Rep.mono e4 r_rest
    replace r_longer : rep G4 v_longer ((x_found.filter fun y1 => decide ((y1.length : Int) < x_size)).map fun y1 => (y1 ++ (x_thing :: ([] : List Str)))) := r_longer
    replace hok : ok_lots_of_size_4 x_some x_size x_found x_at x_thing x_rest ((x_found.filter fun y1 => decide ((y1.length : Int) < x_size)).map fun y1 => (y1 ++ (x_thing :: ([] : List Str)))) := hok
    show SJ B _ _ [some v_some, some v_size, some v_found, some v_at, some v_thing, some v_rest, some v_longer, none] G4 [] (JF (fun (s : List (List Str)) (σ_ : L2.St) (G_ : Hp) (C_ : Cs) => ∃ (v_found : V) (t_at : Option V) (t_thing : Option V) (t_rest : Option V) (t_longer : Option V), (σ_ = [some v_some, some v_size, some v_found, t_at, t_thing, t_rest, t_longer, none] ∧ rep G_ v_found s ∧ C_ = ([] : Cs)))) (m_lots_of_size_3 x_some x_size x_found x_at x_thing x_rest)
    rw [show m_lots_of_size_3 x_some x_size x_found x_at x_thing x_rest = m_lots_of_size_4 x_some x_size x_found x_at x_thing x_rest ((x_found.filter fun y1 => decide ((y1.length : Int) < x_size)).map fun y1 => (y1 ++ (x_thing :: ([] : List Str)))) from rfl]
    generalize ((x_found.filter fun y1 => decide ((y1.length : Int) < x_size)).map fun y1 => (y1 ++ (x_thing :: ([] : List Str)))) = x_longer at r_longer hok ⊢
    obtain ⟨k3, hok⟩ := hok
    refine sb_set 2 (DE.se (DO.de (do_cat (DO.de (do_lc (lc_fil (fun y2 => decide (x_size < ((y2.length : Int) + x_rest))) sc.nd rfl (di_list (de_var 2 r_found)) (blkOk_by (own := [("lot", 7)]) (N := N_lots_of_size) (sc := _) (by first | decide +kernel | rfl)) rfl (dg_name sc.nd) (by intro i_ y2 σ_ G_ hy_ eG_ hT_; obtain ⟨v_y2, q_y2, rfl⟩ := hT_; have r_some := Rep.mono eG_ r_some; have r_size := Rep.mono eG_ r_size; have r_found := Rep.mono eG_ r_found; have r_at := Rep.mono eG_ r_at; have r_thing := Rep.mono eG_ r_thing; have r_rest := Rep.mono eG_ r_rest; have r_longer := Rep.mono eG_ r_longer; intro Y_ hY_; have hr := InBlk.room hY_ hr; obtain ⟨⟨s_, H_, C_, cl_, fp_, rfl⟩⟩ := hY_; exact df_one (DC.dt (dc_gt (de_add (de_lenI (b_len T) (de_var 7 q_y2)) (de_var 5 r_rest)) (de_var 1 r_size)))) (by intro i_ y2 σ_ G_ hy_ eG_ hT_ hf_; obtain ⟨v_y2, q_y2, rfl⟩ := hT_; have r_some := Rep.mono eG_ r_some; have r_size := Rep.mono eG_ r_size; have r_found := Rep.mono eG_ r_found; have r_at := Rep.mono eG_ r_at; have r_thing := Rep.mono eG_ r_thing; have r_rest := Rep.mono eG_ r_rest; have r_longer := Rep.mono eG_ r_longer; intro Y_ hY_; have hr := InBlk.room hY_ hr; obtain ⟨⟨s_, H_, C_, cl_, fp_, rfl⟩⟩ := hY_; exact de_var 7 q_y2)))) (de_var 6 r_longer) k3))) (fun v_found G5 e5 r_found => ?_) sc.nd
    have r_some := Rep.mono e5 r_some
    have r_size := Rep.mono e5 r_size
    have r_at := Rep.mono e5 r_at
    have r_thing := Rep.mono e5 r_thing
    have r_rest := Rep.mono e5 r_rest
    have r_longer := Rep.mono e5 r_longer
    replace r_found : rep G5 v_found ((x_found.filter fun y2 => decide (x_size < ((y2.length : Int) + x_rest))) ++ x_longer) := r_found
    replace hok : ok_lots_of_size_5 x_some x_size ((x_found.filter fun y2 => decide (x_size < ((y2.length : Int) + x_rest))) ++ x_longer) x_at x_thing x_rest x_longer := hok
    show SJ B _ _ [some v_some, some v_size, some v_found, some v_at, some v_thing, some v_rest, some v_longer, none] G5 [] (JF (fun (s : List (List Str)) (σ_ : L2.St) (G_ : Hp) (C_ : Cs) => ∃ (v_found : V) (t_at : Option V) (t_thing : Option V) (t_rest : Option V) (t_longer : Option V), (σ_ = [some v_some, some v_size, some v_found, t_at, t_thing, t_rest, t_longer, none] ∧ rep G_ v_found s ∧ C_ = ([] : Cs)))) (m_lots_of_size_4 x_some x_size x_found x_at x_thing x_rest x_longer)
    rw [show m_lots_of_size_4 x_some x_size x_found x_at x_thing x_rest x_longer = m_lots_of_size_5 x_some x_size ((x_found.filter fun y2 => decide (x_size < ((y2.length : Int) + x_rest))) ++ x_longer) x_at x_thing x_rest x_longer from rfl]
    generalize ((x_found.filter fun y2 => decide (x_size < ((y2.length : Int) + x_rest))) ++ x_longer) = x_found at r_found hok ⊢
    exact sb_nilF fun G_ e_ => ⟨_, _, _, _, _, rfl, Rep.mono e_ r_found, rfl⟩
  · rintro x_found σ_ G6 C_ hl_ e6 ⟨v_found, t_at, t_thing, t_rest, t_longer, rfl, r_found, rfl⟩
    replace hok := hok2 _ hl_
    have r_some := Rep.mono e6 r_some
    have r_size := Rep.mono e6 r_size
    replace hok : ok_lots_of_size_6 x_some x_size x_found := hok
    show SJ B _ _ [some v_some, some v_size, some v_found, t_at, t_thing, t_rest, t_longer, none] G6 [] (JD B []) (m_lots_of_size_6 x_some x_size x_found)
    exact sb_ret 0 (DE.se (de_var 2 r_found))

abbrev N_lots_by : List Str := ["steward", "entry", "ahead", "many", "row", "lot"]
def m_lots_by_3 (x_steward : Int × (List Str)) (x_entry : Str) (x_ahead : List Str) (x_many : Int) (x_row : List Str) : List (List Str) := ([([] : List Str)] : List (List Str))
def ok_lots_by_3 (x_steward : Int × (List Str)) (x_entry : Str) (x_ahead : List Str) (x_many : Int) (x_row : List Str) : Prop := True
def m_lots_by_4 (x_steward : Int × (List Str)) (x_entry : Str) (x_ahead : List Str) (x_many : Int) (x_row : List Str) : List (List Str) := ((m_lots_of_size x_ahead (((x_ahead.length : Int) - x_many) + (1 : Int))).map fun y2 => (srt y2))
def ok_lots_by_4 (x_steward : Int × (List Str)) (x_entry : Str) (x_ahead : List Str) (x_many : Int) (x_row : List Str) : Prop := (ok_lots_of_size x_ahead (((x_ahead.length : Int) - x_many) + (1 : Int))) ∧ (∀ y2 ∈ (m_lots_of_size x_ahead (((x_ahead.length : Int) - x_many) + (1 : Int))), (y2.length < 64)) ∧ True
def m_lots_by_2 (x_steward : Int × (List Str)) (x_entry : Str) (x_ahead : List Str) (x_many : Int) (x_row : List Str) : List (List Str) := if decide ((x_ahead.length : Int) < x_many) = true then m_lots_by_3 x_steward x_entry x_ahead x_many x_row else m_lots_by_4 x_steward x_entry x_ahead x_many x_row
def ok_lots_by_2 (x_steward : Int × (List Str)) (x_entry : Str) (x_ahead : List Str) (x_many : Int) (x_row : List Str) : Prop := (decide ((x_ahead.length : Int) < x_many) = true → ok_lots_by_3 x_steward x_entry x_ahead x_many x_row) ∧ (decide ((x_ahead.length : Int) < x_many) = false → ok_lots_by_4 x_steward x_entry x_ahead x_many x_row)
def m_lots_by_1 (x_steward : Int × (List Str)) (x_entry : Str) (x_many : Int) (x_row : List Str) : List (List Str) := m_lots_by_2 x_steward x_entry (cut x_row none (some (lidx x_row x_entry))) x_many x_row
def ok_lots_by_1 (x_steward : Int × (List Str)) (x_entry : Str) (x_many : Int) (x_row : List Str) : Prop := (x_entry ∈ x_row) ∧ ok_lots_by_2 x_steward x_entry (cut x_row none (some (lidx x_row x_entry))) x_many x_row
def m_lots_by_0 (x_steward : Int × (List Str)) (x_entry : Str) : List (List Str) := m_lots_by_1 x_steward x_entry (id x_steward.1) (id x_steward.2)
def ok_lots_by_0 (x_steward : Int × (List Str)) (x_entry : Str) : Prop := ok_lots_by_1 x_steward x_entry (id x_steward.1) (id x_steward.2)
def m_lots_by (x_steward : Int × (List Str)) (x_entry : Str) : List (List Str) := m_lots_by_0 x_steward x_entry
def ok_lots_by (x_steward : Int × (List Str)) (x_entry : Str) : Prop := ok_lots_by_0 x_steward x_entry
theorem h_lots_by (T : Tx K mg) : Has P w K mg base "lots_by" (He.ga K "lots_by") 2 ["steward", "entry"] (SpN kO (fun (a : (Int × (List Str)) × Str × Unit) => ok_lots_by a.1 a.2.1) (fun a => m_lots_by a.1 a.2.1)) := by
  have sc : FnScope N_lots_by ["steward", "entry"] (defScope s_lots_by) := ⟨rfl, rfl, rfl, by decide +kernel, rfl, by decide +kernel, by decide +kernel⟩
  refine has_O (d_lots_by T) (g_lots_by T) sc (fun _ _ _ _ _ _ us hl => match us, hl with | [_, _], _ => rfl) (by rintro a G vs ⟨v_steward, _, rfl, r_steward, ⟨v_entry, _, rfl, r_entry, rfl⟩⟩; rfl) ?_
  rintro X ⟨cdv, AA, outer, ss, HH, EE, rfl⟩ hr B vs ⟨x_steward, x_entry, ⟨⟩⟩ G0 hB ⟨v_steward, _, rfl, r_steward, ⟨v_entry, _, rfl, r_entry, rfl⟩⟩ hok
  replace hok : ok_lots_by_0 x_steward x_entry := hok
  show SJ B _ _ [some v_steward, some v_entry, none, none, none, none] G0 [] (JO B []) (m_lots_by_0 x_steward x_entry)
  refine sb_unp2 (DE.se (de_var 0 r_steward)) (ug_cons 3 (ug_cons 4 ug_nil sc.nd) sc.nd) rfl (fun v_many v_row G1 e1 r_many r_row => ?_)
  have r_steward := Rep.mono e1 r_steward
  have r_entry := Rep.mono e1 r_entry
  replace r_many : rep G1 v_many (id x_steward.1) := r_many
  replace r_row : rep G1 v_row (id x_steward.2) := r_row
  replace hok : ok_lots_by_1 x_steward x_entry (id x_steward.1) (id x_steward.2) := hok
  show SJ B _ _ [some v_steward, some v_entry, none, some v_many, some v_row, none] G1 [] (JO B []) (m_lots_by_0 x_steward x_entry)
  rw [show m_lots_by_0 x_steward x_entry = m_lots_by_1 x_steward x_entry (id x_steward.1) (id x_steward.2) from rfl]
  generalize (id x_steward.1) = x_many, (id x_steward.2) = x_row at r_many r_row hok ⊢
  obtain ⟨k1, hok⟩ := hok
  refine sb_set 2 (DE.se (DO.de (do_slice (de_var 4 r_row) dp_none (dp_some (de_index (de_var 4 r_row) (de_var 1 r_entry) k1))))) (fun v_ahead G2 e2 r_ahead => ?_) sc.nd
  have r_steward := Rep.mono e2 r_steward
  have r_entry := Rep.mono e2 r_entry
  have r_many := Rep.mono e2 r_many
  have r_row := Rep.mono e2 r_row
  replace r_ahead : rep G2 v_ahead (cut x_row none (some (lidx x_row x_entry))) := r_ahead
  replace hok : ok_lots_by_2 x_steward x_entry (cut x_row none (some (lidx x_row x_entry))) x_many x_row := hok
  show SJ B _ _ [some v_steward, some v_entry, some v_ahead, some v_many, some v_row, none] G2 [] (JO B []) (m_lots_by_1 x_steward x_entry x_many x_row)
  rw [show m_lots_by_1 x_steward x_entry x_many x_row = m_lots_by_2 x_steward x_entry (cut x_row none (some (lidx x_row x_entry))) x_many x_row from rfl]
  generalize (cut x_row none (some (lidx x_row x_entry))) = x_ahead at r_ahead hok ⊢
  obtain ⟨hokA, hokB⟩ := hok
  refine sj_whenX (DT.st (DC.dt (dc_lt (de_lenI (b_len T) (de_var 2 r_ahead)) (de_var 3 r_many)))) (fun h1 => ?_) (fun h1 => ?_)
  · have hok := hokA h1; clear hokA hokB
    show SJ B _ _ [some v_steward, some v_entry, some v_ahead, some v_many, some v_row, none] G2 [] (JX (JO B [])) (m_lots_by_3 x_steward x_entry x_ahead x_many x_row)
    exact sb_retO 0 (DO.so (do_list (hl := (by decide : (1 : Nat) ≤ sizeLine)) (des_cons (DO.de (do_list (hl := (by decide : (0 : Nat) ≤ sizeLine)) (des_nil (α := Str)))) des_nil))) (by first | exact Nat.zero_le _ | simp)
  · have hok := hokB h1; clear hokA hokB
    show SJ B _ _ [some v_steward, some v_entry, some v_ahead, some v_many, some v_row, none] G2 [] (JO B []) (m_lots_by_4 x_steward x_entry x_ahead x_many x_row)
    obtain ⟨k2, k4, hok⟩ := hok
    exact sb_retO 0 (DO.so (do_lc (lc_map (fun y2 => (srt y2)) sc.nd rfl (di_list (de_callZ (y := (x_ahead, (((x_ahead.length : Int) - x_many) + (1 : Int)), ())) (z := (m_lots_of_size x_ahead (((x_ahead.length : Int) - x_many) + (1 : Int)))) (h_lots_of_size T) hr (da_cons (de_var 2 r_ahead) (da_cons (de_add (de_sub (de_lenI (b_len T) (de_var 2 r_ahead)) (de_var 3 r_many)) de_int) da_nil)) k2)) (blkOk_by (own := [("lot", 5)]) (N := N_lots_by) (sc := _) (by first | decide +kernel | rfl)) rfl (dg_name sc.nd) (by intro i_ y2 σ_ G_ hy_ eG_ hT_; obtain ⟨v_y2, q_y2, rfl⟩ := hT_; have r_steward := Rep.mono eG_ r_steward; have r_entry := Rep.mono eG_ r_entry; have r_many := Rep.mono eG_ r_many; have r_row := Rep.mono eG_ r_row; have r_ahead := Rep.mono eG_ r_ahead; have z_ := k4 y2 (List.mem_of_getElem? hy_); have ze_ := z_; have k3 := ze_; intro Y_ hY_; have hr := InBlk.room hY_ hr; obtain ⟨⟨s_, H_, C_, cl_, fp_, rfl⟩⟩ := hY_; exact DO.de (do_sorted (b_sorted T) (de_var 5 q_y2) k3))))) (by first | exact Nat.zero_le _ | simp)

abbrev N_is_part : List Str := ["one", "other", "name"]
def m_is_part_0 (x_one : List Str) (x_other : List Str) : Bool := decide ((x_one.filter fun y1 => (!decide (y1 ∈ x_other))) = ([] : List Str))
def ok_is_part_0 (x_one : List Str) (x_other : List Str) : Prop := True
def m_is_part (x_one : List Str) (x_other : List Str) : Bool := m_is_part_0 x_one x_other
def ok_is_part (x_one : List Str) (x_other : List Str) : Prop := ok_is_part_0 x_one x_other
theorem h_is_part (T : Tx K mg) : Has P w K mg base "is_part" (He.ga K "is_part") 1 ["one", "other"] (SpN kD (fun (a : (List Str) × (List Str) × Unit) => ok_is_part a.1 a.2.1) (fun a => m_is_part a.1 a.2.1)) := by
  have sc : FnScope N_is_part ["one", "other"] (defScope s_is_part) := ⟨rfl, rfl, rfl, by decide +kernel, rfl, by decide +kernel, by decide +kernel⟩
  refine has_D (d_is_part T) (g_is_part T) sc (fun _ _ _ _ _ _ us hl => match us, hl with | [_, _], _ => rfl) (by rintro a G vs ⟨v_one, _, rfl, r_one, ⟨v_other, _, rfl, r_other, rfl⟩⟩; rfl) ?_
  rintro X ⟨cdv, AA, outer, ss, HH, EE, rfl⟩ hr B vs ⟨x_one, x_other, ⟨⟩⟩ G0 hB ⟨v_one, _, rfl, r_one, ⟨v_other, _, rfl, r_other, rfl⟩⟩ hok
  replace hok : ok_is_part_0 x_one x_other := hok
  show SJ B _ _ [some v_one, some v_other, none] G0 [] (JD B []) (m_is_part_0 x_one x_other)
  exact sb_ret 0 (DE.se (DC.de (dc_eq hr.units (DO.de (do_lc (lc_fil (fun y1 => (!decide (y1 ∈ x_other))) sc.nd rfl (di_list (de_var 0 r_one)) (blkOk_by (own := [("name", 2)]) (N := N_is_part) (sc := _) (by first | decide +kernel | rfl)) rfl (dg_name sc.nd) (by intro i_ y1 σ_ G_ hy_ eG_ hT_; obtain ⟨v_y1, q_y1, rfl⟩ := hT_; have r_one := Rep.mono eG_ r_one; have r_other := Rep.mono eG_ r_other; intro Y_ hY_; have hr := InBlk.room hY_ hr; obtain ⟨⟨s_, H_, C_, cl_, fp_, rfl⟩⟩ := hY_; exact df_one (DC.dt (dc_nin (de_var 2 q_y1) (de_var 1 r_other)))) (by intro i_ y1 σ_ G_ hy_ eG_ hT_ hf_; obtain ⟨v_y1, q_y1, rfl⟩ := hT_; have r_one := Rep.mono eG_ r_one; have r_other := Rep.mono eG_ r_other; intro Y_ hY_; have hr := InBlk.room hY_ hr; obtain ⟨⟨s_, H_, C_, cl_, fp_, rfl⟩⟩ := hY_; exact de_var 2 q_y1)))) (DO.de (do_list (hl := (by decide : (0 : Nat) ≤ sizeLine)) (des_nil (α := Str)))))))

abbrev N_least_of : List Str := ["lots", "plain", "lot", "other"]
def m_least_of_1 (x_lots : List (List Str)) (x_plain : List (List Str)) : List (List Str) := (x_plain.filter fun y3 => decide ((x_plain.filter fun y4 => ((!decide (y4 = y3)) && (m_is_part y4 y3))) = ([] : List (List Str))))
def ok_least_of_1 (x_lots : List (List Str)) (x_plain : List (List Str)) : Prop := (∀ y3 ∈ x_plain, (∀ y4 ∈ x_plain, (((!decide (y4 = y3)) = true) → (ok_is_part y4 y3)))) ∧ True
def m_least_of_0 (x_lots : List (List Str)) : List (List Str) := m_least_of_1 x_lots ((srtG (ddpG (x_lots.map fun y1 => (TL.mk y1)))).map fun y2 => y2.l)
def ok_least_of_0 (x_lots : List (List Str)) : Prop := ((x_lots.map fun y1 => (TL.mk y1)).length < 300) ∧ ok_least_of_1 x_lots ((srtG (ddpG (x_lots.map fun y1 => (TL.mk y1)))).map fun y2 => y2.l)
def m_least_of (x_lots : List (List Str)) : List (List Str) := m_least_of_0 x_lots
def ok_least_of (x_lots : List (List Str)) : Prop := ok_least_of_0 x_lots
theorem h_least_of (T : Tx K mg) : Has P w K mg base "least_of" (He.ga K "least_of") 2 ["lots"] (SpN kOF (fun (a : (List (List Str)) × Unit) => ok_least_of a.1) (fun a => m_least_of a.1)) := by
  have sc : FnScope N_least_of ["lots"] (defScope s_least_of) := ⟨rfl, rfl, rfl, by decide +kernel, rfl, by decide +kernel, by decide +kernel⟩
  refine has_OF (d_least_of T) (g_least_of T) sc (fun _ _ _ _ _ _ us hl => match us, hl with | [_], _ => rfl) (by rintro a G vs ⟨v_lots, _, rfl, r_lots, rfl⟩; rfl) ?_
  rintro X ⟨cdv, AA, outer, ss, HH, EE, rfl⟩ hr B vs ⟨x_lots, ⟨⟩⟩ G0 hB ⟨v_lots, _, rfl, r_lots, rfl⟩ hok
  replace hok : ok_least_of_0 x_lots := hok
  show SJ B _ _ [some v_lots, none, none, none] G0 [] (JOF B) (m_least_of_0 x_lots)
  obtain ⟨k1, hok⟩ := hok
  refine sb_setP 1 (dp_lc (fun y2 => y2.l) sc.nd rfl (di_list (DO.de (do_sortSetT (p4 := default) hr.units (b_sorted T) (b_set T) (DO.de (do_lc (lc_map (fun y1 => (TL.mk y1)) sc.nd rfl (di_list (de_var 0 r_lots)) (blkOk_by (own := [("lot", 2)]) (N := N_least_of) (sc := _) (by first | decide +kernel | rfl)) rfl (dg_name sc.nd) (by intro i_ y1 σ_ G_ hy_ eG_ hT_; obtain ⟨v_y1, q_y1, rfl⟩ := hT_; have r_lots := Rep.mono eG_ r_lots; intro Y_ hY_; have hr := InBlk.room hY_ hr; obtain ⟨⟨s_, H_, C_, cl_, fp_, rfl⟩⟩ := hY_; exact de_tupleOf (b_tuple T) (de_var 2 q_y1))))) k1))) (blkOk_by (own := [("lot", 2)]) (N := N_least_of) (sc := _) (by first | decide +kernel | rfl)) rfl (dg_name sc.nd) (by intro i_ y2 σ_ G_ hy_ eG_ hT_; obtain ⟨v_y2, q_y2, rfl⟩ := hT_; have r_lots := Rep.mono eG_ r_lots; intro Y_ hY_; have hr := InBlk.room hY_ hr; obtain ⟨⟨s_, H_, C_, cl_, fp_, rfl⟩⟩ := hY_; exact do_listOfT (b_list T) (de_var 2 q_y2))) (fun v_plain G1 e1 rf_plain => ?_) sc.nd
  have r_plain := rep_frs_out rf_plain
  replace rf_plain : rep G1 v_plain (frs B.H ((srtG (ddpG (x_lots.map fun y1 => (TL.mk y1)))).map fun y2 => y2.l)) := rf_plain
  have r_lots := Rep.mono e1 r_lots
  replace r_plain : rep G1 v_plain ((srtG (ddpG (x_lots.map fun y1 => (TL.mk y1)))).map fun y2 => y2.l) := r_plain
  replace hok : ok_least_of_1 x_lots ((srtG (ddpG (x_lots.map fun y1 => (TL.mk y1)))).map fun y2 => y2.l) := hok
  show SJ B _ _ [some v_lots, some v_plain, none, none] G1 [] (JOF B) (m_least_of_0 x_lots)
  rw [show m_least_of_0 x_lots = m_least_of_1 x_lots ((srtG (ddpG (x_lots.map fun y1 => (TL.mk y1)))).map fun y2 => y2.l) from rfl]
  generalize ((srtG (ddpG (x_lots.map fun y1 => (TL.mk y1)))).map fun y2 => y2.l) = x_plain at rf_plain r_plain hok ⊢
  obtain ⟨k5, hok⟩ := hok
  exact sb_retO 0 (DO.so (DO.cast (do_lc (lc_fil (fun y3' => (fun y3 => decide ((x_plain.filter fun y4 => ((!decide (y4 = y3)) && (m_is_part y4 y3))) = ([] : List (List Str)))) y3'.val) sc.nd rfl (di_list (de_var 1 rf_plain)) (blkOk_by (own := [("lot", 2)]) (N := N_least_of) (sc := _) (by first | decide +kernel | rfl)) rfl (dg_name sc.nd) (by intro i_ y3' σ_ G_ hy_ eG_ hT_; rcases y3' with ⟨y3⟩; replace hy_ := frs_get hy_; obtain ⟨v_y3, qf_y3, rfl⟩ := hT_; have q_y3 := fr_out qf_y3; have r_lots := Rep.mono eG_ r_lots; have r_plain := Rep.mono eG_ r_plain; have z_ := k5 y3 (List.mem_of_getElem? hy_); have k4 := z_; intro Y_ hY_; have hr := InBlk.room hY_ hr; obtain ⟨⟨s_, H_, C_, cl_, fp_, rfl⟩⟩ := hY_; exact df_one (DC.dt (dc_eq hr.units (DO.de (do_lc (lc_fil (fun y4 => ((!decide (y4 = y3)) && (m_is_part y4 y3))) sc.nd rfl (di_list (de_var 1 r_plain)) (blkOk_by (own := [("other", 3)]) (N := N_least_of) (sc := _) (by first | decide +kernel | rfl)) rfl (dg_name sc.nd) (by intro i_ y4 σ_ G_ hy_ eG_ hT_; obtain ⟨v_y4, q_y4, rfl⟩ := hT_; have r_lots := Rep.mono eG_ r_lots; have r_plain := Rep.mono eG_ r_plain; have q_y3 := Rep.mono eG_ q_y3; have z_ := k4 y4 (List.mem_of_getElem? hy_); have k3 := z_; intro Y_ hY_; have hr := InBlk.room hY_ hr; obtain ⟨⟨s_, H_, C_, cl_, fp_, rfl⟩⟩ := hY_; exact df_one (DW.dt (dw_and (DC.dt (dc_ne hr.units (de_var 3 q_y4) (de_var 2 q_y3))) fun h5 => (by have k2 := k3 h5; exact dw_and1 (dt_val (de_callZ (y := (y4, y3, ())) (z := (m_is_part y4 y3)) (h_is_part T) hr (da_cons (de_var 3 q_y4) (da_cons (de_var 2 q_y3) da_nil)) k2)))))) (by intro i_ y4 σ_ G_ hy_ eG_ hT_ hf_; obtain ⟨v_y4, q_y4, rfl⟩ := hT_; have r_lots := Rep.mono eG_ r_lots; have r_plain := Rep.mono eG_ r_plain; have q_y3 := Rep.mono eG_ q_y3; have z_ := k4 y4 (List.mem_of_getElem? hy_); have k3 := z_; intro Y_ hY_; have hr := InBlk.room hY_ hr; obtain ⟨⟨s_, H_, C_, cl_, fp_, rfl⟩⟩ := hY_; exact de_var 3 q_y4)))) (DO.de (do_list (hl := (by decide : (0 : Nat) ≤ sizeLine)) (des_nil (α := List Str))))))) (by intro i_ y3' σ_ G_ hy_ eG_ hT_ hf_; rcases y3' with ⟨y3⟩; replace hy_ := frs_get hy_; obtain ⟨v_y3, qf_y3, rfl⟩ := hT_; have q_y3 := fr_out qf_y3; have r_lots := Rep.mono eG_ r_lots; have r_plain := Rep.mono eG_ r_plain; have z_ := k5 y3 (List.mem_of_getElem? hy_); have k4 := z_; intro Y_ hY_; have hr := InBlk.room hY_ hr; obtain ⟨⟨s_, H_, C_, cl_, fp_, rfl⟩⟩ := hY_; exact de_var 2 qf_y3))) (filter_frs x_plain (fun y3 => decide ((x_plain.filter fun y4 => ((!decide (y4 = y3)) && (m_is_part y4 y3))) = ([] : List (List Str))))))) (by first | exact Nat.zero_le _ | simp)

abbrev N_lots_for : List Str := ["stewards", "entry", "found", "steward"]
def m_lots_for_3 (x_stewards : List (Int × (List Str))) (x_entry : Str) (x_found : List (List Str)) (x_steward : Int × (List Str)) : List (List Str) := x_found
def ok_lots_for_3 (x_stewards : List (Int × (List Str))) (x_entry : Str) (x_found : List (List Str)) (x_steward : Int × (List Str)) : Prop := True
def m_lots_for_2 (x_stewards : List (Int × (List Str))) (x_entry : Str) (x_found : List (List Str)) (x_steward : Int × (List Str)) : List (List Str) := m_lots_for_3 x_stewards x_entry (x_found ++ (m_lots_by x_steward x_entry)) x_steward
def ok_lots_for_2 (x_stewards : List (Int × (List Str))) (x_entry : Str) (x_found : List (List Str)) (x_steward : Int × (List Str)) : Prop := (ok_lots_by x_steward x_entry) ∧ (x_found.length + (m_lots_by x_steward x_entry).length ≤ sizeLine) ∧ ok_lots_for_3 x_stewards x_entry (x_found ++ (m_lots_by x_steward x_entry)) x_steward
def m_lots_for_4 (x_stewards : List (Int × (List Str))) (x_entry : Str) (x_found : List (List Str)) : List (List Str) := (m_least_of x_found)
def ok_lots_for_4 (x_stewards : List (Int × (List Str))) (x_entry : Str) (x_found : List (List Str)) : Prop := (ok_least_of x_found) ∧ True
def m_lots_for_1 (x_stewards : List (Int × (List Str))) (x_entry : Str) (x_found : List (List Str)) : List (List Str) := m_lots_for_4 x_stewards x_entry (List.foldl (fun (s : List (List Str)) (y : Int × (List Str)) => m_lots_for_2 x_stewards x_entry s y) x_found x_stewards)
def ok_lots_for_1 (x_stewards : List (Int × (List Str))) (x_entry : Str) (x_found : List (List Str)) : Prop := (foldOk (fun (s : List (List Str)) (y : Int × (List Str)) => m_lots_for_2 x_stewards x_entry s y) (fun (s : List (List Str)) (y : Int × (List Str)) => ok_lots_for_2 x_stewards x_entry s y) x_stewards x_found) ∧ ok_lots_for_4 x_stewards x_entry (List.foldl (fun (s : List (List Str)) (y : Int × (List Str)) => m_lots_for_2 x_stewards x_entry s y) x_found x_stewards)
def m_lots_for_0 (x_stewards : List (Int × (List Str))) (x_entry : Str) : List (List Str) := m_lots_for_1 x_stewards x_entry ([] : List (List Str))
def ok_lots_for_0 (x_stewards : List (Int × (List Str))) (x_entry : Str) : Prop := ok_lots_for_1 x_stewards x_entry ([] : List (List Str))
def m_lots_for (x_stewards : List (Int × (List Str))) (x_entry : Str) : List (List Str) := m_lots_for_0 x_stewards x_entry
def ok_lots_for (x_stewards : List (Int × (List Str))) (x_entry : Str) : Prop := ok_lots_for_0 x_stewards x_entry
theorem h_lots_for (T : Tx K mg) : Has P w K mg base "lots_for" (He.ga K "lots_for") 3 ["stewards", "entry"] (SpN kOF (fun (a : (List (Int × (List Str))) × Str × Unit) => ok_lots_for a.1 a.2.1) (fun a => m_lots_for a.1 a.2.1)) := by
  have sc : FnScope N_lots_for ["stewards", "entry"] (defScope s_lots_for) := ⟨rfl, rfl, rfl, by decide +kernel, rfl, by decide +kernel, by decide +kernel⟩
  refine has_OF (d_lots_for T) (g_lots_for T) sc (fun _ _ _ _ _ _ us hl => match us, hl with | [_, _], _ => rfl) (by rintro a G vs ⟨v_stewards, _, rfl, r_stewards, ⟨v_entry, _, rfl, r_entry, rfl⟩⟩; rfl) ?_
  rintro X ⟨cdv, AA, outer, ss, HH, EE, rfl⟩ hr B vs ⟨x_stewards, x_entry, ⟨⟩⟩ G0 hB ⟨v_stewards, _, rfl, r_stewards, ⟨v_entry, _, rfl, r_entry, rfl⟩⟩ hok
  replace hok : ok_lots_for_0 x_stewards x_entry := hok
  show SJ B _ _ [some v_stewards, some v_entry, none, none] G0 [] (JOF B) (m_lots_for_0 x_stewards x_entry)
  refine sb_set 2 (DE.se (DO.de (do_list (hl := (by decide : (0 : Nat) ≤ sizeLine)) (des_nil (α := List Str))))) (fun v_found G1 e1 r_found => ?_) sc.nd
  have r_stewards := Rep.mono e1 r_stewards
  have r_entry := Rep.mono e1 r_entry
  replace r_found : rep G1 v_found ([] : List (List Str)) := r_found
  replace hok : ok_lots_for_1 x_stewards x_entry ([] : List (List Str)) := hok
  show SJ B _ _ [some v_stewards, some v_entry, some v_found, none] G1 [] (JOF B) (m_lots_for_0 x_stewards x_entry)
  rw [show m_lots_for_0 x_stewards x_entry = m_lots_for_1 x_stewards x_entry ([] : List (List Str)) from rfl]
  generalize ([] : List (List Str)) = x_found at r_found hok ⊢
  obtain ⟨k4, hok⟩ := hok
  have hok2 : ∀ s : List (List Str), s = (List.foldl (fun (s : List (List Str)) (y : Int × (List Str)) => m_lots_for_2 x_stewards x_entry s y) x_found x_stewards) → ok_lots_for_4 x_stewards x_entry s := fun s h => by subst h; exact hok
  refine sj_foldS (k := fun (s : List (List Str)) => m_lots_for_4 x_stewards x_entry s) (fun (s : List (List Str)) (σ_ : L2.St) (G_ : Hp) (C_ : Cs) => ∃ (v_found : V) (t_steward : Option V), (σ_ = [some v_stewards, some v_entry, some v_found, t_steward] ∧ rep G_ v_found s ∧ C_ = ([] : Cs))) (fun (s : List (List Str)) (y : Int × (List Str)) => m_lots_for_2 x_stewards x_entry s y) (fun (s : List (List Str)) (y : Int × (List Str)) => ok_lots_for_2 x_stewards x_entry s y) x_found (di_list (de_var 0 r_stewards)) (sg_name 3 sc.nd) (fun G_ e_ => ⟨_, _, rfl, Rep.mono e_ r_found, rfl⟩) (by rintro x_found σ_ G_ G2_ C_ e_ ⟨v_found, t_steward, rfl, r_found, rfl⟩; exact ⟨_, _, rfl, Rep.mono e_ r_found, rfl⟩) k4 ?_ ?_
  · rintro x_found x_steward σ_ σ2_ G2 C_ hy_ e2 ⟨v_found, t_steward, rfl, r_found, rfl⟩ ⟨v_steward, r_steward, rfl⟩ hok
    have r_stewards := Rep.mono e2 r_stewards
    have r_entry := Rep.mono e2 r_entry
    replace hok : ok_lots_for_2 x_stewards x_entry x_found x_steward := hok
    show SJ B _ _ [some v_stewards, some v_entry, some v_found, some v_steward] G2 [] (JF (fun (s : List (List Str)) (σ_ : L2.St) (G_ : Hp) (C_ : Cs) => ∃ (v_found : V) (t_steward : Option V), (σ_ = [some v_stewards, some v_entry, some v_found, t_steward] ∧ rep G_ v_found s ∧ C_ = ([] : Cs)))) (m_lots_for_2 x_stewards x_entry x_found x_steward)
    obtain ⟨k1, k2, hok⟩ := hok
    refine sb_set 2 (DE.se (DO.de (do_cat (de_var 2 r_found) (DO.de (do_callZ (y := (x_steward, x_entry, ())) (z := (m_lots_by x_steward x_entry)) (h_lots_by T) hr (da_cons (de_var 3 r_steward) (da_cons (de_var 1 r_entry) da_nil)) k1)) k2))) (fun v_found G3 e3 r_found => ?_) sc.nd
    have r_stewards := Rep.mono e3 r_stewards
    have r_entry := Rep.mono e3 r_entry
    have r_steward := Rep.mono e3 r_steward
    replace r_found : rep G3 v_found (x_found ++ (m_lots_by x_steward x_entry)) := r_found
    replace hok : ok_lots_for_3 x_stewards x_entry (x_found ++ (m_lots_by x_steward x_entry)) x_steward := hok
    show SJ B _ _ [some v_stewards, some v_entry, some v_found, some v_steward] G3 [] (JF (fun (s : List (List Str)) (σ_ : L2.St) (G_ : Hp) (C_ : Cs) => ∃ (v_found : V) (t_steward : Option V), (σ_ = [some v_stewards, some v_entry, some v_found, t_steward] ∧ rep G_ v_found s ∧ C_ = ([] : Cs)))) (m_lots_for_2 x_stewards x_entry x_found x_steward)
    rw [show m_lots_for_2 x_stewards x_entry x_found x_steward = m_lots_for_3 x_stewards x_entry (x_found ++ (m_lots_by x_steward x_entry)) x_steward from rfl]
    generalize (x_found ++ (m_lots_by x_steward x_entry)) = x_found at r_found hok ⊢
    exact sb_nilF fun G_ e_ => ⟨_, _, rfl, Rep.mono e_ r_found, rfl⟩
  · rintro x_found σ_ G4 C_ hl_ e4 ⟨v_found, t_steward, rfl, r_found, rfl⟩
    replace hok := hok2 _ hl_
    have r_stewards := Rep.mono e4 r_stewards
    have r_entry := Rep.mono e4 r_entry
    replace hok : ok_lots_for_4 x_stewards x_entry x_found := hok
    show SJ B _ _ [some v_stewards, some v_entry, some v_found, t_steward] G4 [] (JOF B) (m_lots_for_4 x_stewards x_entry x_found)
    obtain ⟨k3, hok⟩ := hok
    exact sb_retO 0 (so_callRF (y := (x_found, ())) (z := (m_least_of x_found)) (h_least_of T) hr (da_cons (de_var 2 r_found) da_nil) k3) (by first | exact Nat.zero_le _ | simp)

abbrev N_several_lots : List Str := ["entries", "stewards", "entry"]
def m_several_lots_3 (x_entries : List Str) (x_stewards : List (Int × (List Str))) (x_entry : Str) : List (List Str) := (m_lots_for x_stewards x_entry)
def ok_several_lots_3 (x_entries : List Str) (x_stewards : List (Int × (List Str))) (x_entry : Str) : Prop := (ok_lots_for x_stewards x_entry) ∧ True
def m_several_lots_2 (x_entries : List Str) (x_stewards : List (Int × (List Str))) (x_entry : Str) : List (List Str) := m_several_lots_3 x_entries x_stewards x_entry
def ok_several_lots_2 (x_entries : List Str) (x_stewards : List (Int × (List Str))) (x_entry : Str) : Prop := (ok_check_entry x_entry x_entries) ∧ ok_several_lots_3 x_entries x_stewards x_entry
def m_several_lots_1 (x_entries : List Str) (x_stewards : List (Int × (List Str))) (x_entry : Str) : List (List Str) := m_several_lots_2 x_entries x_stewards x_entry
def ok_several_lots_1 (x_entries : List Str) (x_stewards : List (Int × (List Str))) (x_entry : Str) : Prop := (ok_check_stewards x_entries x_stewards) ∧ ok_several_lots_2 x_entries x_stewards x_entry
def m_several_lots_0 (x_entries : List Str) (x_stewards : List (Int × (List Str))) (x_entry : Str) : List (List Str) := m_several_lots_1 x_entries x_stewards x_entry
def ok_several_lots_0 (x_entries : List Str) (x_stewards : List (Int × (List Str))) (x_entry : Str) : Prop := (ok_check_entries x_entries) ∧ ok_several_lots_1 x_entries x_stewards x_entry
def m_several_lots (x_entries : List Str) (x_stewards : List (Int × (List Str))) (x_entry : Str) : List (List Str) := m_several_lots_0 x_entries x_stewards x_entry
def ok_several_lots (x_entries : List Str) (x_stewards : List (Int × (List Str))) (x_entry : Str) : Prop := ok_several_lots_0 x_entries x_stewards x_entry
theorem h_several_lots (T : Tx K mg) : Has P w K mg base "several_lots" (He.ga K "several_lots") 5 ["entries", "stewards", "entry"] (SpN kOF (fun (a : (List Str) × (List (Int × (List Str))) × Str × Unit) => ok_several_lots a.1 a.2.1 a.2.2.1) (fun a => m_several_lots a.1 a.2.1 a.2.2.1)) := by
  have sc : FnScope N_several_lots ["entries", "stewards", "entry"] (defScope s_several_lots) := ⟨rfl, rfl, rfl, by decide +kernel, rfl, by decide +kernel, by decide +kernel⟩
  refine has_OF (d_several_lots T) (g_several_lots T) sc (fun _ _ _ _ _ _ us hl => match us, hl with | [_, _, _], _ => rfl) (by rintro a G vs ⟨v_entries, _, rfl, r_entries, ⟨v_stewards, _, rfl, r_stewards, ⟨v_entry, _, rfl, r_entry, rfl⟩⟩⟩; rfl) ?_
  rintro X ⟨cdv, AA, outer, ss, HH, EE, rfl⟩ hr B vs ⟨x_entries, x_stewards, x_entry, ⟨⟩⟩ G0 hB ⟨v_entries, _, rfl, r_entries, ⟨v_stewards, _, rfl, r_stewards, ⟨v_entry, _, rfl, r_entry, rfl⟩⟩⟩ hok
  replace hok : ok_several_lots_0 x_entries x_stewards x_entry := hok
  show SJ B _ _ [some v_entries, some v_stewards, some v_entry] G0 [] (JOF B) (m_several_lots_0 x_entries x_stewards x_entry)
  obtain ⟨k1, hok⟩ := hok
  refine sb_expr (DE.se (de_callZ (y := (x_entries, ())) (z := (m_check_entries x_entries)) (h_check_entries T) hr (da_cons (de_var 0 r_entries) da_nil) k1)) fun G1 e1 => ?_
  have r_entries := Rep.mono e1 r_entries
  have r_stewards := Rep.mono e1 r_stewards
  have r_entry := Rep.mono e1 r_entry
  replace hok : ok_several_lots_1 x_entries x_stewards x_entry := hok
  show SJ B _ _ [some v_entries, some v_stewards, some v_entry] G1 [] (JOF B) (m_several_lots_0 x_entries x_stewards x_entry)
  rw [show m_several_lots_0 x_entries x_stewards x_entry = m_several_lots_1 x_entries x_stewards x_entry from rfl]
  obtain ⟨k2, hok⟩ := hok
  refine sb_expr (DE.se (de_callZ (y := (x_entries, x_stewards, ())) (z := (m_check_stewards x_entries x_stewards)) (h_check_stewards T) hr (da_cons (de_var 0 r_entries) (da_cons (de_var 1 r_stewards) da_nil)) k2)) fun G2 e2 => ?_
  have r_entries := Rep.mono e2 r_entries
  have r_stewards := Rep.mono e2 r_stewards
  have r_entry := Rep.mono e2 r_entry
  replace hok : ok_several_lots_2 x_entries x_stewards x_entry := hok
  show SJ B _ _ [some v_entries, some v_stewards, some v_entry] G2 [] (JOF B) (m_several_lots_1 x_entries x_stewards x_entry)
  rw [show m_several_lots_1 x_entries x_stewards x_entry = m_several_lots_2 x_entries x_stewards x_entry from rfl]
  obtain ⟨k3, hok⟩ := hok
  refine sb_expr (DE.se (de_callZ (y := (x_entry, x_entries, ())) (z := (m_check_entry x_entry x_entries)) (h_check_entry T) hr (da_cons (de_var 2 r_entry) (da_cons (de_var 0 r_entries) da_nil)) k3)) fun G3 e3 => ?_
  have r_entries := Rep.mono e3 r_entries
  have r_stewards := Rep.mono e3 r_stewards
  have r_entry := Rep.mono e3 r_entry
  replace hok : ok_several_lots_3 x_entries x_stewards x_entry := hok
  show SJ B _ _ [some v_entries, some v_stewards, some v_entry] G3 [] (JOF B) (m_several_lots_2 x_entries x_stewards x_entry)
  rw [show m_several_lots_2 x_entries x_stewards x_entry = m_several_lots_3 x_entries x_stewards x_entry from rfl]
  obtain ⟨k4, hok⟩ := hok
  exact sb_retO 0 (so_callRF (y := (x_stewards, x_entry, ())) (z := (m_lots_for x_stewards x_entry)) (h_lots_for T) hr (da_cons (de_var 1 r_stewards) (da_cons (de_var 2 r_entry) da_nil)) k4) (by first | exact Nat.zero_le _ | simp)

abbrev N__law_least : List Str := ["some", "plain", "lot", "one"]
def m__law_least_5 (x_some : List (List Str)) (x_plain : List (List Str)) (x_lot : List Str) : List (List Str) := x_plain
def ok__law_least_5 (x_some : List (List Str)) (x_plain : List (List Str)) (x_lot : List Str) : Prop := True
def m__law_least_4 (x_some : List (List Str)) (x_plain : List (List Str)) (x_lot : List Str) : List (List Str) := m__law_least_5 x_some x_plain x_lot
def ok__law_least_4 (x_some : List (List Str)) (x_plain : List (List Str)) (x_lot : List Str) : Prop := ok__law_least_5 x_some x_plain x_lot
def m__law_least_3 (x_some : List (List Str)) (x_plain : List (List Str)) (x_lot : List Str) : List (List Str) := m__law_least_4 x_some (x_plain ++ [x_lot]) x_lot
def ok__law_least_3 (x_some : List (List Str)) (x_plain : List (List Str)) (x_lot : List Str) : Prop := (x_plain.length < sizeLine) ∧ ok__law_least_4 x_some (x_plain ++ [x_lot]) x_lot
def m__law_least_7 (x_some : List (List Str)) (x_plain : List (List Str)) (x_lot : List Str) : List (List Str) := x_plain
def ok__law_least_7 (x_some : List (List Str)) (x_plain : List (List Str)) (x_lot : List Str) : Prop := True
def m__law_least_6 (x_some : List (List Str)) (x_plain : List (List Str)) (x_lot : List Str) : List (List Str) := m__law_least_7 x_some x_plain x_lot
def ok__law_least_6 (x_some : List (List Str)) (x_plain : List (List Str)) (x_lot : List Str) : Prop := ok__law_least_7 x_some x_plain x_lot
def m__law_least_2 (x_some : List (List Str)) (x_plain : List (List Str)) (x_lot : List Str) : List (List Str) := if (!decide (x_lot ∈ x_plain)) = true then m__law_least_3 x_some x_plain x_lot else m__law_least_6 x_some x_plain x_lot
def ok__law_least_2 (x_some : List (List Str)) (x_plain : List (List Str)) (x_lot : List Str) : Prop := ((!decide (x_lot ∈ x_plain)) = true → ok__law_least_3 x_some x_plain x_lot) ∧ ((!decide (x_lot ∈ x_plain)) = false → ok__law_least_6 x_some x_plain x_lot)
def m__law_least_8 (x_some : List (List Str)) (x_plain : List (List Str)) : List (List Str) := (x_plain.filter fun y2 => decide ((x_plain.filter fun y3 => ((!decide (y3 = y2)) && (m__law_is_part y3 y2))) = ([] : List (List Str))))
def ok__law_least_8 (x_some : List (List Str)) (x_plain : List (List Str)) : Prop := (∀ y2 ∈ x_plain, (∀ y3 ∈ x_plain, (((!decide (y3 = y2)) = true) → (ok__law_is_part y3 y2)))) ∧ True
def m__law_least_1 (x_some : List (List Str)) (x_plain : List (List Str)) : List (List Str) := m__law_least_8 x_some (List.foldl (fun (s : List (List Str)) (y : List Str) => m__law_least_2 x_some s y) x_plain (srtG x_some))
def ok__law_least_1 (x_some : List (List Str)) (x_plain : List (List Str)) : Prop := (foldOk (fun (s : List (List Str)) (y : List Str) => m__law_least_2 x_some s y) (fun (s : List (List Str)) (y : List Str) => ok__law_least_2 x_some s y) (srtG x_some) x_plain) ∧ ok__law_least_8 x_some (List.foldl (fun (s : List (List Str)) (y : List Str) => m__law_least_2 x_some s y) x_plain (srtG x_some))
def m__law_least_0 (x_some : List (List Str)) : List (List Str) := m__law_least_1 x_some ([] : List (List Str))
def ok__law_least_0 (x_some : List (List Str)) : Prop := ok__law_least_1 x_some ([] : List (List Str))
def m__law_least (x_some : List (List Str)) : List (List Str) := m__law_least_0 x_some
def ok__law_least (x_some : List (List Str)) : Prop := ok__law_least_0 x_some
theorem h__law_least (T : Tx K mg) : Has P w K mg base "_law_least" (He.ga K "_law_least") 2 ["some"] (SpN kO (fun (a : (List (List Str)) × Unit) => ok__law_least a.1) (fun a => m__law_least a.1)) := by
  have sc : FnScope N__law_least ["some"] (defScope s__law_least) := ⟨rfl, rfl, rfl, by decide +kernel, rfl, by decide +kernel, by decide +kernel⟩
  refine has_O (d__law_least T) (g__law_least T) sc (fun _ _ _ _ _ _ us hl => match us, hl with | [_], _ => rfl) (by rintro a G vs ⟨v_some, _, rfl, r_some, rfl⟩; rfl) ?_
  rintro X ⟨cdv, AA, outer, ss, HH, EE, rfl⟩ hr B vs ⟨x_some, ⟨⟩⟩ G0 hB ⟨v_some, _, rfl, r_some, rfl⟩ hok
  replace hok : ok__law_least_0 x_some := hok
  show SJ B _ _ [some v_some, none, none, none] G0 [] (JO B []) (m__law_least_0 x_some)
  refine sb_setO 1 (DO.so (do_list (hl := (by decide : (0 : Nat) ≤ sizeLine)) (des_nil (α := List Str)))) (fun u_plain G1 e1 hB_plain => ?_) sc.nd
  have r_some := Rep.mono e1 r_some
  replace hok : ok__law_least_1 x_some ([] : List (List Str)) := hok
  show SJ B _ _ [some v_some, some (.ref u_plain), none, none] G1 [(u_plain, cl ([] : List (List Str)))] (JO B []) (m__law_least_0 x_some)
  rw [show m__law_least_0 x_some = m__law_least_1 x_some ([] : List (List Str)) from rfl]
  generalize ([] : List (List Str)) = x_plain at hok ⊢
  obtain ⟨k6, hok⟩ := hok
  have hok2 : ∀ s : List (List Str), s = (List.foldl (fun (s : List (List Str)) (y : List Str) => m__law_least_2 x_some s y) x_plain (srtG x_some)) → ok__law_least_8 x_some s := fun s h => by subst h; exact hok
  refine sj_foldS (k := fun (s : List (List Str)) => m__law_least_8 x_some s) (fun (s : List (List Str)) (σ_ : L2.St) (G_ : Hp) (C_ : Cs) => ∃ (t_lot : Option V), (σ_ = [some v_some, some (.ref u_plain), t_lot, none] ∧ C_ = ([(u_plain, cl s)] : Cs))) (fun (s : List (List Str)) (y : List Str) => m__law_least_2 x_some s y) (fun (s : List (List Str)) (y : List Str) => ok__law_least_2 x_some s y) x_plain (di_list (DO.de (do_sortedG hr.units (b_sorted T) (de_var 0 r_some)))) (sg_name 2 sc.nd) (fun G_ e_ => ⟨_, rfl, rfl⟩) (by rintro x_plain σ_ G_ G2_ C_ e_ ⟨t_lot, rfl, rfl⟩; exact ⟨_, rfl, rfl⟩) k6 ?_ ?_
  · rintro x_plain x_lot σ_ σ2_ G2 C_ hy_ e2 ⟨t_lot, rfl, rfl⟩ ⟨v_lot, r_lot, rfl⟩ hok
    have r_some := Rep.mono e2 r_some
    replace hok : ok__law_least_2 x_some x_plain x_lot := hok
    show SJ B _ _ [some v_some, some (.ref u_plain), some v_lot, none] G2 [(u_plain, cl x_plain)] (JF (fun (s : List (List Str)) (σ_ : L2.St) (G_ : Hp) (C_ : Cs) => ∃ (t_lot : Option V), (σ_ = [some v_some, some (.ref u_plain), t_lot, none] ∧ C_ = ([(u_plain, cl s)] : Cs)))) (m__law_least_2 x_some x_plain x_lot)
    obtain ⟨hokA, hokB⟩ := hok
    refine sj_ifR (ST.cell 0 rfl (by intro G_ e_ r_plain; have r_some := Rep.mono e_ r_some; have r_lot := Rep.mono e_ r_lot; exact DC.dt (dc_ninE (z := (!decide (x_lot ∈ x_plain))) hr.room (de_var 2 r_lot) (de_var 1 r_plain)))) (fun h1 => ?_) (fun h1 => ?_)
    · have hok := hokA h1; clear hokA hokB
      show SJ B _ _ [some v_some, some (.ref u_plain), some v_lot, none] G2 [(u_plain, cl x_plain)] (JR B _ _ (JF (fun (s : List (List Str)) (σ_ : L2.St) (G_ : Hp) (C_ : Cs) => ∃ (t_lot : Option V), (σ_ = [some v_some, some (.ref u_plain), t_lot, none] ∧ C_ = ([(u_plain, cl s)] : Cs))))) (m__law_least_3 x_some x_plain x_lot)
      obtain ⟨k1, hok⟩ := hok
      refine sb_append 0 (at_var 1) (DE.se (de_var 2 r_lot)) rfl rfl k1 fun G3 e3 => ?_
      have r_some := Rep.mono e3 r_some
      have r_lot := Rep.mono e3 r_lot
      replace hok : ok__law_least_4 x_some (x_plain ++ [x_lot]) x_lot := hok
      show SJ B _ _ [some v_some, some (.ref u_plain), some v_lot, none] G3 [(u_plain, cl (x_plain ++ [x_lot]))] (JR B _ _ (JF (fun (s : List (List Str)) (σ_ : L2.St) (G_ : Hp) (C_ : Cs) => ∃ (t_lot : Option V), (σ_ = [some v_some, some (.ref u_plain), t_lot, none] ∧ C_ = ([(u_plain, cl s)] : Cs))))) (m__law_least_3 x_some x_plain x_lot)
      rw [show m__law_least_3 x_some x_plain x_lot = m__law_least_4 x_some (x_plain ++ [x_lot]) x_lot from rfl]
      generalize (x_plain ++ [x_lot]) = x_plain at hok ⊢
      refine sj_nilR fun G4 e4 => ?_
      have r_some := Rep.mono e4 r_some
      have r_lot := Rep.mono e4 r_lot
      replace hok : ok__law_least_5 x_some x_plain x_lot := hok
      show SJ B _ _ [some v_some, some (.ref u_plain), some v_lot, none] _ [(u_plain, cl x_plain)] (JF (fun (s : List (List Str)) (σ_ : L2.St) (G_ : Hp) (C_ : Cs) => ∃ (t_lot : Option V), (σ_ = [some v_some, some (.ref u_plain), t_lot, none] ∧ C_ = ([(u_plain, cl s)] : Cs)))) (m__law_least_5 x_some x_plain x_lot)
      exact sb_nilF fun G_ e_ => ⟨_, rfl, rfl⟩
    · have hok := hokB h1; clear hokA hokB
      show SJ B _ _ [some v_some, some (.ref u_plain), some v_lot, none] G2 [(u_plain, cl x_plain)] (JR B _ _ (JF (fun (s : List (List Str)) (σ_ : L2.St) (G_ : Hp) (C_ : Cs) => ∃ (t_lot : Option V), (σ_ = [some v_some, some (.ref u_plain), t_lot, none] ∧ C_ = ([(u_plain, cl s)] : Cs))))) (m__law_least_6 x_some x_plain x_lot)
      refine sj_nilR fun G5 e5 => ?_
      have r_some := Rep.mono e5 r_some
      have r_lot := Rep.mono e5 r_lot
      replace hok : ok__law_least_7 x_some x_plain x_lot := hok
      show SJ B _ _ [some v_some, some (.ref u_plain), some v_lot, none] _ [(u_plain, cl x_plain)] (JF (fun (s : List (List Str)) (σ_ : L2.St) (G_ : Hp) (C_ : Cs) => ∃ (t_lot : Option V), (σ_ = [some v_some, some (.ref u_plain), t_lot, none] ∧ C_ = ([(u_plain, cl s)] : Cs)))) (m__law_least_7 x_some x_plain x_lot)
      exact sb_nilF fun G_ e_ => ⟨_, rfl, rfl⟩
  · rintro x_plain σ_ G6 C_ hl_ e6 ⟨t_lot, rfl, rfl⟩
    replace hok := hok2 _ hl_
    have r_some := Rep.mono e6 r_some
    replace hok : ok__law_least_8 x_some x_plain := hok
    show SJ B _ _ [some v_some, some (.ref u_plain), t_lot, none] G6 [(u_plain, cl x_plain)] (JO B []) (m__law_least_8 x_some x_plain)
    refine sb_frz 0 rfl hB_plain fun G7 e7 r_plain => ?_
    have r_some := Rep.mono e7 r_some
    obtain ⟨k5, hok⟩ := hok
    exact sb_retO 0 (DO.so (do_lc (lc_fil (fun y2 => decide ((x_plain.filter fun y3 => ((!decide (y3 = y2)) && (m__law_is_part y3 y2))) = ([] : List (List Str)))) sc.nd rfl (di_list (de_var 1 r_plain)) (blkOk_by (own := [("lot", 2)]) (N := N__law_least) (sc := _) (by first | decide +kernel | rfl)) rfl (dg_name sc.nd) (by intro i_ y2 σ_ G_ hy_ eG_ hT_; obtain ⟨v_y2, q_y2, rfl⟩ := hT_; have r_some := Rep.mono eG_ r_some; have r_plain := Rep.mono eG_ r_plain; have z_ := k5 y2 (List.mem_of_getElem? hy_); have k4 := z_; intro Y_ hY_; have hr := InBlk.room hY_ hr; obtain ⟨⟨s_, H_, C_, cl_, fp_, rfl⟩⟩ := hY_; exact df_one (DC.dt (dc_eq hr.units (DO.de (do_lc (lc_fil (fun y3 => ((!decide (y3 = y2)) && (m__law_is_part y3 y2))) sc.nd rfl (di_list (de_var 1 r_plain)) (blkOk_by (own := [("one", 3)]) (N := N__law_least) (sc := _) (by first | decide +kernel | rfl)) rfl (dg_name sc.nd) (by intro i_ y3 σ_ G_ hy_ eG_ hT_; obtain ⟨v_y3, q_y3, rfl⟩ := hT_; have r_some := Rep.mono eG_ r_some; have r_plain := Rep.mono eG_ r_plain; have q_y2 := Rep.mono eG_ q_y2; have z_ := k4 y3 (List.mem_of_getElem? hy_); have k3 := z_; intro Y_ hY_; have hr := InBlk.room hY_ hr; obtain ⟨⟨s_, H_, C_, cl_, fp_, rfl⟩⟩ := hY_; exact df_one (DW.dt (dw_and (DC.dt (dc_ne hr.units (de_var 3 q_y3) (de_var 2 q_y2))) fun h4 => (by have k2 := k3 h4; exact dw_and1 (dt_val (de_callZ (y := (y3, y2, ())) (z := (m__law_is_part y3 y2)) (h__law_is_part T) hr (da_cons (de_var 3 q_y3) (da_cons (de_var 2 q_y2) da_nil)) k2)))))) (by intro i_ y3 σ_ G_ hy_ eG_ hT_ hf_; obtain ⟨v_y3, q_y3, rfl⟩ := hT_; have r_some := Rep.mono eG_ r_some; have r_plain := Rep.mono eG_ r_plain; have q_y2 := Rep.mono eG_ q_y2; have z_ := k4 y3 (List.mem_of_getElem? hy_); have k3 := z_; intro Y_ hY_; have hr := InBlk.room hY_ hr; obtain ⟨⟨s_, H_, C_, cl_, fp_, rfl⟩⟩ := hY_; exact de_var 3 q_y3)))) (DO.de (do_list (hl := (by decide : (0 : Nat) ≤ sizeLine)) (des_nil (α := List Str))))))) (by intro i_ y2 σ_ G_ hy_ eG_ hT_ hf_; obtain ⟨v_y2, q_y2, rfl⟩ := hT_; have r_some := Rep.mono eG_ r_some; have r_plain := Rep.mono eG_ r_plain; have z_ := k5 y2 (List.mem_of_getElem? hy_); have k4 := z_; intro Y_ hY_; have hr := InBlk.room hY_ hr; obtain ⟨⟨s_, H_, C_, cl_, fp_, rfl⟩⟩ := hY_; exact de_var 2 q_y2)))) (by first | exact Nat.zero_le _ | simp)

abbrev N__law_several_lots : List Str := ["names", "stewards", "entry", "field", "others", "found", "name"]
def m__law_several_lots_5 (x_names : List Str) (x_stewards : List (Int × (List Str))) (x_entry : Str) (x_field : List Str) (x_others : List Str) (x_found : List (List Str)) : List (List Str) := x_found
def ok__law_several_lots_5 (x_names : List Str) (x_stewards : List (Int × (List Str))) (x_entry : Str) (x_field : List Str) (x_others : List Str) (x_found : List (List Str)) : Prop := True
def m__law_several_lots_4 (x_names : List Str) (x_stewards : List (Int × (List Str))) (x_entry : Str) (x_field : List Str) (x_others : List Str) (x_found : List (List Str)) : List (List Str) := m__law_several_lots_5 x_names x_stewards x_entry x_field x_others x_found
def ok__law_several_lots_4 (x_names : List Str) (x_stewards : List (Int × (List Str))) (x_entry : Str) (x_field : List Str) (x_others : List Str) (x_found : List (List Str)) : Prop := ok__law_several_lots_5 x_names x_stewards x_entry x_field x_others x_found
def m__law_several_lots_3 (x_names : List Str) (x_stewards : List (Int × (List Str))) (x_entry : Str) (x_field : List Str) (x_others : List Str) (x_found : List (List Str)) : List (List Str) := m__law_several_lots_4 x_names x_stewards x_entry x_field x_others (x_found ++ [(x_others.filter fun y3 => (!decide (y3 ∈ x_field)))])
def ok__law_several_lots_3 (x_names : List Str) (x_stewards : List (Int × (List Str))) (x_entry : Str) (x_field : List Str) (x_others : List Str) (x_found : List (List Str)) : Prop := (x_found.length < sizeLine) ∧ ok__law_several_lots_4 x_names x_stewards x_entry x_field x_others (x_found ++ [(x_others.filter fun y3 => (!decide (y3 ∈ x_field)))])
def m__law_several_lots_7 (x_names : List Str) (x_stewards : List (Int × (List Str))) (x_entry : Str) (x_field : List Str) (x_others : List Str) (x_found : List (List Str)) : List (List Str) := x_found
def ok__law_several_lots_7 (x_names : List Str) (x_stewards : List (Int × (List Str))) (x_entry : Str) (x_field : List Str) (x_others : List Str) (x_found : List (List Str)) : Prop := True
def m__law_several_lots_6 (x_names : List Str) (x_stewards : List (Int × (List Str))) (x_entry : Str) (x_field : List Str) (x_others : List Str) (x_found : List (List Str)) : List (List Str) := m__law_several_lots_7 x_names x_stewards x_entry x_field x_others x_found
def ok__law_several_lots_6 (x_names : List Str) (x_stewards : List (Int × (List Str))) (x_entry : Str) (x_field : List Str) (x_others : List Str) (x_found : List (List Str)) : Prop := ok__law_several_lots_7 x_names x_stewards x_entry x_field x_others x_found
def m__law_several_lots_2 (x_names : List Str) (x_stewards : List (Int × (List Str))) (x_entry : Str) (x_field : List Str) (x_others : List Str) (x_found : List (List Str)) : List (List Str) := if decide (x_entry ∈ (m__law_named_by x_stewards (srt (x_field ++ ([x_entry] : List Str))))) = true then m__law_several_lots_3 x_names x_stewards x_entry x_field x_others x_found else m__law_several_lots_6 x_names x_stewards x_entry x_field x_others x_found
def ok__law_several_lots_2 (x_names : List Str) (x_stewards : List (Int × (List Str))) (x_entry : Str) (x_field : List Str) (x_others : List Str) (x_found : List (List Str)) : Prop := (x_field.length + ([x_entry] : List Str).length ≤ sizeLine) ∧ ((x_field ++ ([x_entry] : List Str)).length < 64) ∧ (ok__law_named_by x_stewards (srt (x_field ++ ([x_entry] : List Str)))) ∧ (decide (x_entry ∈ (m__law_named_by x_stewards (srt (x_field ++ ([x_entry] : List Str))))) = true → ok__law_several_lots_3 x_names x_stewards x_entry x_field x_others x_found) ∧ (decide (x_entry ∈ (m__law_named_by x_stewards (srt (x_field ++ ([x_entry] : List Str))))) = false → ok__law_several_lots_6 x_names x_stewards x_entry x_field x_others x_found)
def m__law_several_lots_8 (x_names : List Str) (x_stewards : List (Int × (List Str))) (x_entry : Str) (x_others : List Str) (x_found : List (List Str)) : List (List Str) := (m__law_least x_found)
def ok__law_several_lots_8 (x_names : List Str) (x_stewards : List (Int × (List Str))) (x_entry : Str) (x_others : List Str) (x_found : List (List Str)) : Prop := (ok__law_least x_found) ∧ True
def m__law_several_lots_1 (x_names : List Str) (x_stewards : List (Int × (List Str))) (x_entry : Str) (x_others : List Str) (x_found : List (List Str)) : List (List Str) := m__law_several_lots_8 x_names x_stewards x_entry x_others (List.foldl (fun (s : List (List Str)) (y : List Str) => m__law_several_lots_2 x_names x_stewards x_entry y x_others s) x_found ((m__law_fields x_others) ++ ([([] : List Str)] : List (List Str))))
def ok__law_several_lots_1 (x_names : List Str) (x_stewards : List (Int × (List Str))) (x_entry : Str) (x_others : List Str) (x_found : List (List Str)) : Prop := (ok__law_fields x_others) ∧ ((m__law_fields x_others).length + ([([] : List Str)] : List (List Str)).length ≤ sizeLine) ∧ (foldOk (fun (s : List (List Str)) (y : List Str) => m__law_several_lots_2 x_names x_stewards x_entry y x_others s) (fun (s : List (List Str)) (y : List Str) => ok__law_several_lots_2 x_names x_stewards x_entry y x_others s) ((m__law_fields x_others) ++ ([([] : List Str)] : List (List Str))) x_found) ∧ ok__law_several_lots_8 x_names x_stewards x_entry x_others (List.foldl (fun (s : List (List Str)) (y : List Str) => m__law_several_lots_2 x_names x_stewards x_entry y x_others s) x_found ((m__law_fields x_others) ++ ([([] : List Str)] : List (List Str))))
def m__law_several_lots_0 (x_names : List Str) (x_stewards : List (Int × (List Str))) (x_entry : Str) : List (List Str) := m__law_several_lots_1 x_names x_stewards x_entry (x_names.filter fun y1 => (!decide (y1 = x_entry))) ([] : List (List Str))
def ok__law_several_lots_0 (x_names : List Str) (x_stewards : List (Int × (List Str))) (x_entry : Str) : Prop := ok__law_several_lots_1 x_names x_stewards x_entry (x_names.filter fun y1 => (!decide (y1 = x_entry))) ([] : List (List Str))
def m__law_several_lots (x_names : List Str) (x_stewards : List (Int × (List Str))) (x_entry : Str) : List (List Str) := m__law_several_lots_0 x_names x_stewards x_entry
def ok__law_several_lots (x_names : List Str) (x_stewards : List (Int × (List Str))) (x_entry : Str) : Prop := ok__law_several_lots_0 x_names x_stewards x_entry
theorem h__law_several_lots (T : Tx K mg) : Has P w K mg base "_law_several_lots" (He.ga K "_law_several_lots") 3 ["names", "stewards", "entry"] (SpN kO (fun (a : (List Str) × (List (Int × (List Str))) × Str × Unit) => ok__law_several_lots a.1 a.2.1 a.2.2.1) (fun a => m__law_several_lots a.1 a.2.1 a.2.2.1)) := by
  have sc : FnScope N__law_several_lots ["names", "stewards", "entry"] (defScope s__law_several_lots) := ⟨rfl, rfl, rfl, by decide +kernel, rfl, by decide +kernel, by decide +kernel⟩
  refine has_O (d__law_several_lots T) (g__law_several_lots T) sc (fun _ _ _ _ _ _ us hl => match us, hl with | [_, _, _], _ => rfl) (by rintro a G vs ⟨v_names, _, rfl, r_names, ⟨v_stewards, _, rfl, r_stewards, ⟨v_entry, _, rfl, r_entry, rfl⟩⟩⟩; rfl) ?_
  rintro X ⟨cdv, AA, outer, ss, HH, EE, rfl⟩ hr B vs ⟨x_names, x_stewards, x_entry, ⟨⟩⟩ G0 hB ⟨v_names, _, rfl, r_names, ⟨v_stewards, _, rfl, r_stewards, ⟨v_entry, _, rfl, r_entry, rfl⟩⟩⟩ hok
  replace hok : ok__law_several_lots_0 x_names x_stewards x_entry := hok
  show SJ B _ _ [some v_names, some v_stewards, some v_entry, none, none, none, none] G0 [] (JO B []) (m__law_several_lots_0 x_names x_stewards x_entry)
  refine sb_parO 4 5 (DE.se (DO.de (do_lc (lc_fil (fun y1 => (!decide (y1 = x_entry))) sc.nd rfl (di_list (de_var 0 r_names)) (blkOk_by (own := [("name", 6)]) (N := N__law_several_lots) (sc := _) (by first | decide +kernel | rfl)) rfl (dg_name sc.nd) (by intro i_ y1 σ_ G_ hy_ eG_ hT_; obtain ⟨v_y1, q_y1, rfl⟩ := hT_; have r_names := Rep.mono eG_ r_names; have r_stewards := Rep.mono eG_ r_stewards; have r_entry := Rep.mono eG_ r_entry; intro Y_ hY_; have hr := InBlk.room hY_ hr; obtain ⟨⟨s_, H_, C_, cl_, fp_, rfl⟩⟩ := hY_; exact df_one (DC.dt (dc_ne hr.units (de_var 6 q_y1) (de_var 2 r_entry)))) (by intro i_ y1 σ_ G_ hy_ eG_ hT_ hf_; obtain ⟨v_y1, q_y1, rfl⟩ := hT_; have r_names := Rep.mono eG_ r_names; have r_stewards := Rep.mono eG_ r_stewards; have r_entry := Rep.mono eG_ r_entry; intro Y_ hY_; have hr := InBlk.room hY_ hr; obtain ⟨⟨s_, H_, C_, cl_, fp_, rfl⟩⟩ := hY_; exact de_var 6 q_y1))))) (DO.so (do_list (hl := (by decide : (0 : Nat) ≤ sizeLine)) (des_nil (α := List Str)))) (fun v_others u_found G1 e1 r_others hB_found => ?_) sc.nd
  have r_names := Rep.mono e1 r_names
  have r_stewards := Rep.mono e1 r_stewards
  have r_entry := Rep.mono e1 r_entry
  replace r_others : rep G1 v_others (x_names.filter fun y1 => (!decide (y1 = x_entry))) := r_others
  replace hok : ok__law_several_lots_1 x_names x_stewards x_entry (x_names.filter fun y1 => (!decide (y1 = x_entry))) ([] : List (List Str)) := hok
  show SJ B _ _ [some v_names, some v_stewards, some v_entry, none, some v_others, some (.ref u_found), none] G1 [(u_found, cl ([] : List (List Str)))] (JO B []) (m__law_several_lots_0 x_names x_stewards x_entry)
  rw [show m__law_several_lots_0 x_names x_stewards x_entry = m__law_several_lots_1 x_names x_stewards x_entry (x_names.filter fun y1 => (!decide (y1 = x_entry))) ([] : List (List Str)) from rfl]
  generalize (x_names.filter fun y1 => (!decide (y1 = x_entry))) = x_others, ([] : List (List Str)) = x_found at r_others hok ⊢
  obtain ⟨k1, k2, k8, hok⟩ := hok
  have hok2 : ∀ s : List (List Str), s = (List.foldl (fun (s : List (List Str)) (y : List Str) => m__law_several_lots_2 x_names x_stewards x_entry y x_others s) x_found ((m__law_fields x_others) ++ ([([] : List Str)] : List (List Str)))) → ok__law_several_lots_8 x_names x_stewards x_entry x_others s := fun s h => by subst h; exact hok
  refine sj_foldS (k := fun (s : List (List Str)) => m__law_several_lots_8 x_names x_stewards x_entry x_others s) (fun (s : List (List Str)) (σ_ : L2.St) (G_ : Hp) (C_ : Cs) => ∃ (t_field : Option V), (σ_ = [some v_names, some v_stewards, some v_entry, t_field, some v_others, some (.ref u_found), none] ∧ C_ = ([(u_found, cl s)] : Cs))) (fun (s : List (List Str)) (y : List Str) => m__law_several_lots_2 x_names x_stewards x_entry y x_others s) (fun (s : List (List Str)) (y : List Str) => ok__law_several_lots_2 x_names x_stewards x_entry y x_others s) x_found (di_list (DO.de (do_cat (DO.de (do_callZ (y := (x_others, ())) (z := (m__law_fields x_others)) (h__law_fields T) hr (da_cons (de_var 4 r_others) da_nil) k1)) (DO.de (do_list (hl := (by decide : (1 : Nat) ≤ sizeLine)) (des_cons (DO.de (do_list (hl := (by decide : (0 : Nat) ≤ sizeLine)) (des_nil (α := Str)))) des_nil))) k2))) (sg_name 3 sc.nd) (fun G_ e_ => ⟨_, rfl, rfl⟩) (by rintro x_found σ_ G_ G2_ C_ e_ ⟨t_field, rfl, rfl⟩; exact ⟨_, rfl, rfl⟩) k8 ?_ ?_
  · rintro x_found x_field σ_ σ2_ G2 C_ hy_ e2 ⟨t_field, rfl, rfl⟩ ⟨v_field, r_field, rfl⟩ hok
    have r_names := Rep.mono e2 r_names
    have r_stewards := Rep.mono e2 r_stewards
    have r_entry := Rep.mono e2 r_entry
    have r_others := Rep.mono e2 r_others
    replace hok : ok__law_several_lots_2 x_names x_stewards x_entry x_field x_others x_found := hok
    show SJ B _ _ [some v_names, some v_stewards, some v_entry, some v_field, some v_others, some (.ref u_found), none] G2 [(u_found, cl x_found)] (JF (fun (s : List (List Str)) (σ_ : L2.St) (G_ : Hp) (C_ : Cs) => ∃ (t_field : Option V), (σ_ = [some v_names, some v_stewards, some v_entry, t_field, some v_others, some (.ref u_found), none] ∧ C_ = ([(u_found, cl s)] : Cs)))) (m__law_several_lots_2 x_names x_stewards x_entry x_field x_others x_found)
    obtain ⟨k3, k4, k5, hokA, hokB⟩ := hok
    refine sj_ifR (DT.st (DC.dt (dc_in (de_var 2 r_entry) (DO.de (do_callZ (y := (x_stewards, (srt (x_field ++ ([x_entry] : List Str))), ())) (z := (m__law_named_by x_stewards (srt (x_field ++ ([x_entry] : List Str))))) (h__law_named_by T) hr (da_cons (de_var 1 r_stewards) (da_cons (DO.de (do_sorted (b_sorted T) (DO.de (do_cat (de_var 3 r_field) (DO.de (do_list (hl := (by decide : (1 : Nat) ≤ sizeLine)) (des_cons (de_var 2 r_entry) des_nil))) k3)) k4)) da_nil)) k5))))) (fun h2 => ?_) (fun h2 => ?_)
    · have hok := hokA h2; clear hokA hokB
      show SJ B _ _ [some v_names, some v_stewards, some v_entry, some v_field, some v_others, some (.ref u_found), none] G2 [(u_found, cl x_found)] (JR B _ _ (JF (fun (s : List (List Str)) (σ_ : L2.St) (G_ : Hp) (C_ : Cs) => ∃ (t_field : Option V), (σ_ = [some v_names, some v_stewards, some v_entry, t_field, some v_others, some (.ref u_found), none] ∧ C_ = ([(u_found, cl s)] : Cs))))) (m__law_several_lots_3 x_names x_stewards x_entry x_field x_others x_found)
      obtain ⟨k6, hok⟩ := hok
      refine sb_append 0 (at_var 5) (DE.se (DO.de (do_lc (lc_fil (fun y3 => (!decide (y3 ∈ x_field))) sc.nd rfl (di_list (de_var 4 r_others)) (blkOk_by (own := [("name", 6)]) (N := N__law_several_lots) (sc := _) (by first | decide +kernel | rfl)) rfl (dg_name sc.nd) (by intro i_ y3 σ_ G_ hy_ eG_ hT_; obtain ⟨v_y3, q_y3, rfl⟩ := hT_; have r_names := Rep.mono eG_ r_names; have r_stewards := Rep.mono eG_ r_stewards; have r_entry := Rep.mono eG_ r_entry; have r_others := Rep.mono eG_ r_others; have r_field := Rep.mono eG_ r_field; intro Y_ hY_; have hr := InBlk.room hY_ hr; obtain ⟨⟨s_, H_, C_, cl_, fp_, rfl⟩⟩ := hY_; exact df_one (DC.dt (dc_nin (de_var 6 q_y3) (de_var 3 r_field)))) (by intro i_ y3 σ_ G_ hy_ eG_ hT_ hf_; obtain ⟨v_y3, q_y3, rfl⟩ := hT_; have r_names := Rep.mono eG_ r_names; have r_stewards := Rep.mono eG_ r_stewards; have r_entry := Rep.mono eG_ r_entry; have r_others := Rep.mono eG_ r_others; have r_field := Rep.mono eG_ r_field; intro Y_ hY_; have hr := InBlk.room hY_ hr; obtain ⟨⟨s_, H_, C_, cl_, fp_, rfl⟩⟩ := hY_; exact de_var 6 q_y3))))) rfl rfl k6 fun G3 e3 => ?_
      have r_names := Rep.mono e3 r_names
      have r_stewards := Rep.mono e3 r_stewards
      have r_entry := Rep.mono e3 r_entry
      have r_others := Rep.mono e3 r_others
      have r_field := Rep.mono e3 r_field
      replace hok : ok__law_several_lots_4 x_names x_stewards x_entry x_field x_others (x_found ++ [(x_others.filter fun y3 => (!decide (y3 ∈ x_field)))]) := hok
      show SJ B _ _ [some v_names, some v_stewards, some v_entry, some v_field, some v_others, some (.ref u_found), none] G3 [(u_found, cl (x_found ++ [(x_others.filter fun y3 => (!decide (y3 ∈ x_field)))]))] (JR B _ _ (JF (fun (s : List (List Str)) (σ_ : L2.St) (G_ : Hp) (C_ : Cs) => ∃ (t_field : Option V), (σ_ = [some v_names, some v_stewards, some v_entry, t_field, some v_others, some (.ref u_found), none] ∧ C_ = ([(u_found, cl s)] : Cs))))) (m__law_several_lots_3 x_names x_stewards x_entry x_field x_others x_found)
      rw [show m__law_several_lots_3 x_names x_stewards x_entry x_field x_others x_found = m__law_several_lots_4 x_names x_stewards x_entry x_field x_others (x_found ++ [(x_others.filter fun y3 => (!decide (y3 ∈ x_field)))]) from rfl]
      generalize (x_found ++ [(x_others.filter fun y3 => (!decide (y3 ∈ x_field)))]) = x_found at hok ⊢
      refine sj_nilR fun G4 e4 => ?_
      have r_names := Rep.mono e4 r_names
      have r_stewards := Rep.mono e4 r_stewards
      have r_entry := Rep.mono e4 r_entry
      have r_others := Rep.mono e4 r_others
      have r_field := Rep.mono e4 r_field
      replace hok : ok__law_several_lots_5 x_names x_stewards x_entry x_field x_others x_found := hok
      show SJ B _ _ [some v_names, some v_stewards, some v_entry, some v_field, some v_others, some (.ref u_found), none] _ [(u_found, cl x_found)] (JF (fun (s : List (List Str)) (σ_ : L2.St) (G_ : Hp) (C_ : Cs) => ∃ (t_field : Option V), (σ_ = [some v_names, some v_stewards, some v_entry, t_field, some v_others, some (.ref u_found), none] ∧ C_ = ([(u_found, cl s)] : Cs)))) (m__law_several_lots_5 x_names x_stewards x_entry x_field x_others x_found)
      exact sb_nilF fun G_ e_ => ⟨_, rfl, rfl⟩
    · have hok := hokB h2; clear hokA hokB
      show SJ B _ _ [some v_names, some v_stewards, some v_entry, some v_field, some v_others, some (.ref u_found), none] G2 [(u_found, cl x_found)] (JR B _ _ (JF (fun (s : List (List Str)) (σ_ : L2.St) (G_ : Hp) (C_ : Cs) => ∃ (t_field : Option V), (σ_ = [some v_names, some v_stewards, some v_entry, t_field, some v_others, some (.ref u_found), none] ∧ C_ = ([(u_found, cl s)] : Cs))))) (m__law_several_lots_6 x_names x_stewards x_entry x_field x_others x_found)
      refine sj_nilR fun G5 e5 => ?_
      have r_names := Rep.mono e5 r_names
      have r_stewards := Rep.mono e5 r_stewards
      have r_entry := Rep.mono e5 r_entry
      have r_others := Rep.mono e5 r_others
      have r_field := Rep.mono e5 r_field
      replace hok : ok__law_several_lots_7 x_names x_stewards x_entry x_field x_others x_found := hok
      show SJ B _ _ [some v_names, some v_stewards, some v_entry, some v_field, some v_others, some (.ref u_found), none] _ [(u_found, cl x_found)] (JF (fun (s : List (List Str)) (σ_ : L2.St) (G_ : Hp) (C_ : Cs) => ∃ (t_field : Option V), (σ_ = [some v_names, some v_stewards, some v_entry, t_field, some v_others, some (.ref u_found), none] ∧ C_ = ([(u_found, cl s)] : Cs)))) (m__law_several_lots_7 x_names x_stewards x_entry x_field x_others x_found)
      exact sb_nilF fun G_ e_ => ⟨_, rfl, rfl⟩
  · rintro x_found σ_ G6 C_ hl_ e6 ⟨t_field, rfl, rfl⟩
    replace hok := hok2 _ hl_
    have r_names := Rep.mono e6 r_names
    have r_stewards := Rep.mono e6 r_stewards
    have r_entry := Rep.mono e6 r_entry
    have r_others := Rep.mono e6 r_others
    replace hok : ok__law_several_lots_8 x_names x_stewards x_entry x_others x_found := hok
    show SJ B _ _ [some v_names, some v_stewards, some v_entry, t_field, some v_others, some (.ref u_found), none] G6 [(u_found, cl x_found)] (JO B []) (m__law_several_lots_8 x_names x_stewards x_entry x_others x_found)
    refine sb_frz 0 rfl hB_found fun G7 e7 r_found => ?_
    have r_names := Rep.mono e7 r_names
    have r_stewards := Rep.mono e7 r_stewards
    have r_entry := Rep.mono e7 r_entry
    have r_others := Rep.mono e7 r_others
    obtain ⟨k7, hok⟩ := hok
    exact sb_retO 0 (DO.so (do_callZ (y := (x_found, ())) (z := (m__law_least x_found)) (h__law_least T) hr (da_cons (de_var 5 r_found) da_nil) k7)) (by first | exact Nat.zero_le _ | simp)

abbrev N__law_right : List Str := ["purse", "names", "field", "entry", "many", "told", "stewards", "mixed", "kept", "order", "lot", "due", "row"]
def m__law_right_6 (x_purse : List Int) (x_names : List Str) (x_field : List Str) (x_told : List Str) (x_stewards : List (Int × (List Str))) (x_mixed : List Str) (x_kept : List (Int × (List Str))) (x_order : List Str) : (Bool × (List Int)) ⊕ (Unit) := .inl ((false, x_purse))
def ok__law_right_6 (x_purse : List Int) (x_names : List Str) (x_field : List Str) (x_told : List Str) (x_stewards : List (Int × (List Str))) (x_mixed : List Str) (x_kept : List (Int × (List Str))) (x_order : List Str) : Prop := True
def m__law_right_7 (x_purse : List Int) (x_names : List Str) (x_field : List Str) (x_told : List Str) (x_stewards : List (Int × (List Str))) (x_mixed : List Str) (x_kept : List (Int × (List Str))) (x_order : List Str) : (Bool × (List Int)) ⊕ (Unit) := .inr ()
def ok__law_right_7 (x_purse : List Int) (x_names : List Str) (x_field : List Str) (x_told : List Str) (x_stewards : List (Int × (List Str))) (x_mixed : List Str) (x_kept : List (Int × (List Str))) (x_order : List Str) : Prop := True
def m__law_right_5 (x_purse : List Int) (x_names : List Str) (x_field : List Str) (x_told : List Str) (x_stewards : List (Int × (List Str))) (x_mixed : List Str) (x_kept : List (Int × (List Str))) (x_order : List Str) : (Bool × (List Int)) ⊕ (Unit) := if (!decide (x_told = (m__law_named_by x_stewards x_field))) = true then m__law_right_6 x_purse x_names x_field x_told x_stewards x_mixed x_kept x_order else m__law_right_7 x_purse x_names x_field x_told x_stewards x_mixed x_kept x_order
def ok__law_right_5 (x_purse : List Int) (x_names : List Str) (x_field : List Str) (x_told : List Str) (x_stewards : List (Int × (List Str))) (x_mixed : List Str) (x_kept : List (Int × (List Str))) (x_order : List Str) : Prop := (ok__law_named_by x_stewards x_field) ∧ ((!decide (x_told = (m__law_named_by x_stewards x_field))) = true → ok__law_right_6 x_purse x_names x_field x_told x_stewards x_mixed x_kept x_order) ∧ ((!decide (x_told = (m__law_named_by x_stewards x_field))) = false → ok__law_right_7 x_purse x_names x_field x_told x_stewards x_mixed x_kept x_order)
def m__law_right_4 (x_purse : List Int) (x_names : List Str) (x_field : List Str) (x_stewards : List (Int × (List Str))) (x_mixed : List Str) (x_kept : List (Int × (List Str))) (x_order : List Str) : (Bool × (List Int)) ⊕ (Unit) := m__law_right_5 x_purse x_names x_field (m_several_cards x_mixed x_stewards x_field) x_stewards x_mixed x_kept x_order
def ok__law_right_4 (x_purse : List Int) (x_names : List Str) (x_field : List Str) (x_stewards : List (Int × (List Str))) (x_mixed : List Str) (x_kept : List (Int × (List Str))) (x_order : List Str) : Prop := (ok_several_cards x_mixed x_stewards x_field) ∧ ok__law_right_5 x_purse x_names x_field (m_several_cards x_mixed x_stewards x_field) x_stewards x_mixed x_kept x_order
def m__law_right_11 (x_purse : List Int) (x_names : List Str) (x_entry : Str) (x_told : List (List Str)) (x_stewards : List (Int × (List Str))) (x_mixed : List Str) (x_kept : List (Int × (List Str))) (x_order : List Str) (x_due : List (List Str)) : (Bool × (List Int)) ⊕ (List Int) := .inl ((false, x_purse))
def ok__law_right_11 (x_purse : List Int) (x_names : List Str) (x_entry : Str) (x_told : List (List Str)) (x_stewards : List (Int × (List Str))) (x_mixed : List Str) (x_kept : List (Int × (List Str))) (x_order : List Str) (x_due : List (List Str)) : Prop := True
def m__law_right_15 (x_purse : List Int) (x_names : List Str) (x_entry : Str) (x_stewards : List (Int × (List Str))) (x_mixed : List Str) (x_kept : List (Int × (List Str))) (x_order : List Str) (x_due : List (List Str)) : (Bool × (List Int)) ⊕ (List Int) := .inl ((false, x_purse))
def ok__law_right_15 (x_purse : List Int) (x_names : List Str) (x_entry : Str) (x_stewards : List (Int × (List Str))) (x_mixed : List Str) (x_kept : List (Int × (List Str))) (x_order : List Str) (x_due : List (List Str)) : Prop := True
def m__law_right_16 (x_purse : List Int) (x_names : List Str) (x_entry : Str) (x_stewards : List (Int × (List Str))) (x_mixed : List Str) (x_kept : List (Int × (List Str))) (x_order : List Str) (x_due : List (List Str)) : (Bool × (List Int)) ⊕ (List Int) := .inr x_purse
def ok__law_right_16 (x_purse : List Int) (x_names : List Str) (x_entry : Str) (x_stewards : List (Int × (List Str))) (x_mixed : List Str) (x_kept : List (Int × (List Str))) (x_order : List Str) (x_due : List (List Str)) : Prop := True
def m__law_right_14 (x_purse : List Int) (x_names : List Str) (x_entry : Str) (x_stewards : List (Int × (List Str))) (x_mixed : List Str) (x_kept : List (Int × (List Str))) (x_order : List Str) (x_due : List (List Str)) : (Bool × (List Int)) ⊕ (List Int) := if (!decide ((m_several_lots x_names x_stewards x_entry) = x_due)) = true then m__law_right_15 x_purse x_names x_entry x_stewards x_mixed x_kept x_order x_due else m__law_right_16 x_purse x_names x_entry x_stewards x_mixed x_kept x_order x_due
def ok__law_right_14 (x_purse : List Int) (x_names : List Str) (x_entry : Str) (x_stewards : List (Int × (List Str))) (x_mixed : List Str) (x_kept : List (Int × (List Str))) (x_order : List Str) (x_due : List (List Str)) : Prop := (ok_several_lots x_names x_stewards x_entry) ∧ ((!decide ((m_several_lots x_names x_stewards x_entry) = x_due)) = true → ok__law_right_15 x_purse x_names x_entry x_stewards x_mixed x_kept x_order x_due) ∧ ((!decide ((m_several_lots x_names x_stewards x_entry) = x_due)) = false → ok__law_right_16 x_purse x_names x_entry x_stewards x_mixed x_kept x_order x_due)
def m__law_right_13 (x_purse : List Int) (x_names : List Str) (x_entry : Str) (x_stewards : List (Int × (List Str))) (x_mixed : List Str) (x_kept : List (Int × (List Str))) (x_order : List Str) (x_due : List (List Str)) : (Bool × (List Int)) ⊕ (List Int) := m__law_right_14 x_purse x_names x_entry x_stewards x_mixed x_kept x_order x_due
def ok__law_right_13 (x_purse : List Int) (x_names : List Str) (x_entry : Str) (x_stewards : List (Int × (List Str))) (x_mixed : List Str) (x_kept : List (Int × (List Str))) (x_order : List Str) (x_due : List (List Str)) : Prop := ok__law_right_14 x_purse x_names x_entry x_stewards x_mixed x_kept x_order x_due
def m__law_right_12 (x_purse : List Int) (x_names : List Str) (x_entry : Str) (x_told : List (List Str)) (x_stewards : List (Int × (List Str))) (x_mixed : List Str) (x_kept : List (Int × (List Str))) (x_order : List Str) (x_due : List (List Str)) : (Bool × (List Int)) ⊕ (List Int) := m__law_right_13 x_purse x_names x_entry x_stewards x_mixed x_kept x_order x_due
def ok__law_right_12 (x_purse : List Int) (x_names : List Str) (x_entry : Str) (x_told : List (List Str)) (x_stewards : List (Int × (List Str))) (x_mixed : List Str) (x_kept : List (Int × (List Str))) (x_order : List Str) (x_due : List (List Str)) : Prop := (∀ z_ ∈ x_told, z_.length + x_told.length ≤ sizeLine) ∧ (x_told.length + 8 ≤ sizeLine) ∧ ok__law_right_13 x_purse x_names x_entry x_stewards x_mixed x_kept x_order x_due
def m__law_right_10 (x_purse : List Int) (x_names : List Str) (x_entry : Str) (x_told : List (List Str)) (x_stewards : List (Int × (List Str))) (x_mixed : List Str) (x_kept : List (Int × (List Str))) (x_order : List Str) (x_due : List (List Str)) : (Bool × (List Int)) ⊕ (List Int) := if (!decide (x_told = x_due)) = true then m__law_right_11 x_purse x_names x_entry x_told x_stewards x_mixed x_kept x_order x_due else m__law_right_12 x_purse x_names x_entry x_told x_stewards x_mixed x_kept x_order x_due
def ok__law_right_10 (x_purse : List Int) (x_names : List Str) (x_entry : Str) (x_told : List (List Str)) (x_stewards : List (Int × (List Str))) (x_mixed : List Str) (x_kept : List (Int × (List Str))) (x_order : List Str) (x_due : List (List Str)) : Prop := ((!decide (x_told = x_due)) = true → ok__law_right_11 x_purse x_names x_entry x_told x_stewards x_mixed x_kept x_order x_due) ∧ ((!decide (x_told = x_due)) = false → ok__law_right_12 x_purse x_names x_entry x_told x_stewards x_mixed x_kept x_order x_due)
def m__law_right_9 (x_purse : List Int) (x_names : List Str) (x_entry : Str) (x_stewards : List (Int × (List Str))) (x_mixed : List Str) (x_kept : List (Int × (List Str))) (x_order : List Str) : (Bool × (List Int)) ⊕ (List Int) := m__law_right_10 x_purse x_names x_entry (m_several_lots x_mixed x_stewards x_entry) x_stewards x_mixed x_kept x_order (m__law_several_lots x_names x_stewards x_entry)
def ok__law_right_9 (x_purse : List Int) (x_names : List Str) (x_entry : Str) (x_stewards : List (Int × (List Str))) (x_mixed : List Str) (x_kept : List (Int × (List Str))) (x_order : List Str) : Prop := (ok_several_lots x_mixed x_stewards x_entry) ∧ (ok__law_several_lots x_names x_stewards x_entry) ∧ ok__law_right_10 x_purse x_names x_entry (m_several_lots x_mixed x_stewards x_entry) x_stewards x_mixed x_kept x_order (m__law_several_lots x_names x_stewards x_entry)
def m__law_right_19 (x_purse : List Int) (x_names : List Str) (x_many : Int) (x_stewards : List (Int × (List Str))) (x_mixed : List Str) (x_kept : List (Int × (List Str))) (x_order : List Str) : (Bool × (List Int)) ⊕ (Unit) := .inl ((false, x_purse))
def ok__law_right_19 (x_purse : List Int) (x_names : List Str) (x_many : Int) (x_stewards : List (Int × (List Str))) (x_mixed : List Str) (x_kept : List (Int × (List Str))) (x_order : List Str) : Prop := True
def m__law_right_20 (x_purse : List Int) (x_names : List Str) (x_many : Int) (x_stewards : List (Int × (List Str))) (x_mixed : List Str) (x_kept : List (Int × (List Str))) (x_order : List Str) : (Bool × (List Int)) ⊕ (Unit) := .inr ()
def ok__law_right_20 (x_purse : List Int) (x_names : List Str) (x_many : Int) (x_stewards : List (Int × (List Str))) (x_mixed : List Str) (x_kept : List (Int × (List Str))) (x_order : List Str) : Prop := True
def m__law_right_18 (x_purse : List Int) (x_names : List Str) (x_many : Int) (x_stewards : List (Int × (List Str))) (x_mixed : List Str) (x_kept : List (Int × (List Str))) (x_order : List Str) : (Bool × (List Int)) ⊕ (Unit) := if ((!decide ((m_several_cards x_mixed ([(x_many, x_mixed)] : List (Int × (List Str))) x_names) = (srt (cut x_order none (some x_many))))) || (!decide (x_mixed = x_order))) = true then m__law_right_19 x_purse x_names x_many x_stewards x_mixed x_kept x_order else m__law_right_20 x_purse x_names x_many x_stewards x_mixed x_kept x_order
def ok__law_right_18 (x_purse : List Int) (x_names : List Str) (x_many : Int) (x_stewards : List (Int × (List Str))) (x_mixed : List Str) (x_kept : List (Int × (List Str))) (x_order : List Str) : Prop := (ok_several_cards x_mixed ([(x_many, x_mixed)] : List (Int × (List Str))) x_names) ∧ ((cut x_order none (some x_many)).length < 64) ∧ (((!decide ((m_several_cards x_mixed ([(x_many, x_mixed)] : List (Int × (List Str))) x_names) = (srt (cut x_order none (some x_many))))) || (!decide (x_mixed = x_order))) = true → ok__law_right_19 x_purse x_names x_many x_stewards x_mixed x_kept x_order) ∧ (((!decide ((m_several_cards x_mixed ([(x_many, x_mixed)] : List (Int × (List Str))) x_names) = (srt (cut x_order none (some x_many))))) || (!decide (x_mixed = x_order))) = false → ok__law_right_20 x_purse x_names x_many x_stewards x_mixed x_kept x_order)
def m__law_right_23 (x_purse : List Int) (x_names : List Str) (x_told : List IS) (x_stewards : List (Int × (List Str))) (x_mixed : List Str) (x_kept : List (Int × (List Str))) (x_order : List Str) : Bool × (List Int) := ((decide (((m_several_cards x_mixed x_stewards x_names).map IS.s) = (cut x_told none (some (-(1 : Int))))) && (decide (x_stewards = x_kept) && decide (x_mixed = x_order))), x_purse)
def ok__law_right_23 (x_purse : List Int) (x_names : List Str) (x_told : List IS) (x_stewards : List (Int × (List Str))) (x_mixed : List Str) (x_kept : List (Int × (List Str))) (x_order : List Str) : Prop := (ok_several_cards x_mixed x_stewards x_names) ∧ True
def m__law_right_22 (x_purse : List Int) (x_names : List Str) (x_told : List Str) (x_stewards : List (Int × (List Str))) (x_mixed : List Str) (x_kept : List (Int × (List Str))) (x_order : List Str) : Bool × (List Int) := m__law_right_23 x_purse x_names ((x_told.map IS.s) ++ [IS.n]) x_stewards x_mixed x_kept x_order
def ok__law_right_22 (x_purse : List Int) (x_names : List Str) (x_told : List Str) (x_stewards : List (Int × (List Str))) (x_mixed : List Str) (x_kept : List (Int × (List Str))) (x_order : List Str) : Prop := ((x_told.map IS.s).length < sizeLine) ∧ ok__law_right_23 x_purse x_names ((x_told.map IS.s) ++ [IS.n]) x_stewards x_mixed x_kept x_order
def m__law_right_21 (x_purse : List Int) (x_names : List Str) (x_stewards : List (Int × (List Str))) (x_mixed : List Str) (x_kept : List (Int × (List Str))) (x_order : List Str) : Bool × (List Int) := m__law_right_22 x_purse x_names (m_several_cards x_mixed x_stewards x_names) x_stewards x_mixed x_kept x_order
def ok__law_right_21 (x_purse : List Int) (x_names : List Str) (x_stewards : List (Int × (List Str))) (x_mixed : List Str) (x_kept : List (Int × (List Str))) (x_order : List Str) : Prop := (ok_several_cards x_mixed x_stewards x_names) ∧ ok__law_right_22 x_purse x_names (m_several_cards x_mixed x_stewards x_names) x_stewards x_mixed x_kept x_order
def m__law_right_17 (x_purse : List Int) (x_names : List Str) (x_stewards : List (Int × (List Str))) (x_mixed : List Str) (x_kept : List (Int × (List Str))) (x_order : List Str) : Bool × (List Int) := elimR (loopR (fun (s : Unit) (y : Int) => m__law_right_18 x_purse x_names y x_stewards x_mixed x_kept x_order) ([((1 : Int), (2 : Int)).1, ((1 : Int), (2 : Int)).2] : List Int) ()) (fun (r : Bool × (List Int)) => (id r : Bool × (List Int))) (fun (s : Unit) => m__law_right_21 x_purse x_names x_stewards x_mixed x_kept x_order)
def ok__law_right_17 (x_purse : List Int) (x_names : List Str) (x_stewards : List (Int × (List Str))) (x_mixed : List Str) (x_kept : List (Int × (List Str))) (x_order : List Str) : Prop := (loopOk (fun (s : Unit) (y : Int) => m__law_right_18 x_purse x_names y x_stewards x_mixed x_kept x_order) (fun (s : Unit) (y : Int) => ok__law_right_18 x_purse x_names y x_stewards x_mixed x_kept x_order) ([((1 : Int), (2 : Int)).1, ((1 : Int), (2 : Int)).2] : List Int) ()) ∧ ∀ s : Unit, loopR (fun (s : Unit) (y : Int) => m__law_right_18 x_purse x_names y x_stewards x_mixed x_kept x_order) ([((1 : Int), (2 : Int)).1, ((1 : Int), (2 : Int)).2] : List Int) () = .inr s → ok__law_right_21 x_purse x_names x_stewards x_mixed x_kept x_order
def m__law_right_8 (x_purse : List Int) (x_names : List Str) (x_stewards : List (Int × (List Str))) (x_mixed : List Str) (x_kept : List (Int × (List Str))) (x_order : List Str) : Bool × (List Int) := elimR (loopR (fun (s : List Int) (y : Str) => m__law_right_9 s x_names y x_stewards x_mixed x_kept x_order) (cut ((m__law_shuffled x_purse x_names).1) none (some (3 : Int))) ((m__law_shuffled x_purse x_names).2)) (fun (r : Bool × (List Int)) => (id r : Bool × (List Int))) (fun (s : List Int) => m__law_right_17 s x_names x_stewards x_mixed x_kept x_order)
def ok__law_right_8 (x_purse : List Int) (x_names : List Str) (x_stewards : List (Int × (List Str))) (x_mixed : List Str) (x_kept : List (Int × (List Str))) (x_order : List Str) : Prop := (ok__law_shuffled x_purse x_names) ∧ (loopOk (fun (s : List Int) (y : Str) => m__law_right_9 s x_names y x_stewards x_mixed x_kept x_order) (fun (s : List Int) (y : Str) => ok__law_right_9 s x_names y x_stewards x_mixed x_kept x_order) (cut ((m__law_shuffled x_purse x_names).1) none (some (3 : Int))) ((m__law_shuffled x_purse x_names).2)) ∧ ∀ s : List Int, loopR (fun (s : List Int) (y : Str) => m__law_right_9 s x_names y x_stewards x_mixed x_kept x_order) (cut ((m__law_shuffled x_purse x_names).1) none (some (3 : Int))) ((m__law_shuffled x_purse x_names).2) = .inr s → ok__law_right_17 s x_names x_stewards x_mixed x_kept x_order
def m__law_right_3 (x_purse : List Int) (x_names : List Str) (x_stewards : List (Int × (List Str))) (x_mixed : List Str) (x_kept : List (Int × (List Str))) (x_order : List Str) : Bool × (List Int) := elimR (loopR (fun (s : Unit) (y : List Str) => m__law_right_4 x_purse x_names y x_stewards x_mixed x_kept x_order) (m__law_fields x_names) ()) (fun (r : Bool × (List Int)) => (id r : Bool × (List Int))) (fun (s : Unit) => m__law_right_8 x_purse x_names x_stewards x_mixed x_kept x_order)
def ok__law_right_3 (x_purse : List Int) (x_names : List Str) (x_stewards : List (Int × (List Str))) (x_mixed : List Str) (x_kept : List (Int × (List Str))) (x_order : List Str) : Prop := (ok__law_fields x_names) ∧ (loopOk (fun (s : Unit) (y : List Str) => m__law_right_4 x_purse x_names y x_stewards x_mixed x_kept x_order) (fun (s : Unit) (y : List Str) => ok__law_right_4 x_purse x_names y x_stewards x_mixed x_kept x_order) (m__law_fields x_names) ()) ∧ ∀ s : Unit, loopR (fun (s : Unit) (y : List Str) => m__law_right_4 x_purse x_names y x_stewards x_mixed x_kept x_order) (m__law_fields x_names) () = .inr s → ok__law_right_8 x_purse x_names x_stewards x_mixed x_kept x_order
def m__law_right_2 (x_purse : List Int) (x_names : List Str) (x_stewards : List (Int × (List Str))) (x_mixed : List Str) : Bool × (List Int) := m__law_right_3 x_purse x_names x_stewards x_mixed (x_stewards.map fun y1 => (y1.1, y1.2)) (id x_mixed)
def ok__law_right_2 (x_purse : List Int) (x_names : List Str) (x_stewards : List (Int × (List Str))) (x_mixed : List Str) : Prop := ok__law_right_3 x_purse x_names x_stewards x_mixed (x_stewards.map fun y1 => (y1.1, y1.2)) (id x_mixed)
def m__law_right_1 (x_purse : List Int) (x_names : List Str) : Bool × (List Int) := m__law_right_2 ((m__law_shuffled ((m__law_stewards ((m__law_one_of x_purse ([(3 : Int), (3 : Int), (3 : Int), (8 : Int)] : List Int)).2) x_names ((m__law_one_of x_purse ([(3 : Int), (3 : Int), (3 : Int), (8 : Int)] : List Int)).1)).2) x_names).2) x_names ((m__law_stewards ((m__law_one_of x_purse ([(3 : Int), (3 : Int), (3 : Int), (8 : Int)] : List Int)).2) x_names ((m__law_one_of x_purse ([(3 : Int), (3 : Int), (3 : Int), (8 : Int)] : List Int)).1)).1) ((m__law_shuffled ((m__law_stewards ((m__law_one_of x_purse ([(3 : Int), (3 : Int), (3 : Int), (8 : Int)] : List Int)).2) x_names ((m__law_one_of x_purse ([(3 : Int), (3 : Int), (3 : Int), (8 : Int)] : List Int)).1)).2) x_names).1)
def ok__law_right_1 (x_purse : List Int) (x_names : List Str) : Prop := (ok__law_one_of x_purse ([(3 : Int), (3 : Int), (3 : Int), (8 : Int)] : List Int)) ∧ (ok__law_stewards ((m__law_one_of x_purse ([(3 : Int), (3 : Int), (3 : Int), (8 : Int)] : List Int)).2) x_names ((m__law_one_of x_purse ([(3 : Int), (3 : Int), (3 : Int), (8 : Int)] : List Int)).1)) ∧ (ok__law_shuffled ((m__law_stewards ((m__law_one_of x_purse ([(3 : Int), (3 : Int), (3 : Int), (8 : Int)] : List Int)).2) x_names ((m__law_one_of x_purse ([(3 : Int), (3 : Int), (3 : Int), (8 : Int)] : List Int)).1)).2) x_names) ∧ ok__law_right_2 ((m__law_shuffled ((m__law_stewards ((m__law_one_of x_purse ([(3 : Int), (3 : Int), (3 : Int), (8 : Int)] : List Int)).2) x_names ((m__law_one_of x_purse ([(3 : Int), (3 : Int), (3 : Int), (8 : Int)] : List Int)).1)).2) x_names).2) x_names ((m__law_stewards ((m__law_one_of x_purse ([(3 : Int), (3 : Int), (3 : Int), (8 : Int)] : List Int)).2) x_names ((m__law_one_of x_purse ([(3 : Int), (3 : Int), (3 : Int), (8 : Int)] : List Int)).1)).1) ((m__law_shuffled ((m__law_stewards ((m__law_one_of x_purse ([(3 : Int), (3 : Int), (3 : Int), (8 : Int)] : List Int)).2) x_names ((m__law_one_of x_purse ([(3 : Int), (3 : Int), (3 : Int), (8 : Int)] : List Int)).1)).2) x_names).1)
def m__law_right_0 (x_purse : List Int) : Bool × (List Int) := m__law_right_1 ((m__law_names ((m__law_draw x_purse (8 : Int)).2) ((1 : Int) + (m__law_draw x_purse (8 : Int)).1)).2) ((m__law_names ((m__law_draw x_purse (8 : Int)).2) ((1 : Int) + (m__law_draw x_purse (8 : Int)).1)).1)
def ok__law_right_0 (x_purse : List Int) : Prop := (ok__law_draw x_purse (8 : Int)) ∧ (ok__law_names ((m__law_draw x_purse (8 : Int)).2) ((1 : Int) + (m__law_draw x_purse (8 : Int)).1)) ∧ ok__law_right_1 ((m__law_names ((m__law_draw x_purse (8 : Int)).2) ((1 : Int) + (m__law_draw x_purse (8 : Int)).1)).2) ((m__law_names ((m__law_draw x_purse (8 : Int)).2) ((1 : Int) + (m__law_draw x_purse (8 : Int)).1)).1)
def m__law_right (x_purse : List Int) : Bool × (List Int) := m__law_right_0 x_purse
def ok__law_right (x_purse : List Int) : Prop := ok__law_right_0 x_purse
theorem h__law_right (T : Tx K mg) : Has P w K mg base "_law_right" (He.ga K "_law_right") 8 ["purse"] (SpU kD (fun p (a : Unit) => ok__law_right p) (fun p a => m__law_right p)) := by
  have sc : FnScope N__law_right ["purse"] (defScope s__law_right) := ⟨rfl, rfl, rfl, by decide +kernel, rfl, by decide +kernel, by decide +kernel⟩
  refine has_UD (d__law_right T) (g__law_right T) sc (fun _ _ _ _ _ _ us hl => match us, hl with | [_], _ => rfl) (by rintro a G vs rfl; rfl) ?_
  rintro X ⟨cdv, AA, outer, ss, HH, EE, rfl⟩ hr B u_purse x_purse vs ⟨⟩ G0 hB rfl hok
  replace hok : ok__law_right_0 x_purse := hok
  show SJ B _ _ [some (.ref u_purse), none, none, none, none, none, none, none, none, none, none, none, none] G0 [(u_purse, cl x_purse)] (JUD B u_purse) (m__law_right_0 x_purse)
  obtain ⟨k1, k2, hok⟩ := hok
  refine sb_set 1 (SO.se (so_callUZ (z := (m__law_names ((m__law_draw x_purse (8 : Int)).2) ((1 : Int) + (m__law_draw x_purse (8 : Int)).1)).1) (l' := (m__law_names ((m__law_draw x_purse (8 : Int)).2) ((1 : Int) + (m__law_draw x_purse (8 : Int)).1)).2) 0 (h__law_names T) hr (at_var 0) (sa_cons (se_add (DE.se de_int) (se_callUZ (z := (m__law_draw x_purse (8 : Int)).1) (l' := (m__law_draw x_purse (8 : Int)).2) 0 (h__law_draw T) hr (at_var 0) (DA.sa (da_cons de_int da_nil)) rfl k1)) sa_nil) rfl k2)) (fun v_names G1 e1 r_names => ?_) sc.nd
  replace r_names : rep G1 v_names ((m__law_names ((m__law_draw x_purse (8 : Int)).2) ((1 : Int) + (m__law_draw x_purse (8 : Int)).1)).1) := r_names
  replace hok : ok__law_right_1 ((m__law_names ((m__law_draw x_purse (8 : Int)).2) ((1 : Int) + (m__law_draw x_purse (8 : Int)).1)).2) ((m__law_names ((m__law_draw x_purse (8 : Int)).2) ((1 : Int) + (m__law_draw x_purse (8 : Int)).1)).1) := hok
  show SJ B _ _ [some (.ref u_purse), some v_names, none, none, none, none, none, none, none, none, none, none, none] G1 [(u_purse, cl ((m__law_names ((m__law_draw x_purse (8 : Int)).2) ((1 : Int) + (m__law_draw x_purse (8 : Int)).1)).2))] (JUD B u_purse) (m__law_right_0 x_purse)
  rw [show m__law_right_0 x_purse = m__law_right_1 ((m__law_names ((m__law_draw x_purse (8 : Int)).2) ((1 : Int) + (m__law_draw x_purse (8 : Int)).1)).2) ((m__law_names ((m__law_draw x_purse (8 : Int)).2) ((1 : Int) + (m__law_draw x_purse (8 : Int)).1)).1) from rfl]
  generalize (m__law_names ((m__law_draw x_purse (8 : Int)).2) ((1 : Int) + (m__law_draw x_purse (8 : Int)).1)).2 = x_purse, (m__law_names ((m__law_draw x_purse (8 : Int)).2) ((1 : Int) + (m__law_draw x_purse (8 : Int)).1)).1 = x_names at r_names hok ⊢
  obtain ⟨k3, k4, k5, hok⟩ := hok
  refine sb_par 6 7 (SO.se (so_callUZ (z := (m__law_stewards ((m__law_one_of x_purse ([(3 : Int), (3 : Int), (3 : Int), (8 : Int)] : List Int)).2) x_names ((m__law_one_of x_purse ([(3 : Int), (3 : Int), (3 : Int), (8 : Int)] : List Int)).1)).1) (l' := (m__law_stewards ((m__law_one_of x_purse ([(3 : Int), (3 : Int), (3 : Int), (8 : Int)] : List Int)).2) x_names ((m__law_one_of x_purse ([(3 : Int), (3 : Int), (3 : Int), (8 : Int)] : List Int)).1)).2) 0 (h__law_stewards T) hr (at_var 0) (sa_cons (DE.se (de_var 1 r_names)) (sa_cons (se_callUZ (z := (m__law_one_of x_purse ([(3 : Int), (3 : Int), (3 : Int), (8 : Int)] : List Int)).1) (l' := (m__law_one_of x_purse ([(3 : Int), (3 : Int), (3 : Int), (8 : Int)] : List Int)).2) 0 (h__law_one_of T) hr (at_var 0) (DA.sa (da_cons (DO.de (do_list (hl := (by decide : (4 : Nat) ≤ sizeLine)) (des_cons de_int (des_cons de_int (des_cons de_int (des_cons de_int des_nil)))))) da_nil)) rfl k3) sa_nil)) rfl k4)) (SO.se (so_callUZ (z := (m__law_shuffled ((m__law_stewards ((m__law_one_of x_purse ([(3 : Int), (3 : Int), (3 : Int), (8 : Int)] : List Int)).2) x_names ((m__law_one_of x_purse ([(3 : Int), (3 : Int), (3 : Int), (8 : Int)] : List Int)).1)).2) x_names).1) (l' := (m__law_shuffled ((m__law_stewards ((m__law_one_of x_purse ([(3 : Int), (3 : Int), (3 : Int), (8 : Int)] : List Int)).2) x_names ((m__law_one_of x_purse ([(3 : Int), (3 : Int), (3 : Int), (8 : Int)] : List Int)).1)).2) x_names).2) 0 (h__law_shuffled T) hr (at_var 0) (DA.sa (da_cons (de_var 1 r_names) da_nil)) rfl k5)) (fun v_stewards v_mixed G2 e2 r_stewards r_mixed => ?_) sc.nd
  have r_names := Rep.mono e2 r_names
  replace r_stewards : rep G2 v_stewards ((m__law_stewards ((m__law_one_of x_purse ([(3 : Int), (3 : Int), (3 : Int), (8 : Int)] : List Int)).2) x_names ((m__law_one_of x_purse ([(3 : Int), (3 : Int), (3 : Int), (8 : Int)] : List Int)).1)).1) := r_stewards
  replace r_mixed : rep G2 v_mixed ((m__law_shuffled ((m__law_stewards ((m__law_one_of x_purse ([(3 : Int), (3 : Int), (3 : Int), (8 : Int)] : List Int)).2) x_names ((m__law_one_of x_purse ([(3 : Int), (3 : Int), (3 : Int), (8 : Int)] : List Int)).1)).2) x_names).1) := r_mixed
  replace hok : ok__law_right_2 ((m__law_shuffled ((m__law_stewards ((m__law_one_of x_purse ([(3 : Int), (3 : Int), (3 : Int), (8 : Int)] : List Int)).2) x_names ((m__law_one_of x_purse ([(3 : Int), (3 : Int), (3 : Int), (8 : Int)] : List Int)).1)).2) x_names).2) x_names ((m__law_stewards ((m__law_one_of x_purse ([(3 : Int), (3 : Int), (3 : Int), (8 : Int)] : List Int)).2) x_names ((m__law_one_of x_purse ([(3 : Int), (3 : Int), (3 : Int), (8 : Int)] : List Int)).1)).1) ((m__law_shuffled ((m__law_stewards ((m__law_one_of x_purse ([(3 : Int), (3 : Int), (3 : Int), (8 : Int)] : List Int)).2) x_names ((m__law_one_of x_purse ([(3 : Int), (3 : Int), (3 : Int), (8 : Int)] : List Int)).1)).2) x_names).1) := hok
  show SJ B _ _ [some (.ref u_purse), some v_names, none, none, none, none, some v_stewards, some v_mixed, none, none, none, none, none] G2 [(u_purse, cl ((m__law_shuffled ((m__law_stewards ((m__law_one_of x_purse ([(3 : Int), (3 : Int), (3 : Int), (8 : Int)] : List Int)).2) x_names ((m__law_one_of x_purse ([(3 : Int), (3 : Int), (3 : Int), (8 : Int)] : List Int)).1)).2) x_names).2))] (JUD B u_purse) (m__law_right_1 x_purse x_names)
  rw [show m__law_right_1 x_purse x_names = m__law_right_2 ((m__law_shuffled ((m__law_stewards ((m__law_one_of x_purse ([(3 : Int), (3 : Int), (3 : Int), (8 : Int)] : List Int)).2) x_names ((m__law_one_of x_purse ([(3 : Int), (3 : Int), (3 : Int), (8 : Int)] : List Int)).1)).2) x_names).2) x_names ((m__law_stewards ((m__law_one_of x_purse ([(3 : Int), (3 : Int), (3 : Int), (8 : Int)] : List Int)).2) x_names ((m__law_one_of x_purse ([(3 : Int), (3 : Int), (3 : Int), (8 : Int)] : List Int)).1)).1) ((m__law_shuffled ((m__law_stewards ((m__law_one_of x_purse ([(3 : Int), (3 : Int), (3 : Int), (8 : Int)] : List Int)).2) x_names ((m__law_one_of x_purse ([(3 : Int), (3 : Int), (3 : Int), (8 : Int)] : List Int)).1)).2) x_names).1) from rfl]
  generalize (m__law_shuffled ((m__law_stewards ((m__law_one_of x_purse ([(3 : Int), (3 : Int), (3 : Int), (8 : Int)] : List Int)).2) x_names ((m__law_one_of x_purse ([(3 : Int), (3 : Int), (3 : Int), (8 : Int)] : List Int)).1)).2) x_names).2 = x_purse, (m__law_stewards ((m__law_one_of x_purse ([(3 : Int), (3 : Int), (3 : Int), (8 : Int)] : List Int)).2) x_names ((m__law_one_of x_purse ([(3 : Int), (3 : Int), (3 : Int), (8 : Int)] : List Int)).1)).1 = x_stewards, (m__law_shuffled ((m__law_stewards ((m__law_one_of x_purse ([(3 : Int), (3 : Int), (3 : Int), (8 : Int)] : List Int)).2) x_names ((m__law_one_of x_purse ([(3 : Int), (3 : Int), (3 : Int), (8 : Int)] : List Int)).1)).2) x_names).1 = x_mixed at r_stewards r_mixed hok ⊢
  refine sb_par 8 9 (DE.se (DO.de (do_lc (lc_map (fun y1 => (y1.1, y1.2)) sc.nd rfl (di_list (de_var 6 r_stewards)) (blkOk_by (own := [("many", 4), ("row", 12)]) (N := N__law_right) (sc := _) (by first | decide +kernel | rfl)) rfl (dg_pair sc.nd rfl) (by intro i_ y1 σ_ G_ hy_ eG_ hT_; obtain ⟨v_y11, v_y12, q_y11, q_y12, rfl⟩ := hT_; have r_names := Rep.mono eG_ r_names; have r_stewards := Rep.mono eG_ r_stewards; have r_mixed := Rep.mono eG_ r_mixed; intro Y_ hY_; have hr := InBlk.room hY_ hr; obtain ⟨⟨s_, H_, C_, cl_, fp_, rfl⟩⟩ := hY_; exact de_tup (de_var 4 q_y11) (DO.de (do_listOf (b_list T) (de_var 12 q_y12)))))))) (DE.se (DO.de (do_listOf (b_list T) (de_var 7 r_mixed)))) (fun v_kept v_order G3 e3 r_kept r_order => ?_) sc.nd
  have r_names := Rep.mono e3 r_names
  have r_stewards := Rep.mono e3 r_stewards
  have r_mixed := Rep.mono e3 r_mixed
  replace r_kept : rep G3 v_kept (x_stewards.map fun y1 => (y1.1, y1.2)) := r_kept
  replace r_order : rep G3 v_order (id x_mixed) := r_order
  replace hok : ok__law_right_3 x_purse x_names x_stewards x_mixed (x_stewards.map fun y1 => (y1.1, y1.2)) (id x_mixed) := hok
  show SJ B _ _ [some (.ref u_purse), some v_names, none, none, none, none, some v_stewards, some v_mixed, some v_kept, some v_order, none, none, none] G3 [(u_purse, cl x_purse)] (JUD B u_purse) (m__law_right_2 x_purse x_names x_stewards x_mixed)
  rw [show m__law_right_2 x_purse x_names x_stewards x_mixed = m__law_right_3 x_purse x_names x_stewards x_mixed (x_stewards.map fun y1 => (y1.1, y1.2)) (id x_mixed) from rfl]
  generalize (x_stewards.map fun y1 => (y1.1, y1.2)) = x_kept, (id x_mixed) = x_order at r_kept r_order hok ⊢
  obtain ⟨k6, k22, hok⟩ := hok
  refine sj_for (inj := (fun (r : Bool × (List Int)) => (id r : Bool × (List Int)))) (Rg := fun r => ((JUD B u_purse) ((fun (r : Bool × (List Int)) => (id r : Bool × (List Int))) r)).1) (k := fun (s : Unit) => m__law_right_8 x_purse x_names x_stewards x_mixed x_kept x_order) (fun (s : Unit) (σ_ : L2.St) (G_ : Hp) (C_ : Cs) => ∃ (t_field : Option V) (t_told : Option V), (σ_ = [some (.ref u_purse), some v_names, t_field, none, none, t_told, some v_stewards, some v_mixed, some v_kept, some v_order, none, none, none] ∧ C_ = ([(u_purse, cl x_purse)] : Cs))) (fun (s : Unit) (y : List Str) => m__law_right_4 x_purse x_names y x_stewards x_mixed x_kept x_order) (fun (s : Unit) (y : List Str) => ok__law_right_4 x_purse x_names y x_stewards x_mixed x_kept x_order) () (di_list (DO.de (do_callZ (y := (x_names, ())) (z := (m__law_fields x_names)) (h__law_fields T) hr (da_cons (de_var 1 r_names) da_nil) k6))) (sg_name 2 sc.nd) (fun G_ e_ => ⟨_, _, rfl, rfl⟩) (by rintro ⟨⟩ σ_ G_ G2_ C_ e_ ⟨t_field, t_told, rfl, rfl⟩; exact ⟨_, _, rfl, rfl⟩) k22 ?_ (fun _ _ h => h) ?_
  · rintro ⟨⟩ x_field σ_ σ2_ G4 C_ hy_ e4 ⟨t_field, t_told, rfl, rfl⟩ ⟨v_field, r_field, rfl⟩ hok
    have r_names := Rep.mono e4 r_names
    have r_stewards := Rep.mono e4 r_stewards
    have r_mixed := Rep.mono e4 r_mixed
    have r_kept := Rep.mono e4 r_kept
    have r_order := Rep.mono e4 r_order
    replace hok : ok__law_right_4 x_purse x_names x_field x_stewards x_mixed x_kept x_order := hok
    show SJ B _ _ [some (.ref u_purse), some v_names, some v_field, none, none, t_told, some v_stewards, some v_mixed, some v_kept, some v_order, none, none, none] G4 [(u_purse, cl x_purse)] (JL (fun (r : Bool × (List Int)) => ((JUD B u_purse) ((fun (r : Bool × (List Int)) => (id r : Bool × (List Int))) r)).1) (fun (s : Unit) (σ_ : L2.St) (G_ : Hp) (C_ : Cs) => ∃ (t_field : Option V) (t_told : Option V), (σ_ = [some (.ref u_purse), some v_names, t_field, none, none, t_told, some v_stewards, some v_mixed, some v_kept, some v_order, none, none, none] ∧ C_ = ([(u_purse, cl x_purse)] : Cs)))) (m__law_right_4 x_purse x_names x_field x_stewards x_mixed x_kept x_order)
    obtain ⟨k7, hok⟩ := hok
    refine sb_setO 5 (DO.so (do_callZ (y := (x_mixed, x_stewards, x_field, ())) (z := (m_several_cards x_mixed x_stewards x_field)) (h_several_cards T) hr (da_cons (de_var 7 r_mixed) (da_cons (de_var 6 r_stewards) (da_cons (de_var 2 r_field) da_nil))) k7)) (fun u_told G5 e5 hB_told => ?_) sc.nd
    have r_names := Rep.mono e5 r_names
    have r_stewards := Rep.mono e5 r_stewards
    have r_mixed := Rep.mono e5 r_mixed
    have r_kept := Rep.mono e5 r_kept
    have r_order := Rep.mono e5 r_order
    have r_field := Rep.mono e5 r_field
    replace hok : ok__law_right_5 x_purse x_names x_field (m_several_cards x_mixed x_stewards x_field) x_stewards x_mixed x_kept x_order := hok
    show SJ B _ _ [some (.ref u_purse), some v_names, some v_field, none, none, some (.ref u_told), some v_stewards, some v_mixed, some v_kept, some v_order, none, none, none] G5 [(u_purse, cl x_purse), (u_told, cl (m_several_cards x_mixed x_stewards x_field))] (JL (fun (r : Bool × (List Int)) => ((JUD B u_purse) ((fun (r : Bool × (List Int)) => (id r : Bool × (List Int))) r)).1) (fun (s : Unit) (σ_ : L2.St) (G_ : Hp) (C_ : Cs) => ∃ (t_field : Option V) (t_told : Option V), (σ_ = [some (.ref u_purse), some v_names, t_field, none, none, t_told, some v_stewards, some v_mixed, some v_kept, some v_order, none, none, none] ∧ C_ = ([(u_purse, cl x_purse)] : Cs)))) (m__law_right_4 x_purse x_names x_field x_stewards x_mixed x_kept x_order)
    rw [show m__law_right_4 x_purse x_names x_field x_stewards x_mixed x_kept x_order = m__law_right_5 x_purse x_names x_field (m_several_cards x_mixed x_stewards x_field) x_stewards x_mixed x_kept x_order from rfl]
    generalize (m_several_cards x_mixed x_stewards x_field) = x_told at hok ⊢
    obtain ⟨k8, hokA, hokB⟩ := hok
    refine sj_whenX (ST.cell 1 rfl (by intro G_ e_ r_told; have r_names := Rep.mono e_ r_names; have r_stewards := Rep.mono e_ r_stewards; have r_mixed := Rep.mono e_ r_mixed; have r_kept := Rep.mono e_ r_kept; have r_order := Rep.mono e_ r_order; have r_field := Rep.mono e_ r_field; exact DC.dt (dc_ne hr.units (de_var 5 r_told) (DO.de (do_callZ (y := (x_stewards, x_field, ())) (z := (m__law_named_by x_stewards x_field)) (h__law_named_by T) hr (da_cons (de_var 6 r_stewards) (da_cons (de_var 2 r_field) da_nil)) k8))))) (fun h2 => ?_) (fun h2 => ?_)
    · have hok := hokA h2; clear hokA hokB
      show SJ B _ _ [some (.ref u_purse), some v_names, some v_field, none, none, some (.ref u_told), some v_stewards, some v_mixed, some v_kept, some v_order, none, none, none] G5 [(u_purse, cl x_purse), (u_told, cl x_told)] (JX (JL (fun (r : Bool × (List Int)) => ((JUD B u_purse) ((fun (r : Bool × (List Int)) => (id r : Bool × (List Int))) r)).1) (fun (s : Unit) (σ_ : L2.St) (G_ : Hp) (C_ : Cs) => ∃ (t_field : Option V) (t_told : Option V), (σ_ = [some (.ref u_purse), some v_names, t_field, none, none, t_told, some v_stewards, some v_mixed, some v_kept, some v_order, none, none, none] ∧ C_ = ([(u_purse, cl x_purse)] : Cs))))) (m__law_right_6 x_purse x_names x_field x_told x_stewards x_mixed x_kept x_order)
      exact sb_retLg (sb_ret 1 (DE.se de_bl))
    · have hok := hokB h2; clear hokA hokB
      show SJ B _ _ [some (.ref u_purse), some v_names, some v_field, none, none, some (.ref u_told), some v_stewards, some v_mixed, some v_kept, some v_order, none, none, none] G5 [(u_purse, cl x_purse), (u_told, cl x_told)] (JL (fun (r : Bool × (List Int)) => ((JUD B u_purse) ((fun (r : Bool × (List Int)) => (id r : Bool × (List Int))) r)).1) (fun (s : Unit) (σ_ : L2.St) (G_ : Hp) (C_ : Cs) => ∃ (t_field : Option V) (t_told : Option V), (σ_ = [some (.ref u_purse), some v_names, t_field, none, none, t_told, some v_stewards, some v_mixed, some v_kept, some v_order, none, none, none] ∧ C_ = ([(u_purse, cl x_purse)] : Cs)))) (m__law_right_7 x_purse x_names x_field x_told x_stewards x_mixed x_kept x_order)
      exact sb_nilLn 1 fun G_ e_ => ⟨_, _, rfl, rfl⟩
  · rintro ⟨⟩ σ_ G6 C_ hl_ e6 ⟨t_field, t_told, rfl, rfl⟩
    replace hok := hok _ hl_
    have r_names := Rep.mono e6 r_names
    have r_stewards := Rep.mono e6 r_stewards
    have r_mixed := Rep.mono e6 r_mixed
    have r_kept := Rep.mono e6 r_kept
    have r_order := Rep.mono e6 r_order
    replace hok : ok__law_right_8 x_purse x_names x_stewards x_mixed x_kept x_order := hok
    show SJ B _ _ [some (.ref u_purse), some v_names, t_field, none, none, t_told, some v_stewards, some v_mixed, some v_kept, some v_order, none, none, none] G6 [(u_purse, cl x_purse)] (JUD B u_purse) (m__law_right_8 x_purse x_names x_stewards x_mixed x_kept x_order)
    obtain ⟨k9, k21, hok⟩ := hok
    refine sj_forS (inj := (fun (r : Bool × (List Int)) => (id r : Bool × (List Int)))) (Rg := fun r => ((JUD B u_purse) ((fun (r : Bool × (List Int)) => (id r : Bool × (List Int))) r)).1) (k := fun (s : List Int) => m__law_right_17 s x_names x_stewards x_mixed x_kept x_order) (fun (s : List Int) (σ_ : L2.St) (G_ : Hp) (C_ : Cs) => ∃ (t_entry : Option V) (t_told : Option V) (t_due : Option V) (t_lot : Option V), (σ_ = [some (.ref u_purse), some v_names, t_field, t_entry, none, t_told, some v_stewards, some v_mixed, some v_kept, some v_order, t_lot, t_due, none] ∧ C_ = ([(u_purse, cl s)] : Cs))) (fun (s : List Int) (y : Str) => m__law_right_9 s x_names y x_stewards x_mixed x_kept x_order) (fun (s : List Int) (y : Str) => ok__law_right_9 s x_names y x_stewards x_mixed x_kept x_order) ((m__law_shuffled x_purse x_names).2) (si_list (SO.se (so_slice (SO.se (so_callUZ (z := (m__law_shuffled x_purse x_names).1) (l' := (m__law_shuffled x_purse x_names).2) 0 (h__law_shuffled T) hr (at_var 0) (DA.sa (da_cons (de_var 1 r_names) da_nil)) rfl k9)) sp_none (sp_some (DE.se de_int))))) (sg_name 3 sc.nd) (fun G_ e_ => ⟨_, _, _, _, rfl, rfl⟩) (by rintro x_purse σ_ G_ G2_ C_ e_ ⟨t_entry, t_told, t_due, t_lot, rfl, rfl⟩; exact ⟨_, _, _, _, rfl, rfl⟩) k21 ?_ (fun _ _ h => h) ?_
    · rintro x_purse x_entry σ_ σ2_ G7 C_ hy_ e7 ⟨t_entry, t_told, t_due, t_lot, rfl, rfl⟩ ⟨v_entry, r_entry, rfl⟩ hok
      have r_names := Rep.mono e7 r_names
      have r_stewards := Rep.mono e7 r_stewards
      have r_mixed := Rep.mono e7 r_mixed
      have r_kept := Rep.mono e7 r_kept
      have r_order := Rep.mono e7 r_order
      replace hok : ok__law_right_9 x_purse x_names x_entry x_stewards x_mixed x_kept x_order := hok
      show SJ B _ _ [some (.ref u_purse), some v_names, t_field, some v_entry, none, t_told, some v_stewards, some v_mixed, some v_kept, some v_order, t_lot, t_due, none] G7 [(u_purse, cl x_purse)] (JL (fun (r : Bool × (List Int)) => ((JUD B u_purse) ((fun (r : Bool × (List Int)) => (id r : Bool × (List Int))) r)).1) (fun (s : List Int) (σ_ : L2.St) (G_ : Hp) (C_ : Cs) => ∃ (t_entry : Option V) (t_told : Option V) (t_due : Option V) (t_lot : Option V), (σ_ = [some (.ref u_purse), some v_names, t_field, t_entry, none, t_told, some v_stewards, some v_mixed, some v_kept, some v_order, t_lot, t_due, none] ∧ C_ = ([(u_purse, cl s)] : Cs)))) (m__law_right_9 x_purse x_names x_entry x_stewards x_mixed x_kept x_order)
      obtain ⟨k11, k10, hok⟩ := hok
      refine sb_parD (yv := (x_mixed, x_stewards, x_entry, ())) (l := (m_several_lots x_mixed x_stewards x_entry)) 5 11 (h_several_lots T) hr (da_cons (de_var 7 r_mixed) (da_cons (de_var 6 r_stewards) (da_cons (de_var 3 r_entry) da_nil))) k11 (DO.de (do_callZ (y := (x_names, x_stewards, x_entry, ())) (z := (m__law_several_lots x_names x_stewards x_entry)) (h__law_several_lots T) hr (da_cons (de_var 1 r_names) (da_cons (de_var 6 r_stewards) (da_cons (de_var 3 r_entry) da_nil))) k10)) rfl (fun u_told us_told A_told v_due G8 e8 d_told r_due => ?_) sc.nd
      have r_names := Rep.mono e8 r_names
      have r_stewards := Rep.mono e8 r_stewards
      have r_mixed := Rep.mono e8 r_mixed
      have r_kept := Rep.mono e8 r_kept
      have r_order := Rep.mono e8 r_order
      have r_entry := Rep.mono e8 r_entry
      replace r_due : rep G8 v_due (m__law_several_lots x_names x_stewards x_entry) := r_due
      replace hok : ok__law_right_10 x_purse x_names x_entry (m_several_lots x_mixed x_stewards x_entry) x_stewards x_mixed x_kept x_order (m__law_several_lots x_names x_stewards x_entry) := hok
      show SJ B _ _ [some (.ref u_purse), some v_names, t_field, some v_entry, none, some (.ref u_told), some v_stewards, some v_mixed, some v_kept, some v_order, t_lot, some v_due, none] G8 ([(u_purse, cl x_purse)] ++ (u_told, cl (us_told.map Hd.mk)) :: inner A_told) (JL (fun (r : Bool × (List Int)) => ((JUD B u_purse) ((fun (r : Bool × (List Int)) => (id r : Bool × (List Int))) r)).1) (fun (s : List Int) (σ_ : L2.St) (G_ : Hp) (C_ : Cs) => ∃ (t_entry : Option V) (t_told : Option V) (t_due : Option V) (t_lot : Option V), (σ_ = [some (.ref u_purse), some v_names, t_field, t_entry, none, t_told, some v_stewards, some v_mixed, some v_kept, some v_order, t_lot, t_due, none] ∧ C_ = ([(u_purse, cl s)] : Cs)))) (m__law_right_9 x_purse x_names x_entry x_stewards x_mixed x_kept x_order)
      rw [show m__law_right_9 x_purse x_names x_entry x_stewards x_mixed x_kept x_order = m__law_right_10 x_purse x_names x_entry (m_several_lots x_mixed x_stewards x_entry) x_stewards x_mixed x_kept x_order (m__law_several_lots x_names x_stewards x_entry) from rfl]
      generalize (m_several_lots x_mixed x_stewards x_entry) = x_told, (m__law_several_lots x_names x_stewards x_entry) = x_due at r_due d_told hok ⊢
      obtain ⟨hokA, hokB⟩ := hok
      refine sj_whenX (ST.deep d_told (by intro G_ e_ r_told; have r_names := Rep.mono e_ r_names; have r_stewards := Rep.mono e_ r_stewards; have r_mixed := Rep.mono e_ r_mixed; have r_kept := Rep.mono e_ r_kept; have r_order := Rep.mono e_ r_order; have r_entry := Rep.mono e_ r_entry; have r_due := Rep.mono e_ r_due; exact DC.dt (dc_ne hr.units (de_var 5 r_told) (de_var 11 r_due)))) (fun h3 => ?_) (fun h3 => ?_)
      · have hok := hokA h3; clear hokA hokB
        show SJ B _ _ [some (.ref u_purse), some v_names, t_field, some v_entry, none, some (.ref u_told), some v_stewards, some v_mixed, some v_kept, some v_order, t_lot, some v_due, none] G8 ([(u_purse, cl x_purse)] ++ (u_told, cl (us_told.map Hd.mk)) :: inner A_told) (JX (JL (fun (r : Bool × (List Int)) => ((JUD B u_purse) ((fun (r : Bool × (List Int)) => (id r : Bool × (List Int))) r)).1) (fun (s : List Int) (σ_ : L2.St) (G_ : Hp) (C_ : Cs) => ∃ (t_entry : Option V) (t_told : Option V) (t_due : Option V) (t_lot : Option V), (σ_ = [some (.ref u_purse), some v_names, t_field, t_entry, none, t_told, some v_stewards, some v_mixed, some v_kept, some v_order, t_lot, t_due, none] ∧ C_ = ([(u_purse, cl s)] : Cs))))) (m__law_right_11 x_purse x_names x_entry x_told x_stewards x_mixed x_kept x_order x_due)
        exact sb_retLg (sb_ret 1 (DE.se de_bl))
      · have hok := hokB h3; clear hokA hokB
        show SJ B _ _ [some (.ref u_purse), some v_names, t_field, some v_entry, none, some (.ref u_told), some v_stewards, some v_mixed, some v_kept, some v_order, t_lot, some v_due, none] G8 ([(u_purse, cl x_purse)] ++ (u_told, cl (us_told.map Hd.mk)) :: inner A_told) (JL (fun (r : Bool × (List Int)) => ((JUD B u_purse) ((fun (r : Bool × (List Int)) => (id r : Bool × (List Int))) r)).1) (fun (s : List Int) (σ_ : L2.St) (G_ : Hp) (C_ : Cs) => ∃ (t_entry : Option V) (t_told : Option V) (t_due : Option V) (t_lot : Option V), (σ_ = [some (.ref u_purse), some v_names, t_field, t_entry, none, t_told, some v_stewards, some v_mixed, some v_kept, some v_order, t_lot, t_due, none] ∧ C_ = ([(u_purse, cl s)] : Cs)))) (m__law_right_12 x_purse x_names x_entry x_told x_stewards x_mixed x_kept x_order x_due)
        obtain ⟨k12, k13, hok⟩ := hok
        refine sb_spoil 10 d_told k12 (fun _ _ _ => de_str) (fun t_lot G9 e9 => ?_) (at_var 5) sc.nd (hlen := Nat.le_of_ble_eq_true rfl)
        have r_names := Rep.mono e9 r_names
        have r_stewards := Rep.mono e9 r_stewards
        have r_mixed := Rep.mono e9 r_mixed
        have r_kept := Rep.mono e9 r_kept
        have r_order := Rep.mono e9 r_order
        have r_entry := Rep.mono e9 r_entry
        have r_due := Rep.mono e9 r_due
        replace hok : ok__law_right_13 x_purse x_names x_entry x_stewards x_mixed x_kept x_order x_due := hok
        show SJ B _ _ [some (.ref u_purse), some v_names, t_field, some v_entry, none, some (.ref u_told), some v_stewards, some v_mixed, some v_kept, some v_order, t_lot, some v_due, none] G9 ([(u_purse, cl x_purse)] ++ (u_told, jk (x_told.length)) :: junk x_told.length A_told) (JL (fun (r : Bool × (List Int)) => ((JUD B u_purse) ((fun (r : Bool × (List Int)) => (id r : Bool × (List Int))) r)).1) (fun (s : List Int) (σ_ : L2.St) (G_ : Hp) (C_ : Cs) => ∃ (t_entry : Option V) (t_told : Option V) (t_due : Option V) (t_lot : Option V), (σ_ = [some (.ref u_purse), some v_names, t_field, t_entry, none, t_told, some v_stewards, some v_mixed, some v_kept, some v_order, t_lot, t_due, none] ∧ C_ = ([(u_purse, cl s)] : Cs)))) (m__law_right_12 x_purse x_names x_entry x_told x_stewards x_mixed x_kept x_order x_due)
        rw [show m__law_right_12 x_purse x_names x_entry x_told x_stewards x_mixed x_kept x_order x_due = m__law_right_13 x_purse x_names x_entry x_stewards x_mixed x_kept x_order x_due from rfl]
        refine sb_junkApp 1 (at_var 5) de_non rfl (by omega) (fun G10 e10 => ?_)
        have r_names := Rep.mono e10 r_names
        have r_stewards := Rep.mono e10 r_stewards
        have r_mixed := Rep.mono e10 r_mixed
        have r_kept := Rep.mono e10 r_kept
        have r_order := Rep.mono e10 r_order
        have r_entry := Rep.mono e10 r_entry
        have r_due := Rep.mono e10 r_due
        replace hok : ok__law_right_14 x_purse x_names x_entry x_stewards x_mixed x_kept x_order x_due := hok
        show SJ B _ _ [some (.ref u_purse), some v_names, t_field, some v_entry, none, some (.ref u_told), some v_stewards, some v_mixed, some v_kept, some v_order, t_lot, some v_due, none] G10 ([(u_purse, cl x_purse)] ++ (u_told, jk (x_told.length + 1)) :: junk x_told.length A_told) (JL (fun (r : Bool × (List Int)) => ((JUD B u_purse) ((fun (r : Bool × (List Int)) => (id r : Bool × (List Int))) r)).1) (fun (s : List Int) (σ_ : L2.St) (G_ : Hp) (C_ : Cs) => ∃ (t_entry : Option V) (t_told : Option V) (t_due : Option V) (t_lot : Option V), (σ_ = [some (.ref u_purse), some v_names, t_field, t_entry, none, t_told, some v_stewards, some v_mixed, some v_kept, some v_order, t_lot, t_due, none] ∧ C_ = ([(u_purse, cl s)] : Cs)))) (m__law_right_13 x_purse x_names x_entry x_stewards x_mixed x_kept x_order x_due)
        rw [show m__law_right_13 x_purse x_names x_entry x_stewards x_mixed x_kept x_order x_due = m__law_right_14 x_purse x_names x_entry x_stewards x_mixed x_kept x_order x_due from rfl]
        obtain ⟨k14, hokA, hokB⟩ := hok
        refine sj_whenX (DT.st (DC.dt (dc_ne hr.units (DO.de (do_callFZ (y := (x_names, x_stewards, x_entry, ())) (z := (m_several_lots x_names x_stewards x_entry)) (h_several_lots T) hr (da_cons (de_var 1 r_names) (da_cons (de_var 6 r_stewards) (da_cons (de_var 3 r_entry) da_nil))) k14)) (de_var 11 r_due)))) (fun h4 => ?_) (fun h4 => ?_)
        · have hok := hokA h4; clear hokA hokB
          show SJ B _ _ [some (.ref u_purse), some v_names, t_field, some v_entry, none, some (.ref u_told), some v_stewards, some v_mixed, some v_kept, some v_order, t_lot, some v_due, none] G10 ([(u_purse, cl x_purse)] ++ (u_told, jk (x_told.length + 1)) :: junk x_told.length A_told) (JX (JL (fun (r : Bool × (List Int)) => ((JUD B u_purse) ((fun (r : Bool × (List Int)) => (id r : Bool × (List Int))) r)).1) (fun (s : List Int) (σ_ : L2.St) (G_ : Hp) (C_ : Cs) => ∃ (t_entry : Option V) (t_told : Option V) (t_due : Option V) (t_lot : Option V), (σ_ = [some (.ref u_purse), some v_names, t_field, t_entry, none, t_told, some v_stewards, some v_mixed, some v_kept, some v_order, t_lot, t_due, none] ∧ C_ = ([(u_purse, cl s)] : Cs))))) (m__law_right_15 x_purse x_names x_entry x_stewards x_mixed x_kept x_order x_due)
          exact sb_retLg (sb_ret 1 (DE.se de_bl))
        · have hok := hokB h4; clear hokA hokB
          show SJ B _ _ [some (.ref u_purse), some v_names, t_field, some v_entry, none, some (.ref u_told), some v_stewards, some v_mixed, some v_kept, some v_order, t_lot, some v_due, none] G10 ([(u_purse, cl x_purse)] ++ (u_told, jk (x_told.length + 1)) :: junk x_told.length A_told) (JL (fun (r : Bool × (List Int)) => ((JUD B u_purse) ((fun (r : Bool × (List Int)) => (id r : Bool × (List Int))) r)).1) (fun (s : List Int) (σ_ : L2.St) (G_ : Hp) (C_ : Cs) => ∃ (t_entry : Option V) (t_told : Option V) (t_due : Option V) (t_lot : Option V), (σ_ = [some (.ref u_purse), some v_names, t_field, t_entry, none, t_told, some v_stewards, some v_mixed, some v_kept, some v_order, t_lot, t_due, none] ∧ C_ = ([(u_purse, cl s)] : Cs)))) (m__law_right_16 x_purse x_names x_entry x_stewards x_mixed x_kept x_order x_due)
          exact sb_nilLn 1 fun G_ e_ => ⟨_, _, _, _, rfl, rfl⟩
    · rintro x_purse σ_ G11 C_ hl_ e11 ⟨t_entry, t_told, t_due, t_lot, rfl, rfl⟩
      replace hok := hok _ hl_
      have r_names := Rep.mono e11 r_names
      have r_stewards := Rep.mono e11 r_stewards
      have r_mixed := Rep.mono e11 r_mixed
      have r_kept := Rep.mono e11 r_kept
      have r_order := Rep.mono e11 r_order
      replace hok : ok__law_right_17 x_purse x_names x_stewards x_mixed x_kept x_order := hok
      show SJ B _ _ [some (.ref u_purse), some v_names, t_field, t_entry, none, t_told, some v_stewards, some v_mixed, some v_kept, some v_order, t_lot, t_due, none] G11 [(u_purse, cl x_purse)] (JUD B u_purse) (m__law_right_17 x_purse x_names x_stewards x_mixed x_kept x_order)
      obtain ⟨k20, hok⟩ := hok
      refine sj_for (inj := (fun (r : Bool × (List Int)) => (id r : Bool × (List Int)))) (Rg := fun r => ((JUD B u_purse) ((fun (r : Bool × (List Int)) => (id r : Bool × (List Int))) r)).1) (k := fun (s : Unit) => m__law_right_21 x_purse x_names x_stewards x_mixed x_kept x_order) (fun (s : Unit) (σ_ : L2.St) (G_ : Hp) (C_ : Cs) => ∃ (t_many : Option V), (σ_ = [some (.ref u_purse), some v_names, t_field, t_entry, t_many, t_told, some v_stewards, some v_mixed, some v_kept, some v_order, t_lot, t_due, none] ∧ C_ = ([(u_purse, cl x_purse)] : Cs))) (fun (s : Unit) (y : Int) => m__law_right_18 x_purse x_names y x_stewards x_mixed x_kept x_order) (fun (s : Unit) (y : Int) => ok__law_right_18 x_purse x_names y x_stewards x_mixed x_kept x_order) () (di_pair (de_tup de_int de_int)) (sg_name 4 sc.nd) (fun G_ e_ => ⟨_, rfl, rfl⟩) (by rintro ⟨⟩ σ_ G_ G2_ C_ e_ ⟨t_many, rfl, rfl⟩; exact ⟨_, rfl, rfl⟩) k20 ?_ (fun _ _ h => h) ?_
      · rintro ⟨⟩ x_many σ_ σ2_ G12 C_ hy_ e12 ⟨t_many, rfl, rfl⟩ ⟨v_many, r_many, rfl⟩ hok
        have r_names := Rep.mono e12 r_names
        have r_stewards := Rep.mono e12 r_stewards
        have r_mixed := Rep.mono e12 r_mixed
        have r_kept := Rep.mono e12 r_kept
        have r_order := Rep.mono e12 r_order
        replace hok : ok__law_right_18 x_purse x_names x_many x_stewards x_mixed x_kept x_order := hok
        show SJ B _ _ [some (.ref u_purse), some v_names, t_field, t_entry, some v_many, t_told, some v_stewards, some v_mixed, some v_kept, some v_order, t_lot, t_due, none] G12 [(u_purse, cl x_purse)] (JL (fun (r : Bool × (List Int)) => ((JUD B u_purse) ((fun (r : Bool × (List Int)) => (id r : Bool × (List Int))) r)).1) (fun (s : Unit) (σ_ : L2.St) (G_ : Hp) (C_ : Cs) => ∃ (t_many : Option V), (σ_ = [some (.ref u_purse), some v_names, t_field, t_entry, t_many, t_told, some v_stewards, some v_mixed, some v_kept, some v_order, t_lot, t_due, none] ∧ C_ = ([(u_purse, cl x_purse)] : Cs)))) (m__law_right_18 x_purse x_names x_many x_stewards x_mixed x_kept x_order)
        obtain ⟨k15, k16, hokA, hokB⟩ := hok
        refine sj_whenX (DT.st (DW.dt (dw_or (DC.dt (dc_ne hr.units (DO.de (do_callZ (y := (x_mixed, ([(x_many, x_mixed)] : List (Int × (List Str))), x_names, ())) (z := (m_several_cards x_mixed ([(x_many, x_mixed)] : List (Int × (List Str))) x_names)) (h_several_cards T) hr (da_cons (de_var 7 r_mixed) (da_cons (DO.de (do_list (hl := (by decide : (1 : Nat) ≤ sizeLine)) (des_cons (de_tup (de_var 4 r_many) (de_var 7 r_mixed)) des_nil))) (da_cons (de_var 1 r_names) da_nil))) k15)) (DO.de (do_sorted (b_sorted T) (DO.de (do_slice (de_var 9 r_order) dp_none (dp_some (de_var 4 r_many)))) k16)))) fun h5 => dw_or1 (DC.dt (dc_ne hr.units (de_var 7 r_mixed) (de_var 9 r_order)))))) (fun h6 => ?_) (fun h6 => ?_)
        · have hok := hokA h6; clear hokA hokB
          show SJ B _ _ [some (.ref u_purse), some v_names, t_field, t_entry, some v_many, t_told, some v_stewards, some v_mixed, some v_kept, some v_order, t_lot, t_due, none] G12 [(u_purse, cl x_purse)] (JX (JL (fun (r : Bool × (List Int)) => ((JUD B u_purse) ((fun (r : Bool × (List Int)) => (id r : Bool × (List Int))) r)).1) (fun (s : Unit) (σ_ : L2.St) (G_ : Hp) (C_ : Cs) => ∃ (t_many : Option V), (σ_ = [some (.ref u_purse), some v_names, t_field, t_entry, t_many, t_told, some v_stewards, some v_mixed, some v_kept, some v_order, t_lot, t_due, none] ∧ C_ = ([(u_purse, cl x_purse)] : Cs))))) (m__law_right_19 x_purse x_names x_many x_stewards x_mixed x_kept x_order)
          exact sb_retLg (sb_ret 1 (DE.se de_bl))
        · have hok := hokB h6; clear hokA hokB
          show SJ B _ _ [some (.ref u_purse), some v_names, t_field, t_entry, some v_many, t_told, some v_stewards, some v_mixed, some v_kept, some v_order, t_lot, t_due, none] G12 [(u_purse, cl x_purse)] (JL (fun (r : Bool × (List Int)) => ((JUD B u_purse) ((fun (r : Bool × (List Int)) => (id r : Bool × (List Int))) r)).1) (fun (s : Unit) (σ_ : L2.St) (G_ : Hp) (C_ : Cs) => ∃ (t_many : Option V), (σ_ = [some (.ref u_purse), some v_names, t_field, t_entry, t_many, t_told, some v_stewards, some v_mixed, some v_kept, some v_order, t_lot, t_due, none] ∧ C_ = ([(u_purse, cl x_purse)] : Cs)))) (m__law_right_20 x_purse x_names x_many x_stewards x_mixed x_kept x_order)
          exact sb_nilL fun G_ e_ => ⟨_, rfl, rfl⟩
      · rintro ⟨⟩ σ_ G13 C_ hl_ e13 ⟨t_many, rfl, rfl⟩
        replace hok := hok _ hl_
        have r_names := Rep.mono e13 r_names
        have r_stewards := Rep.mono e13 r_stewards
        have r_mixed := Rep.mono e13 r_mixed
        have r_kept := Rep.mono e13 r_kept
        have r_order := Rep.mono e13 r_order
        replace hok : ok__law_right_21 x_purse x_names x_stewards x_mixed x_kept x_order := hok
        show SJ B _ _ [some (.ref u_purse), some v_names, t_field, t_entry, t_many, t_told, some v_stewards, some v_mixed, some v_kept, some v_order, t_lot, t_due, none] G13 [(u_purse, cl x_purse)] (JUD B u_purse) (m__law_right_21 x_purse x_names x_stewards x_mixed x_kept x_order)
        obtain ⟨k17, hok⟩ := hok
        refine sb_setO 5 (DO.so (do_callZ (y := (x_mixed, x_stewards, x_names, ())) (z := (m_several_cards x_mixed x_stewards x_names)) (h_several_cards T) hr (da_cons (de_var 7 r_mixed) (da_cons (de_var 6 r_stewards) (da_cons (de_var 1 r_names) da_nil))) k17)) (fun u_told G14 e14 hB_told => ?_) sc.nd
        have r_names := Rep.mono e14 r_names
        have r_stewards := Rep.mono e14 r_stewards
        have r_mixed := Rep.mono e14 r_mixed
        have r_kept := Rep.mono e14 r_kept
        have r_order := Rep.mono e14 r_order
        replace hok : ok__law_right_22 x_purse x_names (m_several_cards x_mixed x_stewards x_names) x_stewards x_mixed x_kept x_order := hok
        show SJ B _ _ [some (.ref u_purse), some v_names, t_field, t_entry, t_many, some (.ref u_told), some v_stewards, some v_mixed, some v_kept, some v_order, t_lot, t_due, none] G14 [(u_purse, cl x_purse), (u_told, cl (m_several_cards x_mixed x_stewards x_names))] (JUD B u_purse) (m__law_right_21 x_purse x_names x_stewards x_mixed x_kept x_order)
        rw [show m__law_right_21 x_purse x_names x_stewards x_mixed x_kept x_order = m__law_right_22 x_purse x_names (m_several_cards x_mixed x_stewards x_names) x_stewards x_mixed x_kept x_order from rfl]
        generalize (m_several_cards x_mixed x_stewards x_names) = x_told at hok ⊢
        obtain ⟨k18, hok⟩ := hok
        refine sb_toISs 1 rfl ?_
        refine sb_append 1 (at_var 5) (DE.se (DE.asISn de_non)) rfl rfl k18 fun G15 e15 => ?_
        have r_names := Rep.mono e15 r_names
        have r_stewards := Rep.mono e15 r_stewards
        have r_mixed := Rep.mono e15 r_mixed
        have r_kept := Rep.mono e15 r_kept
        have r_order := Rep.mono e15 r_order
        replace hok : ok__law_right_23 x_purse x_names ((x_told.map IS.s) ++ [IS.n]) x_stewards x_mixed x_kept x_order := hok
        show SJ B _ _ [some (.ref u_purse), some v_names, t_field, t_entry, t_many, some (.ref u_told), some v_stewards, some v_mixed, some v_kept, some v_order, t_lot, t_due, none] G15 [(u_purse, cl x_purse), (u_told, cl ((x_told.map IS.s) ++ [IS.n]))] (JUD B u_purse) (m__law_right_22 x_purse x_names x_told x_stewards x_mixed x_kept x_order)
        rw [show m__law_right_22 x_purse x_names x_told x_stewards x_mixed x_kept x_order = m__law_right_23 x_purse x_names ((x_told.map IS.s) ++ [IS.n]) x_stewards x_mixed x_kept x_order from rfl]
        generalize ((x_told.map IS.s) ++ [IS.n]) = x_told at hok ⊢
        refine sb_frz 1 rfl hB_told fun G16 e16 r_told => ?_
        have r_names := Rep.mono e16 r_names
        have r_stewards := Rep.mono e16 r_stewards
        have r_mixed := Rep.mono e16 r_mixed
        have r_kept := Rep.mono e16 r_kept
        have r_order := Rep.mono e16 r_order
        obtain ⟨k19, hok⟩ := hok
        exact sb_ret 1 (DE.se (de_and (DC.de (dc_eq hr.units (DE.toISs (DO.de (do_callZ (y := (x_mixed, x_stewards, x_names, ())) (z := (m_several_cards x_mixed x_stewards x_names)) (h_several_cards T) hr (da_cons (de_var 7 r_mixed) (da_cons (de_var 6 r_stewards) (da_cons (de_var 1 r_names) da_nil))) k19))) (DO.de (do_slice (de_var 5 r_told) dp_none (dp_some (de_neg de_int)))))) fun h10 => de_and (DC.de (dc_eq hr.units (de_var 6 r_stewards) (de_var 8 r_kept))) fun h9 => de_one (DC.de (dc_eq hr.units (de_var 7 r_mixed) (de_var 9 r_order)))))

abbrev N__law_wide_names : List Str := ["purse", "many", "some", "at"]
def m__law_wide_names_1 (x_purse : List Int) (x_many : Int) (x_some : List Str) : (List Str) × (List Int) := ((srt (cut ((m__law_shuffled x_purse x_some).1) none (some x_many))), (m__law_shuffled x_purse x_some).2)
def ok__law_wide_names_1 (x_purse : List Int) (x_many : Int) (x_some : List Str) : Prop := (ok__law_shuffled x_purse x_some) ∧ ((cut ((m__law_shuffled x_purse x_some).1) none (some x_many)).length < 64) ∧ True
def m__law_wide_names_0 (x_purse : List Int) (x_many : Int) : (List Str) × (List Int) := m__law_wide_names_1 x_purse x_many ((irange (49 : Int)).map fun y1 => ((signAt ("abcdefg" : Str) (y1 / (7 : Int))) ++ (signAt ("abcdefg" : Str) (y1 % (7 : Int)))))
def ok__law_wide_names_0 (x_purse : List Int) (x_many : Int) : Prop := (-(2 ^ 24) ≤ (49 : Int) ∧ (49 : Int) ≤ 2 ^ 24) ∧ (∀ y1 ∈ (irange (49 : Int)), (((0 : Int) < (7 : Int) ∧ (7 : Int) < (1073741824 : Int)) ∧ ((atI ("abcdefg" : Str).cps.toList (y1 / (7 : Int))).isSome = true) ∧ ((0 : Int) < (7 : Int)) ∧ ((atI ("abcdefg" : Str).cps.toList (y1 % (7 : Int))).isSome = true) ∧ ((signAt ("abcdefg" : Str) (y1 / (7 : Int))).length + (signAt ("abcdefg" : Str) (y1 % (7 : Int))).length ≤ sizeLine))) ∧ ok__law_wide_names_1 x_purse x_many ((irange (49 : Int)).map fun y1 => ((signAt ("abcdefg" : Str) (y1 / (7 : Int))) ++ (signAt ("abcdefg" : Str) (y1 % (7 : Int)))))
def m__law_wide_names (x_purse : List Int) (x_many : Int) : (List Str) × (List Int) := m__law_wide_names_0 x_purse x_many
def ok__law_wide_names (x_purse : List Int) (x_many : Int) : Prop := ok__law_wide_names_0 x_purse x_many
theorem h__law_wide_names (T : Tx K mg) : Has P w K mg base "_law_wide_names" (He.ga K "_law_wide_names") 4 ["purse", "many"] (SpU kO (fun p (a : Int × Unit) => ok__law_wide_names p a.1) (fun p a => m__law_wide_names p a.1)) := by
  have sc : FnScope N__law_wide_names ["purse", "many"] (defScope s__law_wide_names) := ⟨rfl, rfl, rfl, by decide +kernel, rfl, by decide +kernel, by decide +kernel⟩
  refine has_UO (d__law_wide_names T) (g__law_wide_names T) sc (fun _ _ _ _ _ _ us hl => match us, hl with | [_, _], _ => rfl) (by rintro a G vs ⟨v_many, _, rfl, r_many, rfl⟩; rfl) ?_
  rintro X ⟨cdv, AA, outer, ss, HH, EE, rfl⟩ hr B u_purse x_purse vs ⟨x_many, ⟨⟩⟩ G0 hB ⟨v_many, _, rfl, r_many, rfl⟩ hok
  replace hok : ok__law_wide_names_0 x_purse x_many := hok
  show SJ B _ _ [some (.ref u_purse), some v_many, none, none] G0 [(u_purse, cl x_purse)] (JUO B u_purse) (m__law_wide_names_0 x_purse x_many)
  obtain ⟨k1, k7, hok⟩ := hok
  refine sb_setLc 2 (lc_map (fun y1 => ((signAt ("abcdefg" : Str) (y1 / (7 : Int))) ++ (signAt ("abcdefg" : Str) (y1 % (7 : Int))))) sc.nd rfl (di_rangeI (b_range T) de_int k1) (blkOk_by (own := [("at", 3)]) (N := N__law_wide_names) (sc := _) (by first | decide +kernel | rfl)) rfl (dg_name sc.nd) (by intro i_ y1 σ_ G_ hy_ eG_ hT_; obtain ⟨v_y1, q_y1, rfl⟩ := hT_; have r_many := Rep.mono eG_ r_many; have z_ := k7 y1 (List.mem_of_getElem? hy_); have ze_ := z_; obtain ⟨k2, k3, k4, k5, k6⟩ := ze_; intro Y_ hY_; have hr := InBlk.room hY_ hr; obtain ⟨⟨s_, H_, C_, cl_, fp_, rfl⟩⟩ := hY_; exact de_op op_add_str (r2_addS k6) (de_signI de_str (de_fdiv (de_var 3 q_y1) de_int k2.1 k2.2) k3) (de_signI de_str (de_mod (de_var 3 q_y1) de_int k4) k5))) (fun v_some G1 e1 r_some => ?_)
  have r_many := Rep.mono e1 r_many
  replace r_some : rep G1 v_some ((irange (49 : Int)).map fun y1 => ((signAt ("abcdefg" : Str) (y1 / (7 : Int))) ++ (signAt ("abcdefg" : Str) (y1 % (7 : Int))))) := r_some
  replace hok : ok__law_wide_names_1 x_purse x_many ((irange (49 : Int)).map fun y1 => ((signAt ("abcdefg" : Str) (y1 / (7 : Int))) ++ (signAt ("abcdefg" : Str) (y1 % (7 : Int))))) := hok
  show SJ B _ _ [some (.ref u_purse), some v_many, some v_some, none] G1 [(u_purse, cl x_purse)] (JUO B u_purse) (m__law_wide_names_0 x_purse x_many)
  rw [show m__law_wide_names_0 x_purse x_many = m__law_wide_names_1 x_purse x_many ((irange (49 : Int)).map fun y1 => ((signAt ("abcdefg" : Str) (y1 / (7 : Int))) ++ (signAt ("abcdefg" : Str) (y1 % (7 : Int))))) from rfl]
  generalize ((irange (49 : Int)).map fun y1 => ((signAt ("abcdefg" : Str) (y1 / (7 : Int))) ++ (signAt ("abcdefg" : Str) (y1 % (7 : Int))))) = x_some at r_some hok ⊢
  obtain ⟨k8, k9, hok⟩ := hok
  exact sb_retO 1 (so_sorted (b_sorted T) (SO.se (so_slice (SO.se (so_callUZ (z := (m__law_shuffled x_purse x_some).1) (l' := (m__law_shuffled x_purse x_some).2) 0 (h__law_shuffled T) hr (at_var 0) (DA.sa (da_cons (de_var 2 r_some) da_nil)) rfl k8)) sp_none (sp_some (DE.se (de_var 1 r_many))))) k9) (by first | exact Nat.zero_le _ | simp)

abbrev N_law : List Str := ["script", "purse", "row", "few"]
def m_law_2 (x_script : Scr) (x_purse : List Int) : (Bool) ⊕ Unit := .inl (false)
def ok_law_2 (x_script : Scr) (x_purse : List Int) : Prop := True
def m_law_3 (x_script : Scr) (x_purse : List Int) : (Bool) ⊕ Unit := .inr ()
def ok_law_3 (x_script : Scr) (x_purse : List Int) : Prop := True
def m_law_1 (x_script : Scr) (x_purse : List Int) : (Bool) ⊕ Unit := if (!((m__law_right x_purse ).1)) = true then m_law_2 x_script ((m__law_right x_purse ).2) else m_law_3 x_script ((m__law_right x_purse ).2)
def ok_law_1 (x_script : Scr) (x_purse : List Int) : Prop := (ok__law_right x_purse ) ∧ ((!((m__law_right x_purse ).1)) = true → ok_law_2 x_script ((m__law_right x_purse ).2)) ∧ ((!((m__law_right x_purse ).1)) = false → ok_law_3 x_script ((m__law_right x_purse ).2))
def m_law_7 (x_script : Scr) (x_row : List Str) (x_few : List Str) : Bool := false
def ok_law_7 (x_script : Scr) (x_row : List Str) (x_few : List Str) : Prop := True
def m_law_9 (x_script : Scr) (x_row : List Str) (x_few : List Str) : Bool := false
def ok_law_9 (x_script : Scr) (x_row : List Str) (x_few : List Str) : Prop := True
def m_law_11 (x_script : Scr) (x_row : List Str) (x_few : List Str) : Bool := false
def ok_law_11 (x_script : Scr) (x_row : List Str) (x_few : List Str) : Prop := True
def m_law_12 (x_script : Scr) (x_row : List Str) (x_few : List Str) : Bool := decide ((m_several_lots ([("a" : Str)] : List Str) ([((1 : Int), ([("a" : Str)] : List Str))] : List (Int × (List Str))) ("a" : Str)) = ([([] : List Str)] : List (List Str)))
def ok_law_12 (x_script : Scr) (x_row : List Str) (x_few : List Str) : Prop := (ok_several_lots ([("a" : Str)] : List Str) ([((1 : Int), ([("a" : Str)] : List Str))] : List (Int × (List Str))) ("a" : Str)) ∧ True
def m_law_10 (x_script : Scr) (x_row : List Str) (x_few : List Str) : Bool := if (!decide (([(cut x_few none (some (1 : Int))), (cut x_few (some (1 : Int)) (some (2 : Int)))] : List (List Str)) = (m_several_lots x_few ([((2 : Int), x_few), ((1 : Int), x_few)] : List (Int × (List Str))) (getI x_few (2 : Int))))) = true then m_law_11 x_script x_row x_few else m_law_12 x_script x_row x_few
def ok_law_10 (x_script : Scr) (x_row : List Str) (x_few : List Str) : Prop := ((atI x_few (2 : Int)).isSome = true) ∧ (ok_several_lots x_few ([((2 : Int), x_few), ((1 : Int), x_few)] : List (Int × (List Str))) (getI x_few (2 : Int))) ∧ ((!decide (([(cut x_few none (some (1 : Int))), (cut x_few (some (1 : Int)) (some (2 : Int)))] : List (List Str)) = (m_several_lots x_few ([((2 : Int), x_few), ((1 : Int), x_few)] : List (Int × (List Str))) (getI x_few (2 : Int))))) = true → ok_law_11 x_script x_row x_few) ∧ ((!decide (([(cut x_few none (some (1 : Int))), (cut x_few (some (1 : Int)) (some (2 : Int)))] : List (List Str)) = (m_several_lots x_few ([((2 : Int), x_few), ((1 : Int), x_few)] : List (Int × (List Str))) (getI x_few (2 : Int))))) = false → ok_law_12 x_script x_row x_few)
def m_law_8 (x_script : Scr) (x_row : List Str) (x_few : List Str) : Bool := if (!decide ((m_several_lots x_few ([(((10 : Int) ^ ((29 : Int)).toNat), x_few), ((1 : Int), x_few)] : List (Int × (List Str))) (getI x_few (-(1 : Int)))) = ([([] : List Str)] : List (List Str)))) = true then m_law_9 x_script x_row x_few else m_law_10 x_script x_row x_few
def ok_law_8 (x_script : Scr) (x_row : List Str) (x_few : List Str) : Prop := (CPowW (10 : Int) (29 : Int)) ∧ ((atI x_few (-(1 : Int))).isSome = true) ∧ (ok_several_lots x_few ([(((10 : Int) ^ ((29 : Int)).toNat), x_few), ((1 : Int), x_few)] : List (Int × (List Str))) (getI x_few (-(1 : Int)))) ∧ ((!decide ((m_several_lots x_few ([(((10 : Int) ^ ((29 : Int)).toNat), x_few), ((1 : Int), x_few)] : List (Int × (List Str))) (getI x_few (-(1 : Int)))) = ([([] : List Str)] : List (List Str)))) = true → ok_law_9 x_script x_row x_few) ∧ ((!decide ((m_several_lots x_few ([(((10 : Int) ^ ((29 : Int)).toNat), x_few), ((1 : Int), x_few)] : List (Int × (List Str))) (getI x_few (-(1 : Int)))) = ([([] : List Str)] : List (List Str)))) = false → ok_law_10 x_script x_row x_few)
def m_law_6 (x_script : Scr) (x_row : List Str) (x_few : List Str) : Bool := if (!decide (((m_several_lots x_row ([((3 : Int), x_row)] : List (Int × (List Str))) (getI x_row (-(1 : Int)))).length : Int) = (55 : Int))) = true then m_law_7 x_script x_row x_few else m_law_8 x_script x_row x_few
def ok_law_6 (x_script : Scr) (x_row : List Str) (x_few : List Str) : Prop := ((atI x_row (-(1 : Int))).isSome = true) ∧ (ok_several_lots x_row ([((3 : Int), x_row)] : List (Int × (List Str))) (getI x_row (-(1 : Int)))) ∧ ((!decide (((m_several_lots x_row ([((3 : Int), x_row)] : List (Int × (List Str))) (getI x_row (-(1 : Int)))).length : Int) = (55 : Int))) = true → ok_law_7 x_script x_row x_few) ∧ ((!decide (((m_several_lots x_row ([((3 : Int), x_row)] : List (Int × (List Str))) (getI x_row (-(1 : Int)))).length : Int) = (55 : Int))) = false → ok_law_8 x_script x_row x_few)
def m_law_5 (x_script : Scr) (x_row : List Str) : Bool := m_law_6 x_script x_row (cut x_row none (some (8 : Int)))
def ok_law_5 (x_script : Scr) (x_row : List Str) : Prop := ok_law_6 x_script x_row (cut x_row none (some (8 : Int)))
def m_law_4 (x_script : Scr) : Bool := m_law_5 x_script ((m__law_wide_names (m__law_purse x_script (0 : Int)) (12 : Int)).1)
def ok_law_4 (x_script : Scr) : Prop := (ok__law_purse x_script (0 : Int)) ∧ (ok__law_wide_names (m__law_purse x_script (0 : Int)) (12 : Int)) ∧ ok_law_5 x_script ((m__law_wide_names (m__law_purse x_script (0 : Int)) (12 : Int)).1)
def m_law_0 (x_script : Scr) : Bool := elimR (loopP (fun (y : List Int) => m_law_1 x_script y) (m__law_purses x_script (3 : Int))) id fun _ => m_law_4 x_script
def ok_law_0 (x_script : Scr) : Prop := (ok__law_purses x_script (3 : Int)) ∧ (loopOkP (fun (y : List Int) => m_law_1 x_script y) (fun (y : List Int) => ok_law_1 x_script y) (m__law_purses x_script (3 : Int))) ∧ (loopP (fun (y : List Int) => m_law_1 x_script y) (m__law_purses x_script (3 : Int)) = .inr () → ok_law_4 x_script)
def m_law (x_script : Scr) : Bool := m_law_0 x_script
def ok_law (x_script : Scr) : Prop := ok_law_0 x_script
theorem h_law (T : Tx K mg) : Has P w K mg base "law" (He.ga K "law") 9 ["script"] (SpN kD (fun (a : Scr × Unit) => ok_law a.1) (fun a => m_law a.1)) := by
  have sc : FnScope N_law ["script"] (defScope s_law) := ⟨rfl, rfl, rfl, by decide +kernel, rfl, by decide +kernel, by decide +kernel⟩
  refine has_D (d_law T) (g_law T) sc (fun _ _ _ _ _ _ us hl => match us, hl with | [_], _ => rfl) (by rintro a G vs ⟨v_script, _, rfl, r_script, rfl⟩; rfl) ?_
  rintro X ⟨cdv, AA, outer, ss, HH, EE, rfl⟩ hr B vs ⟨x_script, ⟨⟩⟩ G0 hB ⟨v_script, _, rfl, r_script, rfl⟩ hok
  replace hok : ok_law_0 x_script := hok
  show SJ B _ _ [some v_script, none, none, none] G0 [] (JD B []) (m_law_0 x_script)
  obtain ⟨k1, k13, hok⟩ := hok
  refine sj_forP 1 (fun (σ_ : L2.St) (G_ : Hp) => ∃ (t_purse : Option V), σ_ = [some v_script, t_purse, none, none]) (fun (y : List Int) => m_law_1 x_script y) (fun (y : List Int) => ok_law_1 x_script y) (dp_call (h__law_purses T) hr (da_cons (de_var 0 r_script) (da_cons de_int da_nil)) k1) sc.nd rfl (fun G_ e_ => ⟨_, rfl⟩) (by rintro σ_ G_ G2_ e_ ⟨t_purse, rfl⟩; exact ⟨_, rfl⟩) k13 ?_ (fun r Q h => h) ?_
  · rintro B u_purse x_purse σ_ G1 hBM_ e1 ⟨t_purse, rfl⟩ hok
    have r_script := Rep.mono e1 r_script
    replace hok : ok_law_1 x_script x_purse := hok
    show SJ B _ _ [some v_script, some (.ref u_purse), none, none] G1 [(u_purse, cl x_purse)] (JP B (fun (σ_ : L2.St) (G_ : Hp) => ∃ (t_purse : Option V), σ_ = [some v_script, t_purse, none, none])) (m_law_1 x_script x_purse)
    obtain ⟨k2, hokA, hokB⟩ := hok
    refine sj_whenX (st_not (st_val (se_callUZ (z := (m__law_right x_purse ).1) (l' := (m__law_right x_purse ).2) 0 (h__law_right T) hr (at_var 1) (DA.sa da_nil) rfl k2))) (fun h1 => ?_) (fun h1 => ?_)
    · have hok := hokA h1; clear hokA hokB
      show SJ B _ _ [some v_script, some (.ref u_purse), none, none] G1 [(u_purse, cl ((m__law_right x_purse ).2))] (JX (JP B (fun (σ_ : L2.St) (G_ : Hp) => ∃ (t_purse : Option V), σ_ = [some v_script, t_purse, none, none]))) (m_law_2 x_script ((m__law_right x_purse ).2))
      generalize (m__law_right x_purse ).2 = x_purse at hok ⊢
      exact sb_retLg (sb_ret 0 (DE.se de_bl))
    · have hok := hokB h1; clear hokA hokB
      show SJ B _ _ [some v_script, some (.ref u_purse), none, none] G1 [(u_purse, cl ((m__law_right x_purse ).2))] (JP B (fun (σ_ : L2.St) (G_ : Hp) => ∃ (t_purse : Option V), σ_ = [some v_script, t_purse, none, none])) (m_law_3 x_script ((m__law_right x_purse ).2))
      generalize (m__law_right x_purse ).2 = x_purse at hok ⊢
      exact sb_nil fun G_ e_ => ⟨rfl, ⟨_, rfl⟩⟩
  · rintro σ_ G2 hl_ e2 ⟨t_purse, rfl⟩
    replace hok := hok hl_
    have r_script := Rep.mono e2 r_script
    replace hok : ok_law_4 x_script := hok
    show SJ B _ _ [some v_script, t_purse, none, none] G2 [] (JD B []) (m_law_4 x_script)
    obtain ⟨k3, k4, hok⟩ := hok
    refine sb_set 2 (SO.se (so_callUT (y := ((12 : Int), ())) (z := (m__law_wide_names (m__law_purse x_script (0 : Int)) (12 : Int)).1) (h__law_wide_names T) hr (DO.so (do_callZ (y := (x_script, (0 : Int), ())) (z := (m__law_purse x_script (0 : Int))) (h__law_purse T) hr (da_cons (de_var 0 r_script) (da_cons de_int da_nil)) k3)) (da_cons de_int da_nil) k4)) (fun v_row G3 e3 r_row => ?_) sc.nd
    have r_script := Rep.mono e3 r_script
    replace r_row : rep G3 v_row ((m__law_wide_names (m__law_purse x_script (0 : Int)) (12 : Int)).1) := r_row
    replace hok : ok_law_5 x_script ((m__law_wide_names (m__law_purse x_script (0 : Int)) (12 : Int)).1) := hok
    show SJ B _ _ [some v_script, t_purse, some v_row, none] G3 [] (JD B []) (m_law_4 x_script)
    rw [show m_law_4 x_script = m_law_5 x_script ((m__law_wide_names (m__law_purse x_script (0 : Int)) (12 : Int)).1) from rfl]
    generalize (m__law_wide_names (m__law_purse x_script (0 : Int)) (12 : Int)).1 = x_row at r_row hok ⊢
    refine sb_set 3 (DE.se (DO.de (do_slice (de_var 2 r_row) dp_none (dp_some de_int)))) (fun v_few G4 e4 r_few => ?_) sc.nd
    have r_script := Rep.mono e4 r_script
    have r_row := Rep.mono e4 r_row
    replace r_few : rep G4 v_few (cut x_row none (some (8 : Int))) := r_few
    replace hok : ok_law_6 x_script x_row (cut x_row none (some (8 : Int))) := hok
    show SJ B _ _ [some v_script, t_purse, some v_row, some v_few] G4 [] (JD B []) (m_law_5 x_script x_row)
    rw [show m_law_5 x_script x_row = m_law_6 x_script x_row (cut x_row none (some (8 : Int))) from rfl]
    generalize (cut x_row none (some (8 : Int))) = x_few at r_few hok ⊢
    obtain ⟨k5, k6, hokA, hokB⟩ := hok
    refine sj_whenX (DT.st (DC.dt (dc_neI (de_lenI (b_len T) (DO.de (do_callFZ (y := (x_row, ([((3 : Int), x_row)] : List (Int × (List Str))), (getI x_row (-(1 : Int))), ())) (z := (m_several_lots x_row ([((3 : Int), x_row)] : List (Int × (List Str))) (getI x_row (-(1 : Int))))) (h_several_lots T) hr (da_cons (de_var 2 r_row) (da_cons (DO.de (do_list (hl := (by decide : (1 : Nat) ≤ sizeLine)) (des_cons (de_tup de_int (de_var 2 r_row)) des_nil))) (da_cons (de_ixI (de_var 2 r_row) (de_neg de_int) k5) da_nil))) k6))) de_int))) (fun h2 => ?_) (fun h2 => ?_)
    · have hok := hokA h2; clear hokA hokB
      show SJ B _ _ [some v_script, t_purse, some v_row, some v_few] G4 [] (JX (JD B [])) (m_law_7 x_script x_row x_few)
      exact sb_ret 0 (DE.se de_bl)
    · have hok := hokB h2; clear hokA hokB
      show SJ B _ _ [some v_script, t_purse, some v_row, some v_few] G4 [] (JD B []) (m_law_8 x_script x_row x_few)
      obtain ⟨k7, k8, k9, hokA, hokB⟩ := hok
      refine sj_whenX (DT.st (DC.dt (dc_ne hr.units (DO.de (do_callFZ (y := (x_few, ([(((10 : Int) ^ ((29 : Int)).toNat), x_few), ((1 : Int), x_few)] : List (Int × (List Str))), (getI x_few (-(1 : Int))), ())) (z := (m_several_lots x_few ([(((10 : Int) ^ ((29 : Int)).toNat), x_few), ((1 : Int), x_few)] : List (Int × (List Str))) (getI x_few (-(1 : Int))))) (h_several_lots T) hr (da_cons (de_var 3 r_few) (da_cons (DO.de (do_list (hl := (by decide : (2 : Nat) ≤ sizeLine)) (des_cons (de_tup (de_pow de_int de_int k7) (de_var 3 r_few)) (des_cons (de_tup de_int (de_var 3 r_few)) des_nil)))) (da_cons (de_ixI (de_var 3 r_few) (de_neg de_int) k8) da_nil))) k9)) (DO.de (do_list (hl := (by decide : (1 : Nat) ≤ sizeLine)) (des_cons (DO.de (do_list (hl := (by decide : (0 : Nat) ≤ sizeLine)) (des_nil (α := Str)))) des_nil)))))) (fun h3 => ?_) (fun h3 => ?_)
      · have hok := hokA h3; clear hokA hokB
        show SJ B _ _ [some v_script, t_purse, some v_row, some v_few] G4 [] (JX (JD B [])) (m_law_9 x_script x_row x_few)
        exact sb_ret 0 (DE.se de_bl)
      · have hok := hokB h3; clear hokA hokB
        show SJ B _ _ [some v_script, t_purse, some v_row, some v_few] G4 [] (JD B []) (m_law_10 x_script x_row x_few)
        obtain ⟨k10, k11, hokA, hokB⟩ := hok
        refine sj_whenX (DT.st (DC.dt (dc_ne hr.units (DO.de (do_list (hl := (by decide : (2 : Nat) ≤ sizeLine)) (des_cons (DO.de (do_slice (de_var 3 r_few) dp_none (dp_some de_int))) (des_cons (DO.de (do_slice (de_var 3 r_few) (dp_some de_int) (dp_some de_int))) des_nil)))) (DO.de (do_callFZ (y := (x_few, ([((2 : Int), x_few), ((1 : Int), x_few)] : List (Int × (List Str))), (getI x_few (2 : Int)), ())) (z := (m_several_lots x_few ([((2 : Int), x_few), ((1 : Int), x_few)] : List (Int × (List Str))) (getI x_few (2 : Int)))) (h_several_lots T) hr (da_cons (de_var 3 r_few) (da_cons (DO.de (do_list (hl := (by decide : (2 : Nat) ≤ sizeLine)) (des_cons (de_tup de_int (de_var 3 r_few)) (des_cons (de_tup de_int (de_var 3 r_few)) des_nil)))) (da_cons (de_ixI (de_var 3 r_few) de_int k10) da_nil))) k11))))) (fun h4 => ?_) (fun h4 => ?_)
        · have hok := hokA h4; clear hokA hokB
          show SJ B _ _ [some v_script, t_purse, some v_row, some v_few] G4 [] (JX (JD B [])) (m_law_11 x_script x_row x_few)
          exact sb_ret 0 (DE.se de_bl)
        · have hok := hokB h4; clear hokA hokB
          show SJ B _ _ [some v_script, t_purse, some v_row, some v_few] G4 [] (JD B []) (m_law_12 x_script x_row x_few)
          obtain ⟨k12, hok⟩ := hok
          exact sb_ret 0 (DE.se (DC.de (dc_eq hr.units (DO.de (do_callFZ (y := (([("a" : Str)] : List Str), ([((1 : Int), ([("a" : Str)] : List Str))] : List (Int × (List Str))), ("a" : Str), ())) (z := (m_several_lots ([("a" : Str)] : List Str) ([((1 : Int), ([("a" : Str)] : List Str))] : List (Int × (List Str))) ("a" : Str))) (h_several_lots T) hr (da_cons (DO.de (do_list (hl := (by decide : (1 : Nat) ≤ sizeLine)) (des_cons de_str des_nil))) (da_cons (DO.de (do_list (hl := (by decide : (1 : Nat) ≤ sizeLine)) (des_cons (de_tup de_int (DO.de (do_list (hl := (by decide : (1 : Nat) ≤ sizeLine)) (des_cons de_str des_nil)))) des_nil))) (da_cons de_str da_nil))) k12)) (DO.de (do_list (hl := (by decide : (1 : Nat) ≤ sizeLine)) (des_cons (DO.de (do_list (hl := (by decide : (0 : Nat) ≤ sizeLine)) (des_nil (α := Str)))) des_nil))))))
end
end Pf

namespace Pf
open Dn.Rep (rep)
open PySem L2 Dn
section
variable {α S ρ : Type}
theorem fold_all {f : S → α → S} {okf : S → α → Prop} (inv : S → Prop) : ∀ (l : List α) (s : S), inv s → (∀ s x, x ∈ l → inv s → okf s x ∧ inv (f s x)) → foldOk f okf l s ∧ inv (l.foldl f s)
  | [], s, h, _ => ⟨trivial, h⟩
  | x :: l, s, h, k => by
    obtain ⟨h1, h2⟩ := k s x (List.mem_cons_self ..) h
    obtain ⟨h3, h4⟩ := fold_all inv l (f s x) h2 fun s y hy => k s y (List.mem_cons_of_mem _ hy)
    exact ⟨⟨h1, h3⟩, h4⟩
theorem fold_pre {f : S → α → S} {okf : S → α → Prop} (inv : List α → S → Prop) (l : List α) : ∀ (pre post : List α) (s : S), l = pre ++ post → inv pre s → (∀ pre x post s, l = pre ++ x :: post → inv pre s → okf s x ∧ inv (pre ++ [x]) (f s x)) → foldOk f okf post s ∧ inv l (post.foldl f s)
  | pre, [], s, e, h, _ => ⟨trivial, by rw [e, List.append_nil]; exact h⟩
  | pre, x :: post, s, e, h, k => by
    obtain ⟨h1, h2⟩ := k pre x post s e h
    obtain ⟨h3, h4⟩ := fold_pre inv l (pre ++ [x]) post (f s x) (by rw [e]; simp) h2 k
    exact ⟨⟨h1, h3⟩, h4⟩
theorem loop_all {f : S → α → ρ ⊕ S} {okf : S → α → Prop} (inv : S → Prop) : ∀ (l : List α) (s : S), inv s → (∀ s x, x ∈ l → inv s → okf s x ∧ ∃ s', f s x = .inr s' ∧ inv s') → loopOk f okf l s ∧ ∃ s', loopR f l s = .inr s' ∧ inv s'
  | [], s, h, _ => ⟨trivial, s, rfl, h⟩
  | x :: l, s, h, k => by
    obtain ⟨h1, s1, h2, h3⟩ := k s x (List.mem_cons_self ..) h
    obtain ⟨h4, h5⟩ := loop_all inv l s1 h3 fun s y hy => k s y (List.mem_cons_of_mem _ hy)
    refine ⟨⟨h1, fun s' e => ?_⟩, ?_⟩
    · rw [h2] at e; cases e; exact h4
    · unfold loopR; rw [h2]; exact h5
theorem loopP_all {f : α → ρ ⊕ Unit} {okf : α → Prop} : ∀ (l : List α), (∀ x, x ∈ l → okf x ∧ f x = .inr ()) → loopOkP f okf l ∧ loopP f l = .inr ()
  | [], _ => ⟨trivial, rfl⟩
  | x :: l, k => by
    obtain ⟨h1, h2⟩ := k x (List.mem_cons_self ..)
    obtain ⟨h4, h5⟩ := loopP_all l fun y hy => k y (List.mem_cons_of_mem _ hy)
    refine ⟨⟨h1, fun _ => h4⟩, ?_⟩
    unfold loopP; rw [h2]; exact h5
end
def PW (n : Nat) (p : List Int) : Prop := ∃ a b c d : Int, p = [a, b, c, d] ∧ 0 ≤ c ∧ c ≤ n
theorem PW.mono {n m : Nat} {p : List Int} (h : PW n p) (q : n ≤ m) : PW m p := by
  obtain ⟨a, b, c, d, e, h1, h2⟩ := h
  exact ⟨a, b, c, d, e, h1, by omega⟩
theorem bits_small {m : Int} (h0 : 0 < m) (h : m < 2 ^ 27) : (Builtin.Int.intBits m : Int) / 28 = 0 := by
  have : Builtin.Int.intBits m ≤ 27 := by
    unfold Builtin.Int.intBits
    split
    · omega
    · have h2 : m.natAbs.log2 < 27 := (Nat.log2_lt (by omega)).mpr (by omega)
      omega
  omega
theorem irange1 : irange 1 = [0] := rfl
theorem mem_irange {n i : Int} (h : i ∈ irange n) : 0 ≤ i ∧ i < n := by
  unfold irange at h
  obtain ⟨j, hj, rfl⟩ := List.mem_map.mp h
  have := List.mem_range.mp hj
  omega
theorem irange_len (n : Int) : (irange n).length = n.toNat := by unfold irange; simp
theorem mixed_ok {a b c : Int} (hb : 0 ≤ b) (hb2 : b < 2 ^ 60) : ok__law_mixed a b c := by
  unfold ok__law_mixed ok__law_mixed_0 ok__law_mixed_1 ok__law_mixed_2 ok__law_mixed_3
  have small : ∀ {i j : Int}, 0 < j → j < 2 ^ 64 → CMul i j := fun h1 h2 => .inr ⟨by omega, h2⟩
  have small' : ∀ {i j : Int}, 0 ≤ i → i < 2 ^ 64 → CMul i j := fun h1 h2 => .inl ⟨by omega, h2⟩
  refine ⟨small (by omega) (by omega), small' (by omega) (by omega), .inr ⟨by omega, by omega⟩, small' (by omega) (by omega), by omega, ?_, by omega, small (by omega) (by omega), by omega, trivial⟩
  exact small' (Int.emod_nonneg _ (by omega)) (by have := Int.emod_lt_of_pos (a * 69069 + 104729 * b * b + 7919 * c + b) (show (0 : Int) < 2147483647 by omega); omega)
theorem draw_spec {n : Nat} {p : List Int} {m : Int} (hp : PW n p) (hn : n < 2 ^ 50) (h0 : 0 < m) (h1 : m < 2 ^ 27) : ok__law_draw p m ∧ 0 ≤ (m__law_draw p m).1 ∧ (m__law_draw p m).1 < m ∧ PW (n + 1) (m__law_draw p m).2 := by
  obtain ⟨a, b, c, d, rfl, hc, hcn⟩ := hp
  have hm := Int.emod_nonneg
  by_cases ha : 0 < a
  · have e : m__law_draw [a, b, c, d] m = (a % m, [a / m, b, c, d]) := by
      show (if decide (0 < a) = true then _ else _) = _
      rw [if_pos (decide_eq_true ha)]
      rfl
    rw [e]
    refine ⟨⟨rfl, fun _ => ⟨rfl, h0, rfl, ⟨h0, by omega⟩, rfl, trivial⟩, fun h => absurd (show decide (0 < a) = false from h) (by simp [ha])⟩, Int.emod_nonneg _ (by omega), Int.emod_lt_of_pos _ h0, _, _, _, _, rfl, hc, by omega⟩
  · have hr : irange ((1 : Int) + (Builtin.Int.intBits m : Int) / 28) = [0] := by rw [bits_small h0 h1]; rfl
    have e : m__law_draw [a, b, c, d] m = ((0 * 2147483587 + m__law_mixed b (c + 1) d) % m, [a, b, c + 1, d]) := by
      show (if decide (0 < a) = true then _ else m__law_draw_4 [a, b, c, d] m) = _
      rw [if_neg (by simpa using ha)]
      unfold m__law_draw_4 m__law_draw_5
      rw [hr]
      rfl
    rw [e]
    refine ⟨⟨rfl, fun h => absurd (of_decide_eq_true (show decide (0 < a) = true from h)) ha, fun _ => ?_⟩, Int.emod_nonneg _ (by omega), Int.emod_lt_of_pos _ h0, _, _, _, _, rfl, by omega, by omega⟩
    unfold ok__law_draw_4 ok__law_draw_5
    rw [hr, bits_small h0 h1]
    exact ⟨by omega, by omega, ⟨⟨rfl, rfl, .inl ⟨by show -(2 ^ 64) < (0 : Int); omega, by show (0 : Int) < 2 ^ 64; omega⟩, rfl, rfl, rfl, mixed_ok (show 0 ≤ c + 1 by omega) (show c + 1 < 2 ^ 60 by omega), trivial⟩, trivial⟩, h0, trivial⟩
end Pf

namespace Pf
open Dn.Rep (rep)
open PySem L2 Dn
theorem insI_perm {α : Type} (l : List α) (i : Int) (x : α) : (insI l i x).Perm (l ++ [x]) := by
  unfold insI
  have h : l = l.take i.toNat ++ l.drop i.toNat := (List.take_append_drop _ _).symm
  calc (l.take i.toNat ++ [x] ++ l.drop i.toNat).Perm (l.take i.toNat ++ ([x] ++ l.drop i.toNat)) := by rw [List.append_assoc]
    _ |>.Perm (l.take i.toNat ++ (l.drop i.toNat ++ [x])) := List.Perm.append_left _ List.perm_append_comm
    _ |>.Perm (l ++ [x]) := by rw [← List.append_assoc, List.take_append_drop]
theorem shuf_spec {α : Type} [Inhabited α] {n : Nat} {p : List Int} {l : List α} (hp : PW n p) (hn : n + l.length < 2 ^ 50) (hl : l.length < 2 ^ 20) : ok__law_shuffled p l ∧ (m__law_shuffled p l).1.Perm l ∧ PW (n + l.length) (m__law_shuffled p l).2 := by
  have key := fold_pre (f := fun (s : (List Int) × (List α)) (y : α) => m__law_shuffled_2 s.1 l s.2 y) (okf := fun (s : (List Int) × (List α)) (y : α) => ok__law_shuffled_2 s.1 l s.2 y) (fun pre s => PW (n + pre.length) s.1 ∧ s.2.Perm pre) l [] l (p, id []) rfl ⟨hp, .refl _⟩ (by
    rintro pre x post ⟨q, f⟩ e ⟨h1, h2⟩
    have hpl : pre.length < l.length := by rw [e]; simp
    have hfl : f.length = pre.length := h2.length_eq
    obtain ⟨d1, d2, d3, d4⟩ := draw_spec (m := (f.length : Int) + 1) h1 (by omega) (by omega) (by omega)
    refine ⟨⟨d1, by show f.length < sizeLine; rw [sizeLine_eq]; omega, ⟨d2, by show (m__law_draw q ((f.length : Int) + 1)).1 < 2 ^ 63; have d3' : (m__law_draw q ((f.length : Int) + 1)).1 < (f.length : Int) + 1 := d3; omega⟩, trivial⟩, ?_, ?_⟩
    · show PW _ (m__law_draw q ((f.length : Int) + 1)).2
      exact d4.mono (by rw [List.length_append]; simp; omega)
    · show (insI f _ x).Perm _
      exact (insI_perm f _ x).trans (h2.append_right _))
  exact ⟨⟨key.1, trivial⟩, key.2.2, key.2.1⟩
/-- a small letter -/
def Low (c : Nat) : Prop := 97 ≤ c ∧ c < 123
def abc : Str := "abcdefghijklmnopqrstuvwxyz"
theorem abc_list : abc.cps.toList = [97,98,99,100,101,102,103,104,105,106,107,108,109,110,111,112,113,114,115,116,117,118,119,120,121,122] := by decide +kernel
theorem mem_abc {c : Nat} : c ∈ abc.cps.toList ↔ Low c := by
  rw [abc_list]
  unfold Low
  simp
  omega
theorem at_abc {i : Int} (h0 : 0 ≤ i) (h1 : i < 26) : ∃ c, atI abc.cps.toList i = some c ∧ Low c := by
  have hl : abc.cps.toList.length = 26 := by rw [abc_list]; rfl
  have : atI abc.cps.toList i = abc.cps.toList[i.toNat]? := by
    unfold atI ixN
    rw [hl, if_pos h0, if_pos (by omega)]
    rfl
  rw [this, List.getElem?_eq_getElem (by rw [hl]; omega)]
  exact ⟨_, rfl, mem_abc.mp (List.getElem_mem _)⟩
/-- a name: one to eight small letters -/
def Nm (z : Str) : Prop := 1 ≤ z.length ∧ z.length ≤ 8 ∧ ∀ c ∈ z.cps.toList, Low c
theorem nm_ok {z : Str} (h : Nm z) : m_is_name z = true := by
  obtain ⟨h1, h2, h3⟩ := h
  show (if ((!true) || (decide ((z.length : Int) < 1) || decide ((8 : Int) < (z.length : Int)))) = true then _ else m_is_name_2 z) = true
  rw [if_neg (by simp; omega)]
  show decide (_ = _) = true
  rw [decide_eq_true_iff, List.filter_eq_nil_iff]
  intro y hy
  obtain ⟨c, hc, rfl⟩ := List.mem_map.mp hy
  have := mem_abc.mpr (h3 c hc)
  show ¬ (!decide (c ∈ abc.cps.toList)) = true
  rw [decide_eq_true this]
  decide
theorem is_name_ok (z : Str) : ok_is_name z := ⟨fun _ => trivial, fun _ => trivial⟩
theorem word_spec {n : Nat} {p : List Int} (hp : PW n p) (hn : n + 10 < 2 ^ 50) : ok__law_word p ∧ Nm (m__law_word p).1 ∧ PW (n + 9) (m__law_word p).2 := by
  obtain ⟨d1, d2, d3, d4⟩ := draw_spec (m := 8) hp (by omega) (by omega) (by omega)
  have key := fold_pre (f := fun (s : (List Int) × Str) (y : Int) => m__law_word_2 s.1 s.2 y) (okf := fun (s : (List Int) × Str) (y : Int) => ok__law_word_2 s.1 s.2 y) (fun pre s => PW (n + 1 + pre.length) s.1 ∧ s.2.length = pre.length ∧ ∀ c ∈ s.2.cps.toList, Low c) (irange ((1 : Int) + (m__law_draw p 8).1)) [] _ ((m__law_draw p 8).2, id ("" : Str)) rfl ⟨d4, rfl, by intro c hc; exact absurd (show c ∈ ([] : List Nat) from hc) (by simp)⟩ (by
    rintro pre x post ⟨q, f⟩ e ⟨h1, h2, h3⟩
    have hpl : pre.length < 8 := by
      have := congrArg List.length e
      rw [irange_len, List.length_append, List.length_cons] at this
      omega
    obtain ⟨g1, g2, g3, g4⟩ := draw_spec (m := 26) h1 (by omega) (by omega) (by omega)
    obtain ⟨c, hc, lc⟩ := at_abc g2 g3
    have hs : signAt abc (m__law_draw q 26).1 = ⟨#[c]⟩ := by unfold signAt; rw [hc]; rfl
    have hlen : ∀ a b : Str, (a ++ b).length = a.length + b.length := fun a b => by
      show (a.cps ++ b.cps).size = _
      rw [Array.size_append]; rfl
    have h2' : f.length = pre.length := h2
    refine ⟨⟨g1, by show (atI abc.cps.toList _).isSome = true; rw [hc]; rfl, ?_, trivial⟩, ?_, ?_, ?_⟩
    · show f.length + (signAt abc _).length ≤ sizeLine
      rw [hs, sizeLine_eq]
      show f.length + 1 ≤ _
      omega
    · show PW _ (m__law_draw q 26).2
      exact g4.mono (by rw [List.length_append]; simp; omega)
    · show (f ++ signAt abc _).length = _
      rw [hlen, hs, List.length_append, h2']
      rfl
    · show ∀ c ∈ (f ++ signAt abc _).cps.toList, Low c
      intro z hz
      have hz' : z ∈ (f.cps ++ (signAt abc (m__law_draw q 26).1).cps).toList := hz
      rw [hs, Array.toList_append] at hz'
      rcases List.mem_append.mp hz' with hz | hz
      · exact h3 z hz
      · have : z = c := by simpa using hz
        rw [this]; exact lc)
  obtain ⟨k1, k2, k3, k4⟩ := key
  rw [irange_len] at k2 k3
  refine ⟨⟨d1, ⟨by omega, by omega⟩, k1, trivial⟩, ⟨?_, ?_, k4⟩, ?_⟩
  · exact k3 ▸ (by omega)
  · exact k3 ▸ (by omega)
  · exact k2.mono (by omega)
end Pf

namespace Pf
open Dn.Rep (rep)
open PySem L2 Dn
theorem cut_to {α : Type} (l : List α) {k : Int} (h : 0 ≤ k) : cut l none (some k) = l.take k.toNat := by
  obtain ⟨j, rfl⟩ := Int.eq_ofNat_of_zero_le h
  unfold cut
  rw [HT.sIx_nat, HT.sIx_none, List.drop_zero, Nat.sub_zero]
  show _ = l.take j
  by_cases q : j ≤ l.length
  · rw [Nat.min_eq_left q]
  · rw [Nat.min_eq_right (by omega), List.take_of_length_le (Nat.le_refl _), List.take_of_length_le (by omega)]
theorem cut_from {α : Type} (l : List α) {k : Int} (h : 0 ≤ k) : cut l (some k) none = l.drop k.toNat := by
  obtain ⟨j, rfl⟩ := Int.eq_ofNat_of_zero_le h
  unfold cut
  rw [HT.sIx_nat, HT.sIx_none]
  show _ = l.drop j
  by_cases q : j ≤ l.length
  · rw [Nat.min_eq_left q, List.take_of_length_le (by rw [List.length_drop]; omega)]
  · rw [Nat.min_eq_right (by omega), List.drop_eq_nil_of_le (show l.length ≤ j by omega), List.drop_eq_nil_of_le (Nat.le_refl _), List.take_nil]
/-- good names: sorted, each once, names all -/
structure GN (l : List Str) : Prop where
  asc : Asc l
  nd : l.Nodup
  nm : ∀ z ∈ l, Nm z
def fixed : List Str := ["ale", "bun", "cob", "a", "zz", "egg", "marrows", "jam"]
theorem fixed_nm : ∀ z ∈ fixed, Nm z := by
  have : (fixed.all fun z => decide (1 ≤ z.length) && (decide (z.length ≤ 8) && z.cps.toList.all fun c => decide (97 ≤ c) && decide (c < 123))) = true := by decide +kernel
  intro z hz
  have h := List.all_eq_true.mp this z hz
  simp only [Bool.and_eq_true, decide_eq_true_iff, List.all_eq_true] at h
  exact ⟨h.1, h.2.1, fun c hc => h.2.2 c hc⟩
theorem fixed_nd : fixed.Nodup := by decide +kernel
theorem names_spec {n : Nat} {p : List Int} {m : Int} (hp : PW n p) (hn : n + 30 < 2 ^ 50) (h0 : 1 ≤ m) (h1 : m ≤ 8) : ok__law_names p m ∧ GN (m__law_names p m).1 ∧ (m__law_names p m).1.length = m.toNat ∧ PW (n + 18) (m__law_names p m).2 := by
  obtain ⟨w1, w2, w3⟩ := word_spec hp (by omega)
  have hw : ∀ {fresh : Str} {q : List Int}, Nm fresh → PW (n + 9) q → ok__law_names_1 q m fixed fresh ∧ GN (m__law_names_1 q m fixed fresh).1 ∧ (m__law_names_1 q m fixed fresh).1.length = m.toNat ∧ PW (n + 18) (m__law_names_1 q m fixed fresh).2 := by
    intro fresh q hf hq
    have hfl : (([fresh] : List Str).filter fun y => !decide (y ∈ fixed)).length ≤ 1 := List.length_filter_le _ _
    have hnd : (fixed ++ ([fresh] : List Str).filter fun y => !decide (y ∈ fixed)).Nodup := by
      refine List.nodup_append.mpr ⟨fixed_nd, (List.nodup_cons.mpr ⟨by simp, List.nodup_nil⟩).filter _, fun a ha b hb => ?_⟩
      have := (List.mem_filter.mp hb).2
      intro e
      rw [← e] at this
      simp [ha] at this
    have hnm : ∀ z ∈ fixed ++ ([fresh] : List Str).filter fun y => !decide (y ∈ fixed), Nm z := by
      intro z hz
      rcases List.mem_append.mp hz with h | h
      · exact fixed_nm z h
      · have := (List.mem_filter.mp h).1
        have e : z = fresh := by simpa using this
        rw [e]; exact hf
    have hlen8 : (fixed ++ ([fresh] : List Str).filter fun y => !decide (y ∈ fixed)).length = 8 + (([fresh] : List Str).filter fun y => !decide (y ∈ fixed)).length := by rw [List.length_append]; rfl
    obtain ⟨s1, s2, s3⟩ := shuf_spec (l := fixed ++ ([fresh] : List Str).filter fun y => !decide (y ∈ fixed)) hq (by omega) (by omega)
    have hl := s2.length_eq
    have hc : cut (m__law_shuffled q (fixed ++ ([fresh] : List Str).filter fun y => !decide (y ∈ fixed))).1 none (some m) = (m__law_shuffled q (fixed ++ ([fresh] : List Str).filter fun y => !decide (y ∈ fixed))).1.take m.toNat := cut_to _ (by omega)
    have hcl : (cut (m__law_shuffled q (fixed ++ ([fresh] : List Str).filter fun y => !decide (y ∈ fixed))).1 none (some m)).length = m.toNat := by
      rw [hc, List.length_take, hl, hlen8]
      omega
    refine ⟨⟨?_, s1, ?_, trivial⟩, ⟨srt_asc _, srt_nodup.mpr ?_, ?_⟩, ?_, ?_⟩
    · show fixed.length + _ ≤ sizeLine
      rw [sizeLine_eq]
      show 8 + _ ≤ _
      omega
    · rw [hcl]; omega
    · show (cut _ none (some m)).Nodup
      rw [hc]
      exact (s2.nodup_iff.mpr hnd).sublist (List.take_sublist _ _)
    · intro z hz
      have hz' := mem_srt.mp hz
      rw [hc] at hz'
      exact hnm z (s2.mem_iff.mp (List.mem_of_mem_take hz'))
    · show (srt _).length = _
      rw [srt_len, hcl]
    · exact s3.mono (by omega)
  obtain ⟨a1, a2, a3, a4⟩ := hw w2 w3
  exact ⟨⟨w1, a1⟩, a2, a3, a4⟩
end Pf

namespace Pf
open Dn.Rep (rep)
open PySem L2 Dn
open PySem.W (dataLe dataLt)
abbrev Sub (a b : List Str) : Prop := ∀ z ∈ a, z ∈ b
theorem part_iff {a b : List Str} : m_is_part a b = true ↔ Sub a b := by
  show decide ((a.filter fun y1 => (!decide (y1 ∈ b))) = ([] : List Str)) = true ↔ _
  rw [decide_eq_true_iff, List.filter_eq_nil_iff]
  exact ⟨fun h z hz => by have := h z hz; simpa using this, fun h z hz => by simp [h z hz]⟩
/-- just the least ones, ascending, each once -/
structure Mn (P out : List (List Str)) : Prop where
  asc : AscG out
  nd : out.Nodup
  mem : ∀ y, y ∈ out ↔ y ∈ P ∧ ∀ z ∈ P, z ≠ y → ¬ Sub z y
theorem perm_nd {α : Type} [DecidableEq α] {l m : List α} (h1 : l.Nodup) (h2 : m.Nodup) (h : ∀ x, x ∈ l ↔ x ∈ m) : l.Perm m := (List.perm_ext_iff_of_nodup h1 h2).mpr h
theorem Mn.uniq {P o1 o2 : List (List Str)} (h1 : Mn P o1) (h2 : Mn P o2) : o1 = o2 := ascG_unique (perm_nd h1.nd h2.nd fun y => (h1.mem y).trans (h2.mem y).symm) h1.asc h2.asc
/-- the least ones of more, as long as each of the more lies over one of the few -/
theorem Mn.more {P W out : List (List Str)} (h : Mn P out) (h1 : ∀ p ∈ P, p ∈ W) (h2 : ∀ w ∈ W, ∃ p ∈ P, Sub p w) (hc : ∀ a ∈ W, ∀ b ∈ W, Sub a b → Sub b a → a = b) : Mn W out := by
  refine ⟨h.asc, h.nd, fun y => ?_⟩
  rw [h.mem]
  constructor
  · rintro ⟨hy, hm⟩
    refine ⟨h1 y hy, fun z hz ne hs => ?_⟩
    obtain ⟨p, hp, hpz⟩ := h2 z hz
    by_cases e : p = y
    · subst e
      exact ne (hc z hz p (h1 p hp) hs hpz)
    · exact hm p hp e fun x hx => hs x (hpz x hx)
  · rintro ⟨hy, hm⟩
    obtain ⟨p, hp, hpy⟩ := h2 y hy
    have e : p = y := Classical.byContradiction fun e => hm p (h1 p hp) e hpy
    subst e
    exact ⟨hp, fun z hz ne hs => hm z (h1 z hz) ne hs⟩
theorem Mn.same {P W out : List (List Str)} (h : Mn P out) (h1 : ∀ y, y ∈ P ↔ y ∈ W) : Mn W out := by
  refine ⟨h.asc, h.nd, fun y => ?_⟩
  rw [h.mem, h1]
  exact ⟨fun ⟨a, b⟩ => ⟨a, fun z hz => b z ((h1 z).mpr hz)⟩, fun ⟨a, b⟩ => ⟨a, fun z hz => b z ((h1 z).mp hz)⟩⟩
/-- filtered out of a list that stands ascending -/
theorem mn_filter {P plain : List (List Str)} {f : List Str → List Str → Bool} (hf : ∀ a b, f a b = true ↔ Sub a b) (ha : AscG plain) (hn : plain.Nodup) (hm : ∀ y, y ∈ plain ↔ y ∈ P) :
    Mn P (plain.filter fun y => decide ((plain.filter fun z => ((!decide (z = y)) && (f z y))) = ([] : List (List Str)))) := by
  refine ⟨List.Pairwise.filter _ ha, hn.filter _, fun y => ?_⟩
  rw [List.mem_filter, decide_eq_true_iff, List.filter_eq_nil_iff, hm]
  refine and_congr_right fun _ => ⟨fun h z hz ne hs => ?_, fun h z hz => ?_⟩
  · have := h z ((hm z).mpr hz)
    simp [ne, (hf z y).mpr hs] at this
  · intro q
    rw [Bool.and_eq_true] at q
    exact h z ((hm z).mp hz) (by simpa using q.1) ((hf z y).mp q.2)
/-- the order of tuples is that of lists -/
theorem dle_tl (a b : TL Str) : dataLe false Dat.dat a b = dataLe false Dat.dat a.l b.l := by
  rw [dle_iff, dle_iff]
  show (!dataLt (.tuple (b.l.map Dat.dat)) (.tuple (a.l.map Dat.dat))) = !dataLt (.list (b.l.map Dat.dat)) (.list (a.l.map Dat.dat))
  rw [PySem.W.dataLt_tuple, PySem.W.dataLt_list]
theorem least_spec {lots : List (List Str)} (h : lots.length < 300) : ok_least_of lots ∧ Mn lots (m_least_of lots) := by
  refine ⟨⟨by rw [List.length_map]; exact h, fun _ _ _ _ _ => trivial, trivial⟩, ?_⟩
  have e : m_least_of lots = (((srtG (ddpG (lots.map fun y1 => (TL.mk y1)))).map fun y2 => y2.l).filter fun y3 => decide ((((srtG (ddpG (lots.map fun y1 => (TL.mk y1)))).map fun y2 => y2.l).filter fun y4 => ((!decide (y4 = y3)) && (m_is_part y4 y3))) = ([] : List (List Str)))) := rfl
  rw [e]
  refine mn_filter (fun a b => part_iff) ?_ ?_ ?_
  · refine List.pairwise_map.mpr (List.Pairwise.imp (fun {a b} q => ?_) (srtG_asc (ddpG (lots.map fun y1 => (TL.mk y1)))))
    rw [← dle_tl]; exact q
  · refine List.pairwise_map.mpr (List.Pairwise.imp (fun {a b} q e => q ?_) ((srtG_perm _).nodup_iff.mpr (ddpG_nodup (lots.map fun y1 => (TL.mk y1)))))
    cases a; cases b
    exact congrArg TL.mk e
  · intro y
    rw [List.mem_map]
    constructor
    · rintro ⟨t, ht, rfl⟩
      rw [mem_srtG, mem_ddpG, List.mem_map] at ht
      obtain ⟨z, hz, rfl⟩ := ht
      exact hz
    · intro hy
      exact ⟨⟨y⟩, by rw [mem_srtG, mem_ddpG, List.mem_map]; exact ⟨y, hy, rfl⟩, rfl⟩
theorem law_part_iff {a b : List Str} : m__law_is_part a b = true ↔ Sub a b := part_iff
theorem law_least_spec {some : List (List Str)} (h : some.length ≤ 1000000) : ok__law_least some ∧ Mn some (m__law_least some) := by
  have hl : (srtG some).length ≤ 1000000 := by rw [srtG_len]; exact h
  obtain ⟨k1, k2⟩ := fold_pre (f := fun (s : List (List Str)) (y : List Str) => m__law_least_2 some s y) (okf := fun (s : List (List Str)) (y : List Str) => ok__law_least_2 some s y)
    (fun pre s => s.Sublist pre ∧ s.Nodup ∧ ∀ y, y ∈ s ↔ y ∈ pre) (srtG some) [] (srtG some) [] rfl ⟨List.Sublist.slnil, List.nodup_nil, fun y => Iff.rfl⟩ (by
    rintro pre x post s e ⟨hs, hn, hm⟩
    have hsl : s.length ≤ 1000000 := by
      have h1 := hs.length_le
      have h2 := congrArg List.length e
      rw [List.length_append] at h2
      omega
    by_cases hx : x ∈ s
    · refine ⟨⟨fun q => absurd q (by simp [hx]), fun _ => trivial⟩, ?_⟩
      have e2 : m__law_least_2 some s x = s := by
        show (if (!decide (x ∈ s)) = true then _ else m__law_least_6 some s x) = s
        rw [if_neg (by simp [hx])]; rfl
      rw [e2]
      refine ⟨hs.trans (List.sublist_append_left _ _), hn, fun y => ?_⟩
      rw [hm, List.mem_append]
      exact ⟨.inl, fun q => q.elim id fun q => by rw [List.mem_singleton.mp q]; exact (hm x).mp hx⟩
    · refine ⟨⟨fun _ => ⟨by rw [sizeLine_eq]; omega, trivial⟩, fun _ => trivial⟩, ?_⟩
      have e2 : m__law_least_2 some s x = s ++ [x] := by
        show (if (!decide (x ∈ s)) = true then m__law_least_3 some s x else _) = s ++ [x]
        rw [if_pos (by simp [hx])]; rfl
      rw [e2]
      refine ⟨hs.append (List.Sublist.refl _), ?_, fun y => ?_⟩
      · rw [List.nodup_append]
        exact ⟨hn, List.pairwise_singleton _ _, fun a ha b hb e => hx (by rw [List.mem_singleton.mp hb] at e; rw [← e]; exact ha)⟩
      · rw [List.mem_append, List.mem_append, hm])
  obtain ⟨h1, h2, h3⟩ := k2
  refine ⟨⟨k1, fun _ _ _ _ _ => trivial, trivial⟩, ?_⟩
  have e : m__law_least some = ((List.foldl (fun (s : List (List Str)) (y : List Str) => m__law_least_2 some s y) [] (srtG some)).filter fun y2 => decide (((List.foldl (fun (s : List (List Str)) (y : List Str) => m__law_least_2 some s y) [] (srtG some)).filter fun y3 => ((!decide (y3 = y2)) && (m__law_is_part y3 y2))) = ([] : List (List Str)))) := rfl
  rw [e]
  exact mn_filter (fun a b => law_part_iff) (List.Pairwise.sublist h1 (srtG_asc some)) h2 fun y => by rw [h3, mem_srtG]
end Pf

namespace Pf
open Dn.Rep (rep)
open PySem L2 Dn
section
variable {α β : Type}
def lotsR (k : Int) : List α → List (List α) → List (List α)
  | [], found => found
  | x :: l, found => lotsR k l ((found.filter fun z => decide (k < (z.length : Int) + ((l.length : Int) + 1))) ++ ((found.filter fun z => decide ((z.length : Int) < k)).map fun z => z ++ [x]))
theorem mem_lotsR {k : Int} : ∀ (l : List α) (found : List (List α)), (∀ z ∈ found, (z.length : Int) ≤ k ∧ k ≤ z.length + l.length) → ∀ w, w ∈ lotsR k l found ↔ ∃ z ∈ found, ∃ s, s.Sublist l ∧ w = z ++ s ∧ (w.length : Int) = k
  | [], found, h, w => by
    constructor
    · intro hw
      have := h w hw
      exact ⟨w, hw, [], List.Sublist.slnil, by rw [List.append_nil], by simp at this; omega⟩
    · rintro ⟨z, hz, s, hs, e, _⟩
      have : s = [] := List.sublist_nil.mp hs
      subst this
      rw [List.append_nil] at e
      show w ∈ found
      rw [e]; exact hz
  | x :: l, found, h, w => by
    have hn : ∀ z ∈ ((found.filter fun z => decide (k < (z.length : Int) + ((l.length : Int) + 1))) ++ ((found.filter fun z => decide ((z.length : Int) < k)).map fun z => z ++ [x])), (z.length : Int) ≤ k ∧ k ≤ z.length + l.length := by
      intro z hz
      rcases List.mem_append.mp hz with hz | hz
      · obtain ⟨h1, h2⟩ := List.mem_filter.mp hz
        have := h z h1
        simp only [decide_eq_true_eq] at h2
        omega
      · obtain ⟨y, hy, rfl⟩ := List.mem_map.mp hz
        obtain ⟨h1, h2⟩ := List.mem_filter.mp hy
        have h3 := h y h1
        simp only [decide_eq_true_eq] at h2
        rw [List.length_cons] at h3
        rw [List.length_append, List.length_singleton]
        omega
    show w ∈ lotsR k l _ ↔ _
    rw [mem_lotsR l _ hn w]
    constructor
    · rintro ⟨z, hz, s, hs, e, hk⟩
      rcases List.mem_append.mp hz with hz | hz
      · exact ⟨z, (List.mem_filter.mp hz).1, s, hs.cons x, e, hk⟩
      · obtain ⟨y, hy, rfl⟩ := List.mem_map.mp hz
        exact ⟨y, (List.mem_filter.mp hy).1, x :: s, hs.cons₂ x, by rw [e, List.append_assoc]; rfl, hk⟩
    · rintro ⟨z, hz, s, hs, e, hk⟩
      have hl : (w.length : Int) = z.length + s.length := by rw [e, List.length_append]; omega
      cases hs with
      | cons _ hs =>
        have := hs.length_le
        exact ⟨z, List.mem_append.mpr (.inl (List.mem_filter.mpr ⟨hz, by simp only [decide_eq_true_eq]; omega⟩)), s, hs, e, hk⟩
      | @cons_cons s' _ _ hs =>
        refine ⟨z ++ [x], List.mem_append.mpr (.inr (List.mem_map.mpr ⟨z, List.mem_filter.mpr ⟨hz, ?_⟩, rfl⟩)), s', hs, by rw [e, List.append_assoc]; rfl, hk⟩
        simp only [decide_eq_true_eq, List.length_cons] at *
        omega
theorem lotsR_map (f : α → β) {k : Int} : ∀ (l : List α) (found : List (List α)), lotsR k (l.map f) (found.map (List.map f)) = (lotsR k l found).map (List.map f)
  | [], found => rfl
  | x :: l, found => by
    show lotsR k (l.map f) _ = (lotsR k l _).map (List.map f)
    rw [← lotsR_map f l, List.map_append, List.length_map, List.filter_map, List.filter_map, List.map_map, List.map_map]
    congr 2
    · congr 1
      refine List.filter_congr fun z _ => ?_
      show decide (k < ((z.map f).length : Int) + _) = _
      rw [List.length_map]
    · have e : (found.filter ((fun z : List β => decide ((z.length : Int) < k)) ∘ List.map f)) = found.filter fun z => decide ((z.length : Int) < k) := List.filter_congr fun z _ => by
        show decide (((z.map f).length : Int) < k) = _
        rw [List.length_map]
      rw [e]
      refine List.map_congr_left fun z _ => ?_
      show z.map f ++ [f x] = (z ++ [x]).map f
      rw [List.map_append]
      rfl
theorem range_map [Inhabited α] (l : List α) : (List.range l.length).map (fun i => l.getD i default) = l := by
  apply List.ext_getElem
  · rw [List.length_map, List.length_range]
  · intro i h1 h2
    rw [List.getElem_map, List.getElem_range, List.getD_eq_getElem?_getD, List.getElem?_eq_getElem h2]
    rfl
theorem lotsR_range [Inhabited α] (k : Int) (l : List α) : lotsR k l [[]] = (lotsR k (List.range l.length) [[]]).map (List.map fun i => l.getD i default) := by
  rw [← lotsR_map, range_map]
  rfl
theorem lotsR_len [Inhabited α] (k : Int) (l : List α) : (lotsR k l [[]]).length = (lotsR k (List.range l.length) [[]]).length := by
  rw [lotsR_range k l, List.length_map]
theorem mem_lots {k : Int} {l w : List α} (h0 : 0 ≤ k) (h1 : k ≤ l.length) : w ∈ lotsR k l [[]] ↔ w.Sublist l ∧ (w.length : Int) = k := by
  rw [mem_lotsR l [[]] (by intro z hz; rw [List.mem_singleton.mp hz]; simp; omega)]
  constructor
  · rintro ⟨z, hz, s, hs, e, hk⟩
    rw [List.mem_singleton.mp hz] at e
    subst e
    exact ⟨hs, hk⟩
  · rintro ⟨hs, hk⟩
    exact ⟨[], by simp, w, hs, rfl, hk⟩
end
theorem few_lots : ∀ n : Nat, n < 8 → ∀ k : Nat, k < 9 → (lotsR (k : Int) (List.range n) [[]]).length ≤ 35 := by decide +kernel
theorem lots_11_9 : (lotsR 9 (List.range 11) [[]]).length = 55 ∧ (lotsR 9 (List.range 11) [[]]).Nodup := by decide +kernel
/-- enumerate from a place on -/
def enF (k : Nat) (row : List Str) : List (Int × Str) := ((List.range' k row.length).zip row).map fun y => (((y.1 : Nat) : Int), y.2)
theorem enF_cons (k : Nat) (x : Str) (l : List Str) : enF k (x :: l) = ((k : Int), x) :: enF (k + 1) l := by
  unfold enF
  rw [List.length_cons, List.range'_succ, List.zip_cons_cons, List.map_cons]
theorem enF_zero (row : List Str) : enumI row = enF 0 row := by
  unfold enumI enum enF
  rw [List.range_eq_range']
theorem size_fold {k : Int} {some : List Str} (hs : some.length ≤ 12) : ∀ (l : List Str) (i : Nat) (found : List (List Str)), i + l.length = some.length → found.length ≤ 2 ^ i → (∀ z ∈ found, z.length ≤ i) →
    foldOk (fun (s : List (List Str)) (y : Int × Str) => m_lots_of_size_2 some k s y.1 y.2) (fun (s : List (List Str)) (y : Int × Str) => ok_lots_of_size_2 some k s y.1 y.2) (enF i l) found ∧
    (enF i l).foldl (fun (s : List (List Str)) (y : Int × Str) => m_lots_of_size_2 some k s y.1 y.2) found = lotsR k l found
  | [], i, found, _, _, _ => ⟨trivial, rfl⟩
  | x :: l, i, found, hi, h1, h2 => by
    have hr : ((some.length : Int) - (i : Int)) = (l.length : Int) + 1 := by rw [List.length_cons] at hi; omega
    have e : m_lots_of_size_2 some k found (i : Int) x = (found.filter fun z => decide (k < (z.length : Int) + ((l.length : Int) + 1))) ++ ((found.filter fun z => decide ((z.length : Int) < k)).map fun z => z ++ [x]) := by
      show m_lots_of_size_3 some k found (i : Int) x ((some.length : Int) - (i : Int)) = _
      rw [hr]
      rfl
    have f1 := List.length_filter_le (fun z : List Str => decide (k < (z.length : Int) + ((l.length : Int) + 1))) found
    have f2 := List.length_filter_le (fun z : List Str => decide ((z.length : Int) < k)) found
    have hi' : i ≤ 12 := by rw [List.length_cons] at hi; omega
    have hp : 2 ^ i ≤ 2 ^ 12 := Nat.pow_le_pow_right (by decide) hi'
    have ok1 : ok_lots_of_size_2 some k found (i : Int) x := by
      show ok_lots_of_size_3 some k found (i : Int) x ((some.length : Int) - (i : Int))
      rw [hr]
      refine ⟨fun z hz _ => ?_, ?_, trivial⟩
      · have := h2 z hz
        rw [List.length_append, sizeLine_eq]
        simp
        omega
      · rw [List.length_map, sizeLine_eq]
        omega
    obtain ⟨q1, q2⟩ := size_fold hs l (i + 1) (m_lots_of_size_2 some k found (i : Int) x) (by rw [List.length_cons] at hi; omega) (by
      rw [e, List.length_append, List.length_map, Nat.pow_succ]
      omega) (by
      rw [e]
      intro z hz
      rcases List.mem_append.mp hz with hz | hz
      · have := h2 z (List.mem_filter.mp hz).1
        omega
      · obtain ⟨y, hy, rfl⟩ := List.mem_map.mp hz
        have := h2 y (List.mem_filter.mp hy).1
        rw [List.length_append, List.length_singleton]
        omega)
    rw [enF_cons]
    refine ⟨⟨ok1, q1⟩, ?_⟩
    rw [List.foldl_cons, q2, e]
    rfl
theorem size_spec {k : Int} {some : List Str} (hs : some.length ≤ 12) : ok_lots_of_size some k ∧ m_lots_of_size some k = lotsR k some [[]] := by
  obtain ⟨q1, q2⟩ := size_fold (k := k) hs some 0 [[]] (by omega) (by simp) (by simp)
  rw [← enF_zero] at q1 q2
  exact ⟨⟨q1, trivial⟩, q2⟩

theorem bt_len {m l : List Str} (hm : m.Nodup) (hl : l.Nodup) (sub : ∀ z ∈ l, z ∈ m) : (m.filter fun y => !decide (y ∈ l)).length + l.length = m.length := by
  have p : (l ++ m.filter fun y => !decide (y ∈ l)).Perm m := TX.perm_of_nodups (List.nodup_append.mpr ⟨hl, hm.filter _, fun a ha b hb e => by
    have := (List.mem_filter.mp hb).2
    rw [← e] at this
    simp [ha] at this⟩) hm fun z => by
      rw [List.mem_append, List.mem_filter]
      constructor
      · rintro (h | h)
        · exact sub z h
        · exact h.1
      · intro h
        by_cases q : z ∈ l
        · exact .inl q
        · exact .inr ⟨h, by simp [q]⟩
  have := p.length_eq
  rw [List.length_append] at this
  omega
theorem asc_filter {l m : List Str} (a : Asc l) (nl : l.Nodup) (b : Asc m) (nm : m.Nodup) (sub : ∀ z ∈ l, z ∈ m) : l = m.filter fun y => decide (y ∈ l) :=
  asc_unique (TX.perm_of_nodups nl (nm.filter _) fun z => by
    rw [List.mem_filter, decide_eq_true_iff]
    exact ⟨fun h => ⟨sub z h, h⟩, fun h => h.2⟩) a (List.Pairwise.sublist List.filter_sublist b)
theorem mem_allF : ∀ (l pre : List Str) (s : List (List Str)), (∀ w, w ∈ s ↔ w.Sublist pre) → ∀ w, w ∈ l.foldl (fun (s : List (List Str)) (y : Str) => s ++ s.map fun z => z ++ [y]) s ↔ w.Sublist (pre ++ l)
  | [], pre, s, h, w => by rw [List.append_nil]; exact h w
  | x :: l, pre, s, h, w => by
    rw [List.foldl_cons, mem_allF l (pre ++ [x]) _ (fun w => ?_) w, List.append_assoc]
    · rfl
    · rw [List.mem_append, List.mem_map, h, List.sublist_append_iff]
      constructor
      · rintro (q | ⟨z, hz, rfl⟩)
        · exact ⟨w, [], by rw [List.append_nil], q, List.nil_sublist _⟩
        · exact ⟨z, [x], rfl, (h z).mp hz, List.Sublist.refl _⟩
      · rintro ⟨a, b, rfl, ha, hb⟩
        cases hb with
        | cons _ hb => rw [List.sublist_nil.mp hb, List.append_nil]; exact .inl ha
        | cons_cons _ hb => rw [List.sublist_nil.mp hb]; exact .inr ⟨a, (h a).mpr ha, rfl⟩
theorem fields_spec {names : List Str} (hl : names.length ≤ 12) : ok__law_fields names ∧ (∀ f ∈ m__law_fields names, f.Sublist names ∧ f ≠ []) ∧ (m__law_fields names).length ≤ 5000 ∧ ∀ f, f ∈ m__law_fields names ++ [[]] ↔ f.Sublist names := by
  have key := fold_pre (f := fun (s : List (List Str)) (y : Str) => m__law_fields_2 names s y) (okf := fun (s : List (List Str)) (y : Str) => ok__law_fields_2 names s y) (fun pre s => s.length = 2 ^ pre.length ∧ (∀ y ∈ s, y.Sublist pre) ∧ (∀ y ∈ s.drop 1, y ≠ []) ∧ s.take 1 = [[]]) names [] _ ([([] : List Str)] : List (List Str)) rfl ⟨rfl, by simp, by simp, rfl⟩ (by
    rintro pre x post s e ⟨h1, h2, h3, h4⟩
    have hp : pre.length ≤ 12 := by rw [e] at hl; simp at hl; omega
    have hpow : 2 ^ pre.length ≤ 2 ^ 12 := Nat.pow_le_pow_right (by decide) hp
    have pos : 0 < 2 ^ pre.length := Nat.pow_pos (by decide)
    have hs : 1 ≤ s.length := by omega
    refine ⟨⟨fun y hy => ?_, ?_, trivial⟩, ?_, ?_, ?_, ?_⟩
    · have := (h2 y hy).length_le
      rw [sizeLine_eq]; simp; omega
    · rw [List.length_map, sizeLine_eq, h1]; omega
    · show (s ++ s.map fun y => y ++ [x]).length = _
      rw [List.length_append, List.length_map, h1, List.length_append, List.length_singleton, Nat.pow_succ]; omega
    · intro y hy
      rcases List.mem_append.mp (show y ∈ s ++ s.map fun y => y ++ [x] from hy) with h | h
      · exact (h2 y h).trans (List.sublist_append_left _ _)
      · obtain ⟨z, hz, rfl⟩ := List.mem_map.mp h
        exact (h2 z hz).append (List.Sublist.refl _)
    · intro y hy
      rw [show m__law_fields_2 names s x = s ++ s.map fun y => y ++ [x] from rfl, List.drop_append_of_le_length hs] at hy
      rcases List.mem_append.mp hy with h | h
      · exact h3 y h
      · obtain ⟨z, hz, rfl⟩ := List.mem_map.mp h
        simp
    · rw [show m__law_fields_2 names s x = s ++ s.map fun y => y ++ [x] from rfl, List.take_append_of_le_length hs]
      exact h4)
  obtain ⟨k1, k2, k3, k4, k5⟩ := key
  have e : m__law_fields names = (List.foldl (fun (s : List (List Str)) (y : Str) => m__law_fields_2 names s y) ([([] : List Str)] : List (List Str)) names).drop 1 := cut_from _ (by omega)
  refine ⟨⟨k1, trivial⟩, fun f hf => ?_, ?_, fun f => ?_⟩
  · rw [e] at hf
    exact ⟨k3 f (List.mem_of_mem_drop hf), k4 f hf⟩
  · rw [e, List.length_drop, k2]
    have : 2 ^ names.length ≤ 2 ^ 12 := Nat.pow_le_pow_right (by decide) hl
    omega
  · have q := mem_allF names [] [[]] (fun w => by rw [List.mem_singleton, List.sublist_nil]) f
    rw [List.nil_append] at q
    rw [← q, e]
    have z := List.take_append_drop 1 (List.foldl (fun (s : List (List Str)) (y : Str) => m__law_fields_2 names s y) ([([] : List Str)] : List (List Str)) names)
    rw [k5] at z
    have z' : List.foldl (fun (s : List (List Str)) (y : Str) => s ++ s.map fun z => z ++ [y]) ([([] : List Str)] : List (List Str)) names = [[]] ++ (List.foldl (fun (s : List (List Str)) (y : Str) => m__law_fields_2 names s y) ([([] : List Str)] : List (List Str)) names).drop 1 := z.symm
    rw [z', List.mem_append, List.mem_append]
    exact ⟨Or.symm, Or.symm⟩

theorem are_names_iff {l : List Str} (h : ∀ z ∈ l, Nm z) (nd : l.Nodup) : m_are_names l = true := by
  show (if ((!true) || (!decide ((l.filter fun y => !(m_is_name y)) = []))) = true then _ else m_are_names_2 l) = true
  have e : (l.filter fun y => !(m_is_name y)) = [] := List.filter_eq_nil_iff.mpr fun z hz => by rw [nm_ok (h z hz)]; decide
  rw [e, if_neg (by decide)]
  show decide (((ddp l).length : Int) = (l.length : Int)) = true
  rw [ddp_id nd]
  simp
theorem are_names_ok {l : List Str} (h : l.length < 64) : ok_are_names l := ⟨fun _ z _ => is_name_ok z, fun _ => trivial, fun _ => ⟨h, trivial⟩⟩
theorem entries_ok {l : List Str} (h : ∀ z ∈ l, Nm z) (nd : l.Nodup) (hl : l.length < 64) (ne : l ≠ []) : ok_check_entries l := by
  have e : m_are_entries l = true := by
    show ((m_are_names l) && (!decide (l = []))) = true
    rw [are_names_iff h nd]
    simp [ne]
  exact ⟨⟨are_names_ok hl, trivial⟩, by rw [e]; rfl, trivial⟩
theorem field_okM {field mixed : List Str} (h : ∀ z ∈ mixed, Nm z) (hl : mixed.length < 64) (a : Asc field) (n : field.Nodup) (ne : field ≠ []) (sub : ∀ z ∈ field, z ∈ mixed) (h64 : field.length < 64) : ok_check_field field mixed := by
  have an := are_names_iff (fun z hz => h z (sub z hz)) n
  have e1 : m_is_field field mixed = true := by
    show ((((m_are_names field) && decide (field = srt field)) && decide ((field.filter fun y => !decide (y ∈ mixed)) = [])) && (!decide (field = []))) = true
    rw [an, srt_id a]
    have e : (field.filter fun y => !decide (y ∈ mixed)) = [] := List.filter_eq_nil_iff.mpr fun z hz => by simp [sub z hz]
    rw [e]
    simp [ne]
  refine ⟨⟨⟨⟨are_names_ok h64, fun _ => h64, trivial⟩, trivial⟩, trivial⟩, ?_, trivial⟩
  rw [e1]; rfl
theorem entry_ok {e : Str} {l : List Str} (h : Nm e) (he : e ∈ l) : ok_check_entry e l := by
  refine ⟨⟨is_name_ok e, trivial⟩, ?_, trivial⟩
  show (!((m_is_name e) && decide (e ∈ l))) = false
  rw [nm_ok h]
  simp [he]
end Pf

namespace Pf
open Dn.Rep (rep)
open PySem L2 Dn
abbrev Stw := Int × List Str
/-- who stands ahead -/
def ahd (row : List Str) (e : Str) : List Str := row.take (row.findIdx fun y => decide (y = e))
theorem ahd_split : ∀ {row : List Str} {e : Str}, e ∈ row → ∃ r, row = ahd row e ++ e :: r ∧ e ∉ ahd row e
  | x :: l, e, h => by
    unfold ahd
    rw [List.findIdx_cons]
    by_cases q : x = e
    · subst q
      rw [decide_eq_true rfl]
      exact ⟨l, rfl, by simp⟩
    · rw [decide_eq_false q]
      obtain ⟨r, h1, h2⟩ := ahd_split (row := l) ((List.mem_cons.mp h).resolve_left fun z => q z.symm)
      refine ⟨r, ?_, ?_⟩
      · show x :: l = (x :: l).take ((l.findIdx fun y => decide (y = e)) + 1) ++ e :: r
        rw [List.take_succ_cons, List.cons_append]
        exact congrArg (x :: ·) h1
      · show e ∉ (x :: l).take ((l.findIdx fun y => decide (y = e)) + 1)
        rw [List.take_succ_cons]
        exact fun z => (List.mem_cons.mp z).elim (fun z => q z.symm) h2
theorem ahd_cut (row : List Str) (e : Str) : cut row none (some (lidx row e)) = ahd row e := by
  unfold lidx ahd
  rw [cut_to _ (by omega)]
  rfl
theorem ahd_sub (row : List Str) (e : Str) : (ahd row e).Sublist row := List.take_sublist _ _
/-- the lots of one steward -/
def byL (y : Stw) (e : Str) : List (List Str) := if ((ahd y.2 e).length : Int) < y.1 then [[]] else (lotsR (((ahd y.2 e).length : Int) - y.1 + 1) (ahd y.2 e) [[]]).map srt
theorem by_spec {y : Stw} {e : Str} (he : e ∈ y.2) (hl : (ahd y.2 e).length ≤ 12) (hm : 1 ≤ y.1) : ok_lots_by y e ∧ m_lots_by y e = byL y e := by
  obtain ⟨m, row⟩ := y
  change (ahd row e).length ≤ 12 at hl
  change 1 ≤ m at hm
  obtain ⟨s1, s2⟩ := size_spec (k := ((ahd row e).length : Int) - m + 1) hl
  have hc := ahd_cut row e
  constructor
  · refine ⟨he, ?_⟩
    show ok_lots_by_2 (m, row) e (cut row none (some (lidx row e))) m row
    rw [hc]
    refine ⟨fun _ => trivial, fun h => ⟨s1, ?_, trivial⟩⟩
    rw [decide_eq_false_iff_not] at h
    rw [s2]
    intro z hz
    obtain ⟨z1, _⟩ := (mem_lots (by omega) (by omega)).mp hz
    have := z1.length_le
    omega
  · show m_lots_by_2 (m, row) e (cut row none (some (lidx row e))) m row = _
    rw [hc]
    unfold byL
    show (if decide (((ahd row e).length : Int) < m) = true then ([([] : List Str)] : List (List Str)) else (m_lots_of_size (ahd row e) (((ahd row e).length : Int) - m + 1)).map fun y2 => srt y2) = _
    rw [s2]
    by_cases q : ((ahd row e).length : Int) < m
    · rw [if_pos (decide_eq_true q), if_pos q]
    · rw [if_neg (by simp [q]), if_neg q]
theorem mem_by {y : Stw} {e : Str} {L : List Str} (hn : y.2.Nodup) (hm : 1 ≤ y.1) : L ∈ byL y e ↔ (((ahd y.2 e).length : Int) < y.1 ∧ L = []) ∨ (y.1 ≤ (ahd y.2 e).length ∧ Asc L ∧ L.Nodup ∧ Sub L (ahd y.2 e) ∧ (L.length : Int) = (ahd y.2 e).length - y.1 + 1) := by
  have na := hn.sublist (ahd_sub y.2 e)
  unfold byL
  by_cases q : ((ahd y.2 e).length : Int) < y.1
  · rw [if_pos q, List.mem_singleton]
    constructor
    · exact fun h => .inl ⟨q, h⟩
    · rintro (h | h)
      · exact h.2
      · omega
  · rw [if_neg q, List.mem_map]
    constructor
    · rintro ⟨z, hz, rfl⟩
      obtain ⟨z1, z2⟩ := (mem_lots (by omega) (by omega)).mp hz
      exact .inr ⟨by omega, srt_asc z, srt_nodup.mpr (na.sublist z1), fun x hx => z1.subset (mem_srt.mp hx), by rw [srt_len]; exact z2⟩
    · rintro (h | ⟨h1, h2, h3, h4, h5⟩)
      · exact absurd h.1 q
      · have p : ((ahd y.2 e).filter fun z => decide (z ∈ L)).Perm L := TX.perm_of_nodups (na.filter _) h3 fun z => by
          rw [List.mem_filter, decide_eq_true_iff]
          exact ⟨fun h => h.2, fun h => ⟨h4 z h, h⟩⟩
        refine ⟨(ahd y.2 e).filter fun z => decide (z ∈ L), (mem_lots (by omega) (by omega)).mpr ⟨List.filter_sublist, by rw [p.length_eq]; exact h5⟩, ?_⟩
        rw [srt_congr p, srt_id h2]
theorem by_len {y : Stw} {e : Str} (hl : (ahd y.2 e).length ≤ 7) (hm : 1 ≤ y.1) : (byL y e).length ≤ 35 := by
  unfold byL
  split
  · simp
  · rename_i q
    rw [List.length_map, lotsR_len]
    have h := few_lots (ahd y.2 e).length (by omega) (((ahd y.2 e).length : Int) - y.1 + 1).toNat (by omega)
    rw [show (((((ahd y.2 e).length : Int) - y.1 + 1).toNat : Nat) : Int) = ((ahd y.2 e).length : Int) - y.1 + 1 by omega] at h
    exact h
def allL (sts : List Stw) (e : Str) : List (List Str) := (sts.map fun y => byL y e).flatten
theorem for_spec {sts : List Stw} {e : Str} (h : ∀ y ∈ sts, e ∈ y.2 ∧ (ahd y.2 e).length ≤ 12 ∧ 1 ≤ y.1) (hl : (allL sts e).length < 300) : ok_lots_for sts e ∧ Mn (allL sts e) (m_lots_for sts e) := by
  obtain ⟨k1, k2⟩ := fold_pre (f := fun (s : List (List Str)) (y : Stw) => m_lots_for_2 sts e s y) (okf := fun (s : List (List Str)) (y : Stw) => ok_lots_for_2 sts e s y) (fun pre s => s = allL pre e) sts [] sts [] rfl rfl (by
    rintro pre x post s hs rfl
    obtain ⟨h1, h2, h3⟩ := h x (by rw [hs]; simp)
    obtain ⟨b1, b2⟩ := by_spec h1 h2 h3
    have e2 : allL (pre ++ [x]) e = allL pre e ++ byL x e := by
      unfold allL
      rw [List.map_append, List.flatten_append]
      simp
    have e3 : allL sts e = allL pre e ++ byL x e ++ allL post e := by
      rw [hs]
      unfold allL
      rw [List.map_append, List.flatten_append, List.map_cons, List.flatten_cons, List.append_assoc]
    rw [e3, List.length_append, List.length_append] at hl
    refine ⟨⟨b1, by rw [b2, sizeLine_eq]; omega, trivial⟩, ?_⟩
    show allL pre e ++ m_lots_by x e = _
    rw [b2, e2])
  obtain ⟨l1, l2⟩ := least_spec hl
  have em : m_lots_for sts e = m_least_of (List.foldl (fun (s : List (List Str)) (y : Stw) => m_lots_for_2 sts e s y) [] sts) := rfl
  refine ⟨⟨k1, ?_, trivial⟩, ?_⟩
  · rw [k2]; exact l1
  · rw [em, k2]; exact l2
def nmd (sts : List Stw) (F : List Str) : List Str := (sts.map fun y => (y.2.filter fun z => decide (z ∈ F)).take y.1.toNat).flatten
theorem nmd_fold {sts : List Stw} {F : List Str} (h0 : ∀ y ∈ sts, 1 ≤ y.1 ∧ y.2.length ≤ 12) (hs : sts.length ≤ 8) :
    foldOk (fun (s : List Str) (y : Stw) => m__law_named_by_2 sts F s y.1 y.2) (fun (s : List Str) (y : Stw) => ok__law_named_by_2 sts F s y.1 y.2) sts [] ∧ sts.foldl (fun (s : List Str) (y : Stw) => m__law_named_by_2 sts F s y.1 y.2) [] = nmd sts F ∧ (nmd sts F).length ≤ 96 := by
  obtain ⟨k1, k2, k3⟩ := fold_pre (f := fun (s : List Str) (y : Stw) => m__law_named_by_2 sts F s y.1 y.2) (okf := fun (s : List Str) (y : Stw) => ok__law_named_by_2 sts F s y.1 y.2) (fun pre s => s = nmd pre F ∧ s.length ≤ 12 * pre.length) sts [] sts [] rfl ⟨rfl, by simp⟩ (by
    rintro pre x post s hs' ⟨rfl, hb⟩
    obtain ⟨h1, h2⟩ := h0 x (by rw [hs']; simp)
    have hp : pre.length ≤ 8 := by
      have := congrArg List.length hs'
      rw [List.length_append] at this
      omega
    have ec : cut (x.2.filter fun y1 => decide (y1 ∈ F)) none (some x.1) = (x.2.filter fun z => decide (z ∈ F)).take x.1.toNat := cut_to _ (by omega)
    have lc : ((x.2.filter fun z => decide (z ∈ F)).take x.1.toNat).length ≤ 12 := by
      have a1 := List.length_take_le x.1.toNat (x.2.filter fun z => decide (z ∈ F))
      have a3 := List.length_take_le' x.1.toNat (x.2.filter fun z => decide (z ∈ F))
      have a2 := List.length_filter_le (fun z => decide (z ∈ F)) x.2
      omega
    have e2 : nmd (pre ++ [x]) F = nmd pre F ++ (x.2.filter fun z => decide (z ∈ F)).take x.1.toNat := by
      unfold nmd
      rw [List.map_append, List.flatten_append]
      simp
    refine ⟨⟨by rw [ec, sizeLine_eq]; omega, trivial⟩, ?_, ?_⟩
    · show nmd pre F ++ cut (x.2.filter fun y1 => decide (y1 ∈ F)) none (some x.1) = _
      rw [ec, e2]
    · show (nmd pre F ++ cut (x.2.filter fun y1 => decide (y1 ∈ F)) none (some x.1)).length ≤ _
      rw [ec, List.length_append, List.length_append, List.length_singleton]
      omega)
  exact ⟨k1, k2, by rw [k2] at k3; omega⟩
theorem named_spec {sts : List Stw} {F names : List Str} (h0 : ∀ y ∈ sts, 1 ≤ y.1 ∧ y.2.Perm names) (hn : names.Nodup) (n12 : names.length ≤ 12) (hs : sts.length ≤ 8) :
    ok__law_named_by sts F ∧ m__law_named_by sts F = srt (ddp (nmd sts F)) ∧ ∀ z, z ∈ m__law_named_by sts F ↔ ∃ y ∈ sts, z ∈ (y.2.filter fun z => decide (z ∈ F)).take y.1.toNat := by
  obtain ⟨k1, k2, k3⟩ := nmd_fold (F := F) (fun y hy => ⟨(h0 y hy).1, by rw [(h0 y hy).2.length_eq]; exact n12⟩) hs
  have mem : ∀ z, z ∈ nmd sts F ↔ ∃ y ∈ sts, z ∈ (y.2.filter fun z => decide (z ∈ F)).take y.1.toNat := fun z => by
    unfold nmd
    rw [List.mem_flatten]
    constructor
    · rintro ⟨l, hl, hz⟩
      obtain ⟨y, hy, rfl⟩ := List.mem_map.mp hl
      exact ⟨y, hy, hz⟩
    · rintro ⟨y, hy, hz⟩
      exact ⟨_, List.mem_map.mpr ⟨y, hy, rfl⟩, hz⟩
  have e : m__law_named_by sts F = srt (ddp (nmd sts F)) := by
    rw [← k2]; rfl
  refine ⟨⟨k1, ?_⟩, e, fun z => by rw [e, mem_srt, mem_ddp, mem]⟩
  show ok__law_named_by_4 sts F (List.foldl (fun (s : List Str) (y : Stw) => m__law_named_by_2 sts F s y.1 y.2) [] sts)
  rw [k2]
  have := bt_len hn (ddp_nodup (nmd sts F)) fun z hz => by
    obtain ⟨y, hy, hz⟩ := (mem z).mp (mem_ddp.mp hz)
    exact (h0 y hy).2.mem_iff.mp (List.mem_filter.mp (List.mem_of_mem_take hz)).1
  exact ⟨⟨by omega, by omega⟩, trivial⟩
/-- named, by who stands ahead in the field -/
theorem named_iff {row F : List Str} {e : Str} {m : Nat} (hn : row.Nodup) (he : e ∈ row) (hF : e ∈ F) : e ∈ (row.filter fun z => decide (z ∈ F)).take m ↔ ((ahd row e).filter fun z => decide (z ∈ F)).length < m := by
  obtain ⟨r, h1, h2⟩ := ahd_split he
  have e1 : (row.filter fun z => decide (z ∈ F)) = ((ahd row e).filter fun z => decide (z ∈ F)) ++ e :: (r.filter fun z => decide (z ∈ F)) := by
    conv => lhs; rw [h1]
    rw [List.filter_append, List.filter_cons_of_pos (by simp [hF])]
  rw [e1]
  generalize hA : ((ahd row e).filter fun z => decide (z ∈ F)) = A
  have hA' : e ∉ A := fun z => h2 (by rw [← hA] at z; exact (List.mem_filter.mp z).1)
  constructor
  · intro h
    rcases Nat.lt_or_ge A.length m with q | q
    · exact q
    · rw [List.take_append_of_le_length q] at h
      exact absurd (List.mem_of_mem_take h) hA'
  · intro h
    rw [List.take_append, List.mem_append]
    right
    obtain ⟨t, ht⟩ : ∃ t, m - A.length = t + 1 := ⟨m - A.length - 1, by omega⟩
    rw [ht, List.take_succ_cons]
    exact List.mem_cons_self
end Pf

namespace Pf
open Dn.Rep (rep)
open PySem L2 Dn
structure GS (sts : List Stw) (names : List Str) : Prop where
  gn : GN names
  n12 : names.length ≤ 12
  st : ∀ y ∈ sts, 1 ≤ y.1 ∧ y.2.Perm names
  ne : sts ≠ []
  s8 : sts.length ≤ 8
section
variable {sts : List Stw} {names mixed : List Str} {e : Str}
theorem stewards_ok (g : GS sts names) (hm : mixed.Perm names) : ok_check_stewards mixed sts := by
  have ml : mixed.length < 64 := by rw [hm.length_eq]; have := g.n12; omega
  have key : ∀ y ∈ sts, ok_is_steward y mixed ∧ m_is_steward y mixed = true := fun y hy => by
    obtain ⟨h1, h2⟩ := g.st y hy
    have hl : y.2.length < 64 := by rw [h2.length_eq]; have := g.n12; omega
    have c1 : ((!true) || ((!decide ((2 : Int) = (2 : Int))) || ((!(m_is_count y.1)) || decide (y.1 < (1 : Int))))) = false := by
      have : m_is_count y.1 = true := by
        show ((true && (!false)) && decide ((0 : Int) ≤ y.1)) = true
        simp; omega
      rw [this]
      simp; omega
    have c2 : ((!true) || (!decide ((y.2.filter fun y5 => (!true)) = ([] : List Str)))) = false := by simp
    refine ⟨⟨fun _ _ => ⟨trivial, trivial⟩, fun q => trivial, fun _ => ⟨fun q => trivial, fun _ => ⟨hl, ml, trivial⟩⟩⟩, ?_⟩
    show (if _ = true then m_is_steward_1 y mixed else (if _ = true then m_is_steward_3 y mixed else decide (srt y.2 = srt mixed))) = true
    rw [c1, if_neg (by decide), c2, if_neg (by decide)]
    rw [decide_eq_true_iff]
    exact srt_congr (h2.trans hm.symm)
  refine ⟨fun _ _ y hy => (key y hy).1, ?_, trivial⟩
  have e1 : (sts.filter fun y1 => (!(m_is_steward y1 mixed))) = [] := List.filter_eq_nil_iff.mpr fun y hy => by rw [(key y hy).2]; decide
  rw [e1, decide_eq_false g.ne]
  rfl
theorem GS.row (g : GS sts names) {y : Stw} (hy : y ∈ sts) : y.2.Nodup ∧ (∀ z, z ∈ y.2 ↔ z ∈ names) ∧ y.2.length ≤ 12 := by
  obtain ⟨h1, h2⟩ := g.st y hy
  exact ⟨h2.nodup_iff.mpr g.gn.nd, fun z => h2.mem_iff, by rw [h2.length_eq]; exact g.n12⟩
theorem GS.ah (g : GS sts names) {y : Stw} (hy : y ∈ sts) (he : e ∈ names) : e ∈ y.2 ∧ (ahd y.2 e).length ≤ 12 ∧ 1 ≤ y.1 ∧ (ahd y.2 e).length + 1 ≤ names.length := by
  obtain ⟨h1, h2, h3⟩ := g.row hy
  have he' := (h2 e).mpr he
  have := (ahd_sub y.2 e).length_le
  obtain ⟨r, q, _⟩ := ahd_split he'
  have ql := congrArg List.length q
  rw [List.length_append, List.length_cons, (g.st y hy).2.length_eq] at ql
  exact ⟨he', by omega, (g.st y hy).1, by omega⟩
theorem allL_len (g : GS sts names) (he : e ∈ names) (n8 : names.length ≤ 8) : (allL sts e).length < 300 := by
  have key : ∀ l : List Stw, (∀ y ∈ l, y ∈ sts) → (allL l e).length ≤ 35 * l.length := by
    intro l
    induction l with
    | nil => intro _; exact Nat.le_refl _
    | cons y l ih =>
      intro h
      have := ih fun z hz => h z (List.mem_cons_of_mem _ hz)
      obtain ⟨a1, a2, a3, a4⟩ := g.ah (h y List.mem_cons_self) he
      have b := by_len (y := y) (e := e) (by omega) a3
      show ((byL y e) ++ (allL l e)).length ≤ _
      rw [List.length_append, List.length_cons]
      omega
  have := key sts fun _ h => h
  have := g.s8
  omega
theorem several_spec (g : GS sts names) (hm : mixed.Perm names) (he : e ∈ names) (hl : (allL sts e).length < 300) : ok_several_lots mixed sts e ∧ Mn (allL sts e) (m_several_lots mixed sts e) := by
  have mnm : ∀ z ∈ mixed, Nm z := fun z hz => g.gn.nm z (hm.mem_iff.mp hz)
  have ml : mixed.length < 64 := by rw [hm.length_eq]; have := g.n12; omega
  have hem := hm.mem_iff.mpr he
  obtain ⟨k1, k2⟩ := for_spec (sts := sts) (e := e) (fun y hy => by
    obtain ⟨a1, a2, a3, _⟩ := g.ah hy he
    exact ⟨a1, a2, a3⟩) hl
  exact ⟨⟨entries_ok mnm (hm.nodup_iff.mpr g.gn.nd) ml (List.ne_nil_of_mem hem), stewards_ok g hm, entry_ok (mnm e hem) hem, k1, trivial⟩, k2⟩
theorem cards_spec (g : GS sts names) (hm : mixed.Perm names) {F : List Str} (hs : F.Sublist names) (ne : F ≠ []) : ok_several_cards mixed sts F ∧ m_several_cards mixed sts F = m__law_named_by sts F ∧ ok__law_named_by sts F := by
  have mnm : ∀ z ∈ mixed, Nm z := fun z hz => g.gn.nm z (hm.mem_iff.mp hz)
  have ml : mixed.length < 64 := by rw [hm.length_eq]; have := g.n12; omega
  obtain ⟨k1, k2, k3⟩ := named_spec (F := F) g.st g.gn.nd g.n12 g.s8
  refine ⟨⟨?_, stewards_ok g hm, ?_, k1.1, k1.2⟩, rfl, k1⟩
  · refine entries_ok mnm (hm.nodup_iff.mpr g.gn.nd) ml fun q => ?_
    rw [q] at hm
    have := List.Perm.length_eq hm
    have h2 := hs.length_le
    have h3 : F.length ≠ 0 := fun z => ne (List.eq_nil_of_length_eq_zero z)
    simp at this
    omega
  · have := hs.length_le
    have := g.n12
    exact field_okM mnm ml (List.Pairwise.sublist hs g.gn.asc) (g.gn.nd.sublist hs) ne (fun z hz => hm.mem_iff.mpr (hs.subset hz)) (by omega)
/-- the law's own look at all fields -/
def lawW (sts : List Stw) (names : List Str) (e : Str) : List (List Str) := ((m__law_fields (names.filter fun y1 => (!decide (y1 = e))) ++ [[]]).filter fun F => decide (e ∈ m__law_named_by sts (srt (F ++ [e])))).map fun F => (names.filter fun y1 => (!decide (y1 = e))).filter fun y3 => (!decide (y3 ∈ F))
theorem law_fold (g : GS sts names) (he : e ∈ names) : ok__law_several_lots names sts e ∧ m__law_several_lots names sts e = m__law_least (lawW sts names e) ∧ (lawW sts names e).length ≤ 5001 := by
  have ol : (names.filter fun y1 => (!decide (y1 = e))).length ≤ 12 := Nat.le_trans (List.length_filter_le _ _) g.n12
  obtain ⟨f1, f2, f3, f4⟩ := fields_spec ol
  obtain ⟨k1, k2, k3⟩ := fold_pre (f := fun (s : List (List Str)) (y : List Str) => m__law_several_lots_2 names sts e y (names.filter fun y1 => (!decide (y1 = e))) s) (okf := fun (s : List (List Str)) (y : List Str) => ok__law_several_lots_2 names sts e y (names.filter fun y1 => (!decide (y1 = e))) s)
    (fun pre s => s = (pre.filter fun F => decide (e ∈ m__law_named_by sts (srt (F ++ [e])))).map (fun F => (names.filter fun y1 => (!decide (y1 = e))).filter fun y3 => (!decide (y3 ∈ F))) ∧ s.length ≤ pre.length)
    (m__law_fields (names.filter fun y1 => (!decide (y1 = e))) ++ [[]]) [] (m__law_fields (names.filter fun y1 => (!decide (y1 = e))) ++ [[]]) [] rfl ⟨rfl, Nat.le_refl _⟩ (by
    rintro pre x post s hs ⟨rfl, hb⟩
    have hx : x.Sublist (names.filter fun y1 => (!decide (y1 = e))) := (f4 x).mp (by rw [hs]; simp)
    have xl := hx.length_le
    have hp : pre.length ≤ 5001 := by
      have := congrArg List.length hs
      rw [List.length_append, List.length_append, List.length_singleton] at this
      omega
    obtain ⟨n1, n2, n3⟩ := named_spec (F := srt (x ++ [e])) g.st g.gn.nd g.n12 g.s8
    by_cases q : e ∈ m__law_named_by sts (srt (x ++ [e]))
    · refine ⟨⟨by rw [sizeLine_eq]; simp; omega, by rw [List.length_append, List.length_singleton]; omega, n1, fun _ => ⟨by rw [sizeLine_eq]; omega, trivial⟩, fun _ => trivial⟩, ?_, ?_⟩
      · show (if decide (e ∈ m__law_named_by sts (srt (x ++ [e]))) = true then m__law_several_lots_3 names sts e x _ _ else _) = _
        have ef : ([x].filter fun F => decide (e ∈ m__law_named_by sts (srt (F ++ [e])))) = [x] := by simp [q]
        rw [if_pos (decide_eq_true q), List.filter_append, List.map_append, ef]
        rfl
      · show (if decide (e ∈ m__law_named_by sts (srt (x ++ [e]))) = true then m__law_several_lots_3 names sts e x _ _ else _).length ≤ _
        rw [if_pos (decide_eq_true q), List.length_append, List.length_singleton]
        show (_ ++ [_]).length ≤ _
        rw [List.length_append, List.length_singleton]
        omega
    · refine ⟨⟨by rw [sizeLine_eq]; simp; omega, by rw [List.length_append, List.length_singleton]; omega, n1, fun _ => ⟨by rw [sizeLine_eq]; omega, trivial⟩, fun _ => trivial⟩, ?_, ?_⟩
      · show (if decide (e ∈ m__law_named_by sts (srt (x ++ [e]))) = true then _ else m__law_several_lots_6 names sts e x _ _) = _
        have ef : ([x].filter fun F => decide (e ∈ m__law_named_by sts (srt (F ++ [e])))) = [] := by simp [q]
        rw [if_neg (by simp [q]), List.filter_append, ef, List.append_nil]
        rfl
      · show (if decide (e ∈ m__law_named_by sts (srt (x ++ [e]))) = true then _ else m__law_several_lots_6 names sts e x _ _).length ≤ _
        rw [if_neg (by simp [q]), List.length_append, List.length_singleton]
        exact Nat.le_trans hb (Nat.le_succ _))
  have hW : (lawW sts names e).length ≤ 5001 := by
    unfold lawW
    rw [List.length_map]
    refine Nat.le_trans (List.length_filter_le _ _) ?_
    rw [List.length_append, List.length_singleton]
    omega
  have em : m__law_several_lots names sts e = m__law_least (List.foldl (fun (s : List (List Str)) (y : List Str) => m__law_several_lots_2 names sts e y (names.filter fun y1 => (!decide (y1 = e))) s) [] (m__law_fields (names.filter fun y1 => (!decide (y1 = e))) ++ [[]])) := rfl
  refine ⟨⟨f1, by rw [sizeLine_eq]; simp; omega, k1, ?_, trivial⟩, by rw [em, k2]; rfl, hW⟩
  rw [k2]
  exact (law_least_spec (some := lawW sts names e) (by omega)).1
theorem mem_lawW (g : GS sts names) (he : e ∈ names) {L : List Str} : L ∈ lawW sts names e ↔ ∃ F : List Str, F.Sublist (names.filter fun y1 => (!decide (y1 = e))) ∧ (∃ y ∈ sts, (((ahd y.2 e).filter fun z => decide (z ∈ F)).length : Int) < y.1) ∧ L = (names.filter fun y1 => (!decide (y1 = e))).filter fun y3 => (!decide (y3 ∈ F)) := by
  have ol : (names.filter fun y1 => (!decide (y1 = e))).length ≤ 12 := Nat.le_trans (List.length_filter_le _ _) g.n12
  obtain ⟨f1, f2, f3, f4⟩ := fields_spec ol
  have cond : ∀ F, (e ∈ m__law_named_by sts (srt (F ++ [e]))) ↔ ∃ y ∈ sts, (((ahd y.2 e).filter fun z => decide (z ∈ F)).length : Int) < y.1 := fun F => by
    obtain ⟨n1, n2, n3⟩ := named_spec (F := srt (F ++ [e])) g.st g.gn.nd g.n12 g.s8
    rw [n3]
    refine exists_congr fun y => and_congr_right fun hy => ?_
    obtain ⟨r1, r2, r3⟩ := g.row hy
    have he' := (r2 e).mpr he
    rw [named_iff r1 he' (mem_srt.mpr (by simp))]
    obtain ⟨r, q1, q2⟩ := ahd_split he'
    have ef : ((ahd y.2 e).filter fun z => decide (z ∈ srt (F ++ [e]))) = (ahd y.2 e).filter fun z => decide (z ∈ F) := List.filter_congr fun z hz => by
      have hne : z ≠ e := fun w => q2 (w ▸ hz)
      rw [decide_eq_decide, mem_srt, List.mem_append, List.mem_singleton]
      exact ⟨fun h => h.resolve_right hne, .inl⟩
    rw [ef]
    have := (g.st y hy).1
    omega
  unfold lawW
  rw [List.mem_map]
  constructor
  · rintro ⟨F, hF, rfl⟩
    obtain ⟨h1, h2⟩ := List.mem_filter.mp hF
    exact ⟨F, (f4 F).mp h1, (cond F).mp (of_decide_eq_true h2), rfl⟩
  · rintro ⟨F, h1, h2, rfl⟩
    exact ⟨F, List.mem_filter.mpr ⟨(f4 F).mpr h1, decide_eq_true ((cond F).mpr h2)⟩, rfl⟩
theorem mem_allL {L : List Str} : L ∈ allL sts e ↔ ∃ y ∈ sts, L ∈ byL y e := by
  unfold allL
  rw [List.mem_flatten]
  constructor
  · rintro ⟨l, hl, hz⟩
    obtain ⟨y, hy, rfl⟩ := List.mem_map.mp hl
    exact ⟨y, hy, hz⟩
  · rintro ⟨y, hy, hz⟩
    exact ⟨_, List.mem_map.mpr ⟨y, hy, rfl⟩, hz⟩
theorem law_several (g : GS sts names) (he : e ∈ names) (hl : (allL sts e).length < 300) : ok__law_several_lots names sts e ∧ m__law_several_lots names sts e = m_lots_for sts e := by
  obtain ⟨w1, w2, w3⟩ := law_fold g he
  refine ⟨w1, ?_⟩
  rw [w2]
  have ao : Asc (names.filter fun y1 => (!decide (y1 = e))) := List.Pairwise.filter _ g.gn.asc
  have no : (names.filter fun y1 => (!decide (y1 = e))).Nodup := g.gn.nd.filter _
  have ahs : ∀ y ∈ sts, ∀ z ∈ ahd y.2 e, z ∈ names.filter fun y1 => (!decide (y1 = e)) := fun y hy z hz => by
    obtain ⟨r1, r2, r3⟩ := g.row hy
    obtain ⟨r, q1, q2⟩ := ahd_split ((r2 e).mpr he)
    have hne : z ≠ e := fun w => q2 (w ▸ hz)
    exact List.mem_filter.mpr ⟨(r2 z).mp ((ahd_sub _ _).subset hz), by simp [hne]⟩
  have nah : ∀ y ∈ sts, (ahd y.2 e).Nodup := fun y hy => (g.row hy).1.sublist (ahd_sub _ _)
  have l1 := (law_least_spec (some := lawW sts names e) (by omega)).2
  obtain ⟨_, l2⟩ := for_spec (sts := sts) (e := e) (fun y hy => by
    obtain ⟨a1, a2, a3, _⟩ := g.ah hy he
    exact ⟨a1, a2, a3⟩) hl
  refine l1.uniq (l2.more (fun L hL => ?_) (fun w hw => ?_) fun a ha b hb h1 h2 => ?_)
  · obtain ⟨y, hy, hL⟩ := mem_allL.mp hL
    rw [mem_lawW g he]
    rcases (mem_by (g.row hy).1 (g.st y hy).1).mp hL with ⟨q1, rfl⟩ | ⟨q1, q2, q3, q4, q5⟩
    · refine ⟨_, List.Sublist.refl _, ⟨y, hy, ?_⟩, ?_⟩
      · have := List.length_filter_le (fun z => decide (z ∈ names.filter fun y1 => (!decide (y1 = e)))) (ahd y.2 e)
        omega
      · exact (List.filter_eq_nil_iff.mpr fun z hz => by simp only [hz, decide_true, Bool.not_true]; decide).symm
    · refine ⟨(names.filter fun y1 => (!decide (y1 = e))).filter fun z => !decide (z ∈ L), List.filter_sublist, ⟨y, hy, ?_⟩, ?_⟩
      · have ef : ((ahd y.2 e).filter fun z => decide (z ∈ (names.filter fun y1 => (!decide (y1 = e))).filter fun z => !decide (z ∈ L))) = (ahd y.2 e).filter fun z => !decide (z ∈ L) := List.filter_congr fun z hz => by
          have := ahs y hy z hz
          rw [Bool.eq_iff_iff, decide_eq_true_iff, List.mem_filter]
          exact ⟨fun h => h.2, fun h => ⟨this, h⟩⟩
        rw [ef]
        have := bt_len (nah y hy) q3 q4
        omega
      · have sub : ∀ z ∈ L, z ∈ names.filter fun y1 => (!decide (y1 = e)) := fun z hz => ahs y hy z (q4 z hz)
        conv => lhs; rw [asc_filter q2 q3 ao no sub]
        refine List.filter_congr fun z hz => ?_
        by_cases hzL : z ∈ L
        · have hn : z ∉ (names.filter fun y1 => (!decide (y1 = e))).filter fun z => !decide (z ∈ L) := fun h => by
            have := (List.mem_filter.mp h).2
            simp [hzL] at this
          rw [decide_eq_true hzL, decide_eq_false hn]
          rfl
        · have hn : z ∈ (names.filter fun y1 => (!decide (y1 = e))).filter fun z => !decide (z ∈ L) := List.mem_filter.mpr ⟨hz, by simp [hzL]⟩
          rw [decide_eq_false hzL, decide_eq_true hn]
          rfl
  · rw [mem_lawW g he] at hw
    obtain ⟨F, hF, ⟨y, hy, hc⟩, rfl⟩ := hw
    have h1y := (g.st y hy).1
    by_cases q : ((ahd y.2 e).length : Int) < y.1
    · exact ⟨[], mem_allL.mpr ⟨y, hy, (mem_by (g.row hy).1 h1y).mpr (.inl ⟨q, rfl⟩)⟩, fun z hz => by cases hz⟩
    · have hsum : ((ahd y.2 e).filter fun z => decide (z ∈ F)).length + ((ahd y.2 e).filter fun z => !decide (z ∈ F)).length = (ahd y.2 e).length := by
        have : ∀ l : List Str, (l.filter fun z => decide (z ∈ F)).length + (l.filter fun z => !decide (z ∈ F)).length = l.length := by
          intro l
          induction l with
          | nil => rfl
          | cons x l ih =>
            by_cases hx : x ∈ F
            · rw [List.filter_cons_of_pos (by simp [hx]), List.filter_cons_of_neg (by simp [hx]), List.length_cons, List.length_cons]; omega
            · rw [List.filter_cons_of_neg (by simp [hx]), List.filter_cons_of_pos (by simp [hx]), List.length_cons, List.length_cons]; omega
        exact this _
      generalize hk : ((ahd y.2 e).length - y.1.toNat + 1) = k at *
      have nk := (((nah y hy).filter fun z => !decide (z ∈ F)).sublist (List.take_sublist k _))
      refine ⟨srt (((ahd y.2 e).filter fun z => !decide (z ∈ F)).take k), mem_allL.mpr ⟨y, hy, (mem_by (g.row hy).1 h1y).mpr (.inr ⟨by omega, srt_asc _, srt_nodup.mpr nk, fun z hz => (List.mem_filter.mp (List.mem_of_mem_take (mem_srt.mp hz))).1, ?_⟩)⟩, fun z hz => ?_⟩
      · rw [srt_len, List.length_take]
        omega
      · obtain ⟨z1, z2⟩ := List.mem_filter.mp (List.mem_of_mem_take (mem_srt.mp hz))
        exact List.mem_filter.mpr ⟨ahs y hy z z1, z2⟩
  · rw [mem_lawW g he] at ha hb
    obtain ⟨F, _, _, rfl⟩ := ha
    obtain ⟨F', _, _, rfl⟩ := hb
    exact asc_unique (perm_nd (no.filter _) (no.filter _) fun z => ⟨h1 z, h2 z⟩) (List.Pairwise.filter _ ao) (List.Pairwise.filter _ ao)
end
end Pf

namespace Pf
open Dn.Rep (rep)
open PySem L2 Dn
open PySem.W (dataLe dataLt)
theorem ix_nat {α : Type} {l : List α} {j : Nat} (h : j < l.length) : atI l (j : Int) = some l[j] := by
  unfold atI ixN
  rw [if_pos (by omega), if_pos (by omega)]
  show l[((j : Int)).toNat]? = _
  rw [Int.toNat_natCast]
  exact List.getElem?_eq_getElem h
theorem getI_nat {α : Type} [Inhabited α] {l : List α} {j : Nat} (h : j < l.length) : getI l (j : Int) = l[j] := by
  unfold getI
  rw [ix_nat h]
  rfl
theorem one_of {α : Type} [Inhabited α] {n : Nat} {p : List Int} {l : List α} (hp : PW n p) (hn : n < 2 ^ 50) (h0 : 0 < l.length) (h1 : l.length < 2 ^ 27) : ok__law_one_of p l ∧ (m__law_one_of p l).1 ∈ l ∧ PW (n + 1) (m__law_one_of p l).2 := by
  obtain ⟨d1, d2, d3, d4⟩ := draw_spec (m := (l.length : Int)) hp hn (by omega) (by omega)
  show ok__law_one_of_0 p l ∧ (m__law_one_of_0 p l).1 ∈ l ∧ PW (n + 1) (m__law_one_of_0 p l).2
  unfold ok__law_one_of_0 m__law_one_of_0
  generalize (m__law_draw p (l.length : Int)).1 = d at d2 d3
  obtain ⟨j, rfl⟩ := Int.eq_ofNat_of_zero_le d2
  have hj : j < l.length := by omega
  refine ⟨⟨d1, by rw [ix_nat hj]; rfl, trivial⟩, ?_, d4⟩
  show getI l (j : Int) ∈ l
  rw [getI_nat hj]
  exact List.getElem_mem _
theorem cut_last {α : Type} (l : List α) (x : α) : cut (l ++ [x]) none (some (-(1 : Int))) = l := by
  unfold cut HT.sIx
  simp only [List.drop_zero, Nat.sub_zero]
  rw [if_pos (by omega)]
  rw [List.length_append, List.length_singleton]
  have : ((-1 : Int) + ((l.length + 1 : Nat) : Int)).toNat = l.length := by omega
  rw [this, List.take_append_of_le_length (Nat.le_refl _), List.take_length]
theorem purses_spec (s : Scr) {few : Int} (h0 : 1 ≤ few) (h1 : few ≤ 64) : ok__law_purses s few ∧ ∀ p ∈ m__law_purses s few, PW 0 p := by
  refine ⟨⟨?_, fun y _ => ?_, trivial⟩, fun p hp => ?_⟩
  · constructor
    · split <;> omega
    · split
      · split <;> omega
      · omega
  · refine ⟨⟨by omega, by decide +kernel⟩, ⟨by omega, by decide +kernel⟩, ⟨by omega, by decide +kernel⟩, by decide +kernel, by omega, trivial⟩
  · obtain ⟨y, hy, rfl⟩ := List.mem_map.mp hp
    exact ⟨_, _, _, _, rfl, by omega, by omega⟩
theorem purse_ok (s : Scr) : ok__law_purse s 0 ∧ PW 0 (m__law_purse s 0) :=
  ⟨⟨⟨by omega, by decide +kernel⟩, ⟨by omega, by decide +kernel⟩, ⟨by omega, by decide +kernel⟩, by decide +kernel, by omega, trivial⟩, _, _, _, _, rfl, by omega, by omega⟩
theorem stewards_spec {n : Nat} {p : List Int} {names : List Str} {most : Int} (hp : PW n p) (hn : n + 400 < 2 ^ 50) (n1 : 1 ≤ names.length) (n8 : names.length ≤ 8) (h0 : 1 ≤ most) (h1 : most ≤ 8) :
    ok__law_stewards p names most ∧ (∀ y ∈ (m__law_stewards p names most).1, 1 ≤ y.1 ∧ y.2.Perm names) ∧ (m__law_stewards p names most).1 ≠ [] ∧ (m__law_stewards p names most).1.length ≤ 8 ∧ PW (n + 300) (m__law_stewards p names most).2 := by
  obtain ⟨d1, d2, d3, d4⟩ := draw_spec (m := most) hp (by omega) (by omega) (by omega)
  show ok__law_stewards_1 p names most [] (names.length : Int) ∧ (∀ y ∈ (m__law_stewards_1 p names most [] (names.length : Int)).1, 1 ≤ y.1 ∧ y.2.Perm names) ∧ (m__law_stewards_1 p names most [] (names.length : Int)).1 ≠ [] ∧ (m__law_stewards_1 p names most [] (names.length : Int)).1.length ≤ 8 ∧ PW (n + 300) (m__law_stewards_1 p names most [] (names.length : Int)).2
  unfold ok__law_stewards_1 m__law_stewards_1
  generalize (m__law_draw p most).1 = d at d2 d3
  generalize (m__law_draw p most).2 = p1 at d4
  obtain ⟨k1, k2, k3, k4⟩ := fold_pre (f := fun (s : (List Int) × (List (Int × List Str))) (y : Int) => m__law_stewards_2 s.1 names most y s.2 (names.length : Int)) (okf := fun (s : (List Int) × (List (Int × List Str))) (y : Int) => ok__law_stewards_2 s.1 names most y s.2 (names.length : Int))
    (fun pre s => s.2.length = pre.length ∧ (∀ y ∈ s.2, 1 ≤ y.1 ∧ y.2.Perm names) ∧ PW (n + 1 + 12 * pre.length) s.1) (irange ((1 : Int) + d)) [] (irange ((1 : Int) + d)) (p1, []) rfl ⟨rfl, by simp, d4⟩ (by
    rintro pre x post ⟨q, f⟩ e ⟨e1, e2, e3⟩
    dsimp only at e1 e2 e3
    have hpl : pre.length ≤ 8 := by
      have := congrArg List.length e
      rw [irange_len, List.length_append, List.length_cons] at this
      omega
    obtain ⟨a1, a2, a3, a4⟩ := draw_spec (m := 4) e3 (by omega) (by omega) (by omega)
    show ok__law_stewards_2 q names most x f (names.length : Int) ∧ _
    unfold ok__law_stewards_2
    have em : m__law_stewards_2 q names most x f (names.length : Int) = m__law_stewards_3 ((m__law_one_of ((m__law_draw q (4 : Int)).2) ([(1 : Int), (2 : Int), (2 : Int), (3 : Int), (3 : Int), (names.length : Int), (((names.length : Int) + (1 : Int)) + (m__law_draw q (4 : Int)).1), ((10 : Int) ^ ((29 : Int)).toNat)] : List Int)).2) names most x f (names.length : Int) ((m__law_one_of ((m__law_draw q (4 : Int)).2) ([(1 : Int), (2 : Int), (2 : Int), (3 : Int), (3 : Int), (names.length : Int), (((names.length : Int) + (1 : Int)) + (m__law_draw q (4 : Int)).1), ((10 : Int) ^ ((29 : Int)).toNat)] : List Int)).1) := rfl
    rw [em]
    generalize (m__law_draw q (4 : Int)).1 = r at a2 a3
    generalize (m__law_draw q (4 : Int)).2 = q1 at a4
    obtain ⟨b1, b2, b3⟩ := one_of (l := ([(1 : Int), (2 : Int), (2 : Int), (3 : Int), (3 : Int), (names.length : Int), (((names.length : Int) + (1 : Int)) + r), ((10 : Int) ^ ((29 : Int)).toNat)] : List Int)) a4 (by omega) (by simp) (by simp)
    have hm : 1 ≤ (m__law_one_of q1 ([(1 : Int), (2 : Int), (2 : Int), (3 : Int), (3 : Int), (names.length : Int), (((names.length : Int) + (1 : Int)) + r), ((10 : Int) ^ ((29 : Int)).toNat)] : List Int)).1 := by
      have big : (1 : Int) ≤ (10 : Int) ^ ((29 : Int)).toNat := by decide +kernel
      generalize (m__law_one_of (α := Int) q1 _).1 = m at b2
      generalize (10 : Int) ^ ((29 : Int)).toNat = B at b2 big
      simp only [List.mem_cons, List.not_mem_nil, or_false] at b2
      omega
    generalize (m__law_one_of (α := Int) q1 _).1 = m at hm
    generalize (m__law_one_of (α := Int) q1 _).2 = q2 at b3
    obtain ⟨c1, c2, c3⟩ := shuf_spec (l := names) b3 (by omega) (by omega)
    refine ⟨⟨a1, ⟨by omega, by decide +kernel⟩, b1, c1, by rw [e1, sizeLine_eq]; omega, trivial⟩, ?_, ?_, ?_⟩
    · show (f ++ [_]).length = _
      rw [List.length_append, List.length_append, e1, List.length_singleton, List.length_singleton]
    · intro y hy
      rcases List.mem_append.mp (show y ∈ f ++ [(m, (m__law_shuffled q2 names).1)] from hy) with hy | hy
      · exact e2 y hy
      · rw [List.mem_singleton.mp hy]
        exact ⟨hm, c2⟩
    · refine PW.mono c3 ?_
      rw [List.length_append, List.length_singleton]
      omega)
  have hlen : (irange ((1 : Int) + d)).length = ((1 : Int) + d).toNat := irange_len _
  refine ⟨⟨d1, by omega, k1, trivial⟩, k3, fun z => ?_, ?_, ?_⟩
  · have z' := congrArg List.length (show _ = ([] : List (Int × List Str)) from z)
    have k2' : (List.foldl (fun (s : (List Int) × (List (Int × List Str))) (y : Int) => m__law_stewards_2 s.1 names most y s.2 (names.length : Int)) (p1, []) (irange ((1 : Int) + d))).2.length = 0 := z'
    rw [k2', hlen] at k2
    omega
  · show (List.foldl (fun (s : (List Int) × (List (Int × List Str))) (y : Int) => m__law_stewards_2 s.1 names most y s.2 (names.length : Int)) (p1, []) (irange ((1 : Int) + d))).2.length ≤ 8
    rw [k2, hlen]
    omega
  · refine PW.mono k4 ?_
    rw [hlen]
    omega
theorem right_core {sts : List Stw} {names mixed : List Str} {n : Nat} {p : List Int} (hp : PW n p) (hn : n < 2 ^ 49) (g : GS sts names) (hm : mixed.Perm names) (n1 : 1 ≤ names.length) (n8 : names.length ≤ 8) : ok__law_right_2 p names sts mixed ∧ (m__law_right_2 p names sts mixed).1 = true := by
  have sz : sizeLine = 16777216 := sizeLine_eq
  have ek : (sts.map fun y1 => (y1.1, y1.2)) = sts := List.map_id' sts
  show ok__law_right_3 p names sts mixed (sts.map fun y1 => (y1.1, y1.2)) mixed ∧ (m__law_right_3 p names sts mixed (sts.map fun y1 => (y1.1, y1.2)) mixed).1 = true
  rw [ek]
  obtain ⟨f1, f2, f3, f4⟩ := fields_spec (names := names) (by omega)
  have nne : names ≠ [] := fun e => by rw [e] at n1; simp at n1
  -- the fields
  have turn1 : ∀ F ∈ m__law_fields names, ok__law_right_4 p names F sts mixed sts mixed ∧ m__law_right_4 p names F sts mixed sts mixed = .inr () := fun F hF => by
    obtain ⟨s1, s2⟩ := f2 F hF
    obtain ⟨c1, c2, c3⟩ := cards_spec g hm s1 s2
    have e : (!decide ((m_several_cards mixed sts F) = (m__law_named_by sts F))) = false := by rw [c2]; simp
    refine ⟨⟨c1, c3, fun h => absurd (e.symm.trans h) (by decide), fun _ => trivial⟩, ?_⟩
    show (if (!decide ((m_several_cards mixed sts F) = (m__law_named_by sts F))) = true then _ else _) = _
    rw [e, if_neg (by decide)]
    rfl
  obtain ⟨l1, l1'⟩ := loop_all (f := fun (s : Unit) (y : List Str) => m__law_right_4 p names y sts mixed sts mixed) (okf := fun (s : Unit) (y : List Str) => ok__law_right_4 p names y sts mixed sts mixed) (fun _ => True) (m__law_fields names) () trivial (fun s x hx _ => ⟨(turn1 x hx).1, (), (turn1 x hx).2, trivial⟩)
  obtain ⟨u1, l2, _⟩ := l1'
  -- the entries
  obtain ⟨h1, h2, h3⟩ := shuf_spec (l := names) hp (by omega) (by omega)
  have turn2 : ∀ (q : List Int) (e : Str), e ∈ names → ok__law_right_9 q names e sts mixed sts mixed ∧ m__law_right_9 q names e sts mixed sts mixed = .inr q := fun q e he => by
    have hl := allL_len g he n8
    obtain ⟨v1, v2⟩ := several_spec g hm he hl
    obtain ⟨w1, _⟩ := several_spec g (List.Perm.refl names) he hl
    obtain ⟨x1, x2⟩ := law_several g he hl
    have e1 : (!decide ((m_several_lots mixed sts e) = (m__law_several_lots names sts e))) = false := by rw [x2]; simp; rfl
    have e2 : (!decide ((m_several_lots names sts e) = (m__law_several_lots names sts e))) = false := by rw [x2]; simp; rfl
    have tl : (m_several_lots mixed sts e).length ≤ 300 := by
      have p1 : ((m_several_lots mixed sts e)).Nodup := v2.nd
      have p2 : ((m_several_lots mixed sts e)).length ≤ (allL sts e).length := by
        have := perm_nd (l := (m_several_lots mixed sts e)) (m := ddpG ((allL sts e).filter fun y => decide (y ∈ m_several_lots mixed sts e))) p1 (ddpG_nodup _) fun y => by
          rw [mem_ddpG, List.mem_filter, decide_eq_true_iff]
          exact ⟨fun h => ⟨((v2.mem y).mp h).1, h⟩, fun h => h.2⟩
        rw [this.length_eq]
        exact Nat.le_trans (ddpG_len_le _) (List.length_filter_le _ _)
      omega
    have ti : ∀ z ∈ m_several_lots mixed sts e, z.length ≤ 12 := fun z hz => by
      obtain ⟨y, hy, hb⟩ := mem_allL.mp ((v2.mem z).mp hz).1
      obtain ⟨a1, a2, a3, a4⟩ := g.ah hy he
      rcases (mem_by (g.row hy).1 a3).mp hb with ⟨_, rfl⟩ | ⟨_, _, _, _, q5⟩
      · simp
      · omega
    have o13 : ok__law_right_13 q names e sts mixed sts mixed (m__law_several_lots names sts e) := ⟨w1, fun h => absurd (e2.symm.trans h) (by decide), fun _ => trivial⟩
    have m13 : m__law_right_13 q names e sts mixed sts mixed (m__law_several_lots names sts e) = .inr q := by
      show (if (!decide ((m_several_lots names sts e) = (m__law_several_lots names sts e))) = true then _ else _) = _
      rw [e2, if_neg (by decide)]
      rfl
    refine ⟨⟨v1, x1, fun h => absurd (e1.symm.trans h) (by decide), fun _ => ⟨fun z hz => ?_, by omega, o13⟩⟩, ?_⟩
    · have := ti z hz
      omega
    · show (if (!decide ((m_several_lots mixed sts e) = (m__law_several_lots names sts e))) = true then _ else _) = _
      rw [e1, if_neg (by decide)]
      exact m13
  obtain ⟨l3, l3'⟩ := loop_all (f := fun (s : List Int) (y : Str) => m__law_right_9 s names y sts mixed sts mixed) (okf := fun (s : List Int) (y : Str) => ok__law_right_9 s names y sts mixed sts mixed) (fun _ => True) (cut ((m__law_shuffled p names).1) none (some (3 : Int))) ((m__law_shuffled p names).2) trivial (fun s x hx _ => by
    have hx' : x ∈ names := by
      rw [cut_to _ (by omega)] at hx
      exact h2.mem_iff.mp (List.mem_of_mem_take hx)
    exact ⟨(turn2 s x hx').1, s, (turn2 s x hx').2, trivial⟩)
  obtain ⟨p2, l4, _⟩ := l3'
  -- one steward
  have mnd := hm.nodup_iff.mpr g.gn.nd
  have turn3 : ∀ m : Int, 1 ≤ m → ok__law_right_18 p2 names m sts mixed sts mixed ∧ m__law_right_18 p2 names m sts mixed sts mixed = .inr () := fun m h1m => by
    have g1 : GS [(m, mixed)] names := ⟨g.gn, g.n12, fun y hy => by rw [List.mem_singleton.mp hy]; exact ⟨h1m, hm⟩, by simp, by simp⟩
    obtain ⟨c1, c2, c3⟩ := cards_spec g1 hm (List.Sublist.refl names) nne
    obtain ⟨d1, d2, d3⟩ := named_spec (F := names) g1.st g.gn.nd g.n12 g1.s8
    have ec : m_several_cards mixed [(m, mixed)] names = srt (cut mixed none (some m)) := by
      rw [c2, d2, cut_to _ (by omega)]
      have : nmd [(m, mixed)] names = mixed.take m.toNat := by
        show ((mixed.filter fun z => decide (z ∈ names)).take m.toNat) ++ [] = _
        rw [List.append_nil, List.filter_eq_self.mpr fun z hz => decide_eq_true (hm.mem_iff.mp hz)]
      rw [this, ddp_id (mnd.sublist (List.take_sublist _ _))]
    have e1 : ((!decide ((m_several_cards mixed ([(m, mixed)] : List (Int × List Str)) names) = (srt (cut mixed none (some m))))) || (!decide (mixed = mixed))) = false := by rw [ec]; simp
    refine ⟨⟨c1, ?_, fun h => absurd (e1.symm.trans h) (by decide), fun _ => trivial⟩, ?_⟩
    · rw [cut_to _ (by omega), List.length_take, hm.length_eq]
      omega
    · show (if ((!decide ((m_several_cards mixed ([(m, mixed)] : List (Int × List Str)) names) = (srt (cut mixed none (some m))))) || (!decide (mixed = mixed))) = true then _ else _) = _
      rw [e1, if_neg (by decide)]
      rfl
  obtain ⟨l5, l5'⟩ := loop_all (f := fun (s : Unit) (y : Int) => m__law_right_18 p2 names y sts mixed sts mixed) (okf := fun (s : Unit) (y : Int) => ok__law_right_18 p2 names y sts mixed sts mixed) (fun _ => True) ([((1 : Int), (2 : Int)).1, ((1 : Int), (2 : Int)).2] : List Int) () trivial (fun s x hx _ => by
    have hx' : 1 ≤ x := by
      simp only [List.mem_cons, List.not_mem_nil, or_false] at hx
      omega
    exact ⟨(turn3 x hx').1, (), (turn3 x hx').2, trivial⟩)
  obtain ⟨u3, l6, _⟩ := l5'
  obtain ⟨c1, c2, c3⟩ := cards_spec g hm (List.Sublist.refl names) nne
  have cl12 : (m_several_cards mixed sts names).length ≤ 12 := by
    obtain ⟨d1, d2, d3⟩ := named_spec (F := names) g.st g.gn.nd g.n12 g.s8
    rw [c2, d2, srt_len]
    have := bt_len g.gn.nd (ddp_nodup (nmd sts names)) fun z hz => by
      have hz' : z ∈ m__law_named_by sts names := by rw [d2]; exact mem_srt.mpr hz
      obtain ⟨y, hy, hh⟩ := (d3 z).mp hz'
      exact of_decide_eq_true (List.mem_filter.mp (List.mem_of_mem_take hh)).2
    omega
  have ok17 : ok__law_right_17 p2 names sts mixed sts mixed := ⟨l5, fun _ _ => ⟨c1, by rw [List.length_map]; omega, c1, trivial⟩⟩
  have m17 : (m__law_right_17 p2 names sts mixed sts mixed).1 = true := by
    unfold m__law_right_17
    rw [l6]
    show (decide (((m_several_cards mixed sts names).map IS.s) = (cut (((m_several_cards mixed sts names).map IS.s) ++ [IS.n]) none (some (-(1 : Int))))) && (decide (sts = sts) && decide (mixed = mixed))) = true
    rw [cut_last]
    simp
  refine ⟨⟨f1, l1, fun _ _ => ⟨h1, l3, fun s hs => ?_⟩⟩, ?_⟩
  · have : s = p2 := by
      have := hs.symm.trans l4
      cases this
      rfl
    rw [this]
    exact ok17
  · unfold m__law_right_3
    rw [l2]
    show (m__law_right_8 p names sts mixed sts mixed).1 = true
    unfold m__law_right_8
    rw [l4]
    exact m17
theorem right_spec {p : List Int} (hp : PW 0 p) : ok__law_right p ∧ (m__law_right p).1 = true := by
  obtain ⟨a1, a2, a3, a4⟩ := draw_spec (m := 8) hp (by omega) (by omega) (by omega)
  show ok__law_right_0 p ∧ (m__law_right_0 p).1 = true
  unfold ok__law_right_0 m__law_right_0
  generalize (m__law_draw p 8).1 = d1 at a2 a3
  generalize (m__law_draw p 8).2 = p1 at a4
  obtain ⟨b1, b2, b3, b4⟩ := names_spec (m := 1 + d1) a4 (by omega) (by omega) (by omega)
  refine (show ∀ {A B D E : Prop}, A → B → (D ∧ E) → (A ∧ B ∧ D) ∧ E from fun a b d => ⟨⟨a, b, d.1⟩, d.2⟩) a1 b1 ?_
  generalize (m__law_names p1 (1 + d1)).1 = names at b2 b3
  generalize (m__law_names p1 (1 + d1)).2 = p2 at b4
  obtain ⟨c1, c2, c3⟩ := one_of (l := ([(3 : Int), (3 : Int), (3 : Int), (8 : Int)] : List Int)) b4 (by omega) (by simp) (by simp)
  unfold ok__law_right_1 m__law_right_1
  have hmost : 1 ≤ (m__law_one_of p2 ([(3 : Int), (3 : Int), (3 : Int), (8 : Int)] : List Int)).1 ∧ (m__law_one_of p2 ([(3 : Int), (3 : Int), (3 : Int), (8 : Int)] : List Int)).1 ≤ 8 := by
    generalize (m__law_one_of (α := Int) p2 _).1 = m at c2
    simp only [List.mem_cons, List.not_mem_nil, or_false] at c2
    omega
  generalize (m__law_one_of p2 ([(3 : Int), (3 : Int), (3 : Int), (8 : Int)] : List Int)).1 = most at hmost
  generalize (m__law_one_of p2 ([(3 : Int), (3 : Int), (3 : Int), (8 : Int)] : List Int)).2 = p3 at c3
  obtain ⟨e1, e2, e3, e4, e5⟩ := stewards_spec (names := names) (most := most) c3 (by omega) (by omega) (by omega) hmost.1 hmost.2
  generalize (m__law_stewards p3 names most).1 = sts at e2 e3 e4
  generalize (m__law_stewards p3 names most).2 = p4 at e5
  obtain ⟨h1, h2, h3⟩ := shuf_spec (l := names) e5 (by omega) (by omega)
  generalize (m__law_shuffled p4 names).1 = mixed at h2
  generalize (m__law_shuffled p4 names).2 = p5 at h3
  obtain ⟨k1, k2⟩ := right_core (sts := sts) (names := names) (mixed := mixed) h3 (by omega) ⟨b2, by omega, e2, e3, e4⟩ h2 (by omega) (by omega)
  exact ⟨⟨c1, e1, h1, k1⟩, k2⟩
end Pf

namespace Pf
open Dn.Rep (rep)
open PySem L2 Dn
open PySem.W (dataLe dataLt)
def some49 : List Str := (irange (49 : Int)).map fun y1 => ((signAt ("abcdefg" : Str) (y1 / (7 : Int))) ++ (signAt ("abcdefg" : Str) (y1 % (7 : Int))))
theorem some49_nm : ∀ z ∈ some49, Nm z := by
  have : (some49.all fun z => decide (1 ≤ z.length) && (decide (z.length ≤ 8) && z.cps.toList.all fun c => decide (97 ≤ c) && decide (c < 123))) = true := by decide +kernel
  intro z hz
  have h := List.all_eq_true.mp this z hz
  simp only [Bool.and_eq_true, decide_eq_true_iff, List.all_eq_true] at h
  exact ⟨h.1, h.2.1, fun c hc => h.2.2 c hc⟩
theorem some49_nd : some49.Nodup := by decide +kernel
theorem some49_len : some49.length = 49 := by decide +kernel
theorem some49_ok : ∀ y1 ∈ (irange (49 : Int)), (((0 : Int) < (7 : Int) ∧ (7 : Int) < (1073741824 : Int)) ∧ ((atI ("abcdefg" : Str).cps.toList (y1 / (7 : Int))).isSome = true) ∧ ((0 : Int) < (7 : Int)) ∧ ((atI ("abcdefg" : Str).cps.toList (y1 % (7 : Int))).isSome = true) ∧ ((signAt ("abcdefg" : Str) (y1 / (7 : Int))).length + (signAt ("abcdefg" : Str) (y1 % (7 : Int))).length ≤ sizeLine)) := by decide +kernel
theorem wide_gen {p : List Int} {S : List Str} (hp : PW 0 p) (hS : ∀ z ∈ S, Nm z) (nd : S.Nodup) (hl : S.length = 49) : ok__law_wide_names_1 p 12 S ∧ GN (m__law_wide_names_1 p 12 S).1 ∧ (m__law_wide_names_1 p 12 S).1.length = 12 := by
  obtain ⟨h1, h2, h3⟩ := shuf_spec (l := S) hp (by omega) (by omega)
  have ec : cut ((m__law_shuffled p S).1) none (some (12 : Int)) = (m__law_shuffled p S).1.take 12 := cut_to _ (by omega)
  have em : (m__law_wide_names_1 p 12 S).1 = srt ((m__law_shuffled p S).1.take 12) := by
    show srt (cut ((m__law_shuffled p S).1) none (some (12 : Int))) = _
    rw [ec]
  have el : ((m__law_shuffled p S).1.take 12).length = 12 := by rw [List.length_take, h2.length_eq, hl]; rfl
  refine ⟨⟨h1, by rw [ec, el]; omega, trivial⟩, ?_, by rw [em, srt_len, el]⟩
  rw [em]
  exact ⟨srt_asc _, srt_nodup.mpr ((h2.nodup_iff.mpr nd).sublist (List.take_sublist _ _)), fun z hz => hS z (h2.mem_iff.mp (List.mem_of_mem_take (mem_srt.mp hz)))⟩
theorem wide_m (p : List Int) : m__law_wide_names p 12 = m__law_wide_names_1 p 12 some49 := rfl
theorem wide_ok {p : List Int} (h : ok__law_wide_names_1 p 12 some49) : ok__law_wide_names p 12 := ⟨⟨by omega, by omega⟩, some49_ok, h⟩
theorem wide_spec {p : List Int} (hp : PW 0 p) : ok__law_wide_names p 12 ∧ GN (m__law_wide_names p 12).1 ∧ (m__law_wide_names p 12).1.length = 12 := by
  obtain ⟨h1, h2, h3⟩ := wide_gen hp some49_nm some49_nd some49_len
  rw [wide_m]
  exact ⟨wide_ok h1, h2, h3⟩
theorem last_of {α : Type} [Inhabited α] (l : List α) (x : α) : (atI (l ++ [x]) (-(1 : Int))).isSome = true ∧ getI (l ++ [x]) (-(1 : Int)) = x := by
  have e : atI (l ++ [x]) (-(1 : Int)) = some x := by
    unfold atI ixN
    rw [if_neg (by omega), if_pos (by rw [List.length_append, List.length_singleton]; omega)]
    show (l ++ [x])[((-(1 : Int)) + ((l ++ [x]).length : Int)).toNat]? = _
    rw [List.length_append, List.length_singleton]
    have : ((-(1 : Int)) + ((l.length + 1 : Nat) : Int)).toNat = l.length := by omega
    rw [this, List.getElem?_append_right (Nat.le_refl _), Nat.sub_self]
    rfl
  unfold getI
  rw [e]
  exact ⟨rfl, rfl⟩
theorem gn_take {l : List Str} (g : GN l) (k : Nat) : GN (l.take k) := ⟨List.Pairwise.sublist (List.take_sublist _ _) g.asc, g.nd.sublist (List.take_sublist _ _), fun z hz => g.nm z (List.mem_of_mem_take hz)⟩
theorem ahd_of {l r : List Str} {x : Str} (h : x ∉ l) : ahd (l ++ x :: r) x = l := by
  unfold ahd
  have : (l ++ x :: r).findIdx (fun y => decide (y = x)) = l.length := by
    induction l with
    | nil => rw [List.nil_append, List.findIdx_cons, decide_eq_true rfl]; rfl
    | cons a l ih =>
      rw [List.cons_append, List.findIdx_cons, decide_eq_false fun e => h (by rw [e]; exact List.mem_cons_self)]
      show _ + 1 = _
      rw [ih fun z => h (List.mem_cons_of_mem _ z)]
      rfl
  rw [this, List.take_append_of_le_length (Nat.le_refl _), List.take_length]
theorem mn_nil {P : List (List Str)} (h : [] ∈ P) : Mn P [[]] := by
  refine ⟨List.pairwise_singleton _ _, List.pairwise_singleton _ _, fun y => ?_⟩
  rw [List.mem_singleton]
  constructor
  · rintro rfl
    refine ⟨h, fun z hz ne hs => ?_⟩
    cases z with
    | nil => exact ne rfl
    | cons a z => exact absurd (hs a List.mem_cons_self) (by simp)
  · rintro ⟨hy, hm⟩
    exact Classical.byContradiction fun ne => hm [] h (fun e => ne e.symm) fun z hz => by cases hz
theorem dle_single {a b : Str} (h : leS a b = true) : dataLe false Dat.dat [a] [b] = true := by
  rw [dle_iff, Bool.not_eq_true']
  show dataLt (.list [.str b]) (.list [.str a]) = false
  rw [PySem.W.dataLt_list, PySem.W.dataLt_cons (by simp [PySem.W.alike])]
  split
  · exact PyProof.Rows.lex_irrefl _
  · rw [PySem.W.dataLt_str]
    exact decide_eq_false (leS_iff.mp h)
/-- all of one size: none goes -/
theorem mn_same {P out : List (List Str)} {k : Nat} (h : Mn P out) (hn : P.Nodup) (hk : ∀ y ∈ P, y.length = k ∧ Asc y ∧ y.Nodup) : out.Perm P := by
  refine perm_nd h.nd hn fun y => ?_
  rw [h.mem]
  refine ⟨fun q => q.1, fun hy => ⟨hy, fun z hz ne hs => ne ?_⟩⟩
  obtain ⟨a1, a2, a3⟩ := hk y hy
  obtain ⟨b1, b2, b3⟩ := hk z hz
  have := bt_len a3 b3 hs
  have e : (y.filter fun x => !decide (x ∈ z)) = [] := List.eq_nil_of_length_eq_zero (by omega)
  have sub : ∀ x ∈ y, x ∈ z := fun x hx => by
    have := List.filter_eq_nil_iff.mp e x hx
    simpa using this
  exact asc_unique (perm_nd b3 a3 fun x => ⟨hs x, sub x⟩) b2 a2
theorem gs_of {sts : List Stw} {names : List Str} (g : GN names) (n12 : names.length ≤ 12) (h : ∀ y ∈ sts, 1 ≤ y.1 ∧ y.2 = names) (ne : sts ≠ []) (s8 : sts.length ≤ 8) : GS sts names :=
  ⟨g, n12, fun y hy => ⟨(h y hy).1, by rw [(h y hy).2]⟩, ne, s8⟩
/-- fifty-five lots -/
theorem wide55 {pre : List Str} {x : Str} (g : GN (pre ++ [x])) (hl : pre.length = 11) : ok_several_lots (pre ++ [x]) [((3 : Int), pre ++ [x])] x ∧ (m_several_lots (pre ++ [x]) [((3 : Int), pre ++ [x])] x).length = 55 := by
  have hx : x ∉ pre := fun h => by
    have := List.nodup_append.mp g.nd
    exact this.2.2 x h x (by simp) rfl
  have ha : ahd (pre ++ [x]) x = pre := ahd_of hx
  have gs : GS [((3 : Int), pre ++ [x])] (pre ++ [x]) := gs_of g (by rw [List.length_append, hl]; simp) (by simp) (by simp) (by simp)
  have npre : pre.Nodup := (List.nodup_append.mp g.nd).1
  have apre : Asc pre := (List.pairwise_append.mp g.asc).1
  have e0 : allL [((3 : Int), pre ++ [x])] x = (lotsR 9 pre [[]]).map srt := by
    show byL ((3 : Int), pre ++ [x]) x ++ [] = _
    rw [List.append_nil]
    unfold byL
    show (if ((ahd (pre ++ [x]) x).length : Int) < 3 then _ else (lotsR (((ahd (pre ++ [x]) x).length : Int) - 3 + 1) (ahd (pre ++ [x]) x) [[]]).map srt) = _
    rw [ha, hl, if_neg (by omega)]
    rfl
  have mem9 : ∀ z ∈ lotsR 9 pre [[]], z.Sublist pre ∧ z.length = 9 := fun z hz => by
    obtain ⟨a, b⟩ := (mem_lots (by omega) (by omega)).mp hz
    exact ⟨a, by omega⟩
  have e1 : (lotsR 9 pre [[]]).map srt = lotsR 9 pre [[]] := by
    have : (lotsR 9 pre [[]]).map srt = (lotsR 9 pre [[]]).map id := List.map_congr_left fun z hz => srt_id (List.Pairwise.sublist (mem9 z hz).1 apre)
    rw [this, List.map_id]
  have len : (lotsR 9 pre [[]]).length = 55 := by rw [lotsR_len, hl]; exact lots_11_9.1
  have nd : (lotsR 9 pre [[]]).Nodup := by
    rw [lotsR_range, hl]
    refine List.pairwise_map.mpr (List.Pairwise.imp_of_mem (fun {a b} ha hb ne e => ne ?_) lots_11_9.2)
    have sa := (mem_lots (by omega) (by simp) |>.mp ha).1.subset
    have sb := (mem_lots (by omega) (by simp) |>.mp hb).1.subset
    have inj : ∀ {a b : List Nat}, (∀ i ∈ a, i < 11) → (∀ i ∈ b, i < 11) → a.map (fun i => pre.getD i default) = b.map (fun i => pre.getD i default) → a = b := by
      intro a
      induction a with
      | nil => intro b _ _ e; cases b with
        | nil => rfl
        | cons _ _ => cases e
      | cons i a ih =>
        intro b h1 h2 e
        cases b with
        | nil => cases e
        | cons j b =>
          rw [List.map_cons, List.map_cons] at e
          obtain ⟨e1, e2⟩ := List.cons.inj e
          have hi := h1 i List.mem_cons_self
          have hj := h2 j List.mem_cons_self
          rw [List.getD_eq_getElem?_getD, List.getD_eq_getElem?_getD, List.getElem?_eq_getElem (by omega), List.getElem?_eq_getElem (by omega)] at e1
          have e1' : pre[i] = pre[j] := e1
          have : i = j := (List.getElem_inj npre).mp e1'
          rw [this, ih (fun t ht => h1 t (List.mem_cons_of_mem _ ht)) (fun t ht => h2 t (List.mem_cons_of_mem _ ht)) e2]
    exact inj (fun i hi => List.mem_range.mp (sa hi)) (fun i hi => List.mem_range.mp (sb hi)) e
  obtain ⟨s1, s2⟩ := several_spec gs (List.Perm.refl _) (by simp) (e := x) (by rw [e0, e1, len]; omega)
  rw [e0, e1] at s2
  have p := mn_same s2 nd fun y hy => ⟨(mem9 y hy).2, List.Pairwise.sublist (mem9 y hy).1 apre, npre.sublist (mem9 y hy).1⟩
  exact ⟨s1, by rw [p.length_eq, len]⟩
theorem law4 (s : Scr) : ok_law_4 s ∧ m_law_4 s = true := by
  obtain ⟨q1, q2⟩ := purse_ok s
  obtain ⟨w1, w2, w3⟩ := wide_spec q2
  show (ok__law_purse s 0 ∧ ok__law_wide_names (m__law_purse s 0) 12 ∧ ok_law_5 s ((m__law_wide_names (m__law_purse s (0 : Int)) (12 : Int)).1)) ∧ m_law_5 s ((m__law_wide_names (m__law_purse s (0 : Int)) (12 : Int)).1) = true
  generalize (m__law_wide_names (m__law_purse s (0 : Int)) (12 : Int)).1 = row at w2 w3
  refine (show ∀ {A B D E : Prop}, A → B → (D ∧ E) → (A ∧ B ∧ D) ∧ E from fun a b d => ⟨⟨a, b, d.1⟩, d.2⟩) q1 w1 ?_
  show ok_law_6 s row (cut row none (some (8 : Int))) ∧ m_law_6 s row (cut row none (some (8 : Int))) = true
  rw [cut_to _ (by omega)]
  show ok_law_6 s row (row.take 8) ∧ m_law_6 s row (row.take 8) = true
  -- the twelve
  obtain ⟨pre, x, hrow, hpl⟩ : ∃ pre x, row = pre ++ [x] ∧ pre.length = 11 := by
    rcases List.eq_nil_or_concat row with e | ⟨pre, x, e⟩
    · rw [e] at w3; simp at w3
    · rw [List.concat_eq_append] at e
      refine ⟨pre, x, e, ?_⟩
      rw [e, List.length_append, List.length_singleton] at w3
      omega
  have gf := gn_take w2 8
  have lf : (row.take 8).length = 8 := by rw [List.length_take, w3]; rfl
  generalize row.take 8 = few at gf lf
  subst hrow
  obtain ⟨t1, t2⟩ := last_of pre x
  obtain ⟨v1, v2⟩ := wide55 w2 hpl
  -- the eight
  obtain ⟨a, b, c, rest, rfl⟩ : ∃ a b c rest, few = a :: b :: c :: rest := by
    match few, lf with
    | a :: b :: c :: rest, _ => exact ⟨a, b, c, rest, rfl⟩
  obtain ⟨pf, y, hfew, hfl⟩ : ∃ pf y, a :: b :: c :: rest = pf ++ [y] ∧ pf.length = 7 := by
    rcases List.eq_nil_or_concat (a :: b :: c :: rest) with e | ⟨pre, x, e⟩
    · cases e
    · rw [List.concat_eq_append] at e
      refine ⟨pre, x, e, ?_⟩
      have := congrArg List.length e
      rw [lf, List.length_append, List.length_singleton] at this
      omega
  have big : (8 : Int) < (10 : Int) ^ ((29 : Int)).toNat := by decide +kernel
  have yl : y ∉ pf := fun h => by
    have := List.nodup_append.mp (hfew ▸ gf.nd)
    exact this.2.2 y h y (by simp) rfl
  have g1 : GS [(((10 : Int) ^ ((29 : Int)).toNat), a :: b :: c :: rest), ((1 : Int), a :: b :: c :: rest)] (a :: b :: c :: rest) := gs_of gf (by omega) (by
    intro z hz
    simp only [List.mem_cons, List.not_mem_nil, or_false] at hz
    rcases hz with rfl | rfl
    · exact ⟨by show (1 : Int) ≤ (10 : Int) ^ ((29 : Int)).toNat; omega, rfl⟩
    · exact ⟨by show (1 : Int) ≤ 1; omega, rfl⟩) (by simp) (by simp)
  have hy : y ∈ a :: b :: c :: rest := by rw [hfew]; simp
  obtain ⟨i1, i2⟩ := several_spec g1 (List.Perm.refl _) hy (allL_len g1 hy (by omega))
  have r1 : m_several_lots (a :: b :: c :: rest) [(((10 : Int) ^ ((29 : Int)).toNat), a :: b :: c :: rest), ((1 : Int), a :: b :: c :: rest)] y = [[]] := by
    refine i2.uniq (mn_nil (mem_allL.mpr ⟨_, List.mem_cons_self, (mem_by gf.nd (by show (1 : Int) ≤ (10 : Int) ^ ((29 : Int)).toNat; omega)).mpr (.inl ⟨?_, rfl⟩)⟩))
    show ((ahd (a :: b :: c :: rest) y).length : Int) < (10 : Int) ^ ((29 : Int)).toNat
    rw [hfew, ahd_of yl, hfl]
    omega
  obtain ⟨u1, u2⟩ := last_of pf y
  rw [← hfew] at u1 u2
  -- the third
  have nab : a ≠ b := fun e => by
    have := (List.nodup_cons.mp gf.nd).1
    exact this (by rw [e]; simp)
  have nac : c ∉ ([a, b] : List Str) := by
    have h1 := List.nodup_cons.mp gf.nd
    have h2 := List.nodup_cons.mp h1.2
    intro h
    simp only [List.mem_cons, List.not_mem_nil, or_false] at h
    rcases h with rfl | rfl
    · exact h1.1 (by simp)
    · exact h2.1 (by simp)
  have lab : leS a b = true := (List.pairwise_cons.mp gf.asc).1 b (by simp)
  have hahd : ahd (a :: b :: c :: rest) c = [a, b] := ahd_of (l := [a, b]) (r := rest) nac
  have g2 : GS [((2 : Int), a :: b :: c :: rest), ((1 : Int), a :: b :: c :: rest)] (a :: b :: c :: rest) := gs_of gf (by omega) (by
    intro z hz
    simp only [List.mem_cons, List.not_mem_nil, or_false] at hz
    rcases hz with rfl | rfl
    · exact ⟨by show (1 : Int) ≤ 2; omega, rfl⟩
    · exact ⟨by show (1 : Int) ≤ 1; omega, rfl⟩) (by simp) (by simp)
  have hc : c ∈ a :: b :: c :: rest := by simp
  obtain ⟨j1, j2⟩ := several_spec g2 (List.Perm.refl _) hc (allL_len g2 hc (by omega))
  have memP : ∀ L, L ∈ allL [((2 : Int), a :: b :: c :: rest), ((1 : Int), a :: b :: c :: rest)] c ↔ Asc L ∧ L.Nodup ∧ Sub L [a, b] ∧ (L.length = 1 ∨ L.length = 2) := fun L => by
    rw [mem_allL]
    constructor
    · rintro ⟨z, hz, hL⟩
      simp only [List.mem_cons, List.not_mem_nil, or_false] at hz
      rcases hz with rfl | rfl
      · rcases (mem_by gf.nd (by show (1 : Int) ≤ 2; omega)).mp hL with ⟨q, _⟩ | ⟨_, q2, q3, q4, q5⟩
        · rw [show ahd ((2 : Int), a :: b :: c :: rest).2 c = [a, b] from hahd] at q
          simp at q
        · rw [show ahd ((2 : Int), a :: b :: c :: rest).2 c = [a, b] from hahd] at q4 q5
          exact ⟨q2, q3, q4, .inl (by simp at q5; omega)⟩
      · rcases (mem_by gf.nd (by show (1 : Int) ≤ 1; omega)).mp hL with ⟨q, _⟩ | ⟨_, q2, q3, q4, q5⟩
        · rw [show ahd ((1 : Int), a :: b :: c :: rest).2 c = [a, b] from hahd] at q
          simp at q
        · rw [show ahd ((1 : Int), a :: b :: c :: rest).2 c = [a, b] from hahd] at q4 q5
          exact ⟨q2, q3, q4, .inr (by simp at q5; omega)⟩
    · rintro ⟨q2, q3, q4, q5 | q5⟩
      · refine ⟨((2 : Int), a :: b :: c :: rest), by simp, (mem_by gf.nd (by show (1 : Int) ≤ 2; omega)).mpr (.inr ?_)⟩
        rw [show ahd ((2 : Int), a :: b :: c :: rest).2 c = [a, b] from hahd]
        exact ⟨by show (2 : Int) ≤ _; simp, q2, q3, q4, by rw [q5]; simp⟩
      · refine ⟨((1 : Int), a :: b :: c :: rest), by simp, (mem_by gf.nd (by show (1 : Int) ≤ 1; omega)).mpr (.inr ?_)⟩
        rw [show ahd ((1 : Int), a :: b :: c :: rest).2 c = [a, b] from hahd]
        exact ⟨by show (1 : Int) ≤ _; simp, q2, q3, q4, by rw [q5]; simp⟩
  have r2 : ([[a], [b]] : List (List Str)) = m_several_lots (a :: b :: c :: rest) [((2 : Int), a :: b :: c :: rest), ((1 : Int), a :: b :: c :: rest)] c := by
    refine Mn.uniq ⟨?_, ?_, fun y => ?_⟩ j2
    · exact List.pairwise_cons.mpr ⟨fun z hz => by rw [List.mem_singleton.mp hz]; exact dle_single lab, List.pairwise_singleton _ _⟩
    · exact List.nodup_cons.mpr ⟨by simp [nab], List.pairwise_singleton _ _⟩
    · have one : ∀ t, (t = a ∨ t = b) → [t] ∈ allL [((2 : Int), a :: b :: c :: rest), ((1 : Int), a :: b :: c :: rest)] c := fun t ht => (memP _).mpr ⟨List.pairwise_singleton _ _, List.pairwise_singleton _ _, fun z hz => by
        rw [List.mem_singleton.mp hz]; simpa using ht, .inl rfl⟩
      have least : ∀ t, (t = a ∨ t = b) → ∀ z ∈ allL [((2 : Int), a :: b :: c :: rest), ((1 : Int), a :: b :: c :: rest)] c, z ≠ [t] → ¬ Sub z [t] := fun t ht z hz ne hs => by
        obtain ⟨_, z2, _, z4⟩ := (memP z).mp hz
        match z, z2, z4, ne, hs with
        | [], _, z4, _, _ => simp at z4
        | [u], _, _, ne, hs =>
          have := hs u (by simp)
          exact ne (by rw [List.mem_singleton.mp this])
        | u :: v :: w, z2, _, _, hs =>
          have h1 := List.mem_singleton.mp (hs u (by simp))
          have h2 := List.mem_singleton.mp (hs v (by simp))
          exact (List.nodup_cons.mp z2).1 (by rw [h1, ← h2]; simp)
      constructor
      · intro hy
        simp only [List.mem_cons, List.not_mem_nil, or_false] at hy
        rcases hy with rfl | rfl
        · exact ⟨one a (.inl rfl), least a (.inl rfl)⟩
        · exact ⟨one b (.inr rfl), least b (.inr rfl)⟩
      · rintro ⟨hy, hmin⟩
        obtain ⟨_, y2, y3, y4⟩ := (memP y).mp hy
        match y, y2, y3, y4, hmin with
        | [], _, _, y4, _ => simp at y4
        | [u], _, y3, _, _ =>
          have := y3 u (by simp)
          simp only [List.mem_cons, List.not_mem_nil, or_false] at this ⊢
          rcases this with rfl | rfl
          · exact .inl rfl
          · exact .inr rfl
        | u :: v :: w, _, y3, _, hmin =>
          have := y3 u (by simp)
          simp only [List.mem_cons, List.not_mem_nil, or_false] at this
          exact absurd (fun z hz => by rw [List.mem_singleton.mp hz]; simp) (hmin [u] (one u this) (by simp))
  have c1 : cut (a :: b :: c :: rest) none (some (1 : Int)) = [a] := cut_to _ (by omega)
  have c2 : cut (a :: b :: c :: rest) (some (1 : Int)) (some (2 : Int)) = [b] := by
    unfold cut HT.sIx
    simp only [List.length_cons]
    rw [if_neg (by omega), if_neg (by omega)]
    have e1 : (1 : Int).toNat = 1 := rfl
    have e2 : (2 : Int).toNat = 2 := rfl
    first
      | rfl
      | (simp [e1, e2, Nat.min_def]; done)
      | (rw [e1, e2]; rfl)
  have g3 : getI (a :: b :: c :: rest) (2 : Int) = c ∧ (atI (a :: b :: c :: rest) (2 : Int)).isSome = true := by
    have h : 2 < (a :: b :: c :: rest).length := by simp
    exact ⟨getI_nat (j := 2) h, by have := ix_nat (j := 2) h; rw [show ((2 : Nat) : Int) = (2 : Int) from rfl] at this; rw [this]; rfl⟩
  -- one entry
  have gA : GN (["a"] : List Str) := by
    refine ⟨List.pairwise_singleton _ _, List.pairwise_singleton _ _, fun z hz => ?_⟩
    rw [List.mem_singleton.mp hz]
    refine ⟨by decide +kernel, by decide +kernel, fun c hc => ?_⟩
    have : ("a" : Str).cps.toList = [97] := by decide +kernel
    rw [this, List.mem_singleton] at hc
    subst hc
    exact ⟨by omega, by omega⟩
  have gsA : GS [((1 : Int), (["a"] : List Str))] ["a"] := gs_of gA (by simp) (by simp) (by simp) (by simp)
  have hA : ("a" : Str) ∈ (["a"] : List Str) := by simp
  obtain ⟨m1, m2⟩ := several_spec gsA (List.Perm.refl _) hA (allL_len gsA hA (by simp))
  have r3 : m_several_lots (["a"] : List Str) [((1 : Int), (["a"] : List Str))] "a" = [[]] := by
    refine m2.uniq (mn_nil (mem_allL.mpr ⟨_, List.mem_cons_self, (mem_by gA.nd (by show (1 : Int) ≤ 1; omega)).mpr (.inl ⟨?_, rfl⟩)⟩))
    show ((ahd (["a"] : List Str) "a").length : Int) < 1
    rw [show ahd (["a"] : List Str) "a" = [] from ahd_of (l := []) (r := []) (by simp)]
    simp
  have d6 : (!decide (((m_several_lots (pre ++ [x]) ([((3 : Int), pre ++ [x])] : List (Int × List Str)) (getI (pre ++ [x]) (-(1 : Int)))).length : Int) = (55 : Int))) = false := by rw [t2, v2]; rfl
  have d8 : (!decide ((m_several_lots (a :: b :: c :: rest) ([(((10 : Int) ^ ((29 : Int)).toNat), a :: b :: c :: rest), ((1 : Int), a :: b :: c :: rest)] : List (Int × List Str)) (getI (a :: b :: c :: rest) (-(1 : Int)))) = ([([] : List Str)] : List (List Str)))) = false := by rw [u2, r1]; rfl
  have d10 : (!decide (([(cut (a :: b :: c :: rest) none (some (1 : Int))), (cut (a :: b :: c :: rest) (some (1 : Int)) (some (2 : Int)))] : List (List Str)) = (m_several_lots (a :: b :: c :: rest) ([((2 : Int), a :: b :: c :: rest), ((1 : Int), a :: b :: c :: rest)] : List (Int × List Str)) (getI (a :: b :: c :: rest) (2 : Int))))) = false := by rw [c1, c2, g3.1, ← r2]; simp
  have ok10 : ok_law_10 s (pre ++ [x]) (a :: b :: c :: rest) := ⟨g3.2, by rw [g3.1]; exact j1, fun h => absurd (d10.symm.trans h) (by decide), fun _ => ⟨m1, trivial⟩⟩
  have ok8 : ok_law_8 s (pre ++ [x]) (a :: b :: c :: rest) := ⟨⟨by omega, by decide +kernel⟩, u1, by rw [u2]; exact i1, fun h => absurd (d8.symm.trans h) (by decide), fun _ => ok10⟩
  refine ⟨⟨t1, by rw [t2]; exact v1, fun h => absurd (d6.symm.trans h) (by decide), fun _ => ok8⟩, ?_⟩
  unfold m_law_6
  rw [d6, if_neg (by decide)]
  unfold m_law_8
  rw [d8, if_neg (by decide)]
  unfold m_law_10
  rw [d10, if_neg (by decide)]
  unfold m_law_12
  rw [r3]
  rfl
theorem plain (s : Scr) (h : s.ns.length ≤ 63) : ok_law s ∧ m_law s = true := by
  obtain ⟨p1, p2⟩ := purses_spec s (few := 3) (by omega) (by omega)
  obtain ⟨l1, l2⟩ := loopP_all (f := fun (y : List Int) => m_law_1 s y) (okf := fun (y : List Int) => ok_law_1 s y) (m__law_purses s 3) (fun y hy => by
    obtain ⟨r1, r2⟩ := right_spec (p2 y hy)
    have e : (!((m__law_right y).1)) = false := by rw [r2]; rfl
    refine ⟨⟨r1, fun h => absurd (e.symm.trans h) (by decide), fun _ => trivial⟩, ?_⟩
    show (if (!((m__law_right y).1)) = true then _ else _) = _
    rw [e, if_neg (by decide)]
    rfl)
  obtain ⟨q1, q2⟩ := law4 s
  refine ⟨⟨p1, l1, fun _ => q1⟩, ?_⟩
  show elimR (loopP _ _) id _ = true
  rw [l2]
  exact q2
end Pf


open PySem PySem.W PySem.Calls PyProof.Rows
theorem PySem.Challenge.cw_panelfairs_k61_whole_several_cards_and_l_holds : PySem.Challenge.rw_panelfairs_k61_whole_several_cards_and_l.Holds := by
  w_on; o_law
  refine HandSHeadRun.head_any (r := OpenLaw.row PySem.Challenge.rw_panelfairs_k61_whole_several_cards_and_l) (q := view (OpenLaw.row PySem.Challenge.rw_panelfairs_k61_whole_several_cards_and_l).prog [48]) (H := Pf.hk) (ob := Pf.ob) (M := 6000) (loose := Pf.loose) (d := HandSHeadRun.topDef (OpenLaw.row PySem.Challenge.rw_panelfairs_k61_whole_several_cards_and_l).prog 48) (kwd := []) Pf.ob_eq
    (by kernel_rfl) (fun s => by kernel_rfl) Pf.run (by kernel_rfl) (by kernel_rfl) (by kernel_rfl) (by rfl) (by first | assumption | decide +kernel) (by decide +kernel) ⟨rfl, rfl, rfl, rfl, rfl, by decide +kernel⟩ ?hw ?hc
  case hw => w_witness2
  case hc =>
    refine Dn.walk_ofG (l := PySem.Challenge.rw_panelfairs_k61_whole_several_cards_and_l) (n := 63) (k := 9) (x := "script") (CX := L2.CX0) rfl (by decide) (by kernel_rfl) ⟨⟨rfl, by decide, by decide⟩, rfl⟩ ?F (fun _ _ _ _ z => z)
    intro w mg fa h Y G hmg0
    obtain ⟨K, KX, c⟩ := Y
    have hmg : mg ("law" : PySem.Str) = some (.ref fa) := by
      have e : (HandSHeadRun.topDef (OpenLaw.row PySem.Challenge.rw_panelfairs_k61_whole_several_cards_and_l).prog 48).name = ("law" : PySem.Str) := by kernel_rfl
      rw [← e]
      exact hmg0
    letI pc : Dn.PC := ⟨He.ga K, K⟩
    have T : Pf.Tx K mg := ⟨fun _ => rfl, rfl, c, fun x h => He.glo_ok KX G h, fun x h => He.free_ok KX G h, fun x z h => He.str_ok KX G h⟩
    have e := hmg.symm.trans (Pf.g_law T)
    cases e
    refine ⟨K, Dn.SpN Dn.kD (fun a : Dn.Scr × Unit => Pf.ok_law a.1) (fun a => Pf.m_law a.1), KX, fun H a ns hl _ hS => ?_, fun base _ _ => ?_⟩
    rotate_left
    · obtain ⟨fd, _, _, hb, hF⟩ := (Pf.h_law (P := (PySem.Challenge.rw_panelfairs_k61_whole_several_cards_and_l).prog) (w := w) (base := base) T).ex
      exact ⟨fd, hb, hF⟩
    · have hp := Pf.plain ⟨ns⟩ hl
      refine ⟨H, (⟨ns⟩, ()), Dn.Ex.refl H, ⟨_, _, rfl, ⟨a, rfl, hS, Nat.le_trans hl (by decide)⟩, rfl⟩, hp.1, fun w G' H' g r => ?_⟩
      have r' : w = .bl (Pf.m_law ⟨ns⟩) := r
      rw [r', hp.2]


