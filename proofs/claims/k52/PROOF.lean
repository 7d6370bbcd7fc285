import PyProof.Rows.All
import Wide.All
import OpenK.AllK
import Wide.FinOn
import PyProof.EqAt
import PyProof.EqKinds
import PyProof.TupleCall
import HandS.Base
import HandS.Call
import HandS.List
import HandS.Set
import HandS.SetFor
import HandS.Strs
import HandS.ForMost
import HandS.IsInst
import HandS.WideBits
import HandS.Walk
import HandS.Codes
import HandS.Defaults
import HandS.HeadEnd
import HandS.Iter
import HandS.Style
import HandS.OwnEq
import HandS.SlotsOwn
import PyProof.InstEq
import HandS.HeadHook2
import PyProof.ReprRoads
import PyProof.ReprReads
import HandS.Star
import PyProof.ZipIter
import HandS.Zip0
import HandS.Zip
import HandS.Deep
import KE.KStateDown
import HandS.WordsExc
import HandS.Head0
import HandS.Head1
import HandS.Head2
import HandS.HeadHook1
import PySem.Challenge.RW_panelfairs_k52_whole_joint
set_option Elab.async false
set_option linter.all false
set_option maxRecDepth 100000
set_option maxHeartbeats 0
namespace TX
open L2
open PySem PySem.Spec PyProof.Rows

def tkeyOf (e : Int × Value) : Str := match e.2 with | .str k _ => k | _ => Str.empty
def GoodT (w : World) (e : Int × Value) : Prop := ∃ k tk, e.2 = Value.str k tk ∧ e.1 = hashStr w k

/-- the set of ints at a: S its members, n their number; its table rises and can be walked -/
def SetTx (w : World) (h : Heap) (a : Addr) (S : Str → Bool) (n : Nat) : Prop :=
  ∃ o es ep t, h.get? a = some o ∧ o.ExactSet ∧ o.data = .set es ep t ∧ (∀ e ∈ es.toList, GoodT w e) ∧ (es.toList.map tkeyOf).Nodup ∧ (∀ k, S k = true ↔ k ∈ es.toList.map tkeyOf) ∧
    es.size < scanBound ∧ t.fits es.size = true ∧ es.size = n ∧ Ris t.place.toList ∧ (w.params.followText "set-order" = true ∨ t.led = true)

section
variable {P : Program} {w : World} {h h' : Heap} {a : Addr} {S : Str → Bool} {n : Nat}

theorem SetTx.at (R : SetTx w h a S n) (k : ∀ o, h.get? a = some o → h'.get? a = some o) : SetTx w h' a S n := by
  obtain ⟨o, es, ep, t, ho, r⟩ := R
  exact ⟨o, es, ep, t, k o ho, r⟩
theorem SetTx.lt (R : SetTx w h a S n) : a < h.objs.size := by
  obtain ⟨o, es, ep, t, ho, r⟩ := R
  exact Heap.lt_size ho
theorem SetTx.congr {S' : Str → Bool} (R : SetTx w h a S n) (e : ∀ k, S' k = S k) : SetTx w h a S' n := by
  have q : S' = S := funext e
  rw [q]; exact R
theorem goodT_elems {l : List (Int × Value)} (g : ∀ e ∈ l, GoodT w e) : ElemsOf (strKind P w) l := fun e he => by
  obtain ⟨k, tk, h1, h2⟩ := g e he
  exact ⟨⟨k, by rw [h1]; exact strKind_is P w k tk, h2⟩, by rw [h1] <;> rfl⟩
theorem goodT_is {e : Int × Value} (g : GoodT w e) (k : Str) : (strKind P w).is k e.2 = true ↔ tkeyOf e = k := by
  obtain ⟨k0, tk, h1, _⟩ := g
  unfold tkeyOf
  rw [h1]
  show (Value.isStrOf k (.str k0 tk) = true) ↔ k0 = k
  simp [Value.isStrOf]
theorem goodT_mem {l : List (Int × Value)} (g : ∀ e ∈ l, GoodT w e) (k : Str) : k ∈ l.map tkeyOf ↔ ∃ e ∈ l, (strKind P w).is k e.2 = true := by
  rw [List.mem_map]
  constructor
  · rintro ⟨e, he, q⟩
    exact ⟨e, he, (goodT_is (g e he) k).2 q⟩
  · rintro ⟨e, he, q⟩
    exact ⟨e, he, (goodT_is (g e he) k).1 q⟩
theorem SetTx.setOf (R : SetTx w h a S n) : h.SetOf (strKind P w) a S n := by
  obtain ⟨o, es, ep, t, ho, hx, hd, g, nd, hm, hb, hf, hn, _⟩ := R
  exact ⟨o, es, ep, t, ho, hx, hd, goodT_elems g, fun k => (hm k).trans (goodT_mem g k), hb, hf, hn⟩
end

section
variable {P : Program} {w : World} {A : Around} {E : Value → Shared → Prop} {s : Shared} {a : Addr} {S : Str → Bool} {n : Nat}

theorem storeT_at {h : Heap} {a : Addr} {o : Obj} {es es' : Array (Int × Value)} {ep : Nat} {t t' : SetTable} (ho : h.get? a = some o) (hd : o.data = .set es ep t) :
    (h.update a (Obj.putSet es' t')).get? a = some { o with data := .set es' (ep + 1) t' } := by
  have q := Heap.get?_update_self (Obj.putSet es' t') ho (by rw [putSet_of es' t' hd]; rfl)
  rw [putSet_of es' t' hd] at q
  exact q

theorem setTx_add_tail {g : Bool → Sem Unit} (hg : ∀ (b : Bool) (s₁ : Shared) (Q' : Unit → Shared → Prop), Q' () s₁ → wpAny (model P w) A (g b) Q' E s₁)
    {o : Obj} {es : Array (Int × Value)} {ep : Nat} {t : SetTable} (ho : s.heap.get? a = some o) (hex : o.ExactSet) (hd : o.data = .set es ep t)
    {es1 : Array (Int × Value)} {t2 : SetTable} {S' : Str → Bool} (g1 : ∀ e ∈ es1.toList, GoodT w e) (nd1 : (es1.toList.map tkeyOf).Nodup) (m1 : ∀ k, S' k = true ↔ k ∈ es1.toList.map tkeyOf)
    (hb1 : es1.size < scanBound) (hf2 : t2.fits es1.size = true) (hr : Ris t2.place.toList) (hl : w.params.followText "set-order" = true ∨ t2.led = true) {wasDummy : Bool} {R : Option Bool → Shared → Prop}
    (hR : ∀ h', Heap.SameBut a s.heap h' → SetTx w h' a S' es1.size → R (some true) { s with heap := h' }) :
    wpAny (model P w) A (do
        storeSet a es1 t2
        if (!wasDummy && t2.tooFull) = true then do
            g (relayAll t2 es1 (SetTable.grown es1.size)).2.2
            storeSet a (relayAll t2 es1 (SetTable.grown es1.size)).1 (relayAll t2 es1 (SetTable.grown es1.size)).2.1
            pure (some true)
          else pure (some true)) R E s := by
  refine wpAny_bind (wpAny_storeSet_of ho hd ?_ (fits_of_scanBound hb1))
  have ho1 := storeT_at (es' := es1) (t' := t2) ho hd
  have sb1 := Heap.SameBut.update s.heap a (Obj.putSet es1 t2)
  split
  · have pm := relayAll_perm t2 es1 (SetTable.grown es1.size)
    have hf3 := relayAll_fits t2 es1 (SetTable.grown es1.size)
    have hr3 := relayAll_ris t2 es1 (SetTable.grown es1.size)
    have hl3 := relayAll_led t2 es1 (SetTable.grown es1.size)
    generalize relayAll t2 es1 (SetTable.grown es1.size) = Z at pm hf3 hr3 hl3 ⊢
    obtain ⟨es2, t3, gave⟩ := Z
    dsimp only at pm hf3 hr3 hl3 ⊢
    have hsz : es2.size = es1.size := by rw [← Array.length_toList, pm.length_eq, Array.length_toList]
    have hb2 : es2.size < scanBound := by rw [hsz]; exact hb1
    refine wpAny_bind (hg _ _ _ ?_)
    refine wpAny_bind (wpAny_storeSet_of ho1 rfl ?_ (fits_of_scanBound hb2))
    have ho2 := storeT_at (es' := es2) (t' := t3) ho1 rfl
    refine wpAny_pure (hR _ (sb1.trans (Heap.SameBut.update _ a _)) ?_)
    exact ⟨_, es2, _, t3, ho2, hex, rfl, fun e he => g1 e (pm.mem_iff.mp he), (pm.map tkeyOf).nodup_iff.mpr nd1, fun k => (m1 k).trans (pm.map tkeyOf).mem_iff.symm, hb2, hf3, hsz, hr3,
      hl.imp id fun z => by rw [hl3]; exact z⟩
  · exact wpAny_pure (hR _ sb1 ⟨_, es1, _, t2, ho1, hex, rfl, g1, nd1, m1, hb1, hf2, rfl, hr, hl⟩)

theorem setTx_add_hashed {k : Str} {tk : Tok} {Q : Bool → Shared → Prop} (R : SetTx w s.heap a S n) (room : n + 1 < scanBound)
    (hQ : ∀ h', Heap.SameBut a s.heap h' → SetTx w h' a (fun j => S j || decide (j = k)) (if S k = true then n else n + 1) → Q (!S k) { s with heap := h' }) :
    wpAny (model P w) A (setAddHashed a (.str k tk) ((strKind P w).hash k)) Q E s := by
  obtain ⟨o, es, ep, t, ho, hex, hd, g, nd, hm, hb, hf, hn, hr, hl⟩ := R
  have hkey : (strKind P w).is k (.str k tk) = true := strKind_is P w k tk
  have hsc : (Value.str k tk).scannable = true := rfl
  have hel : ElemsOf (strKind P w) es.toList := goodT_elems g
  unfold setAddHashed setAddHashedIn
  refine wpAny_holding (wpAny_bind (wpAny_setState_of ho hd hf ?_))
  dsimp only
  rw [byScan_of hsc hb hel]
  simp only [↓reduceIte]
  unfold setAddByScan
  refine wpAny_bind ?_
  refine wpAny_bind (wpAny_rule ?_)
  refine wpAny_bind (wpAny_setScan_of hkey ho hd hf hel ?_)
  cases hfi : List.findIdx? (fun e => (strKind P w).is k e.2) es.toList with
  | some j =>
    dsimp only
    obtain ⟨hj, pj, _⟩ := List.findIdx?_eq_some_iff_getElem.mp hfi
    have hSk : S k = true := (hm k).2 ((goodT_mem (P := P) (w := w) g k).2 ⟨es.toList[j], List.getElem_mem hj, pj⟩)
    refine wpAny_pure (wpAny_pure ?_)
    have q := hQ s.heap (Heap.SameBut.refl a s.heap) ⟨o, es, ep, t, ho, hex, hd, g, nd, fun i => by
      rw [Bool.or_eq_true, decide_eq_true_eq, ← hm i]
      exact ⟨fun z => z.elim id (fun e => e ▸ hSk), .inl⟩, hb, hf, by rw [if_pos hSk]; exact hn, hr, hl⟩
    rw [hSk] at q
    exact q
  | none =>
    dsimp only
    have hnk : k ∉ es.toList.map tkeyOf := fun z => by
      obtain ⟨e, he, q⟩ := (goodT_mem (P := P) (w := w) g k).1 z
      have c := List.findIdx?_eq_none_iff.mp hfi e he
      rw [q] at c
      cases c
    have hSk : S k = false := by
      cases q : S k with
      | false => rfl
      | true => exact absurd ((hm k).1 q) hnk
    have hgw : ∀ (b : Bool) {s₁ : Shared} {Q' : Unit → Shared → Prop}, Q' () s₁ → wpAny (model P w) A (match b with | true => rule "set.scan.the-table-gave-way" | false => pure ()) Q' E s₁ :=
      fun b s₁ Q' q => by cases b <;> first | exact wpAny_pure q | exact wpAny_rule q
    have pm := layNew_perm t es ((strKind P w).hash k) (.str k tk)
    have hf1 := layNew_fits t es ((strKind P w).hash k) (.str k tk)
    have hr1 := layNew_ris t es ((strKind P w).hash k) (.str k tk) hr
    have hl1 := layNew_led t es ((strKind P w).hash k) (.str k tk)
    generalize layNew t es ((strKind P w).hash k) (.str k tk) = Z at pm hf1 hr1 hl1 ⊢
    obtain ⟨es1, t1, wasDummy, gave⟩ := Z
    dsimp only at pm hf1 hr1 hl1 ⊢
    rw [Array.toList_push] at pm
    have pc : es1.toList.Perm (((strKind P w).hash k, Value.str k tk) :: es.toList) := pm.trans (List.perm_append_singleton _ _)
    have pk : (es1.toList.map tkeyOf).Perm (k :: es.toList.map tkeyOf) := pc.map tkeyOf
    have g1 : ∀ e ∈ es1.toList, GoodT w e := fun e he => by
      rcases List.mem_cons.mp (pc.mem_iff.mp he) with z | z
      · rw [z]; exact ⟨k, tk, rfl, rfl⟩
      · exact g e z
    have nd1 : (es1.toList.map tkeyOf).Nodup := pk.nodup_iff.mpr (List.nodup_cons.mpr ⟨hnk, nd⟩)
    have m1 : ∀ i, (S i || decide (i = k)) = true ↔ i ∈ es1.toList.map tkeyOf := fun i => by
      rw [Bool.or_eq_true, decide_eq_true_eq, hm i, pk.mem_iff, List.mem_cons]
      exact Or.comm
    have hsz : es1.size = n + 1 := by rw [← Array.length_toList, pc.length_eq, List.length_cons, Array.length_toList, hn]
    have hb1 : es1.size < scanBound := by rw [hsz]; exact room
    have hled : w.params.followText "set-order" = true ∨ t1.led = true := hl.imp id fun z => by rw [hl1]; exact z
    have fin : ∀ h', Heap.SameBut a s.heap h' → SetTx w h' a (fun j => S j || decide (j = k)) es1.size → Q true { s with heap := h' } := fun h' sb r => by
      have q := hQ h' sb
      rw [hSk] at q
      rw [hsz] at r
      exact q r
    refine wpAny_bind (hgw _ ?_)
    split
    · refine wpAny_bind ?_
      rw [hashByValue_scannable 8 hsc]
      refine wpAny_pure ?_
      refine setTx_add_tail ?_ ho hex hd g1 nd1 m1 hb1 ?_ ?_ ?_ ?_
      · intro b s₁ Q' q; cases b <;> first | exact wpAny_pure q | exact wpAny_rule q
      · first | (split <;> first | exact hf1 | exact SetTable.fits_plain_off hf1) | exact hf1
      · first | (split <;> exact hr1) | exact hr1
      · first | (split <;> exact hled) | exact hled
      · intro h' sb r; dsimp only; exact wpAny_pure (fin h' sb r)
    · refine wpAny_bind (wpAny_pure ?_)
      simp only [↓reduceIte]
      refine setTx_add_tail ?_ ho hex hd g1 nd1 m1 hb1 hf1 hr1 hled ?_
      · intro b s₁ Q' q; cases b <;> first | exact wpAny_pure q | exact wpAny_rule q
      · intro h' sb r; dsimp only; exact wpAny_pure (fin h' sb r)

end
theorem setTx_new_at {w : World} {h : Heap} {a : Addr} {ns : List Str} (ho : h.get? a = some { cls := .type "set", dict := none, data := .set #[] 0 (.fresh 0 0 (!w.params.followText "set-order")) }) : SetTx w h a (fun j => decide (j ∈ ns.take 0)) 0 :=
  ⟨_, #[], 0, _, ho, ⟨rfl, rfl, rfl⟩, rfl, (fun e he => by simp at he), (by simp), (fun k => by simp), (by decide), (by rfl), rfl, List.Pairwise.nil, by
    show _ ∨ (!w.params.followText "set-order") = true
    cases w.params.followText "set-order"
    · exact .inr rfl
    · exact .inl rfl⟩
section
variable {P : Program} {w : World} {A : Around} {E : Value → Shared → Prop} {s : Shared}
theorem set_update_strs {I : Addr} {fp wr : List Addr} {G : Array GenState → Array GenState → Prop} {n : Nat} {Pv : Nat → Value → Prop} {St : Nat → Shared → Prop} {R : Result → Shared → Prop}
    (W : WalksS P w A.in1 I fp wr G n Pv St) (S : Addr) (hSf : S ∉ fp) (ns : List Str) (hn : n = ns.length) (hb : ns.length + 1 < scanBound) (hval : ∀ i v, Pv i v → ∃ k t, ns[i]? = some k ∧ v = .str k t) :
    ∀ (k i : Nat) (s : Shared), n - i = k → i ≤ n → St i s → (∃ c, c ≤ i ∧ SetTx w s.heap S (fun j => decide (j ∈ ns.take i)) c) →
      (∀ s' c, Moved (S :: wr) G s s' → c ≤ n → SetTx w s'.heap S (fun j => decide (j ∈ ns)) c → R (.ok (.ret .none)) s') →
      codeAny (model P w) A (.builtin "set.update.loop" ⟨[.ref S, .ref I], []⟩) R s := by
  have hSw : S ∉ wr := fun h => hSf (W.sub _ h)
  have hsub : ∀ b ∈ wr, b ∈ S :: wr := fun b hb => List.mem_cons_of_mem _ hb
  intro k
  induction k with
  | zero =>
    intro i s hk' hi hst ⟨c, hc, hS⟩ hR
    have hin : i = n := by omega
    subst hin
    refine codeAny_builtin F.entry_set_update_loop ?_
    rw [Around.under_plainId F.plain_set_update_loop _]
    show wpAny _ A.in1 (pyNext (.ref I) >>= _) _ _ s
    refine wpAny_bind (W.done s _ _ hst fun s' hm => ?_)
    show wpAny _ A.in1 (ret Value.none) _ _ s'
    have e : ns.take i = ns := List.take_of_length_le (by omega)
    rw [e] at hS
    exact wpAny_pure (hR s' c (hm.mono hsub) hc (hS.at fun o e => hm.heap S o hSw e))
  | succ k ih =>
    intro i s hk' hi hst ⟨c, hc, hS⟩ hR
    have hlt : i < n := by omega
    refine codeAny_builtin F.entry_set_update_loop ?_
    rw [Around.under_plainId F.plain_set_update_loop _]
    show wpAny _ A.in1 (pyNext (.ref I) >>= _) _ _ s
    refine wpAny_bind (W.item i s _ _ hlt hst fun v s' hP hst' hm => ?_)
    obtain ⟨z, t, hz, rfl⟩ := hval i v hP
    have hS' : SetTx w s'.heap S (fun j => decide (j ∈ ns.take i)) c := hS.at fun o e => hm.heap S o hSw e
    show wpAny _ A.in1 (holding [Value.str z t] (setAdd S (.str z t)) >>= _) _ _ s'
    refine wpAny_bind (wpAny_holding ?_)
    unfold setAdd
    refine wpAny_holding ?_
    refine wpAny_bind ((strKind P w).pyHash (k := z) (strKind_is _ _ _ _) ?_)
    refine setTx_add_hashed (s := { s' with toks := s'.toks + 1 }) hS' (by omega) fun h' hsb hS2 => ?_
    have hS3 : SetTx w h' S (fun j => decide (j ∈ ns.take (i + 1))) (if decide (z ∈ ns.take i) = true then c else c + 1) := hS2.congr fun j => by
      rw [List.take_add_one, hz]
      simp [List.mem_append]
    have hc3 : (if decide (z ∈ ns.take i) = true then c else c + 1) ≤ i + 1 := by
      split <;> omega
    refine wpAny_pure ⟨plainId_quiet F.plain_set_update_loop _, ih (i + 1) _ (by omega) hlt (W.frame _ s' _ _ hst' (Nat.le_succ _) fun b hb o e => ?_) ⟨_, hc3, hS3⟩ fun s'' c2 hm'' hc'' hS'' => ?_⟩
    · rw [hsb.2 b (fun h : b = S => hSf (by rw [← h]; exact hb))]; exact e
    · refine hR s'' c2 (Moved.trans W.gtrans ((hm.mono hsub).then_heap (Nat.le_succ _) fun b o hb e => ?_) hm'') hc'' hS''
      rw [hsb.2 b (fun h : b = S => hb (by rw [h]; exact List.mem_cons_self))]; exact e

theorem call_set_texts {l : Addr} {items : Array Value} (ns : List Str) {Q : Value → Shared → Prop} (hh : A.handled = none) (hl : s.heap.IsList l items) (hit : StrsAre items.toList ns) (hb : ns.length + 1 < scanBound)
    (h : ∀ (h' : Heap) (tk c : Nat), SetTx w h' s.heap.objs.size (fun j => decide (j ∈ ns)) c → c ≤ ns.length → (∀ b o, s.heap.get? b = some o → h'.get? b = some o) → Q (.ref s.heap.objs.size) { s with heap := h', toks := tk }) :
    wpAny (model P w) A (call (.type "set") [.ref l]) Q E s := by
  have hisz : items.size = ns.length := by
    have q := StrsAre.length hit
    rw [Array.length_toList] at q
    exact q
  obtain ⟨c, tl, hmro⟩ := F.called_set.mro
  have hmade := F.called_set.made
  have hsub := F.called_set.sub
  refine wpAny_call (codeAny_of_tree ?_)
  show wpAny _ _ (callAny (.type "set") _) _ _ _
  refine wpAny_pure ⟨Code.quiet_builtin _ (by decide +kernel), codeAny_builtin F.entry_type_call ?_⟩
  rw [Around.under_plain (weight_type_call_type "set" [.ref l] []) rfl]
  have h1 := F.called_set.notType
  have h2 := F.called_set.canCreate
  have hct := F.typeCall_set_1 (.ref l)
  repeat (any_goals (first | assumption | wp_step))

  refine codeAny_mono (code_set_led1 (.ref l) (E := E) (Q₁ := fun obj s₁ => obj = .ref s.heap.objs.size ∧ s₁ = { s with heap := s.heap.push { cls := .type "set", dict := none, data := .set #[] 0 (.fresh 0 0 (!w.params.followText "set-order")) } }) ⟨rfl, rfl⟩) fun r s₁ hr => ?_
  cases r with
  | error e => exact hr
  | ok fl =>
    cases fl with
    | ret obj =>
      obtain ⟨rfl, rfl⟩ := hr
      have hS : (s.heap.push { cls := .type "set", dict := none, data := .set #[] 0 (.fresh 0 0 (!w.params.followText "set-order")) }).get? s.heap.objs.size = some { cls := .type "set", dict := none, data := .set #[] 0 (.fresh 0 0 (!w.params.followText "set-order")) } := Heap.get?_push_size _ rfl
      have hT : Shared.TypeIs { s with heap := s.heap.push { cls := .type "set", dict := none, data := .set #[] 0 (.fresh 0 0 (!w.params.followText "set-order")) } } (.ref s.heap.objs.size) "set" := ⟨_, hS, rfl⟩
      have hli := F.called_set.init.lookup
      have hbi := F.called_set.init.bind (.ref s.heap.objs.size)
      repeat (any_goals (first | assumption | wp_step))

      refine codeAny_mono (codeAny_call_builtin (R := wants (fun r s₂ => r = .none ∧ ∃ h' tk c, s₂ = { s with heap := h', toks := tk } ∧ SetTx w h' s.heap.objs.size (fun j => decide (j ∈ ns)) c ∧ c ≤ ns.length ∧
          (∀ b o, s.heap.get? b = some o → h'.get? b = some o)) E) F.called_set.init.plain F.entry_set_init (check_set_init_1 hT ?_)) fun r₂ s₂ hr₂ => ?_
      · obtain ⟨ol, hol, hcl, nl, hdl⟩ := hl
        obtain ⟨ocls, odict, odata, oslots⟩ := ol
        simp only at hcl hdl
        subst hcl; subst hdl
        have hol' : (s.heap.push { cls := .type "set", dict := none, data := .set #[] 0 (.fresh 0 0 (!w.params.followText "set-order")) }).get? l = some { cls := .type "list", dict := odict, data := .seq items nl, slots := oslots } := Heap.get?_push_of_some _ hol
        have hsls := F.sub_list_set
        have hslf := F.sub_list_frozenset
        have hne : (Value.type "list" == Value.type "dict") = false := by decide
        have hl1 : (s.heap.push { cls := .type "set", dict := none, data := .set #[] 0 (.fresh 0 0 (!w.params.followText "set-order")) }).IsList l items := ⟨_, hol', rfl, nl, rfl⟩
        unfold Builtin.«set.__init__» noKeywords Builtin.Frozenset.updateFrom
        generalize hPI : pyIter = PI
        wp_walk
        subst hPI

        refine wpAny_pyIter_list hl1 ?_
        refine wpAny_bind (wpAny_runValue ?_)
        have hlS : l < s.heap.objs.size := Heap.lt_size hol
        have hh3 : A.in1.in1.in1.handled = none := by simp [hh]
        have hz1 : (s.heap.push { cls := .type "set", dict := none, data := .set #[] 0 (.fresh 0 0 (!w.params.followText "set-order")) }).objs.size = s.heap.objs.size + 1 := Heap.size_push ..
        have hneI : l ≠ (s.heap.push { cls := .type "set", dict := none, data := .set #[] 0 (.fresh 0 0 (!w.params.followText "set-order")) }).objs.size := by
          rw [Heap.size_push]; exact Nat.ne_of_lt (Nat.lt_succ_of_lt hlS)
        have hSf : s.heap.objs.size ∉ [(s.heap.push { cls := .type "set", dict := none, data := .set #[] 0 (.fresh 0 0 (!w.params.followText "set-order")) }).objs.size, l] := by
          rw [Heap.size_push]; simp only [List.mem_cons, List.mem_singleton, List.not_mem_nil, or_false, not_or]
          exact ⟨Nat.ne_of_lt (Nat.lt_succ_self _), Nat.ne_of_gt hlS⟩
        have hval : ∀ (i : Nat) (v : Value), items[i]? = some v → ∃ k t, ns[i]? = some k ∧ v = .str k t := fun i v hv => by
          have hi : i < ns.length := by rw [← hisz]; exact (Array.getElem?_eq_some_iff.mp hv).1
          obtain ⟨t, e⟩ := SS.strs_at hit i v (by rw [Array.getElem?_toList]; exact hv)
          refine ⟨ns[i], t, List.getElem?_eq_getElem hi, ?_⟩
          rw [e, List.getD_eq_getElem?_getD, List.getElem?_eq_getElem hi] <;> rfl
        refine set_update_strs ((Walks.list hh3 _ l hneI items).toS) s.heap.objs.size
          hSf ns hisz hb hval (items.size - 0) 0 _ (by omega) (Nat.zero_le _)
          ⟨⟨_, Heap.get?_push_size _ rfl, rfl, rfl⟩, (hl1.push _)⟩ ?hS0 ?hR
        case hS0 =>
          have hget : ((s.heap.push { cls := .type "set", dict := none, data := .set #[] 0 (.fresh 0 0 (!w.params.followText "set-order")) }).push { cls := .type "list_iterator", data := .fields #[.ref l, .int 0 0] }).get? s.heap.objs.size
              = some { cls := .type "set", dict := none, data := .set #[] 0 (.fresh 0 0 (!w.params.followText "set-order")) } := Heap.get?_push_of_some _ hS
          exact ⟨0, Nat.le_refl 0, setTx_new_at hget⟩
        case hR =>
          intro s' c' hm hc' hS'
          obtain ⟨h', g2, d', tk', os'⟩ := s'
          have eg : g2 = s.gens := hm.gens
          have ed : d' = s.drawn := hm.drawn
          have eo : os' = s.os := hm.os
          subst eg; subst ed; subst eo
          show wpAny _ _ _ _ _ _
          refine wpAny_pure ?_
          show wpAny _ _ (ret Value.none) _ _ _
          rw [hisz] at hc'
          refine wpAny_pure ⟨rfl, h', tk', c', rfl, hS', hc', fun b o e => ?_⟩
          have hb0 : b < s.heap.objs.size := Heap.lt_size e
          have hb1 : b ≠ s.heap.objs.size := Nat.ne_of_lt hb0
          have hb2 : b ≠ (s.heap.push { cls := .type "set", dict := none, data := .set #[] 0 (.fresh 0 0 (!w.params.followText "set-order")) }).objs.size := by
            rw [Heap.size_push]; exact Nat.ne_of_lt (Nat.lt_succ_of_lt hb0)
          exact hm.heap b o (by simp only [List.mem_cons, List.mem_singleton, List.not_mem_nil, or_false, not_or]; exact ⟨hb1, hb2⟩) (Heap.get?_push_of_some _ (Heap.get?_push_of_some _ e))

      · cases r₂ with
        | error e => exact hr₂
        | ok fl₂ =>
          cases fl₂ with
          | ret r =>
            obtain ⟨rfl, h', tk, c', rfl, hS', hc', hk'⟩ := hr₂
            repeat (any_goals (first | assumption | wp_step))
            exact h _ _ _ hS' hc' hk'
          | _ => exact hr₂.elim
    | _ => exact hr.elim
end

section
variable {P : Program} {w : World} {A : Around} {E : Value → Shared → Prop} {s : Shared} {a : Addr}
theorem strs_of_all : ∀ (l : List Value), (∀ v ∈ l, ∃ k tk, v = Value.str k tk) → StrsAre l (l.map strOf)
  | [], _ => .nil
  | v :: l, h => by
    obtain ⟨k, tk, rfl⟩ := h v List.mem_cons_self
    exact .cons k tk (strs_of_all l fun u hu => h u (List.mem_cons_of_mem _ hu))
theorem tkey_strOf (e : Int × Value) : tkeyOf e = strOf e.2 := by
  obtain ⟨h, v⟩ := e
  cases v <;> rfl
theorem sortedTx_set {S : Str → Bool} {n : Nat} {Q : Value → Shared → Prop} (R : SetTx w s.heap a S n) (hh : A.handled = none) (h64 : n < 64)
    (hQ : ∀ s' p (out : Array Value) (c : Nat) (ns : List Str), (∀ b o, s.heap.get? b = some o → s'.heap.get? b = some o) → s'.gens = s.gens → s'.os = s.os → s.heap.objs.size ≤ p →
      s'.heap.get? p = some (seqObj "list" out c) → StrsAre out.toList ns → ns.Nodup → sortedS ns = true → (∀ k, k ∈ ns ↔ S k = true) → ns.length = n → Q (.ref p) s') :
    wpAny (model P w) A (call (.builtin "sorted") [.ref a]) Q E s := by
  obtain ⟨o, es, ep, t, ho, hex, hd, g, nd, hm, hb, hf, hn, hr, hl⟩ := R
  refine Calls.call_function_entry kind_sorted plain_sorted entry_sorted (args_sorted1 _) ?_
  unfold Builtin.«sorted»
  refine wpAny_bind (m := checkCount "sorted" 1 1 _) (wpAny_pure ?_)
  refine wpAny_bind (collect_set (A := A.in1) hh ⟨o, ho, hex.1, hd⟩ hf hb hr hl fun s1 vs k1 hz g1 o1 pm => ?_)
  have hvl : vs.length = n := by rw [pm.length_eq, List.length_map, Array.length_toList]; exact hn
  have hI : StrsAre vs (vs.map strOf) := strs_of_all vs fun v hv => by
    obtain ⟨e, he, q⟩ := List.mem_map.mp (pm.mem_iff.mp hv)
    obtain ⟨k, tk, h1, _⟩ := g e he
    exact ⟨k, tk, by rw [← q]; exact h1⟩
  have pk : (vs.map strOf).Perm (es.toList.map tkeyOf) := by
    have q := pm.map strOf
    rw [List.map_map] at q
    have e : (es.toList.map tkeyOf) = es.toList.map (strOf ∘ fun x => x.2) := List.map_congr_left fun e _ => tkey_strOf e
    rw [e]
    exact q
  refine wpAny_bind (wpAny_newList ?_ (by rw [hvl, sizeLine_eq]; omega))
  have hoL : (s1.heap.push (seqObj "list" vs.toArray 0)).get? s1.heap.objs.size = some (seqObj "list" vs.toArray 0) := Heap.get?_push_size _ rfl
  refine wpAny_bind (wpAny_holding (wpAny_call_entry slot_list_sort ⟨_, hoL, rfl⟩ entry_list_sort (list_sort_treeK strKind_oneLt hoL hI.keysOf (fun v₁ v₂ rest e => keyKind_strs (by rw [← e]; exact hI)) (by rw [hvl]; exact h64) fun st' hp hs => ⟨_, rfl, ?_⟩) (args_list_sort _)))
  obtain ⟨ns', a1, a2, a3⟩ := sorted_out_str hI hp hs
  obtain ⟨c, hc⟩ := sortedHeap_at (vs := vs) (out := (arrOf st').map (·.2)) hoL
  have pn : ns'.Perm (es.toList.map tkeyOf) := a2.trans pk
  refine wpAny_pure ⟨_, rfl, hQ _ s1.heap.objs.size _ c ns' (fun b u e => ?_) g1 o1 hz hc a1 (pn.nodup_iff.mpr nd) a3 (fun k => by rw [pn.mem_iff, ← hm k]) ?_⟩
  · have q := k1 b u e
    have hlt := Heap.lt_size q
    show (sortedHeap (s1.heap.push (seqObj "list" vs.toArray 0)) s1.heap.objs.size vs ((arrOf st').map (·.2))).get? b = some u
    rw [sortedHeap_old (Nat.ne_of_lt hlt) (by rw [size_push']; exact Nat.lt_succ_of_lt hlt)]
    exact Heap.get?_push_of_some _ q
  · rw [pn.length_eq, List.length_map, Array.length_toList]; exact hn
end

theorem SetTx.list {w : World} {h : Heap} {a : Addr} {S : Str → Bool} {n : Nat} (R : SetTx w h a S n) : ∃ L : List Str, L.Nodup ∧ (∀ k, k ∈ L ↔ S k = true) ∧ L.length = n := by
  obtain ⟨o, es, ep, t, ho, hex, hd, g, nd, hm, hb, hf, hn, hr, hl⟩ := R
  exact ⟨_, nd, fun k => (hm k).symm, by rw [List.length_map, Array.length_toList]; exact hn⟩
/-- at a: a set of texts, L its members, each once -/
def SetTO (w : World) (a : Addr) (L : List Str) : HO := .ext fun h => SetTx w h a (fun j => decide (j ∈ L)) L.length
theorem setTO_new {P : Program} {w : World} {H : Hp} {h : Heap} {a : Addr} {L : List Str} (R : SetTx w h a (fun j => decide (j ∈ L)) L.length) : ObjOk P w H h a (SetTO w a L) :=
  ⟨R, (by obtain ⟨o, es, ep, t, ho, r⟩ := R; exact ⟨o, ho⟩), fun h1 h2 z k => z.at k⟩
theorem strs_of_vals : ∀ {ss : List Str} {us : List Value}, Vals (ss.map V.str) us → StrsAre us ss
  | [], _, .nil => .nil
  | x :: xs, _, .cons r t => by
    obtain ⟨k, rfl⟩ := r
    exact .cons x k (strs_of_vals t)
section
variable {X : Cx} {pins : List (Addr × Obj)} {σ : L2.St} {H : Hp} {s : Shared} {a : Addr}
theorem setTO_get {L : List Str} (I : Inv X pins σ H s) (ha : H a = some (SetTO X.w a L)) : SetTx X.w s.heap a (fun j => decide (j ∈ L)) L.length := (I.hok a _ ha).1
/-- set(xs), xs a list of texts -/
def rSetOfS (K : PySem.W.Frag) (w : World) : List V → Hp → VK → Prop := fun xs H Q => ∃ (l : Addr) (ss : List Str), xs = [V.ref l] ∧ SqL K H l (ss.map V.str) ∧ ss.length + 1 < scanBound ∧
  ∀ (p : Addr) (L : List Str), L.Nodup → (∀ k, k ∈ L ↔ k ∈ ss) → H p = none → Q (.ref p) (upd H p (SetTO w p L))
theorem cr_setOfS (hc : X.calm = true) : CallR X (.type "set") (rSetOfS X.K X.w) := by
  intro pins s σ H vs us Q I r h
  obtain ⟨l, ss, rfl, hq, hl, q⟩ := h
  rw [Vals.ref1 r]
  obtain ⟨its, rv, pl, _⟩ := I.list hq
  refine call_set_texts ss (I.ok.hd hc) pl.isList (by simpa using strs_of_vals rv) hl fun h' tk c hS _ hk => ?_
  have hn : H s.heap.objs.size = none := I.hok.fresh (Nat.le_refl _)
  obtain ⟨L, l1, l2, l3⟩ := hS.list
  have l4 : ∀ k, k ∈ L ↔ k ∈ ss := fun k => (l2 k).trans decide_eq_true_iff
  have hS2 : SetTx X.w h' s.heap.objs.size (fun j => decide (j ∈ L)) L.length := by
    rw [l3]
    exact hS.congr fun k => by rw [decide_eq_decide]; exact l4 k
  exact ⟨.ref _, _, I.laid (t' := tk) hk (Nat.le_refl _) (setTO_new hS2), rfl, q _ L l1 l4 hn⟩
theorem perm_of_nodups {α : Type} [DecidableEq α] {A B : List α} (ha : A.Nodup) (hb : B.Nodup) (h : ∀ k, k ∈ A ↔ k ∈ B) : A.Perm B := by
  rw [List.perm_iff_count]
  intro x
  have one : ∀ {l : List α}, l.Nodup → l.count x = if x ∈ l then 1 else 0 := by
    intro l hl
    induction l with
    | nil => rfl
    | cons y l ih =>
      obtain ⟨h1, h2⟩ := List.nodup_cons.mp hl
      rw [List.count_cons, ih h2]
      by_cases e : y = x
      · subst e
        rw [if_neg h1, if_pos (List.mem_cons_self ..)]
        simp
      · have e1 : (y == x) = false := by simpa using e
        rw [e1]
        have e2 : (x ∈ y :: l) ↔ x ∈ l := by
          rw [List.mem_cons]
          exact ⟨fun z => z.elim (fun q => absurd q.symm e) id, Or.inr⟩
        simp [e2]
  rw [one ha, one hb]
  by_cases e : x ∈ A
  · rw [if_pos e, if_pos ((h x).1 e)]
  · rw [if_neg e, if_neg fun z => e ((h x).2 z)]
/-- sorted(s), s a set of texts -/
def rSortSetS (w : World) : List V → Hp → VK → Prop := fun vs H Q => ∃ (a : Addr) (L : List Str), vs = [V.ref a] ∧ H a = some (SetTO w a L) ∧ L.Nodup ∧ L.length < 64 ∧
  ∀ (ns : List Str) (p : Addr), ns.Perm L → sortedS ns = true → H p = none → Q (.ref p) (upd H p (.lst (ns.map V.str)))
theorem vals_strs : ∀ {out : List Value} {ns : List Str}, StrsAre out ns → Vals (ns.map V.str) out
  | _, _, .nil => .nil
  | _, _, .cons x t r => .cons ⟨t, rfl⟩ (vals_strs r)
theorem cr_sortSetS (hc : X.calm = true) : CallR X (.builtin "sorted") (rSortSetS X.w) := by
  intro pins s σ H vs us Q I r h
  obtain ⟨a, L, rfl, ha, hLn, h64, q⟩ := h
  have R := setTO_get I ha
  obtain ⟨L2, l1, l2, l3⟩ := R.list
  rw [Vals.ref1 r]
  refine sortedTx_set R (I.ok.hd hc) h64 fun s' p out c ns k g o hp hg hi hnd hs hm hl => ?_
  have hlen : (ns.map V.str).length ≤ sizeLine := by rw [List.length_map, hl, sizeLine_eq]; omega
  have hn : H p = none := I.hok.fresh hp
  have J : Inv X pins σ (upd H p (.lst (ns.map V.str))) { s with heap := s'.heap, gens := s'.gens, drawn := s'.drawn, toks := s'.toks } :=
    I.call (ch := []) (Un.laid k hp hn) (I.hok.laid k hp ⟨hlen, out.toList, c, vals_strs hi, hg⟩) (by rw [g]; exact I.bare) (fun _ z => nomatch z)
  have e : s' = { s with heap := s'.heap, gens := s'.gens, drawn := s'.drawn, toks := s'.toks } := by
    cases s'
    cases s
    cases o
    rfl
  rw [e]
  have pL : ns.Perm L := by
    have m : ∀ k, k ∈ ns ↔ k ∈ L := fun k => (hm k).trans decide_eq_true_iff
    exact perm_of_nodups hnd hLn m
  exact ⟨.ref p, _, J, rfl, q ns p pL hs hn⟩
/-- len(s) -/
def rLenSetS (w : World) : List V → Hp → VK → Prop := fun vs H Q => ∃ (a : Addr) (L : List Str), vs = [V.ref a] ∧ H a = some (SetTO w a L) ∧ Q (.int (L.length : Nat)) H
theorem cr_lenSetS : CallR X (.builtin "len") (rLenSetS X.w) := by
  intro pins s σ H vs us Q I r h
  obtain ⟨a, L, rfl, ha, q⟩ := h
  have R := setTO_get I ha
  rw [Vals.ref1 r]
  obtain ⟨o, es, ep, t, ho, hex, hd, g, nd, hm, hb, hf, hn, hr, hl⟩ := R
  exact call_len_set ho hex hd hf (by unfold scanBound at hb; omega) ⟨.int (L.length : Nat), H, I.tok _, ⟨_, by rw [← hn]⟩, q⟩
end
end TX

namespace Dn
open PySem PySem.Spec PyProof.Rows L2
structure Rm (k : Nat) (A : Around) : Prop where
  room : Room k A
  gd : A.guards = some []
section
variable {j k : Nat} {A : Around}
theorem Rm.mono (r : Rm k A) (h : j ≤ k) : Rm j A := ⟨r.room.mono h, r.gd⟩
theorem Rm.units (r : Rm k A) : A.units + 64 < cLine := r.room.units
theorem Rm.make (r : Rm (k + 1) A) (C : Addr) (us : List Value) (kw : List (Str × Value)) : Rm k (A.under (.builtin "type.__call__" ⟨.ref C :: us, kw⟩)) :=
  ⟨r.room.make C us kw, by
    have g := r.gd
    show (A.under (.builtin "type.__call__" ⟨.ref C :: us, kw⟩)).guards = some []
    simp [Around.under, g, pushGuards, Code.guards, Code.isGuard, guardIds]⟩
end
structure FnG (P : Program) (w : World) (K : PySem.W.Frag) (mg : Str → Option Value) (base : Heap) (CX : CXT) (k : Nat) (f : Addr) (fd : FuncData) (ps : List Str) (sp : Sp) : Prop where
  len : ∀ vs H Q E, sp vs H Q E → vs.length = ps.length
  run : ∀ (A : Around) (outer : List Env) (s : Shared) (H : Hp) (args : PySem.Args) (us : List Value) (vs : List V) (Q : VK) (E : XK), Rm k A → Env0 P w K mg base A outer s H → BindsTo s fd args (ps.zip us) → Vals vs us → sp vs H Q E →
    codeAny (model P w) A (.call (.ref f) args) (CR CX outer P w H s Q E) s
theorem FnG.mono {P : Program} {w : World} {K : PySem.W.Frag} {mg : Str → Option Value} {base : Heap} {CX : CXT} {j k : Nat} {f : Addr} {fd : FuncData} {ps : List Str} {sp : Sp} (F : FnG P w K mg base CX j f fd ps sp) (h : j ≤ k) :
    FnG P w K mg base CX k f fd ps sp := ⟨F.len, fun A outer s H args us vs Q E hr => F.run A outer s H args us vs Q E (hr.mono h)⟩
theorem FnG.imp {P : Program} {w : World} {K : PySem.W.Frag} {mg : Str → Option Value} {base : Heap} {CX : CXT} {k : Nat} {f : Addr} {fd : FuncData} {ps : List Str} {sp sp' : Sp} (F : FnG P w K mg base CX k f fd ps sp)
    (h : ∀ vs H Q E, sp' vs H Q E → sp vs H Q E) : FnG P w K mg base CX k f fd ps sp' :=
  ⟨fun vs H Q E q => F.len vs H Q E (h _ _ _ _ q), fun A outer s H args us vs Q E hr he hb hv hs => F.run A outer s H args us vs Q E hr he hb hv (h _ _ _ _ hs)⟩
section
variable {X : Cx} {CX : CXT} {k : Nat} {f C : Addr} {fd : FuncData} {ps : List Str} {sp : Sp} {dvs : List V} {ds : List Value} {E : XK} {x m : Str} {p pos apos : Pos} {e o : Expr} {es : List Expr} {ta : TE} {t : TA}
theorem run_fnG {pins : List (Addr × Obj)} {σ : L2.St} {H : Hp} {s : Shared} {Q : VK} {us : List Value} {vs : List V} (F : FnG X.prog X.w X.K X.mg X.base CX k f fd ps sp) (hr : Rm k X.A) (hb : Binds X.K fd ps ds) (hd : Vals dvs ds) (hx : Passes CX X E)
    (I : Inv X pins σ H s) (r : Vals vs us) (h : sp (vs ++ dvs) H Q E) : wpAny (model X.prog X.w) X.A (call (.ref f) us) (EP X pins σ Q) X.xe s := by
  have r2 : Vals (vs ++ dvs) (us ++ ds) := r.append hd
  have hl : (us ++ ds).length = ps.length := by rw [← r2.length]; exact F.len _ _ _ _ h
  refine wpAny_call (codeAny_mono (F.run X.A X.stack s H ⟨us, []⟩ (us ++ ds) (vs ++ dvs) Q E hr I.env0 (hb s us I.kIn hl) r2 h) fun r s' hq => ?_)
  match r, hq with
  | .error e, hq => exact hx pins σ H s e s' I hq
  | .ok (.ret u), hq => exact I.after hq
theorem pe_callG (F : FnG X.prog X.w X.K X.mg X.base CX k f fd ps sp) (hr : Rm k X.A) (hg : Gl X x) (hm : X.mg x = some (.ref f)) (hk : PySem.W.keepIn X.K (.ref f) = true) (hb : Binds X.K fd ps ds) (hd : Vals dvs ds) (hx : Passes CX X E)
    (ha : PA X (e :: es) t) (hdb : (x == ("__debug__" : Str)) = false := by decide) (he : starEach (e :: es) X.env = (false, eval e X.env) :: starEach es X.env := by rfl) (hpl : (backTo pos (starEach es X.env)).any (·.1) = false := by rfl) :
    PE X (.Call (.Name x p) (e :: es) [] pos) (tCall sp dvs E t) :=
  ⟨fun pins s σ H Q I h => wpAny_Call_Name_kw (ld_glob I hg hm (PySem.W.callWith_K (h₀ := X.base) I.ok.mod.kin hk (thn (ha.run pos pins s σ H _ I h) fun us s1 ⟨vs, H1, I1, r, q⟩ => ⟨I1.kIn, run_fnG F hr hb hd hx I1 r q⟩) he hpl) hdb)⟩
theorem pe_call0G (F : FnG X.prog X.w X.K X.mg X.base CX k f fd ps sp) (hr : Rm k X.A) (hg : Gl X x) (hm : X.mg x = some (.ref f)) (hk : PySem.W.keepIn X.K (.ref f) = true) (hb : Binds X.K fd ps ds) (hd : Vals dvs ds) (hx : Passes CX X E)
    (hdb : (x == ("__debug__" : Str)) = false := by decide) : PE X (.Call (.Name x p) [] [] pos) (tCall sp dvs E tNil) :=
  ⟨fun pins s σ H Q I h => wpAny_Call_Name_kw (ld_glob I hg hm (PySem.W.callWith_K0 I.kIn hk (run_fnG (us := []) F hr hb hd hx I .nil h)) hdb)⟩
theorem pe_methG {pl : Sem Bool} (he : PE X o ta) (c : Cls X.K C) (hm : Meth X.K C m f) (F : FnG X.prog X.w X.K X.mg X.base CX k f fd ps sp) (hr : Rm k X.A) (hb : Binds X.K fd ps ds) (hd : Vals dvs ds) (hx : Passes CX X E) (ha : PA X (e :: es) t)
    (hst : starEach (e :: es) X.env = (false, eval e X.env) :: starEach es X.env := by rfl) (hpl : (backTo pos (starEach es X.env)).any (·.1) = false := by rfl)
    (ht : eval (.Call (.Attribute o m apos) (e :: es) [] pos) X.env = (do
      let ov ← eval o X.env
      standAt apos.atName
      let (f, first) ← holding [ov] (getMethod ov m pl)
      callWith pos f first (backTo pos (starEach (e :: es) X.env)) (backToKw pos (keywordEach [] X.env))) := by rfl) :
    PE X (.Call (.Attribute o m apos) (e :: es) [] pos) (tMeth C m sp dvs E ta t) := by
  refine ⟨fun pins s σ H Q I h => PySem.W.methodCall_KW (pl := pl) (thn (he.run pins s σ H _ I h) fun u s1 ⟨x, H1, I1, rx, a, dx, fs, ex, ea, l, q⟩ => ?_) ht⟩
  subst ex
  obtain rfl : u = Value.ref a := rx
  exact getmeth_ok I1 ea c hm l (PySem.W.callWith_K (first := [.ref a]) (h₀ := X.base) I.ok.mod.kin hm.kp (thn (ha.run pos pins s1 σ H1 _ I1 q) fun us s2 ⟨vs, H2, I2, r, q2⟩ => ⟨I2.kIn, run_fnG (us := .ref a :: us) (vs := .ref a :: vs) F hr hb hd hx I2 (.cons rfl r) q2⟩) hst hpl)
theorem pe_meth0G {pl : Sem Bool} (he : PE X o ta) (c : Cls X.K C) (hm : Meth X.K C m f) (F : FnG X.prog X.w X.K X.mg X.base CX k f fd ps sp) (hr : Rm k X.A) (hb : Binds X.K fd ps ds) (hd : Vals dvs ds) (hx : Passes CX X E)
    (ht : eval (.Call (.Attribute o m apos) [] [] pos) X.env = (do
      let ov ← eval o X.env
      standAt apos.atName
      let (f, first) ← holding [ov] (getMethod ov m pl)
      callWith pos f first (backTo pos (starEach [] X.env)) (backToKw pos (keywordEach [] X.env))) := by rfl) :
    PE X (.Call (.Attribute o m apos) [] [] pos) (tMeth C m sp dvs E ta tNil) := by
  refine ⟨fun pins s σ H Q I h => PySem.W.methodCall_KW (pl := pl) (thn (he.run pins s σ H _ I h) fun u s1 ⟨x, H1, I1, rx, a, dx, fs, ex, ea, l, q⟩ => ?_) ht⟩
  subst ex
  obtain rfl : u = Value.ref a := rx
  exact getmeth_ok I1 ea c hm l (PySem.W.callWith_K0 (first := [.ref a]) I1.kIn hm.kp (run_fnG (us := [.ref a]) (vs := [.ref a]) F hr hb hd hx I1 (.cons rfl .nil) q))
theorem run_makeG {pins : List (Addr × Obj)} {σ : L2.St} {H : Hp} {s : Shared} {Q : VK} {us : List Value} {vs : List V} (M : Mk X.K C f) (F : FnG X.prog X.w X.K X.mg X.base CX k f fd ps sp) (hr : Rm (k + 1) X.A) (hb : Binds X.K fd ps ds) (hd : Vals dvs ds)
    (hx : Passes CX X E) (I : Inv X pins σ H s) (r : Vals vs us)
    (h : ∀ x dx, H x = none → H dx = none → dx ≠ x → sp (.ref x :: (vs ++ dvs)) (upd (upd H dx (.own x)) x (.ins C dx [])) (fun v H2 => v = .non ∧ Q (.ref x) H2) E) :
    wpAny (model X.prog X.w) X.A (call (.ref C) us) (EP X pins σ Q) X.xe s := by
  have hq := h (s.heap.objs.size + 1) s.heap.objs.size (I.hok.fresh (Nat.le_succ _)) (I.hok.fresh (Nat.le_refl _)) (Nat.ne_of_lt (Nat.lt_succ_self _))
  have I2 := Inv.made (C := C) I
  have r2 : Vals (V.ref (s.heap.objs.size + 1) :: (vs ++ dvs)) (Value.ref (s.heap.objs.size + 1) :: (us ++ ds)) := .cons rfl (r.append hd)
  have hl : (Value.ref (s.heap.objs.size + 1) :: us ++ ds).length = ps.length := (r2.length.symm.trans (F.len _ _ _ _ hq))
  refine wpAny_call (make_map (f := f) I.kIn M.makes M.init (beq_iff_eq.mp M.fn) (codeAny_mono (F.run _ X.stack _ _ ⟨Value.ref (s.heap.objs.size + 1) :: us, []⟩ (Value.ref (s.heap.objs.size + 1) :: (us ++ ds)) _ _ E (hr.make C us [])
    (I2.env0.make C us []) (hb _ (Value.ref (s.heap.objs.size + 1) :: us) I2.kIn hl) r2 hq) fun r s' hq' => ?_))
  match r, hq' with
  | .error e, hq' => exact hx pins σ _ _ e s' I2 hq'
  | .ok (.ret u), hq' =>
    obtain ⟨v, H', I3, rv, ev, q3⟩ := I2.after hq'
    subst ev
    exact ⟨rv, ⟨V.ref (s.heap.objs.size + 1), H', I3, rfl, q3⟩⟩
theorem pe_makeG (M : Mk X.K C f) (F : FnG X.prog X.w X.K X.mg X.base CX k f fd ps sp) (hr : Rm (k + 1) X.A) (hg : Gl X x) (hm : X.mg x = some (.ref C)) (hb : Binds X.K fd ps ds) (hd : Vals dvs ds) (hx : Passes CX X E)
    (ha : PA X (e :: es) t) (hdb : (x == ("__debug__" : Str)) = false := by decide) (he : starEach (e :: es) X.env = (false, eval e X.env) :: starEach es X.env := by rfl) (hpl : (backTo pos (starEach es X.env)).any (·.1) = false := by rfl) :
    PE X (.Call (.Name x p) (e :: es) [] pos) (tMake C sp dvs E t) :=
  ⟨fun pins s σ H Q I h => wpAny_Call_Name_kw (ld_glob I hg hm (PySem.W.callWith_K (h₀ := X.base) I.ok.mod.kin M.kp (thn (ha.run pos pins s σ H _ I h) fun us s1 ⟨vs, H1, I1, r, q⟩ => ⟨I1.kIn, run_makeG M F hr hb hd hx I1 r q⟩) he hpl) hdb)⟩
end
/-- a def of the text, by its body -/
theorem fnG_of {CX : CXT} {P : Program} {w : World} {K : PySem.W.Frag} {mg : Str → Option Value} {base : Heap} {k : Nat} {f : Addr} {name qual : Str} {params : Arguments} {body : List Stmt} {scope : Scope} {dV kV doc pm cdv ct oc : Value} {an od : Option Addr}
    {osl : Array (Option Value)} {N ps : List Str} {sp : Sp} (lk : K.lookup f = some ⟨oc, od, .func (PySem.W.fnOf name qual params body scope dV kV doc pm an cdv ct), osl⟩) (hcd : PySem.W.codeIn K cdv qual = true) (S : FnScope N ps scope)
    (len : ∀ vs H Q E, sp vs H Q E → vs.length = ps.length)
    (hbody : ∀ (A : Around) (outer : List Env) (s : Shared) (H : Hp) (vs : List V) (Q : VK) (E : XK), Rm k (A.deeper (envOfC qual scope s.heap.objs.size f cdv)) → sp vs H Q E →
      ∃ t, PSs (cxOf CX P w K mg base N qual scope f cdv A outer s H E) body t ∧ t { nx := fun _ H' => Q .non H', rt := Q } (start N vs) H) :
    FnG P w K mg base CX (k + 1) f (PySem.W.fnOf name qual params body scope dV kV doc pm an cdv ct) ps sp := by
  refine ⟨len, fun A outer s H args us vs Q E hr e0 hb r hsp => ?_⟩
  have hl := len _ _ _ _ hsp
  have KX : K.In s.heap := e0.mod.kin.keeps fun b o e => (e0.bs b o e).1
  have lim : s.heap.NoLimit := e0.mod.nolimit.keeps fun b o e => (e0.bs b o e).1
  have hkind : ∀ y ∈ ps.zip us, scope.names.lookup y.1 = some .local ∨ (scope.names.lookup y.1 = some .cell ∧ ((cellsFrom (s.heap.objs.size + 1) scope.names []).lookup y.1).isSome = true) := fun ⟨n, v⟩ hy => by
    rcases S.par n (List.of_mem_zip hy).1 with q | q
    · exact .inl q
    · exact .inr ⟨q, PySem.W.cellsFrom_some _ _ _ (.inl q)⟩
  refine codeAny_call_function hr.room.depth (KX _ _ lk) rfl S.co S.gen rfl (PySem.W.codeRec_of KX hcd) (hb _ _ _ _ ?_)
  refine wpAny_newFunctionEnv_cells S.kind hkind fun env he s1 x => ?_
  subst he
  refine ⟨lim.keeps x.toInCall.keep, codeAny_func ?_⟩
  obtain ⟨t, ht, hq⟩ := hbody A outer s H vs Q E ⟨hr.room.deeper _, hr.gd⟩ hsp
  have I : Inv (cxOf CX P w K mg base N qual scope f cdv A outer s H E) [] (start N vs) H s1 := inv_start S hr.room.hd e0 hl r x
  refine wpAny_mono (ht.run [] s1 (start N vs) H _ I hq) (fun fl s' hs => ?_) fun e s' hs => hs
  have fin : ∀ {σ' : L2.St} {H' : Hp} {v : V} {u : Value}, Inv (cxOf CX P w K mg base N qual scope f cdv A outer s H E) [] σ' H' s' → RelV v u → Q v H' → CE outer P w H s Q u s' :=
    fun {σ' H' v u} J rv q => ⟨v, H', J.os, J.bare, J.base, J.hok, rv, q⟩
  cases fl with
  | ret u =>
    obtain ⟨v, σ', H', J, rv, q⟩ := hs
    exact fin J rv q
  | next =>
    obtain ⟨σ', H', J, q⟩ := hs
    exact fin (v := V.non) (u := Value.none) J rfl q
  | brk =>
    obtain ⟨_, _, _, q⟩ := hs
    exact False.elim q
  | cont =>
    obtain ⟨_, _, _, q⟩ := hs
    exact False.elim q
theorem okG {K : PySem.W.Frag} {x qual : Str} {params : Arguments} {body : List Stmt} {scope : Scope} {dvs : List V} {kws : List (Str × V)} {f : Addr} {fd : FuncData} {P : Program} {w : World} {mg : Str → Option Value} {base : Heap} {CX : CXT} {N ps : List Str} {k : Nat} {sp : Sp} (F : FunD K x qual params body scope dvs kws f fd) (S : FnScope N ps scope) (len : ∀ vs H Q E, sp vs H Q E → vs.length = ps.length)
    (hbody : ∀ (cdv : Value) (A : Around) (outer : List Env) (s : Shared) (H : Hp) (vs : List V) (Q : VK) (E : XK), Rm k (A.deeper (envOfC qual scope s.heap.objs.size f cdv)) → sp vs H Q E →
      ∃ t, PSs (cxOf CX P w K mg base N qual scope f cdv A outer s H E) body t ∧ t { nx := fun _ H' => Q .non H', rt := Q } (start N vs) H) : FnG P w K mg base CX (k + 1) f fd ps sp := by
  obtain ⟨oc, od, dV, kV, doc, pm, an, cdv, ct, osl, rfl, lk, hcd, _, _⟩ := F.ex
  exact fnG_of lk hcd S len fun A outer s H vs Q E hr hsp => hbody cdv A outer s H vs Q E hr hsp
/-- the law's promise at the heap behind the top -/
theorem law_callG {P : Program} {w : World} {K : PySem.W.Frag} {mg mb : Str → Option Value} {CX : CXT} {k : Nat} {fa a : Addr} {x : Str} {sp : Sp} {s₁ : Shared} {vs : List Value} {ns : List Int}
    (KX : K.In s₁.heap) (hns : s₁.heap.Ns mainGlobals mg) (hb : s₁.heap.Ns builtinsNs mb) (hbb : ∀ x : Str, x ≠ "__name__" → mb x = bootBuiltins x) (hlim : s₁.heap.NoLimit) (hg : s₁.gens = #[])
    (ha : s₁.heap.get? a = some { cls := .type "list", data := .seq vs.toArray }) (hi : IntsAre vs ns) (hl : ns.length ≤ sizeLine) (hr : Rm k callerA)
    (F : ∀ base : Heap, K.In base → base.Ns mainGlobals mg → ∃ fd, Binds K fd [x] [] ∧ FnG P w K mg base CX k fa fd [x] sp)
    (hsp : ∀ H : Hp, Only H → SqL K H a (ns.map V.int) → sp [.ref a] H (fun v _ => v = .bl true) fun _ _ _ => False)
    (hCX : ∀ H e s', CX [] H s₁ (fun _ _ _ => False) e s' → False) :
    codeAny (model P w) callerA (.call (.ref fa) ⟨[.ref a], []⟩) (fun r s' => r = .ok (.ret (.bool true)) ∧ OldK s₁.heap s'.heap ∧ s'.os = s₁.os ∧ AllBare s'.gens) s₁ := by
  have rv := vals_ints hi
  have lenV := hi.length
  have core : ∀ H : Hp, Only H → SqL K H a (ns.map V.int) → HOk P w H s₁.heap → (∀ b, H b ≠ none → b = a) → (H a ≠ none → K.lookup a = none) →
      codeAny (model P w) callerA (.call (.ref fa) ⟨[.ref a], []⟩) (fun r s' => r = .ok (.ret (.bool true)) ∧ OldK s₁.heap s'.heap ∧ s'.os = s₁.os ∧ AllBare s'.gens) s₁ := by
    intro H hO hS hok hA hK
    have at_a : ∀ {b : Addr} {u : HO}, H b = some u → b = a := fun {b u} q => hA b (by rw [q]; simp)
    have base_of : ∀ {b : Addr} {o : Obj}, s₁.heap.get? b = some o → H b = none → (hidT s₁.heap H).get? b = some o := fun e n => hidT_get e n
    have noA : ∀ {b : Addr} {o : Obj} {es : Array DictEntry} {ep : Nat}, s₁.heap.get? b = some o → o.data = .dict es ep → H b = none := fun {b o es ep} e d => by
      cases q : H b with
      | none => rfl
      | some u =>
        have e' := at_a q
        subst e'
        rw [ha] at e; cases e
        have d' : Data.seq vs.toArray _ = Data.dict es ep := d
        cases d'
    have nsK : ∀ {b : Addr} {m : Str → Option Value}, s₁.heap.Ns b m → (hidT s₁.heap H).Ns b m := fun {b m} ⟨o, es, ep, e, d, r⟩ => ⟨o, es, ep, base_of e (noA e d), d, r⟩
    have hKb : K.In (hidT s₁.heap H) := fun b o e => base_of (KX b o e) (by
      cases q : H b with
      | none => rfl
      | some u =>
        have e' := at_a q
        subst e'
        rw [hK (by rw [q]; simp)] at e; cases e)
    have hM : Mod K mg (hidT s₁.heap H) := ⟨hKb, nsK hns, ⟨mb, nsK hb, hbb⟩, let ⟨mc, h1, h2⟩ := hlim; ⟨mc, nsK h1, h2⟩⟩
    have e0 : Env0 P w K mg (hidT s₁.heap H) callerA [] s₁ H := ⟨rfl, hM, fun b o e => of_hidT e, Nat.le_of_eq (hidT_size _ _), trivial, fun b hb => absurd (show b ∈ ([] : List Addr) from hb) (by simp), hok, .of_eq hg⟩
    obtain ⟨fd, hbd, hF⟩ := F _ hKb (nsK hns)
    refine codeAny_mono (hF.run callerA [] s₁ H ⟨[.ref a], []⟩ [.ref a] [.ref a] _ _ hr e0 (hbd s₁ [.ref a] KX rfl) (.cons rfl .nil) (hsp H hO hS)) fun r s' h => ?_
    match r, h with
    | .error e, h => exact (hCX H e s' h).elim
    | .ok (.ret u), ⟨v, H', os, bare, un, hok', r', q⟩ =>
      have q' : v = .bl true := q
      subst q'
      obtain rfl : u = Value.bool true := r'
      refine ⟨rfl, OldK.of_keep fun b o e => ?_, os, bare⟩
      cases q : H b with
      | none => exact un.keep b o e q (by intro z; exact absurd (show b ∈ ([] : List Addr) from z) (by simp)) (by simp)
      | some u =>
        rcases hO b with z | ⟨ob, xs, z⟩
        · rw [q] at z; cases z
        · have z2 := un.frzs b ob _ z
          obtain ⟨e1, _⟩ := hok b _ z
          obtain ⟨e2, _⟩ := hok' b _ z2
          rw [e] at e1; cases e1
          exact e2
  cases hk : K.lookup a with
  | some o =>
    have e := KX a o hk
    rw [ha] at e
    cases e
    exact core (fun _ => none) (fun _ => .inl rfl) (.inr ⟨_, vs.toArray, _, hk, rfl, rfl, rfl, by rw [List.size_toArray, lenV]; exact hl, by simpa using rv⟩) (fun b u z => by have z' : (none : Option HO) = some u := z; cases z') (fun b z => absurd rfl z) fun z => absurd rfl z
  | none =>
    refine core (fun b => if b = a then some (.frz { cls := .type "list", data := .seq vs.toArray } (.lst (ns.map V.int))) else none) (fun b => ?_) (.inl (.inr ⟨{ cls := .type "list", data := .seq vs.toArray }, if_pos rfl⟩)) (fun b u z => ?_) (fun b z => ?_) fun _ => hk
    · by_cases hb : b = a
      · exact .inr ⟨_, _, if_pos hb⟩
      · exact .inl (if_neg hb)
    · by_cases hb : b = a
      · have z' := (if_pos hb).symm.trans z
        cases z'
        subst hb
        exact ⟨ha, by rw [List.length_map]; exact hl, vs, _, rv, ha⟩
      · have z' := (if_neg hb).symm.trans z
        cases z'
    · by_cases hb : b = a
      · exact hb
      · exact absurd (if_neg hb) z
theorem walk_ofG {l : PySem.W.OpenLaw} {n k : Nat} {q : Program} {loose : List Str} {XP : (Str → Option Value) → Heap → Prop} {YP : World → Heap → Prop} {d : DefRec} {CX : CXT} {x : Str}
    (hn : l.most = some n) (hn2 : n ≤ sizeLine) (hdf : d.params.defaults = []) (hr : Rm k callerA)
    (F : ∀ (w : World) (mg : Str → Option Value) (fa : Addr) (h : Heap), YP w h → h.Ns mainGlobals mg → mg d.name = some (.ref fa) →
      ∃ (K : PySem.W.Frag) (sp : Sp), K.In h ∧
        (∀ (H : Hp) (a : Addr) (ns : List Int), ns.length ≤ n → Only H → SqL K H a (ns.map V.int) → sp [.ref a] H (fun v _ => v = .bl true) fun _ _ _ => False) ∧
        ∀ base : Heap, K.In base → base.Ns mainGlobals mg → ∃ fd, Binds K fd [x] [] ∧ FnG l.prog w K mg base CX k fa fd [x] sp)
    (hCX : ∀ (H : Hp) (s : Shared) (e : Value) (s' : Shared), CX [] H s (fun _ _ _ => False) e s' → False) :
    PySem.W.WalkO q loose XP YP l.row.toRowW d [] (fun f vs => PySem.call f vs) := by
  refine Att.attach_call hn hdf fun w s₀ s₁ mg mb fa o pm cd doc a vs ns G Y ho hd hcd hmg hobj hints hlen hg => ?_
  obtain ⟨K, sp, KX, hsp, hF⟩ := F w mg fa _ Y G.T.g hmg
  exact law_callG KX G.T.g G.T.b G.T.builtins G.T.nolimit hg hobj hints (Nat.le_trans hlen hn2) hr hF (fun H hO hS => hsp H a ns hlen hO hS) fun H e s' => hCX H s₁ e s'
end Dn

/-! Dn: a layer of my own over the hand layer: what an expression is worth as plain data.
G: the known part of the heap (it only grows), H: the heap, G within H. -/
namespace Dn
open PySem L2

abbrev Ex (H H' : Hp) : Prop := ∀ a o, H a = some o → H' a = some o
theorem Ex.refl (H : Hp) : Ex H H := fun _ _ h => h
theorem Ex.trans {H H1 H2 : Hp} (a : Ex H H1) (b : Ex H1 H2) : Ex H H2 := fun x o h => b x o (a x o h)
theorem Ex.fresh {H H' : Hp} (e : Ex H H') {p : Addr} (h : H' p = none) : H p = none := by
  cases q : H p with
  | none => rfl
  | some o => rw [e p o q] at h; cases h
theorem Ex.new {H : Hp} {p : Addr} {o : HO} (h : H p = none) : Ex H (upd H p o) := fun a u e => by
  rw [upd_ne (ne_of_none e h)]; exact e
theorem Ex.mut {H H' : Hp} {p : Addr} {o : HO} (e : Ex H H') (h : H p = none) : Ex H (upd H' p o) := fun a u q => by
  rw [upd_ne (ne_of_none q h)]; exact e a u q

/-- from (G, H) to (G', H'): what was tracked stays but for M; what is newly known was not tracked before -/
structure Gr (M : List Addr) (G H G' H' : Hp) : Prop where
  keep : ∀ a o, H a = some o → a ∉ M → H' a = some o
  dom : ∀ a, H' a = none → H a = none
  gg : Ex G G'
  gh : Ex G' H'
  fr : ∀ a o, G' a = some o → G a = none → H a = none
section
variable {M M' : List Addr} {G H G1 H1 G2 H2 : Hp} {p : Addr} {o : HO}
theorem Gr.refl (h : Ex G H) : Gr M G H G H := ⟨fun _ _ e _ => e, fun _ e => e, Ex.refl G, h, fun a o h1 h2 => by rw [h1] at h2; cases h2⟩
theorem Gr.trans (a : Gr M G H G1 H1) (b : Gr M' G1 H1 G2 H2) (hM : ∀ x ∈ M', x ∈ M ∨ H x = none) : Gr M G H G2 H2 := by
  refine ⟨fun x u e n => b.keep x u (a.keep x u e n) fun hx => ?_, fun x e => a.dom x (b.dom x e), a.gg.trans b.gg, b.gh, fun x u h1 h2 => ?_⟩
  · rcases hM x hx with k | k
    · exact n k
    · rw [k] at e; cases e
  · cases q : G1 x with
    | none => exact a.dom x (b.fr x u h1 q)
    | some v => exact a.fr x v q h2
theorem Gr.and (a : Gr M G H G1 H1) (b : Gr [] G1 H1 G2 H2) : Gr M G H G2 H2 := a.trans b fun _ h => nomatch h
theorem Gr.and' (a : Gr M G H G1 H1) (b : Gr M G1 H1 G2 H2) : Gr M G H G2 H2 := a.trans b fun _ h => Or.inl h
theorem Gr.up (a : Gr [] G H G1 H1) : Gr M G H G1 H1 := ⟨fun x o e _ => a.keep x o e (fun z => nomatch z), a.dom, a.gg, a.gh, a.fr⟩
theorem Gr.hh (a : Gr [] G H G1 H1) : Ex H H1 := fun x o e => a.keep x o e (fun z => nomatch z)
theorem Gr.of_ex (e : Ex G H) (x : Ex H H1) : Gr M G H G H1 := ⟨fun a o h _ => x a o h, fun _ h => Ex.fresh x h, Ex.refl G, e.trans x, fun a o h1 h2 => by rw [h1] at h2; cases h2⟩
/-- a new known object -/
theorem Gr.new (h : Ex G H) (hp : H p = none) : Gr M G H (upd G p o) (upd H p o) := by
  refine ⟨fun x u e _ => Ex.new hp x u e, fun x e => ?_, Ex.new (Ex.fresh h hp), fun x u e => ?_, fun x u h1 h2 => ?_⟩
  · by_cases q : x = p
    · subst q; rw [upd_same] at e; cases e
    · rwa [upd_ne q] at e
  · by_cases q : x = p
    · subst q; rw [upd_same] at e ⊢; exact e
    · rw [upd_ne q] at e ⊢; exact h x u e
  · by_cases q : x = p
    · subst q; exact hp
    · rw [upd_ne q, h2] at h1; cases h1
/-- a new object of one's own -/
theorem Gr.own (h : Ex G H) (hp : H p = none) : Gr M G H G (upd H p o) := Gr.of_ex h (Ex.new hp)
/-- an object of one's own gets known -/
theorem Gr.freeze (g : Gr M G H G1 H1) (h : H1 p = some o) (hp : H p = none) : Gr M G H (upd G1 p o) H1 := by
  have e1 : Ex G1 (upd G1 p o) := fun x u e => by
    by_cases q : x = p
    · subst q; rw [g.gh x u e] at h; cases h; exact upd_same
    · rw [upd_ne q]; exact e
  refine ⟨g.keep, g.dom, g.gg.trans e1, fun x u e => ?_, fun x u h1 h2 => ?_⟩
  · by_cases q : x = p
    · subst q; rw [upd_same] at e; cases e; exact h
    · rw [upd_ne q] at e; exact g.gh x u e
  · by_cases q : x = p
    · subst q; exact hp
    · rw [upd_ne q] at h1; exact g.fr x u h1 h2
/-- one's own object changes -/
theorem Gr.set (g : Gr M G H G1 H1) (hm : p ∈ M ∨ H p = none) (hg : G1 p = none) : Gr M G H G1 (upd H1 p o) := by
  refine ⟨fun x u e n => ?_, fun x e => ?_, g.gg, Ex.mut g.gh hg, g.fr⟩
  · have q : x ≠ p := fun z => by
      subst z
      rcases hm with k | k
      · exact n k
      · rw [k] at e; cases e
    rw [upd_ne q]; exact g.keep x u e n
  · by_cases q : x = p
    · subst q; rw [upd_same] at e; cases e
    · rw [upd_ne q] at e; exact g.dom x e
/-- a thing of one's own stays unknown -/
theorem Gr.unk (g : Gr M G H G1 H1) (h : H p = some o) (hg : G p = none) : G1 p = none := by
  cases q : G1 p with
  | none => rfl
  | some u => rw [g.fr p u q hg] at h; cases h
end

class Rep (α : Type) where
  rep : Hp → V → α → Prop
  mono : ∀ {G G' : Hp} {v : V} {a : α}, Ex G G' → rep G v a → rep G' v a
open Rep (rep)
abbrev Reps {α : Type} [Rep α] (G : Hp) : List V → List α → Prop := Paired (rep G)
theorem Reps.mono {α : Type} [Rep α] {G G' : Hp} (e : Ex G G') : ∀ {vs : List V} {l : List α}, Reps G vs l → Reps G' vs l
  | _, _, .nil => .nil
  | _, _, .cons r t => .cons (Rep.mono e r) (Reps.mono e t)
theorem Reps.get {α : Type} [Rep α] {G : Hp} : ∀ {vs : List V} {l : List α} {i : Nat} {v : V}, Reps G vs l → vs[i]? = some v → ∃ a, l[i]? = some a ∧ rep G v a
  | _, _, 0, _, .cons r _, e => by simp at e; subst e; exact ⟨_, rfl, r⟩
  | _, _, i + 1, v, .cons _ t, e => by
    obtain ⟨a, h1, h2⟩ := Reps.get (i := i) (v := v) t (by simpa using e)
    exact ⟨a, by simpa using h1, h2⟩
theorem Reps.get' {α : Type} [Rep α] {G : Hp} : ∀ {vs : List V} {l : List α} {i : Nat} {a : α}, Reps G vs l → l[i]? = some a → ∃ v, vs[i]? = some v ∧ rep G v a
  | _, _, 0, _, .cons r _, e => by simp at e; subst e; exact ⟨_, rfl, r⟩
  | _, _, i + 1, v, .cons _ t, e => by
    obtain ⟨a, h1, h2⟩ := Reps.get' (i := i) (a := v) t (by simpa using e)
    exact ⟨a, by simpa using h1, h2⟩
theorem Reps.app {α : Type} [Rep α] {G : Hp} : ∀ {vs ws : List V} {l m : List α}, Reps G vs l → Reps G ws m → Reps G (vs ++ ws) (l ++ m)
  | _, _, _, _, .nil, s => s
  | _, _, _, _, .cons r t, s => .cons r (Reps.app t s)
theorem Reps.take {α : Type} [Rep α] {G : Hp} : ∀ {vs : List V} {l : List α} (n : Nat), Reps G vs l → Reps G (vs.take n) (l.take n)
  | _, _, 0, _ => .nil
  | _, _, _ + 1, .nil => .nil
  | _, _, n + 1, .cons r t => .cons r (Reps.take n t)
theorem Reps.drop {α : Type} [Rep α] {G : Hp} : ∀ {vs : List V} {l : List α} (n : Nat), Reps G vs l → Reps G (vs.drop n) (l.drop n)
  | _, _, 0, r => r
  | _, _, _ + 1, .nil => .nil
  | _, _, n + 1, .cons _ t => Reps.drop n t
theorem Reps.set {α : Type} [Rep α] {G : Hp} {v : V} {a : α} (r : rep G v a) : ∀ {vs : List V} {l : List α} (i : Nat), Reps G vs l → Reps G (vs.set i v) (l.set i a)
  | _, _, _, .nil => .nil
  | _, _, 0, .cons _ t => .cons r t
  | _, _, i + 1, .cons q t => .cons q (Reps.set r i t)
theorem Reps.len {α : Type} [Rep α] {G : Hp} {vs : List V} {l : List α} (h : Reps G vs l) : vs.length = l.length := Paired.length h

/-- a text within the line, of true signs -/
def StrW (a : Str) : Prop := a.length ≤ sizeLine ∧ PyData.canLay0 (.str a) = true
instance : Rep Int := ⟨fun _ v a => v = .int a, fun _ h => h⟩
instance : Rep Bool := ⟨fun _ v a => v = .bl a, fun _ h => h⟩
instance : Rep Unit := ⟨fun _ v _ => v = .non, fun _ h => h⟩
instance : Rep Str := ⟨fun _ v a => v = .str a ∧ StrW a, fun _ h => h⟩
/-- a number that is not negative -/
instance : Rep Nat := ⟨fun _ v a => v = .int (a : Int), fun _ h => h⟩
instance instRepList {α : Type} [Rep α] : Rep (List α) where
  rep := fun G v l => ∃ p vs, v = .ref p ∧ G p = some (.lst vs) ∧ vs.length ≤ sizeLine ∧ Reps G vs l
  mono := fun e ⟨p, vs, h1, h2, h3, h4⟩ => ⟨p, vs, h1, e _ _ h2, h3, Reps.mono e h4⟩
instance instRepProd {α β : Type} [Rep α] [Rep β] : Rep (α × β) where
  rep := fun G v x => ∃ p u w, v = .ref p ∧ G p = some (.tup [u, w]) ∧ rep G u x.1 ∧ rep G w x.2
  mono := fun e ⟨p, u, w, h1, h2, h3, h4⟩ => ⟨p, u, w, h1, e _ _ h2, Rep.mono e h3, Rep.mono e h4⟩
/-- a dict with keys that are texts -/
structure Dict (α : Type) where
  kvs : List (Str × α)
instance instRepDict {α : Type} [Rep α] : Rep (Dict α) where
  rep := fun G v d => ∃ p kv od, v = .ref p ∧ G p = some (.frz od (.dK kv)) ∧ kv.map (·.1) = d.kvs.map (fun q => Sum.inr q.1) ∧ Reps G (kv.map (·.2)) (d.kvs.map (·.2)) ∧ d.kvs.length ≤ sizeLine ∧ ∀ q ∈ d.kvs, StrW q.1
  mono := fun e ⟨p, kv, od, h1, h2, h3, h4, h5, h6⟩ => ⟨p, kv, od, h1, e _ _ h2, h3, Reps.mono e h4, h5, h6⟩

section
variable (X : Cx)
def WE (e : Expr) (σ : L2.St) (H : Hp) (Q : VK) : Prop := ∃ t, PE X e t ∧ t σ H Q
def WT (e : Expr) (σ : L2.St) (H : Hp) (Q : Bool → Hp → Prop) : Prop := ∃ t, PT X e t ∧ t σ H Q
def WA (es : List Expr) (σ : L2.St) (H : Hp) (Q : List V → Hp → Prop) : Prop := ∃ t, PA X es t ∧ t σ H Q
def WS (sts : List Stmt) (D : Ends) (σ : L2.St) (H : Hp) : Prop := ∃ t, PSs X sts t ∧ t D σ H
end
section
variable {X : Cx} {e : Expr} {es : List Expr} {sts : List Stmt}
theorem WE.pe : PE X e (WE X e) := ⟨fun pins s σ H Q I ⟨_, h, q⟩ => h.run pins s σ H Q I q⟩
theorem WT.pt : PT X e (WT X e) := ⟨fun pins s σ H Q I ⟨_, h, q⟩ => h.run pins s σ H Q I q⟩
theorem WA.pa : PA X es (WA X es) := ⟨fun pos pins s σ H Q I ⟨_, h, q⟩ => h.run pos pins s σ H Q I q⟩
theorem WS.pss : PSs X sts (WS X sts) := ⟨fun pins s σ H D I ⟨_, h, q⟩ => h.run pins s σ H D I q⟩
end
section
variable (X : Cx) {α : Type} [Rep α]
def DE (e : Expr) (σ : L2.St) (G : Hp) (a : α) : Prop :=
  ∀ G1 H1, Ex G G1 → Ex G1 H1 → ∀ Q : VK, (∀ v G2 H2, Gr [] G1 H1 G2 H2 → rep G2 v a → Q v H2) → WE X e σ H1 Q
/-- a list of one's own -/
def DO (e : Expr) (σ : L2.St) (G : Hp) (l : List α) : Prop :=
  ∀ G1 H1, Ex G G1 → Ex G1 H1 → ∀ Q : VK, (∀ p vs G2 H2, Gr [] G1 H1 G2 H2 → H1 p = none → G2 p = none → H2 p = some (.lst vs) → vs.length ≤ sizeLine → Reps G2 vs l → Q (.ref p) H2) → WE X e σ H1 Q
def DT (e : Expr) (σ : L2.St) (G : Hp) (b : Bool) : Prop :=
  ∀ G1 H1, Ex G G1 → Ex G1 H1 → ∀ Q : Bool → Hp → Prop, (∀ G2 H2, Gr [] G1 H1 G2 H2 → Q b H2) → WT X e σ H1 Q
/-- items one by one, all of one kind -/
def DEs (es : List Expr) (σ : L2.St) (G : Hp) (l : List α) : Prop :=
  ∀ G1 H1, Ex G G1 → Ex G1 H1 → ∀ Q : List V → Hp → Prop, (∀ vs G2 H2, Gr [] G1 H1 G2 H2 → Reps G2 vs l → Q vs H2) → WA X es σ H1 Q
end
section
variable {X : Cx} {α β γ : Type} [Rep α] [Rep β] [Rep γ] {e a b c : Expr} {es : List Expr} {σ : L2.St} {G G' : Hp} {pos pos' : Pos}
theorem DE.mono {x : α} (q : Ex G G') (h : DE X e σ G x) : DE X e σ G' x := fun G1 H1 e1 e2 Q k => h G1 H1 (q.trans e1) e2 Q k
theorem DO.mono {x : List α} (q : Ex G G') (h : DO X e σ G x) : DO X e σ G' x := fun G1 H1 e1 e2 Q k => h G1 H1 (q.trans e1) e2 Q k
theorem DT.mono {x : Bool} (q : Ex G G') (h : DT X e σ G x) : DT X e σ G' x := fun G1 H1 e1 e2 Q k => h G1 H1 (q.trans e1) e2 Q k
theorem DE.cast {x y : α} (h : DE X e σ G x) (q : x = y) : DE X e σ G y := q ▸ h
theorem DO.cast {x y : List α} (h : DO X e σ G x) (q : x = y) : DO X e σ G y := q ▸ h
theorem DT.cast {x y : Bool} (h : DT X e σ G x) (q : x = y) : DT X e σ G y := q ▸ h
theorem DO.de {l : List α} (h : DO X e σ G l) : DE X e σ G l := fun G1 H1 e1 e2 Q k => h G1 H1 e1 e2 Q fun p vs G2 H2 g n _ hp hl r => by
  refine k _ (upd G2 p (.lst vs)) H2 (g.freeze hp n) ⟨p, vs, rfl, upd_same, hl, Reps.mono (fun x u q => ?_) r⟩
  by_cases z : x = p
  · subst z; rw [g.gh x u q] at hp; cases hp; exact upd_same
  · rw [upd_ne z]; exact q
theorem de_var {x : Str} {v : V} {d : α} (i : Nat) (hr : rep G v d) (hN : X.N[i]? = some x := by rfl) (hs : σ[i]? = some (some v) := by rfl) (hv : Vis X.env.scope x := by first | exact Or.inl rfl | exact Or.inr (Or.inl rfl) | exact Or.inr (Or.inr rfl))
    (hd : (x == ("__debug__" : Str)) = false := by decide) (hcd : (x == ("__classdict__" : Str)) = false := by decide) : DE X (.Name x pos) σ G d := fun G1 H1 e1 e2 Q k =>
  ⟨_, pe_var hN hv hd hcd, v, hs, k v G1 H1 (Gr.refl e2) (Rep.mono e1 hr)⟩
theorem de_int {i : Int} {j} : DE X (.Constant (.int i) j pos) σ G i := fun G1 H1 e1 e2 Q k => ⟨_, pe_int, k _ G1 H1 (Gr.refl e2) rfl⟩
theorem de_nat {i : Nat} {j} : DE X (.Constant (.int (i : Int)) j pos) σ G i := fun G1 H1 e1 e2 Q k => ⟨_, pe_int, k _ G1 H1 (Gr.refl e2) rfl⟩
theorem de_bl {i : Bool} {j} : DE X (.Constant (.bool i) j pos) σ G i := fun G1 H1 e1 e2 Q k => ⟨_, pe_bl, k _ G1 H1 (Gr.refl e2) rfl⟩
theorem de_str {i : Str} {j} (h : StrW i := by exact ⟨by decide +kernel, by decide +kernel⟩) : DE X (.Constant (.str i) j pos) σ G i := fun G1 H1 e1 e2 Q k => ⟨_, pe_str, k _ G1 H1 (Gr.refl e2) ⟨rfl, h⟩⟩
theorem de_non {j} : DE X (.Constant .none j pos) σ G () := fun G1 H1 e1 e2 Q k => ⟨_, pe_non, k _ G1 H1 (Gr.refl e2) rfl⟩
/-- a number as one that is not negative, and back -/
theorem DE.nat {i : Int} {n : Nat} (h : DE X e σ G i) (q : i = (n : Int)) : DE X e σ G n := fun G1 H1 e1 e2 Q k => h G1 H1 e1 e2 Q fun v G2 H2 g r => k v G2 H2 g (by show v = .int (n : Int); rw [← q]; exact r)
theorem DE.int {i : Int} {n : Nat} (h : DE X e σ G n) (q : i = (n : Int)) : DE X e σ G i := fun G1 H1 e1 e2 Q k => h G1 H1 e1 e2 Q fun v G2 H2 g r => k v G2 H2 g (by show v = .int i; rw [q]; exact r)

/-- two operands, by values -/
def R2D (r : R2) (x : α) (y : β) (z : γ) : Prop := ∀ G H u v, Ex G H → rep G u x → rep G v y → ∀ Q : VK, (∀ w G' H', Gr [] G H G' H' → rep G' w z → Q w H') → r u v H Q
theorem de_two {r : R2} {x : α} {y : β} {z : γ} (ha : DE X a σ G x) (hb : DE X b σ G y) (hr : R2D r x y z) (G1 H1 : Hp) (e1 : Ex G G1) (e2 : Ex G1 H1) (Q : VK) (k : ∀ v G2 H2, Gr [] G1 H1 G2 H2 → rep G2 v z → Q v H2) :
    WE X a σ H1 fun u H2 => WE X b σ H2 fun v H3 => r u v H3 Q :=
  ha G1 H1 e1 e2 _ fun u G2 H2 g2 r2 => hb G2 H2 (e1.trans g2.gg) g2.gh _ fun v G3 H3 g3 r3 => hr G3 H3 u v g3.gh (Rep.mono g3.gg r2) r3 Q fun w G4 H4 g4 r4 => k w G4 H4 ((g2.and g3).and g4) r4
theorem de_op {op : Operator} {r : R2} {x : α} {y : β} {z : γ} (ho : OpR X (binaryOp op) r) (hr : R2D r x y z) (ha : DE X a σ G x) (hb : DE X b σ G y) : DE X (.BinOp a op b pos) σ G z := fun G1 H1 e1 e2 Q k =>
  ⟨_, pe_op ho WE.pe WE.pe, de_two ha hb hr G1 H1 e1 e2 Q k⟩
/-- a comparison: as a value and as a test -/
structure DC (X : Cx) (op : CmpOp) (a b : Expr) (σ : L2.St) (G : Hp) (z : Bool) : Prop where
  de : ∀ {pos : Pos}, DE X (.Compare a [op] [b] pos) σ G z
  dt : ∀ {pos : Pos}, DT X (.Compare a [op] [b] pos) σ G z
theorem DC.cast {op : CmpOp} {x y : Bool} (h : DC X op a b σ G x) (q : x = y) : DC X op a b σ G y := q ▸ h
theorem dc_cmp {op : CmpOp} {r : R2} {x : α} {y : β} {z : Bool} (ho : OpR X (compareOp op) r) (hr : R2D r x y z) (ha : DE X a σ G x) (hb : DE X b σ G y) (hm : behindInMarks op b = false := by first | exact nomark _ | rfl) : DC X op a b σ G z :=
  ⟨fun {_} G1 H1 e1 e2 Q k => ⟨_, pe_cmpR ho WE.pe WE.pe hm, de_two ha hb hr G1 H1 e1 e2 Q k⟩,
    fun {_} G1 H1 e1 e2 Q k => ⟨_, pt_cmpR ho WE.pe WE.pe hm, de_two ha hb hr G1 H1 e1 e2 _ fun v G2 H2 g r => ⟨z, r, k G2 H2 g⟩⟩⟩
theorem r2_I0 {g : Int → Int → V} {i j : Int} {z : γ} (h : ∀ G, rep G (g i j) z) : R2D (rI0 g) i j z := fun G H u v e r1 r2 Q k => ⟨i, j, r1, r2, k _ G H (Gr.refl e) (h G)⟩
theorem r2_I {C : Int → Int → Prop} {g : Int → Int → V} {i j : Int} {z : γ} (hc : C i j) (h : ∀ G, rep G (g i j) z) : R2D (rI C g) i j z := fun G H u v e r1 r2 Q k => ⟨i, j, r1, r2, hc, k _ G H (Gr.refl e) (h G)⟩
section
variable {i j : Int}
theorem de_add (ha : DE X a σ G i) (hb : DE X b σ G j) : DE X (.BinOp a .Add b pos) σ G (i + j) := de_op op_add (r2_I0 fun _ => rfl) ha hb
theorem de_sub (ha : DE X a σ G i) (hb : DE X b σ G j) : DE X (.BinOp a .Sub b pos) σ G (i - j) := de_op op_sub (r2_I0 fun _ => rfl) ha hb
theorem de_mul (ha : DE X a σ G i) (hb : DE X b σ G j) (h : CMul i j) : DE X (.BinOp a .Mult b pos) σ G (i * j) := de_op op_mul (r2_I h fun _ => rfl) ha hb
theorem de_mod (ha : DE X a σ G i) (hb : DE X b σ G j) (h : 0 < j) : DE X (.BinOp a .Mod b pos) σ G (i % j) := de_op op_mod (r2_I h fun _ => rfl) ha hb
theorem de_fdiv (ha : DE X a σ G i) (hb : DE X b σ G j) (h : 0 < j) (h2 : j < 1073741824) : DE X (.BinOp a .FloorDiv b pos) σ G (i / j) :=
  de_op op_fdivN (r2_I (⟨by omega, by omega⟩ : CDivN i j) fun _ => congrArg V.int (Int.fdiv_eq_ediv_of_nonneg i (by omega))) ha hb
theorem dc_lt (ha : DE X a σ G i) (hb : DE X b σ G j) : DC X .Lt a b σ G (decide (i < j)) := dc_cmp op_lt (r2_I0 fun _ => rfl) ha hb
theorem dc_le (ha : DE X a σ G i) (hb : DE X b σ G j) : DC X .LtE a b σ G (decide (i ≤ j)) := dc_cmp op_le (r2_I0 fun _ => rfl) ha hb
theorem dc_gt (ha : DE X a σ G i) (hb : DE X b σ G j) : DC X .Gt a b σ G (decide (j < i)) := dc_cmp op_gt (r2_I0 fun _ => rfl) ha hb
theorem dc_ge (ha : DE X a σ G i) (hb : DE X b σ G j) : DC X .GtE a b σ G (decide (j ≤ i)) := dc_cmp op_ge (r2_I0 fun _ => rfl) ha hb
theorem dc_eqI (ha : DE X a σ G i) (hb : DE X b σ G j) : DC X .Eq a b σ G (decide (i = j)) :=
  dc_cmp op_eq (fun G H u v e r1 r2 Q k => by cases r1; cases r2; exact ⟨rfl, k _ G H (Gr.refl e) (by show V.bl _ = V.bl _; simp)⟩) ha hb
theorem dc_neI (ha : DE X a σ G i) (hb : DE X b σ G j) : DC X .NotEq a b σ G (!decide (i = j)) :=
  dc_cmp op_ne (fun G H u v e r1 r2 Q k => by cases r1; cases r2; exact ⟨rfl, k _ G H (Gr.refl e) (by show V.bl _ = V.bl _; simp)⟩) ha hb
end
end

class Dat (α : Type) [Rep α] where
  dat : α → PyData
  dp : ∀ (K : PySem.W.Frag) {G : Hp} {v : V} {a : α}, rep G v a → Dp K G v (dat a)
  lay : ∀ {G : Hp} {v : V} {a : α}, rep G v a → (dat a).canLay0 = true
  dep : Nat
  depth : ∀ a : α, (dat a).depth ≤ dep
  inj : ∀ {a b : α}, PyData.eqv (dat a) (dat b) = true ↔ a = b
section
instance : Dat Int := ⟨.int, fun _ _ _ a h => by cases h; exact .int a, fun _ => by simp [PyData.canLay0], 0, fun _ => by simp [PyData.depth], fun {a b} => by simp [PyData.eqv]⟩
instance : Dat Nat := ⟨fun n => .int n, fun _ _ _ a h => by cases h; exact .int _, fun _ => by simp [PyData.canLay0], 0, fun _ => by simp [PyData.depth], fun {a b} => by simp [PyData.eqv]; omega⟩
instance : Dat Bool := ⟨.bool, fun _ _ _ a h => by cases h; exact .bl a, fun _ => by simp [PyData.canLay0], 0, fun _ => by simp [PyData.depth], fun {a b} => by simp [PyData.eqv]⟩
instance : Dat Unit := ⟨fun _ => .none, fun _ _ _ a h => by cases h; exact .non, fun _ => by simp [PyData.canLay0], 0, fun _ => by simp [PyData.depth], fun {a b} => by simp [PyData.eqv]⟩
instance : Dat Str := ⟨.str, fun _ _ _ a h => by cases h.1; exact .str a, fun h => h.2.2, 0, fun _ => by simp [PyData.depth], fun {a b} => by simp [PyData.eqv]⟩
variable {α β : Type} [Rep α] [Rep β] [Dat α] [Dat β]
theorem dpAll (K : PySem.W.Frag) {G : Hp} : ∀ {vs : List V} {l : List α}, Reps G vs l → DpAll K G vs (l.map Dat.dat)
  | _, _, .nil => .nil
  | _, _, .cons r t => .cons (Dat.dp K r) (dpAll K t)
theorem layAll {G : Hp} : ∀ {vs : List V} {l : List α}, Reps G vs l → PyData.canLayAll0 (l.map Dat.dat) = true
  | _, _, .nil => by simp [PyData.canLayAll0]
  | _, _, .cons r t => by simp [PyData.canLayAll0, Dat.lay r, layAll t]
theorem depthAll : ∀ l : List α, PyData.depthAll (l.map Dat.dat) ≤ Dat.dep α
  | [] => by simp [PyData.depthAll]
  | a :: l => by
    have h1 := Dat.depth a
    have h2 := depthAll l
    simp only [List.map_cons, PyData.depthAll]
    omega
theorem injAll : ∀ {l m : List α}, PyData.eqvAll (l.map Dat.dat) (m.map Dat.dat) = true ↔ l = m
  | [], [] => by simp [PyData.eqvAll]
  | [], _ :: _ => by simp [PyData.eqvAll]
  | _ :: _, [] => by simp [PyData.eqvAll]
  | a :: l, b :: m => by simp [PyData.eqvAll, Dat.inj, injAll (l := l) (m := m)]
instance instDatList : Dat (List α) := ⟨fun l => .list (l.map Dat.dat), fun K _ _ a h => by obtain ⟨p, vs, rfl, hp, _, r⟩ := h; exact .lst (.inl (.inl hp)) (dpAll K r), fun h => by obtain ⟨p, vs, rfl, hp, _, r⟩ := h; simpa [PyData.canLay0] using layAll r,
  Dat.dep α + 1, fun l => by have := depthAll l; simp only [PyData.depth]; omega, fun {a b} => by simp [PyData.eqv, injAll]⟩
instance instDatProd : Dat (α × β) := ⟨fun x => .tuple [Dat.dat x.1, Dat.dat x.2], fun K _ _ a h => by obtain ⟨p, u, w, rfl, hp, r1, r2⟩ := h; exact .tup (.inl (.inl hp)) (.cons (Dat.dp K r1) (.cons (Dat.dp K r2) .nil)),
  fun h => by obtain ⟨p, u, w, rfl, hp, r1, r2⟩ := h; simp [PyData.canLay0, PyData.canLayAll0, Dat.lay r1, Dat.lay r2],
  max (Dat.dep α) (Dat.dep β) + 1, fun x => by have h1 := Dat.depth x.1; have h2 := Dat.depth x.2; simp only [PyData.depth, PyData.depthAll]; omega, fun {a b} => by
    obtain ⟨a1, a2⟩ := a; obtain ⟨b1, b2⟩ := b
    simp [PyData.eqv, PyData.eqvAll, Dat.inj]⟩
end

section
variable {X : Cx} {α β γ : Type} [Rep α] [Rep β] [Rep γ] {e a b c : Expr} {es : List Expr} {σ : L2.St} {G G' : Hp} {pos pos' : Pos}
theorem shaped_of [Dat α] {G : Hp} {v : V} {x : α} (r : rep G v x) (h : Dat.dep α ≤ 64) : SeqAt.shaped (Dat.dat x) = true := by
  unfold SeqAt.shaped
  rw [Dat.lay r, decide_eq_true (Nat.le_trans (Dat.depth x) h)] <;> rfl
theorem eqv_dec [Dat α] [DecidableEq α] (x y : α) : PyData.eqv (Dat.dat x) (Dat.dat y) = decide (x = y) := by
  rw [Bool.eq_iff_iff, Dat.inj, decide_eq_true_iff]
theorem dc_eq [Dat α] [DecidableEq α] {x y : α} (hu : X.A.units + 64 < cLine) (ha : DE X a σ G x) (hb : DE X b σ G y) (hd : Dat.dep α ≤ 64 := by decide) : DC X .Eq a b σ G (decide (x = y)) :=
  dc_cmp (op_eqD hu) (fun G H u v e r1 r2 Q k => by
    have f1 := Rep.mono e r1
    have f2 := Rep.mono e r2
    exact ⟨_, _, Dat.dp X.K f1, Dat.dp X.K f2, shaped_of f1 hd, shaped_of f2 hd, k _ G H (Gr.refl e) (congrArg V.bl (eqv_dec x y))⟩) ha hb
theorem dc_ne [Dat α] [DecidableEq α] {x y : α} (hu : X.A.units + 64 < cLine) (ha : DE X a σ G x) (hb : DE X b σ G y) (hd : Dat.dep α ≤ 64 := by decide) : DC X .NotEq a b σ G (!decide (x = y)) :=
  dc_cmp (op_neD hu) (fun G H u v e r1 r2 Q k => by
    have f1 := Rep.mono e r1
    have f2 := Rep.mono e r2
    exact ⟨_, _, Dat.dp X.K f1, Dat.dp X.K f2, shaped_of f1 hd, shaped_of f2 hd, k _ G H (Gr.refl e) (congrArg (fun z => V.bl (!z)) (eqv_dec x y))⟩) ha hb
/-- flat items -/
class Flat (α : Type) [Rep α] where
  flat : ∀ {G : Hp} {v : V} {a : α}, rep G v a → flatV v = true
  eqf : ∀ {G : Hp} {v w : V} {a b : α}, rep G v a → rep G w b → (eqV v w = true ↔ a = b)
instance : Flat Str := ⟨fun h => by cases h.1; rfl, fun h1 h2 => by cases h1.1; cases h2.1; simp [eqV]⟩
instance : Flat Int := ⟨fun h => by cases h; rfl, fun h1 h2 => by cases h1; cases h2; simp [eqV]⟩
instance : Flat Nat := ⟨fun h => by cases h; rfl, fun h1 h2 => by cases h1; cases h2; simp [eqV]; omega⟩
theorem flats [Flat α] {G : Hp} : ∀ {vs : List V} {l : List α}, Reps G vs l → vs.all flatV = true
  | _, _, .nil => rfl
  | _, _, .cons r t => by simp only [List.all_cons, Flat.flat r, flats t, Bool.and_self]
theorem inV_mem [Flat α] [DecidableEq α] {G : Hp} {v : V} {x : α} (r : rep G v x) : ∀ {vs : List V} {l : List α}, Reps G vs l → inV v vs = decide (x ∈ l)
  | _, _, .nil => by simp [inV]
  | _, _, .cons (a := w) (b := y) q t => by
    have ih := inV_mem r t
    unfold inV at ih ⊢
    rw [List.any_cons, ih, Bool.eq_iff_iff]
    simp only [Bool.or_eq_true, decide_eq_true_eq, List.mem_cons, Flat.eqf q r]
    constructor
    · rintro (h | h)
      · exact Or.inl h.symm
      · exact Or.inr h
    · rintro (h | h)
      · exact Or.inl h.symm
      · exact Or.inr h
theorem dc_in [Flat α] [DecidableEq α] {x : α} {l : List α} (ha : DE X a σ G x) (hb : DE X b σ G l) (hm : behindInMarks .In b = false := by rfl) : DC X .In a b σ G (decide (x ∈ l)) :=
  dc_cmp op_in_seq (fun G H u v e r1 r2 Q k => by
    obtain ⟨p, vs, rfl, hp, _, r⟩ := r2
    exact ⟨p, vs, rfl, .inl (.inl (.inl (e _ _ hp))), Flat.flat r1, flats r, k _ G H (Gr.refl e) (congrArg V.bl (inV_mem r1 r))⟩) ha hb hm
theorem dc_nin [Flat α] [DecidableEq α] {x : α} {l : List α} (ha : DE X a σ G x) (hb : DE X b σ G l) (hm : behindInMarks .NotIn b = false := by rfl) : DC X .NotIn a b σ G (!decide (x ∈ l)) :=
  dc_cmp op_notIn_seq (fun G H u v e r1 r2 Q k => by
    obtain ⟨p, vs, rfl, hp, _, r⟩ := r2
    exact ⟨p, vs, rfl, .inl (.inl (.inl (e _ _ hp))), Flat.flat r1, flats r, k _ G H (Gr.refl e) (congrArg (fun z => V.bl (!z)) (inV_mem r1 r))⟩) ha hb hm

theorem de_one {op : BoolOp} {p : Bool} (ha : DE X a σ G p) : DE X (.BoolOp op [a] pos) σ G p := fun G1 H1 e1 e2 Q k => ⟨_, pe_one WE.pe, ha G1 H1 e1 e2 Q k⟩
theorem de_and {rest : List Expr} {p q : Bool} (ha : DE X a σ G p) (hb : p = true → DE X (.BoolOp .And (b :: rest) pos) σ G q) : DE X (.BoolOp .And (a :: b :: rest) pos) σ G (p && q) := fun G1 H1 e1 e2 Q k =>
  ⟨_, pe_and WE.pe WE.pe, ha G1 H1 e1 e2 _ fun v G2 H2 g r => ⟨p, r, by
    cases p with
    | true => exact iteT (hb rfl G2 H2 (e1.trans g.gg) g.gh Q fun w G3 H3 g3 r3 => k w G3 H3 (g.and g3) r3)
    | false => exact iteF (k _ G2 H2 g rfl)⟩⟩
theorem de_or {rest : List Expr} {p q : Bool} (ha : DE X a σ G p) (hb : p = false → DE X (.BoolOp .Or (b :: rest) pos) σ G q) : DE X (.BoolOp .Or (a :: b :: rest) pos) σ G (p || q) := fun G1 H1 e1 e2 Q k =>
  ⟨_, pe_or WE.pe WE.pe, ha G1 H1 e1 e2 _ fun v G2 H2 g r => ⟨p, r, by
    cases p with
    | true => exact iteT (k _ G2 H2 g rfl)
    | false => exact iteF (hb rfl G2 H2 (e1.trans g.gg) g.gh Q fun w G3 H3 g3 r3 => k w G3 H3 (g.and g3) r3)⟩⟩
theorem de_not {p : Bool} (ha : DE X a σ G p) : DE X (.UnaryOp .Not a pos) σ G (!p) := fun G1 H1 e1 e2 Q k =>
  ⟨_, pe_not WE.pe, ha G1 H1 e1 e2 _ fun v G2 H2 g r => ⟨p, r, k _ G2 H2 g rfl⟩⟩
theorem dt_val {p : Bool} (h : DE X e σ G p) (he : ∀ whole, isTrue e X.env whole = (do let v ← whole; standAt e.pos; holding [v] (truthy v)) := by intro _; rfl) : DT X e σ G p := fun G1 H1 e1 e2 Q k =>
  ⟨_, pt_val WE.pe he, h G1 H1 e1 e2 _ fun v G2 H2 g r => ⟨p, r, k G2 H2 g⟩⟩
theorem dt_not {p : Bool} (h : DT X a σ G p) : DT X (.UnaryOp .Not a pos) σ G (!p) := fun G1 H1 e1 e2 Q k => ⟨_, pt_not WT.pt, h G1 H1 e1 e2 _ fun G2 H2 g => k G2 H2 g⟩
/-- and, or within a test -/
def DW (X : Cx) (e : Expr) (σ : L2.St) (G : Hp) (b : Bool) : Prop :=
  ∀ G1 H1, Ex G G1 → Ex G1 H1 → ∀ Q : Bool → Hp → Prop, (∀ G2 H2, Gr [] G1 H1 G2 H2 → Q b H2) → ∃ t, PW X e t ∧ t σ H1 Q
theorem DW.dt {p : Bool} (h : DW X e σ G p) : DT X e σ G p := fun G1 H1 e1 e2 Q k => by
  obtain ⟨t, h1, h2⟩ := h G1 H1 e1 e2 Q k
  exact ⟨t, h1.pt, h2⟩
def WW (X : Cx) (e : Expr) (σ : L2.St) (H : Hp) (Q : Bool → Hp → Prop) : Prop := ∃ t, PW X e t ∧ t σ H Q
theorem WW.pw : PW X e (WW X e) := ⟨fun wh pins s σ H Q I ⟨_, h, q⟩ => h.run wh pins s σ H Q I q⟩
theorem dw_and1 {p : Bool} (h : DT X a σ G p) : DW X (.BoolOp .And [a] pos) σ G p := fun G1 H1 e1 e2 Q k => ⟨_, pw_and1 WT.pt, h G1 H1 e1 e2 Q k⟩
theorem dw_or1 {p : Bool} (h : DT X a σ G p) : DW X (.BoolOp .Or [a] pos) σ G p := fun G1 H1 e1 e2 Q k => ⟨_, pw_or1 WT.pt, h G1 H1 e1 e2 Q k⟩
theorem dw_and {rest : List Expr} {p q : Bool} (ha : DT X a σ G p) (hb : p = true → DW X (.BoolOp .And (b :: rest) pos) σ G q) : DW X (.BoolOp .And (a :: b :: rest) pos) σ G (p && q) := fun G1 H1 e1 e2 Q k =>
  ⟨_, pw_and WT.pt WW.pw, ha G1 H1 e1 e2 _ fun G2 H2 g => by
    cases p with
    | true => exact iteT (hb rfl G2 H2 (e1.trans g.gg) g.gh Q fun G3 H3 g3 => k G3 H3 (g.and g3))
    | false => exact iteF (k G2 H2 g)⟩
theorem dw_or {rest : List Expr} {p q : Bool} (ha : DT X a σ G p) (hb : p = false → DW X (.BoolOp .Or (b :: rest) pos) σ G q) : DW X (.BoolOp .Or (a :: b :: rest) pos) σ G (p || q) := fun G1 H1 e1 e2 Q k =>
  ⟨_, pw_or WT.pt WW.pw, ha G1 H1 e1 e2 _ fun G2 H2 g => by
    cases p with
    | true => exact iteT (k G2 H2 g)
    | false => exact iteF (hb rfl G2 H2 (e1.trans g.gg) g.gh Q fun G3 H3 g3 => k G3 H3 (g.and g3))⟩
theorem de_if {p : Bool} {x y : α} (hc : DT X c σ G p) (ha : p = true → DE X a σ G x) (hb : p = false → DE X b σ G y) : DE X (.IfExp c a b pos) σ G (if p = true then x else y) := fun G1 H1 e1 e2 Q k =>
  ⟨_, pe_ifExp WT.pt WE.pe WE.pe, hc G1 H1 e1 e2 _ fun G2 H2 g => by
    cases p with
    | true => exact iteT (ha rfl G2 H2 (e1.trans g.gg) g.gh Q fun w G3 H3 g3 r3 => k w G3 H3 (g.and g3) r3)
    | false => exact iteF (hb rfl G2 H2 (e1.trans g.gg) g.gh Q fun w G3 H3 g3 r3 => k w G3 H3 (g.and g3) r3)⟩

theorem des_nil : DEs X [] σ G ([] : List α) := fun G1 H1 e1 e2 Q k => ⟨_, pa_nil, k _ G1 H1 (Gr.refl e2) .nil⟩
theorem des_cons {x : α} {l : List α} (ha : DE X a σ G x) (hs : DEs X es σ G l) (h : starEach (a :: es) X.env = (false, eval a X.env) :: starEach es X.env := by rfl) : DEs X (a :: es) σ G (x :: l) := fun G1 H1 e1 e2 Q k =>
  ⟨_, pa_cons WE.pe WA.pa h, ha G1 H1 e1 e2 _ fun v G2 H2 g r => hs G2 H2 (e1.trans g.gg) g.gh _ fun vs G3 H3 g3 r3 => k _ G3 H3 (g.and g3) (.cons (Rep.mono g3.gg r) r3)⟩
theorem do_list {l : List α} (h : DEs X es σ G l) (hl : l.length ≤ sizeLine := by decide) : DO X (.List es pos) σ G l := fun G1 H1 e1 e2 Q k =>
  ⟨_, pe_lst WA.pa, h G1 H1 e1 e2 _ fun vs G2 H2 g r => ⟨by rw [r.len]; exact hl, fun p hp => k p vs G2 _ (g.trans (Gr.own (M := []) g.gh hp) fun _ z => nomatch z) (g.dom p hp) (Ex.fresh g.gh hp) upd_same (by rw [r.len]; exact hl) r⟩⟩
theorem de_tup {x : α} {y : β} {k} (ha : DE X a σ G x) (hb : DE X b σ G y) (h : starEach [a, b] X.env = (false, eval a X.env) :: starEach [b] X.env := by rfl) (h' : starEach [b] X.env = (false, eval b X.env) :: starEach [] X.env := by rfl) :
    DE X (.Tuple [a, b] k pos) σ G (x, y) := fun G1 H1 e1 e2 Q q =>
  ⟨_, pe_tup (pa_cons WE.pe (pa_cons WE.pe pa_nil h') h), ha G1 H1 e1 e2 _ fun v G2 H2 g r => hb G2 H2 (e1.trans g.gg) g.gh _ fun w G3 H3 g3 r3 => ⟨by show 2 ≤ sizeLine; decide, fun p hp =>
    q _ _ _ ((g.and g3).and (Gr.new (M := []) g3.gh hp)) ⟨p, v, w, rfl, upd_same, Rep.mono (g3.gg.trans (Ex.new (Ex.fresh g3.gh hp))) r, Rep.mono (Ex.new (Ex.fresh g3.gh hp)) r3⟩⟩⟩
end

section
variable {X : Cx} {α β γ : Type} [Rep α] [Rep β] [Rep γ] {e a b c : Expr} {es : List Expr} {σ : L2.St} {G G' : Hp} {pos pos' p2 : Pos}
theorem de_ixr {r : R2} {x : α} {y : β} {z : γ} (hi : IxR X r) (hr : R2D r x y z) (ha : DE X a σ G x) (hb : DE X b σ G y) (hs : PlainIx b) : DE X (.Subscript a b pos) σ G z := fun G1 H1 e1 e2 Q k =>
  ⟨_, pe_ix hi WE.pe WE.pe hs, de_two ha hb hr G1 H1 e1 e2 Q k⟩
theorem de_ix {l : List α} {n : Nat} {x : α} (ha : DE X a σ G l) (hb : DE X b σ G n) (h : l[n]? = some x) (hs : PlainIx b := by exact fun _ _ => rfl) : DE X (.Subscript a b pos) σ G x :=
  de_ixr ix_list (fun G H u v e r1 r2 Q k => by
    obtain ⟨p, vs, rfl, hp, _, r⟩ := r1
    obtain ⟨w, h1, h2⟩ := r.get' h
    exact ⟨p, vs, n, w, rfl, r2, .inl (.inl (e _ _ hp)), atI_nat h1, k w G H (Gr.refl e) h2⟩) ha hb hs
theorem de_ixL {l : List α} {x : α} (i : Int) (ha : DE X a σ G l) (hb : DE X b σ G i) (h : atI l i = some x) (hs : PlainIx b := by exact fun _ _ => rfl) : DE X (.Subscript a b pos) σ G x :=
  de_ixr ix_list (fun G H u v e r1 r2 Q k => by
    obtain ⟨p, vs, rfl, hp, _, r⟩ := r1
    unfold atI at h
    cases q : ixN l.length i with
    | none => rw [q] at h; cases h
    | some j =>
      rw [q] at h
      obtain ⟨w, h1, h2⟩ := r.get' (i := j) h
      refine ⟨p, vs, i, w, rfl, r2, .inl (.inl (e _ _ hp)), ?_, k w G H (Gr.refl e) h2⟩
      unfold atI
      rw [r.len, q]
      exact h1) ha hb hs
theorem de_fst {x : α × β} (ha : DE X a σ G x) (hb : DE X b σ G (0 : Int)) (hs : PlainIx b := by exact fun _ _ => rfl) : DE X (.Subscript a b pos) σ G x.1 :=
  de_ixr ix_tup (fun G H u v e r1 r2 Q k => by
    obtain ⟨p, v1, v2, rfl, hp, h1, h2⟩ := r1
    exact ⟨p, _, 0, v1, rfl, r2, .inl (.inl (e _ _ hp)), rfl, k _ G H (Gr.refl e) h1⟩) ha hb hs
theorem de_snd {x : α × β} (ha : DE X a σ G x) (hb : DE X b σ G (1 : Int)) (hs : PlainIx b := by exact fun _ _ => rfl) : DE X (.Subscript a b pos) σ G x.2 :=
  de_ixr ix_tup (fun G H u v e r1 r2 Q k => by
    obtain ⟨p, v1, v2, rfl, hp, h1, h2⟩ := r1
    exact ⟨p, _, 1, v2, rfl, r2, .inl (.inl (e _ _ hp)), rfl, k _ G H (Gr.refl e) h2⟩) ha hb hs
/-- one sign of a text -/
theorem de_sign {z : Str} {n : Nat} {ch : Nat} (ha : DE X a σ G z) (hb : DE X b σ G n) (h : z.cps.toList[n]? = some ch) (hs : PlainIx b := by exact fun _ _ => rfl) : DE X (.Subscript a b pos) σ G (⟨#[ch]⟩ : Str) :=
  de_ixr (x := z) (y := n) ix_str (fun G H u v e r1 r2 Q k => by
    obtain ⟨q1, q2, h2⟩ : u = .str z ∧ StrW z := r1
    refine ⟨z, n, ch, q1, r2, q2, atI_nat h, k _ G H (Gr.refl e) ⟨rfl, by show 1 ≤ sizeLine; decide, ?_⟩⟩
    have hm : ch ∈ z.cps := by
      have q := List.mem_of_getElem? h
      simpa using q
    simp only [PyData.canLay0, PyData.strOk, Array.all_eq_true_iff_forall_mem] at h2 ⊢
    intro x hx
    have : x = ch := by simpa using hx
    subst this
    exact h2 x hm) ha hb hs
/-- a part of a slice -/
def DP (X : Cx) (e : Option Expr) (σ : L2.St) (G : Hp) (o : Option Int) : Prop :=
  ∀ G1 H1, Ex G G1 → Ex G1 H1 → ∀ Q : Option Int → Hp → Prop, (∀ G2 H2, Gr [] G1 H1 G2 H2 → Q o H2) → ∃ t, PO X e t ∧ t σ H1 Q
theorem dp_none : DP X none σ G none := fun G1 H1 e1 e2 Q k => ⟨_, po_none, k G1 H1 (Gr.refl e2)⟩
theorem dp_some {i : Int} (h : DE X e σ G i) : DP X (some e) σ G (some i) := fun G1 H1 e1 e2 Q k => ⟨_, po_some WE.pe, h G1 H1 e1 e2 _ fun v G2 H2 g r => ⟨i, r, k G2 H2 g⟩⟩
theorem dp_nat {i : Nat} (h : DE X e σ G i) : DP X (some e) σ G (some (i : Int)) := dp_some (h.int rfl)
def WO (X : Cx) (e : Option Expr) (σ : L2.St) (H : Hp) (Q : Option Int → Hp → Prop) : Prop := ∃ t, PO X e t ∧ t σ H Q
theorem WO.po {e : Option Expr} : PO X e (WO X e) := ⟨fun pins s σ H Q I ⟨_, h, q⟩ => h.run pins s σ H Q I q⟩
def cut (l : List α) (lo hi : Option Int) : List α := (l.drop (HT.sIx l.length 0 lo)).take (HT.sIx l.length l.length hi - HT.sIx l.length 0 lo)
theorem do_slice {l : List α} {lo hi : Option Expr} {i j : Option Int} (ha : DE X a σ G l) (hl : DP X lo σ G i) (hh : DP X hi σ G j) : DO X (.Subscript a (.Slice lo hi none p2) pos) σ G (cut l i j) := fun G1 H1 e1 e2 Q k =>
  ⟨_, pe_slice sl_list WE.pe WO.po WO.po, ha G1 H1 e1 e2 _ fun v G2 H2 g2 r2 => hl G2 H2 (e1.trans g2.gg) g2.gh _ fun G3 H3 g3 => hh G3 H3 (e1.trans (g2.gg.trans g3.gg)) g3.gh _ fun G4 H4 g4 => by
    obtain ⟨p, vs, rfl, hp, hz, r⟩ := Rep.mono (g3.gg.trans g4.gg) r2
    refine ⟨p, vs, rfl, .inl (.inl (g4.gh _ _ hp)), fun q hq => k q _ G4 _ (((g2.and g3).and g4).and (Gr.own (M := []) g4.gh hq)) (g2.dom _ (g3.dom _ (g4.dom _ hq))) (Ex.fresh g4.gh hq) upd_same (Nat.le_trans (cutV_length vs _ _) hz) ?_⟩
    unfold cutV cut
    rw [r.len]
    exact Reps.take _ (Reps.drop _ r)⟩
theorem do_cat {l m : List α} (ha : DE X a σ G l) (hb : DE X b σ G m) (hl : l.length + m.length ≤ sizeLine) : DO X (.BinOp a .Add b pos) σ G (l ++ m) := fun G1 H1 e1 e2 Q k =>
  ⟨_, pe_op op_cat WE.pe WE.pe, ha G1 H1 e1 e2 _ fun v G2 H2 g2 r2 => hb G2 H2 (e1.trans g2.gg) g2.gh _ fun w G3 H3 g3 r3 => by
    obtain ⟨p, vs, rfl, hp, hz, r⟩ := Rep.mono g3.gg r2
    obtain ⟨q, ws, rfl, hq, hw, r'⟩ := r3
    have hlen : vs.length + ws.length ≤ sizeLine := by rw [r.len, r'.len]; exact hl
    exact ⟨p, q, vs, ws, rfl, rfl, g3.gh _ _ hp, g3.gh _ _ hq, hlen, fun t ht => k t _ G3 _ ((g2.and g3).and (Gr.own (M := []) g3.gh ht)) (g2.dom _ (g3.dom _ ht)) (Ex.fresh g3.gh ht) upd_same (by rw [List.length_append]; exact hlen) (r.app r')⟩⟩

def R1D (r : List V → Hp → VK → Prop) (x : α) (z : β) : Prop := ∀ G H u, Ex G H → rep G u x → ∀ Q : VK, (∀ w G' H', Gr [] G H G' H' → rep G' w z → Q w H') → r [u] H Q
def R1O (r : List V → Hp → VK → Prop) (x : α) (z : List β) : Prop := ∀ G H u, Ex G H → rep G u x → ∀ Q : VK, (∀ p vs G' H', Gr [] G H G' H' → H p = none → G' p = none → H' p = some (.lst vs) → vs.length ≤ sizeLine → Reps G' vs z → Q (.ref p) H') → r [u] H Q
section
variable {x : Str} {p : Pos} {id : String} {r : List V → Hp → VK → Prop} {y : α} {z : β} {zs : List β}
theorem de_callB (hc : CallR X (.builtin id) r) (hr : R1D r y z) (hm : X.mg x = none) (ha : DE X a σ G y) (hg : Gl X x := by rfl) (hv : bootBuiltins x = some (.builtin id) := by decide +kernel) (hn : x ≠ "__name__" := by decide) (hdb : (x == ("__debug__" : Str)) = false := by decide)
    (he : starEach [a] X.env = (false, eval a X.env) :: starEach [] X.env := by rfl) (hpl : (backTo pos (starEach [] X.env)).any (·.1) = false := by rfl) : DE X (.Call (.Name x p) [a] [] pos) σ G z := fun G1 H1 e1 e2 Q k =>
  ⟨_, pe_callB hc hg hm hv (pa_cons WE.pe pa_nil he) hn hdb he hpl, ha G1 H1 e1 e2 _ fun v G2 H2 g r => hr G2 H2 v g.gh r Q fun w G3 H3 g3 r3 => k w G3 H3 (g.and g3) r3⟩
theorem do_callB (hc : CallR X (.builtin id) r) (hr : R1O r y zs) (hm : X.mg x = none) (ha : DE X a σ G y) (hg : Gl X x := by rfl) (hv : bootBuiltins x = some (.builtin id) := by decide +kernel) (hn : x ≠ "__name__" := by decide) (hdb : (x == ("__debug__" : Str)) = false := by decide)
    (he : starEach [a] X.env = (false, eval a X.env) :: starEach [] X.env := by rfl) (hpl : (backTo pos (starEach [] X.env)).any (·.1) = false := by rfl) : DO X (.Call (.Name x p) [a] [] pos) σ G zs := fun G1 H1 e1 e2 Q k =>
  ⟨_, pe_callB hc hg hm hv (pa_cons WE.pe pa_nil he) hn hdb he hpl, ha G1 H1 e1 e2 _ fun v G2 H2 g r => hr G2 H2 v g.gh r Q fun q vs G3 H3 g3 n1 n2 h3 hl r3 => k q vs G3 H3 (g.and g3) (g.dom _ n1) n2 h3 hl r3⟩
theorem de_callTy (hc : CallR X (.type id) r) (hr : R1D r y z) (hm : X.mg x = none) (ha : DE X a σ G y) (hg : Gl X x := by rfl) (hv : bootBuiltins x = some (.type id) := by decide +kernel) (hn : x ≠ "__name__" := by decide) (hdb : (x == ("__debug__" : Str)) = false := by decide)
    (he : starEach [a] X.env = (false, eval a X.env) :: starEach [] X.env := by rfl) (hpl : (backTo pos (starEach [] X.env)).any (·.1) = false := by rfl) : DE X (.Call (.Name x p) [a] [] pos) σ G z := fun G1 H1 e1 e2 Q k =>
  ⟨_, pe_callTy hc hg hm hv (pa_cons WE.pe pa_nil he) hn hdb he hpl, ha G1 H1 e1 e2 _ fun v G2 H2 g r => hr G2 H2 v g.gh r Q fun w G3 H3 g3 r3 => k w G3 H3 (g.and g3) r3⟩
theorem do_callTy (hc : CallR X (.type id) r) (hr : R1O r y zs) (hm : X.mg x = none) (ha : DE X a σ G y) (hg : Gl X x := by rfl) (hv : bootBuiltins x = some (.type id) := by decide +kernel) (hn : x ≠ "__name__" := by decide) (hdb : (x == ("__debug__" : Str)) = false := by decide)
    (he : starEach [a] X.env = (false, eval a X.env) :: starEach [] X.env := by rfl) (hpl : (backTo pos (starEach [] X.env)).any (·.1) = false := by rfl) : DO X (.Call (.Name x p) [a] [] pos) σ G zs := fun G1 H1 e1 e2 Q k =>
  ⟨_, pe_callTy hc hg hm hv (pa_cons WE.pe pa_nil he) hn hdb he hpl, ha G1 H1 e1 e2 _ fun v G2 H2 g r => hr G2 H2 v g.gh r Q fun q vs G3 H3 g3 n1 n2 h3 hl r3 => k q vs G3 H3 (g.and g3) (g.dom _ n1) n2 h3 hl r3⟩
end
theorem de_len {p : Pos} {l : List α} (hm : X.mg ("len" : Str) = none) (ha : DE X a σ G l) (hg : Gl X "len" := by rfl)
    (he : starEach [a] X.env = (false, eval a X.env) :: starEach [] X.env := by rfl) (hpl : (backTo pos (starEach [] X.env)).any (·.1) = false := by rfl) : DE X (.Call (.Name "len" p) [a] [] pos) σ G l.length :=
  de_callB call_len_seq (fun G H u e r1 Q k => by
    obtain ⟨p, vs, rfl, hp, _, r⟩ := r1
    exact ⟨p, vs, rfl, .inl (.inl (.inl (e _ _ hp))), k _ G H (Gr.refl e) (by show V.int _ = V.int _; rw [r.len])⟩) hm ha hg (by decide +kernel) (by decide) (by decide) he hpl
theorem de_lenS {p : Pos} {z : Str} (hm : X.mg ("len" : Str) = none) (ha : DE X a σ G z) (hg : Gl X "len" := by rfl)
    (he : starEach [a] X.env = (false, eval a X.env) :: starEach [] X.env := by rfl) (hpl : (backTo pos (starEach [] X.env)).any (·.1) = false := by rfl) : DE X (.Call (.Name "len" p) [a] [] pos) σ G z.length :=
  de_callB (y := z) (z := z.length) call_len_str (fun G H u e (r1 : u = .str z ∧ StrW z) Q k => ⟨z, by rw [r1.1], r1.2.1, k _ G H (Gr.refl e) rfl⟩) hm ha hg (by decide +kernel) (by decide) (by decide) he hpl
/-- list(xs) -/
theorem do_listOf {p : Pos} {l : List α} (hm : X.mg ("list" : Str) = none) (ha : DE X a σ G l) (hg : Gl X "list" := by rfl)
    (he : starEach [a] X.env = (false, eval a X.env) :: starEach [] X.env := by rfl) (hpl : (backTo pos (starEach [] X.env)).any (·.1) = false := by rfl) : DO X (.Call (.Name "list" p) [a] [] pos) σ G l :=
  do_callTy call_list_of (fun G H u e r1 Q k => by
    obtain ⟨p, vs, rfl, hp, hz, r⟩ := r1
    exact ⟨p, vs, rfl, .inl (.inl (.inl (e _ _ hp))), fun q hq => k q vs G _ (Gr.own e hq) hq (Ex.fresh e hq) upd_same hz r⟩) hm ha hg (by decide +kernel) (by decide) (by decide) he hpl
theorem reps_strs {G : Hp} : ∀ {vs : List V} {l : List Str}, Reps G vs l → vs = l.map V.str ∧ ∀ x ∈ l, StrW x
  | _, _, .nil => ⟨rfl, fun _ h => by cases h⟩
  | _, _, .cons r t => by
    obtain ⟨h1, h2⟩ := reps_strs t
    refine ⟨by rw [r.1, h1] <;> rfl, fun x hx => ?_⟩
    rcases List.mem_cons.mp hx with q | q
    · rw [q]; exact r.2
    · exact h2 x q
theorem strs_reps {G : Hp} : ∀ {l : List Str}, (∀ x ∈ l, StrW x) → Reps G (l.map V.str) l
  | [], _ => .nil
  | x :: l, h => .cons ⟨rfl, h x (List.mem_cons_self ..)⟩ (strs_reps fun y hy => h y (List.mem_cons_of_mem _ hy))
end
end Dn

namespace Dn
open Dn.Rep (rep)
open PySem L2
open PyProof.Rows (sortedS risingS ltCps_eq)
open PySem.Spec (ltCps)

def leS (a b : Str) : Bool := !ltCps b.cps.toList a.cps.toList
theorem leS_iff {a b : Str} : leS a b = true ↔ ¬ b.cps.toList < a.cps.toList := by unfold leS; rw [ltCps_eq]; simp
theorem leS_total (a b : Str) : leS a b = true ∨ leS b a = true := by
  rw [leS_iff, leS_iff]
  by_cases h : b.cps.toList < a.cps.toList
  · exact .inr fun z => List.lt_irrefl _ (List.lt_trans h z)
  · exact .inl h
theorem leS_trans {a b c : Str} (h1 : leS a b = true) (h2 : leS b c = true) : leS a c = true := by
  rw [leS_iff] at *
  exact List.not_lt.mpr (List.le_trans (List.not_lt.mp h1) (List.not_lt.mp h2))
theorem str_ext {a b : Str} (h : a.cps.toList = b.cps.toList) : a = b := by
  cases a; cases b
  simpa using h
theorem leS_anti {a b : Str} (h1 : leS a b = true) (h2 : leS b a = true) : a = b := by
  rw [leS_iff] at *
  exact str_ext (List.le_antisymm (List.not_lt.mp h1) (List.not_lt.mp h2))
theorem leS_refl (a : Str) : leS a a = true := (leS_total a a).elim id id
def insS (x : Str) : List Str → List Str
  | [] => [x]
  | y :: l => if leS x y then x :: y :: l else y :: insS x l
def srt : List Str → List Str
  | [] => []
  | x :: l => insS x (srt l)
theorem insS_perm (x : Str) : ∀ l, (insS x l).Perm (x :: l)
  | [] => .refl _
  | y :: l => by
    unfold insS
    split
    · exact .refl _
    · exact ((insS_perm x l).cons y).trans (.swap x y l)
theorem srt_perm : ∀ l, (srt l).Perm l
  | [] => .refl _
  | x :: l => (insS_perm x (srt l)).trans ((srt_perm l).cons x)
abbrev Asc (l : List Str) : Prop := l.Pairwise fun a b => leS a b = true
theorem insS_asc (x : Str) : ∀ {l}, Asc l → Asc (insS x l)
  | [], _ => List.pairwise_singleton _ _
  | y :: l, h => by
    unfold insS
    obtain ⟨h1, h2⟩ := List.pairwise_cons.mp h
    split
    · rename_i e
      exact List.pairwise_cons.mpr ⟨fun z hz => by
        rcases List.mem_cons.mp hz with q | q
        · rw [q]; exact e
        · exact leS_trans e (h1 z q), h⟩
    · rename_i e
      refine List.pairwise_cons.mpr ⟨fun z hz => ?_, insS_asc x h2⟩
      rcases List.mem_cons.mp ((insS_perm x l).mem_iff.mp hz) with q | q
      · rw [q]; exact (leS_total x y).resolve_left e
      · exact h1 z q
theorem srt_asc : ∀ l, Asc (srt l)
  | [] => .nil
  | x :: l => insS_asc x (srt_asc l)
theorem asc_unique : ∀ {l m : List Str}, l.Perm m → Asc l → Asc m → l = m
  | [], m, p, _, _ => by rw [List.nil_perm.mp p]
  | x :: l, [], p, _, _ => by have := p.length_eq; cases this
  | x :: l, y :: m, p, h1, h2 => by
    obtain ⟨a1, a2⟩ := List.pairwise_cons.mp h1
    obtain ⟨b1, b2⟩ := List.pairwise_cons.mp h2
    have e : x = y := by
      have hx : x ∈ y :: m := p.mem_iff.mp (List.mem_cons_self ..)
      have hy : y ∈ x :: l := p.mem_iff.mpr (List.mem_cons_self ..)
      rcases List.mem_cons.mp hx with q | q
      · exact q
      · rcases List.mem_cons.mp hy with r | r
        · exact r.symm
        · exact leS_anti (a1 y r) (b1 x q)
    subst e
    rw [asc_unique (List.Perm.cons_inv p) a2 b2]
theorem sortedS_asc : ∀ {l : List Str}, sortedS l = true → Asc l
  | [], _ => .nil
  | x :: l, h => by
    have key : ∀ (l : List Str) (x : Str), risingS x l = true → Asc (x :: l) := by
      intro l
      induction l with
      | nil => intro x _; exact List.pairwise_singleton _ _
      | cons y l ih =>
        intro x h
        have h' : (!ltCps y.cps.toList x.cps.toList && risingS y l) = true := h
        rw [Bool.and_eq_true] at h'
        have q := ih y h'.2
        refine List.pairwise_cons.mpr ⟨fun z hz => ?_, q⟩
        have hxy : leS x y = true := h'.1
        rcases List.mem_cons.mp hz with r | r
        · rw [r]; exact hxy
        · exact leS_trans hxy ((List.pairwise_cons.mp q).1 z r)
    exact key l x h
theorem srt_of {l m : List Str} (p : m.Perm l) (h : sortedS m = true) : m = srt l := asc_unique (p.trans (srt_perm l).symm) (sortedS_asc h) (srt_asc l)
theorem srt_congr {l m : List Str} (p : l.Perm m) : srt l = srt m := asc_unique ((srt_perm l).trans (p.trans (srt_perm m).symm)) (srt_asc l) (srt_asc m)
theorem srt_id {l : List Str} (h : Asc l) : srt l = l := asc_unique (srt_perm l) (srt_asc l) h
theorem srt_len (l : List Str) : (srt l).length = l.length := (srt_perm l).length_eq
theorem mem_srt {l : List Str} {x : Str} : x ∈ srt l ↔ x ∈ l := (srt_perm l).mem_iff
theorem srt_nodup {l : List Str} : (srt l).Nodup ↔ l.Nodup := (srt_perm l).nodup_iff
/-- each once -/
def ddp : List Str → List Str
  | [] => []
  | x :: l => if x ∈ l then ddp l else x :: ddp l
theorem mem_ddp {x : Str} : ∀ {l}, x ∈ ddp l ↔ x ∈ l
  | [] => Iff.rfl
  | y :: l => by
    unfold ddp
    split
    · rename_i h
      rw [mem_ddp, List.mem_cons]
      exact ⟨.inr, fun z => z.elim (fun e => e ▸ h) id⟩
    · rw [List.mem_cons, List.mem_cons, mem_ddp]
theorem ddp_nodup : ∀ l, (ddp l).Nodup
  | [] => List.nodup_nil
  | x :: l => by
    unfold ddp
    split
    · exact ddp_nodup l
    · rename_i h
      exact List.nodup_cons.mpr ⟨fun z => h (mem_ddp.mp z), ddp_nodup l⟩
theorem ddp_id : ∀ {l}, l.Nodup → ddp l = l
  | [], _ => rfl
  | x :: l, h => by
    obtain ⟨h1, h2⟩ := List.nodup_cons.mp h
    unfold ddp
    rw [if_neg h1, ddp_id h2]
theorem ddp_len_le : ∀ l, (ddp l).length ≤ l.length
  | [] => Nat.le_refl _
  | x :: l => by
    unfold ddp
    have := ddp_len_le l
    split <;> simp only [List.length_cons] <;> omega
theorem ddp_len : ∀ {l}, (ddp l).length = l.length → l.Nodup
  | [], _ => List.nodup_nil
  | x :: l, h => by
    unfold ddp at h
    have q := ddp_len_le l
    split at h
    · simp only [List.length_cons] at h; omega
    · rename_i e
      simp only [List.length_cons] at h
      exact List.nodup_cons.mpr ⟨e, ddp_len (by omega)⟩
theorem ddp_perm_of {l m : List Str} (h : m.Nodup) (q : ∀ k, k ∈ m ↔ k ∈ l) : m.Perm (ddp l) := TX.perm_of_nodups h (ddp_nodup l) fun k => (q k).trans mem_ddp.symm

section
variable {X : Cx} {α β γ : Type} [Rep α] [Rep β] [Rep γ] {e a b c : Expr} {es : List Expr} {σ : L2.St} {G G' : Hp} {pos pos' p2 p : Pos}
/-- sorted(xs), texts -/
theorem do_sorted {l : List Str} (hm : X.mg ("sorted" : Str) = none) (ha : DE X a σ G l) (h64 : l.length < 64) (hg : Gl X "sorted" := by rfl)
    (he : starEach [a] X.env = (false, eval a X.env) :: starEach [] X.env := by rfl) (hpl : (backTo pos (starEach [] X.env)).any (·.1) = false := by rfl) : DO X (.Call (.Name "sorted" p) [a] [] pos) σ G (srt l) :=
  do_callB cr_sortedS (fun G H u e r1 Q k => by
    obtain ⟨p, vs, rfl, hp, hz, r⟩ := r1
    obtain ⟨rfl, hw⟩ := reps_strs r
    refine ⟨p, l, rfl, .inl (.inl (e _ _ hp)), h64, fun ys q hpm hs hq => ?_⟩
    have eq := srt_of hpm hs
    subst eq
    exact k q _ G _ (Gr.own e hq) hq (Ex.fresh e hq) upd_same (by rw [List.length_map, srt_len, ← List.length_map (f := V.str)]; exact hz) (strs_reps fun x hx => hw x (mem_srt.mp hx))) hm ha hg (by decide +kernel) (by decide) (by decide) he hpl
/-- set(xs), texts: at an address of its own -/
theorem we_set {l : List Str} {H : Hp} {Q : VK} (hm : X.mg ("set" : Str) = none) (hc : X.calm = true) (ha : DE X a σ G l) (eG : Ex G H) (hl : l.length < 4000)
    (k : ∀ (p : Addr) (L : List Str) (G1 H1 : Hp), Gr [] G H G1 H1 → H1 p = none → L.Perm (ddp l) → (∀ x ∈ l, StrW x) → Q (.ref p) (upd H1 p (TX.SetTO X.w p L))) (hg : Gl X "set" := by rfl)
    (he : starEach [a] X.env = (false, eval a X.env) :: starEach [] X.env := by rfl) (hpl : (backTo pos (starEach [] X.env)).any (·.1) = false := by rfl) : WE X (.Call (.Name "set" p) [a] [] pos) σ H Q :=
  ⟨_, pe_callTy (TX.cr_setOfS hc) hg hm (by decide +kernel) (pa_cons WE.pe pa_nil he) (by decide) (by decide) he hpl, ha G H (Ex.refl G) eG _ fun v G2 H2 g r => by
    obtain ⟨q, vs, rfl, hp, hz, r⟩ := r
    obtain ⟨rfl, hw⟩ := reps_strs r
    exact ⟨q, l, rfl, .inl (.inl (g.gh _ _ hp)), by unfold scanBound; omega, fun s L hn hm hs => k s L G2 H2 g hs (ddp_perm_of hn hm) hw⟩⟩
/-- len(set(xs)) -/
theorem de_lenSet {p3 p4 : Pos} {l : List Str} (hm1 : X.mg ("len" : Str) = none) (hm : X.mg ("set" : Str) = none) (hc : X.calm = true) (ha : DE X a σ G l) (hl : l.length < 4000) (hg1 : Gl X "len" := by rfl) (hg : Gl X "set" := by rfl)
    (he : starEach [a] X.env = (false, eval a X.env) :: starEach [] X.env := by rfl) (hpl : (backTo p3 (starEach [] X.env)).any (·.1) = false := by rfl)
    (he2 : starEach [.Call (.Name "set" p2) [a] [] p3] X.env = (false, eval (.Call (.Name "set" p2) [a] [] p3) X.env) :: starEach [] X.env := by rfl) (hpl2 : (backTo pos (starEach [] X.env)).any (·.1) = false := by rfl) :
    DE X (.Call (.Name "len" p) [.Call (.Name "set" p2) [a] [] p3] [] pos) σ G (ddp l).length := fun G1 H1 e1 e2 Q k =>
  ⟨_, pe_callB TX.cr_lenSetS hg1 hm1 (by decide +kernel) (pa_cons WE.pe pa_nil he2) (by decide) (by decide) he2 hpl2, we_set hm hc (ha.mono e1) e2 hl (fun q L G2 H2 g hq pm _ => ⟨q, L, rfl, upd_same, by
    rw [pm.length_eq]
    exact k _ G2 _ (g.and (Gr.own (M := []) g.gh hq)) rfl⟩) hg he hpl⟩
/-- sorted(set(xs)) -/
theorem do_sortSet {p3 p4 : Pos} {l : List Str} (hm1 : X.mg ("sorted" : Str) = none) (hm : X.mg ("set" : Str) = none) (hc : X.calm = true) (ha : DE X a σ G l) (hl : l.length < 64) (hg1 : Gl X "sorted" := by rfl) (hg : Gl X "set" := by rfl)
    (he : starEach [a] X.env = (false, eval a X.env) :: starEach [] X.env := by rfl) (hpl : (backTo p3 (starEach [] X.env)).any (·.1) = false := by rfl)
    (he2 : starEach [.Call (.Name "set" p2) [a] [] p3] X.env = (false, eval (.Call (.Name "set" p2) [a] [] p3) X.env) :: starEach [] X.env := by rfl) (hpl2 : (backTo pos (starEach [] X.env)).any (·.1) = false := by rfl) :
    DO X (.Call (.Name "sorted" p) [.Call (.Name "set" p2) [a] [] p3] [] pos) σ G (srt (ddp l)) := fun G1 H1 e1 e2 Q k =>
  ⟨_, pe_callB (TX.cr_sortSetS hc) hg1 hm1 (by decide +kernel) (pa_cons WE.pe pa_nil he2) (by decide) (by decide) he2 hpl2, we_set hm hc (ha.mono e1) e2 (by omega) (fun q L G2 H2 g hq pm hw => by
    have l1 := ddp_len_le l
    have l2 := pm.length_eq
    refine ⟨q, L, rfl, upd_same, pm.nodup_iff.mpr (ddp_nodup l), by omega, fun ys s hpm hs hn => ?_⟩
    have eq : ys = srt (ddp l) := srt_of (hpm.trans pm) hs
    subst eq
    have g2 := g.and (Gr.own (M := []) (o := TX.SetTO X.w q L) g.gh hq)
    exact k s _ G2 _ (g2.and (Gr.own (M := []) g2.gh hn)) (g2.dom _ hn) (Ex.fresh g2.gh hn) upd_same (by rw [List.length_map, srt_len, sizeLine_eq]; omega) (strs_reps fun x hx => hw x (mem_ddp.mp (mem_srt.mp hx)))) hg he hpl⟩

theorem de_isTy {x : α} {nm : Str} {t t' : String} {r : Bool} (hm : X.mg ("isinstance" : Str) = none) (hm2 : X.mg nm = none) (ha : DE X a σ G x) (ht : ∀ G H v, Ex G H → rep G v x → TyOf X.K H v (.type t)) (hk : PySem.W.kitOne X.K (.type t) (.type t') = some r)
    (hv2 : bootBuiltins nm = some (.type t') := by decide +kernel) (hg : Gl X "isinstance" := by rfl) (hg2 : Gl X nm := by rfl) (hn2 : nm ≠ "__name__" := by decide) (hd2 : (nm == ("__debug__" : Str)) = false := by decide)
    (he : starEach [a, .Name nm p2] X.env = (false, eval a X.env) :: starEach [.Name nm p2] X.env := by rfl) (he2 : starEach [.Name nm p2] X.env = (false, eval (.Name nm p2) X.env) :: starEach [] X.env := by rfl) (hpl : (backTo pos (starEach [.Name nm p2] X.env)).any (·.1) = false := by rfl) :
    DE X (.Call (.Name "isinstance" p) [a, .Name nm p2] [] pos) σ G r := fun G1 H1 e1 e2 Q k =>
  ⟨_, pe_callB call_isi hg hm (by decide +kernel) (pa_cons WE.pe (pa_cons (pe_bltn hg2 hm2 hv2 (show RelV (.ty t') (.type t') from rfl) hn2 hd2) pa_nil he2) he) (by decide) (by decide) he hpl, ha G1 H1 e1 e2 _ fun v G2 H2 g r1 =>
    ⟨v, .ty t', .type t, .type t', r, rfl, .ty t', .base (ht G2 H2 v g.gh r1), hk, k _ G2 H2 g rfl⟩⟩
theorem ty_str {K : PySem.W.Frag} (x : Str) : ∀ G H v, Ex G H → rep G v x → TyOf K H v (.type "str") := fun G H v _ r => by rw [r.1]; exact .str x
theorem ty_int {K : PySem.W.Frag} (x : Int) : ∀ G H v, Ex G H → rep G v x → TyOf K H v (.type "int") := fun G H v _ r => by cases r; exact .int x
theorem ty_nat {K : PySem.W.Frag} (x : Nat) : ∀ G H v, Ex G H → rep G v x → TyOf K H v (.type "int") := fun G H v _ r => by cases r; exact .int x
theorem ty_list {K : PySem.W.Frag} (x : List α) : ∀ G H v, Ex G H → rep G v x → TyOf K H v (.type "list") := fun G H v e r => by
  obtain ⟨p, vs, rfl, hp, _⟩ := r
  exact .lst (e _ _ hp)
/-- isinstance(e, dict), e a dict -/
theorem de_isDict {d : Dict α} {nm : Str} {t' : String} {r : Bool} (hm : X.mg ("isinstance" : Str) = none) (hm2 : X.mg nm = none) (ha : DE X a σ G d) (hk : PySem.W.kitOne X.K (.type "dict") (.type t') = some r)
    (hv2 : bootBuiltins nm = some (.type t') := by decide +kernel) (hg : Gl X "isinstance" := by rfl) (hg2 : Gl X nm := by rfl) (hn2 : nm ≠ "__name__" := by decide) (hd2 : (nm == ("__debug__" : Str)) = false := by decide)
    (he : starEach [a, .Name nm p2] X.env = (false, eval a X.env) :: starEach [.Name nm p2] X.env := by rfl) (he2 : starEach [.Name nm p2] X.env = (false, eval (.Name nm p2) X.env) :: starEach [] X.env := by rfl) (hpl : (backTo pos (starEach [.Name nm p2] X.env)).any (·.1) = false := by rfl) :
    DE X (.Call (.Name "isinstance" p) [a, .Name nm p2] [] pos) σ G r := fun G1 H1 e1 e2 Q k =>
  ⟨_, pe_callB call_isi hg hm (by decide +kernel) (pa_cons WE.pe (pa_cons (pe_bltn hg2 hm2 hv2 (show RelV (.ty t') (.type t') from rfl) hn2 hd2) pa_nil he2) he) (by decide) (by decide) he hpl, ha G1 H1 e1 e2 _ fun v G2 H2 g r1 => by
    obtain ⟨q, kv, od, rfl, hp, _⟩ := r1
    exact ⟨.ref q, .ty t', .type "dict", .type t', r, rfl, .ty t', .fDict (g.gh _ _ hp), hk, k _ G2 H2 g rfl⟩⟩
end
end Dn

namespace Dn
open Dn.Rep (rep)
open PySem L2

/-- the module's def x stands at f, may be called with the parameters ps, keeps sp -/
structure Has (P : Program) (w : World) (K : PySem.W.Frag) (mg : Str → Option Value) (base : Heap) (x : Str) (f : Addr) (lvl : Nat) (ps : List Str) (sp : Sp) : Prop where
  ex : ∃ fd, mg x = some (.ref f) ∧ PySem.W.keepIn K (.ref f) = true ∧ Binds K fd ps [] ∧ FnG P w K mg base CX0 lvl f fd ps sp
section
variable {X : Cx} {α β γ δ : Type} [Rep α] [Rep β] [Rep γ] [Rep δ] {e a b c : Expr} {es : List Expr} {σ : L2.St} {G G' : Hp} {pos pos' p2 p : Pos} {x : Str} {f : Addr} {lvl : Nat} {ps : List Str} {sp : Sp}
theorem we_call {k : Nat} {H : Hp} {Q : VK} (F : Has X.prog X.w X.K X.mg X.base x f lvl ps sp) (hr : Rm k X.A) (h : WA X (e :: es) σ H fun vs H1 => sp vs H1 Q E0) (hl : lvl ≤ k := by decide) (hg : Gl X x := by rfl)
    (hdb : (x == ("__debug__" : Str)) = false := by decide) (he : starEach (e :: es) X.env = (false, eval e X.env) :: starEach es X.env := by rfl) (hpl : (backTo pos (starEach es X.env)).any (·.1) = false := by rfl) : WE X (.Call (.Name x p) (e :: es) [] pos) σ H Q := by
  obtain ⟨fd, hm, hk, hb, F⟩ := F.ex
  refine ⟨_, pe_callG F (hr.mono hl) hg hm hk hb .nil pass0 WA.pa hdb he hpl, ?_⟩
  obtain ⟨t, h1, h2⟩ := h
  exact ⟨_, h1, by simpa using h2⟩
end

section
variable {X : Cx} {α β γ : Type} [Rep α] [Rep β] [Rep γ] {e a b c tg : Expr} {es : List Expr} {σ : L2.St} {G G' : Hp} {pos pos' p2 p : Pos}
/-- walking iter gives the items l, one by one, known by then -/
def DI (X : Cx) (tg iter : Expr) (σ : L2.St) (G : Hp) (l : List α) : Prop :=
  ∀ G1 H1, Ex G G1 → Ex G1 H1 → ∀ R : It → Hp → Prop,
    (∀ (J : It) (Gw : Hp → Prop) (Y : Nat → Hp → V → Hp → Prop) (G2 H2 : Hp), Gr [] G1 H1 G2 H2 → Walk J l.length Gw Y → (∀ H3, Ex G2 H3 → Gw H3) →
      (∀ i G3 H3 x H', i < l.length → Ex G2 G3 → Ex G3 H3 → Y i H3 x H' → ∃ y G4, l[i]? = some y ∧ Gr [] G3 H3 G4 H' ∧ rep G4 x y) → l.length ≤ sizeLine → R J H2) → ∃ wi, PI X tg iter wi ∧ wi σ H1 R
theorem DI.cast {l m : List α} (h : DI X tg e σ G l) (q : l = m) : DI X tg e σ G m := q ▸ h
theorem di_list {l : List α} (h : DE X e σ G l) : DI X tg e σ G l := fun G1 H1 e1 e2 R k =>
  ⟨_, pi_list WE.pe, h G1 H1 e1 e2 _ fun v G2 H2 g r => by
    obtain ⟨p, vs, rfl, hp, hz, r⟩ := r
    refine ⟨p, rfl, ⟨vs, .inl (.inl (g.gh _ _ hp))⟩, ?_⟩
    refine k (Itl X.K p) (fun H => SqL X.K H p vs) _ G2 H2 g (by rw [← r.len]; exact walk_list (xs := vs)) (fun H3 e3 => .inl (.inl (e3 _ _ hp))) (fun i G3 H3 x H' hi e3 e4 y => ?_) (by rw [← r.len]; exact hz)
    obtain ⟨rfl, hy⟩ := y
    obtain ⟨q, h1, h2⟩ := r.get hy
    exact ⟨q, G3, h1, Gr.refl e4, Rep.mono e3 h2⟩⟩
/-- range(n) -/
theorem di_range {n : Nat} (hm : X.mg ("range" : Str) = none) (h : DE X e σ G n) (hn : n ≤ sizeLine) (hg : Gl X "range" := by rfl) (he : starEach [e] X.env = (false, eval e X.env) :: starEach [] X.env := by rfl) (hs : starEach [e] X.env = [(false, eval e X.env)] := by rfl) :
    DI X tg (.Call (.Name "range" p) [e] [] pos) σ G (List.range n) := fun G1 H1 e1 e2 R k =>
  ⟨_, pi_range1 hg hm (pa_cons WE.pe pa_nil he) hs, h G1 H1 e1 e2 _ fun v G2 H2 g r => by
    have hz : n ≤ 2 ^ 24 := hn
    refine ⟨(n : Int), by rw [r] <;> rfl, by omega, by omega, ?_⟩
    refine k _ (fun _ => True) _ G2 H2 g (by rw [List.length_range, Int.toNat_natCast]; exact walk_range) (fun _ _ => trivial) (fun i G3 H3 x H' hi e3 e4 y => ?_) (by rw [List.length_range]; exact hn)
    obtain ⟨rfl, hy⟩ := y
    rw [List.length_range] at hi
    exact ⟨i, G3, by rw [List.getElem?_range hi], Gr.refl e4, by show x = .int (i : Int); rw [hy]; simp⟩⟩
/-- a sign of a text -/
structure Sign where
  c : Nat
  deriving DecidableEq
instance : Rep Sign := ⟨fun _ v s => v = .str ⟨#[s.c]⟩ ∧ StrW ⟨#[s.c]⟩, fun _ h => h⟩
instance : Dat Sign := ⟨fun s => .str ⟨#[s.c]⟩, fun _ _ _ a h => by cases h.1; exact .str _, fun h => h.2.2, 0, fun _ => by simp [PyData.depth], fun {a b} => by cases a; cases b; simp [PyData.eqv]⟩
def signs (z : Str) : List Sign := z.cps.toList.map Sign.mk
theorem di_str {z : Str} (h : DE X e σ G z) : DI X tg e σ G (signs z) := fun G1 H1 e1 e2 R k =>
  ⟨_, pi_str WE.pe, h G1 H1 e1 e2 _ fun v G2 H2 g (r : v = .str z ∧ StrW z) => by
    have hlen : (signs z).length = z.cps.size := by unfold signs; rw [List.length_map, Array.length_toList]
    refine ⟨z, r.1, k (Its z) (fun _ => True) _ G2 H2 g (by rw [hlen]; exact walk_str) (fun _ _ => trivial) (fun i G3 H3 x H' hi e3 e4 y => ?_) (by rw [hlen]; exact r.2.1)⟩
    obtain ⟨rfl, c, hc, rfl⟩ := y
    have h2 := r.2.2
    have hm : c ∈ z.cps := Array.mem_of_getElem? hc
    refine ⟨⟨c⟩, G3, by unfold signs; rw [List.getElem?_map, Array.getElem?_toList, hc]; rfl, Gr.refl e4, rfl, by show 1 ≤ sizeLine; decide, ?_⟩
    simp only [PyData.canLay0, PyData.strOk, Array.all_eq_true_iff_forall_mem] at h2 ⊢
    intro x hx
    have : x = c := by simpa using hx
    subst this
    exact h2 x hm⟩
theorem dc_ninSign {s : Sign} {z : Str} (ha : DE X a σ G s) (hb : DE X b σ G z) (hm : behindInMarks .NotIn b = false := by rfl) : DC X .NotIn a b σ G (!decide (s.c ∈ z.cps.toList)) :=
  dc_cmp (x := s) (y := z) op_notIn_sign (fun G H u v e (r1 : u = .str ⟨#[s.c]⟩ ∧ _) (r2 : v = .str z ∧ _) Q k => ⟨s.c, z, r1.1, r2.1, k _ G H (Gr.refl e) rfl⟩) ha hb hm
/-- for i, x in enumerate(xs) -/
def enum (l : List α) : List (Nat × α) := (List.range l.length).zip l
theorem enum_len (l : List α) : (enum l).length = l.length := by unfold enum; rw [List.length_zip, List.length_range, Nat.min_self]
theorem enum_get {l : List α} {i : Nat} {x : α} (h : l[i]? = some x) : (enum l)[i]? = some (i, x) := by
  have hi := (List.getElem?_eq_some_iff.mp h).1
  unfold enum
  rw [List.getElem?_zip_eq_some]
  exact ⟨List.getElem?_range hi, h⟩
theorem di_enum {l : List α} {elts : List Expr} {kk : Nat} {tpos : Pos} (hm : X.mg ("enumerate" : Str) = none) (h : DE X e σ G l) (hg : Gl X "enumerate" := by rfl) (he : starEach [e] X.env = (false, eval e X.env) :: starEach [] X.env := by rfl) (hs : starEach [e] X.env = [(false, eval e X.env)] := by rfl) :
    DI X (.Tuple elts kk tpos) (.Call (.Name "enumerate" p) [e] [] pos) σ G (enum l) := fun G1 H1 e1 e2 R k =>
  ⟨_, pi_enum hg hm (pa_cons WE.pe pa_nil he) hs, h G1 H1 e1 e2 _ fun v G2 H2 g r => by
    obtain ⟨p, vs, rfl, hp, hz, r⟩ := r
    refine ⟨p, vs, rfl, .inl (.inl (g.gh _ _ hp)), ?_⟩
    refine k (Ite X.K p) (fun H => SqL X.K H p vs) _ G2 H2 g (by rw [enum_len, ← r.len]; exact walk_enum (xs := vs)) (fun H3 e3 => .inl (.inl (e3 _ _ hp))) (fun i G3 H3 x H' hi e3 e4 y => ?_) (by rw [enum_len, ← r.len]; exact hz)
    obtain ⟨T, x1, x2, rfl, hT, rfl, q1, q2⟩ := y
    cases q1
    obtain ⟨q, h1, h2⟩ := r.get q2
    exact ⟨(i, q), _, enum_get h1, Gr.new e4 hT, T, _, x2, rfl, upd_same, rfl, Rep.mono (e3.trans (Ex.new (Ex.fresh e4 hT))) h2⟩⟩
end

section
variable {X : Cx} {α β γ : Type} [Rep α] [Rep β] [Rep γ] {e a b c tg iter elt : Expr} {ifs : List Expr} {σ : L2.St} {G G' : Hp} {pos pos' p2 p : Pos} {scope : Scope}
/-- the tests of a comprehension -/
def DF (X : Cx) (ifs : List Expr) (σ : L2.St) (G : Hp) (b : Bool) : Prop :=
  ∀ G1 H1, Ex G G1 → Ex G1 H1 → ∀ Q : Bool → Hp → Prop, (∀ G2 H2, Gr [] G1 H1 G2 H2 → Q b H2) → ∃ t, PTs X ifs t ∧ t σ H1 Q
theorem df_nil : DF X [] σ G true := fun G1 H1 e1 e2 Q k => ⟨_, pts_nil, k G1 H1 (Gr.refl e2)⟩
theorem df_one {q : Bool} (h : DT X c σ G q) : DF X [c] σ G q := fun G1 H1 e1 e2 Q k => ⟨_, pts_one WT.pt, h G1 H1 e1 e2 Q k⟩
def WF (X : Cx) (ifs : List Expr) (σ : L2.St) (H : Hp) (Q : Bool → Hp → Prop) : Prop := ∃ t, PTs X ifs t ∧ t σ H Q
theorem WF.pts : PTs X ifs (WF X ifs) := ⟨fun pins s σ H Q I ⟨_, h, q⟩ => h.run pins s σ H Q I q⟩
/-- the context of a comprehension's block -/
structure InBlk (X : Cx) (scope : Scope) (Y : Cx) : Prop where
  ex : ∃ s H C cl fp, Y = X.blk s H scope (compEnvC scope cl C X.env) fp
/-- how a target takes an item: the slots behind it, and what of it is known there -/
structure DG (X : Cx) (scope : Scope) (tg : Expr) (vs : List Nat) (T : α → L2.St → Hp → L2.St → Prop) : Prop where
  ex : ∃ g, (∀ (s : Shared) (H : Hp) (C : Addr) (cl : List (Str × Addr)) (fp : List Addr), PG (X.blk s H scope (compEnvC scope cl C X.env) fp) tg g) ∧
    ∀ (v : V) (y : α) (σ : L2.St) (G H : Hp), Ex G H → rep G v y → ∀ Q : L2.St → Hp → Prop, (∀ σ2, T y (wipe σ vs) G σ2 → wipe σ2 vs = wipe σ vs → Q σ2 H) → g v (wipe σ vs) H Q
theorem dg_name {x : Str} {j : Nat} (hN : X.N.Nodup) (hi : X.N[j]? = some x := by rfl) (hx : L2.Loc (relabel scope X.env) x := by first | exact Or.inl rfl | exact Or.inr rfl) (hf : (scope.names.lookup x == some .cell) = true ∨ (relabel scope X.env).names.lookup x = some .local := by first | exact .inr rfl | exact .inl rfl) :
    DG (α := α) X scope (.Name x pos) [j] fun y σ G σ2 => ∃ v, rep G v y ∧ σ2 = σ.set j (some v) :=
  ⟨gName j, fun s H C cl fp => pg_name hN hi hx hf, fun v y σ G H e r Q k => k _ ⟨v, r, rfl⟩ (by simp [wipe, List.set_set])⟩
theorem dg_pair {x y : Str} {j k kk : Nat} {pos1 pos2 : Pos} (hN : X.N.Nodup) (hc : X.calm = true) (hi : X.N[j]? = some x := by rfl) (hk : X.N[k]? = some y := by rfl) (hx : L2.Loc (relabel scope X.env) x := by first | exact Or.inl rfl | exact Or.inr rfl) (hy : L2.Loc (relabel scope X.env) y := by first | exact Or.inl rfl | exact Or.inr rfl)
    (hf : (scope.names.lookup x == some .cell) = true ∨ (relabel scope X.env).names.lookup x = some .local := by first | exact .inr rfl | exact .inl rfl)
    (hf2 : (scope.names.lookup y == some .cell) = true ∨ (relabel scope X.env).names.lookup y = some .local := by first | exact .inr rfl | exact .inl rfl)
    (hn : ∀ env, (assignEach [.Name x pos1, .Name y pos2] env).length = 2 := by intro _; rfl) (hst : ∀ env, (assignEach [.Name x pos1, .Name y pos2] env).findIdx? (·.1) = none := by intro _; rfl) :
    DG (α := α × β) X scope (.Tuple [.Name x pos1, .Name y pos2] kk pos) [j, k] fun z σ G σ2 => ∃ v w, rep G v z.1 ∧ rep G w z.2 ∧ σ2 = (σ.set j (some v)).set k (some w) :=
  ⟨gTup X.K 2 (gCons (gName j) (gCons (gName k) gNil)), fun s H C cl fp => pg_tup hc (pgs_cons (pg_name hN hi hx hf) (pgs_cons (pg_name hN hk hy hf2) pgs_nil)) (hn _) (hst _), fun v z σ G H e r Q q => by
    obtain ⟨p, u, w, rfl, hp, r1, r2⟩ := r
    refine ⟨p, _, rfl, .inl (.inl (e _ _ hp)), rfl, u, _, rfl, w, _, rfl, rfl, q _ ⟨u, w, r1, r2, rfl⟩ ?_⟩
    simp only [wipe]
    apply List.ext_getElem?
    intro i
    simp only [List.getElem?_set, List.length_set]
    by_cases h1 : j = i
    · subst h1
      by_cases h2 : k = j
      · subst h2; simp
      · simp [h2]
    · by_cases h2 : k = i
      · subst h2; simp [h1]
      · simp [h1, h2]⟩
/-- a comprehension: its reading -/
def LC (X : Cx) (elt tg iter : Expr) (ifs : List Expr) (scope : Scope) (σ : L2.St) (G : Hp) (l : List β) : Prop :=
  ∃ (own : List (Str × Nat)), BlkOk X.N X.env.scope scope own ∧ X.N.Nodup ∧ X.calm = true ∧ ∀ G1 H1, Ex G G1 → Ex G1 H1 → ∀ Q : VK,
    (∀ p vs G2 H2, Gr [] G1 H1 G2 H2 → H1 p = none → G2 p = none → H2 p = some (.lst vs) → vs.length ≤ sizeLine → Reps G2 vs l → Q (.ref p) H2) →
    ∃ wi g tt te, PI X tg iter wi ∧ (∀ (s : Shared) (H : Hp) (C : Addr) (cl : List (Str × Addr)) (fp : List Addr), PG (X.blk s H scope (compEnvC scope cl C X.env) fp) tg g) ∧
      (∀ (s : Shared) (H : Hp) (C : Addr) (cl : List (Str × Addr)) (fp : List Addr), PTs (X.blk s H scope (compEnvC scope cl C X.env) fp) ifs tt) ∧
      (∀ (s : Shared) (H : Hp) (C : Addr) (cl : List (Str × Addr)) (fp : List Addr), PE (X.blk s H scope (compEnvC scope cl C X.env) fp) elt te) ∧ tLc wi g tt te (own.map (·.2)) σ H1 Q
theorem LC.cast {l m : List β} (h : LC X elt tg iter ifs scope σ G l) (q : l = m) : LC X elt tg iter ifs scope σ G m := q ▸ h
theorem lc_mk {l : List α} {own : List (Str × Nat)} {vs : List Nat} {T : α → L2.St → Hp → L2.St → Prop} (f : α → Bool) (h : α → β) (hN : X.N.Nodup) (hc : X.calm = true) (src : DI X tg iter σ G l) (ok : BlkOk X.N X.env.scope scope own) (ho : own.map (·.2) = vs) (tgt : DG X scope tg vs T)
    (ht : ∀ (i : Nat) y σ2 G', l[i]? = some y → Ex G G' → T y (wipe σ vs) G' σ2 → ∀ Y, InBlk X scope Y → DF Y ifs σ2 G' (f y))
    (he : ∀ (i : Nat) y σ2 G', l[i]? = some y → Ex G G' → T y (wipe σ vs) G' σ2 → f y = true → ∀ Y, InBlk X scope Y → DE Y elt σ2 G' (h y)) :
    LC X elt tg iter ifs scope σ G ((l.filter f).map h) := by
  refine ⟨own, ok, hN, hc, fun G1 H1 e1 e2 Q k => ?_⟩
  obtain ⟨g, hg, tg1⟩ := tgt.ex
  let tt : TT := fun σ H Q => ∀ (s : Shared) (H0 : Hp) (C : Addr) (cl : List (Str × Addr)) (fp : List Addr), WF (X.blk s H0 scope (compEnvC scope cl C X.env) fp) ifs σ H Q
  let te : TE := fun σ H Q => ∀ (s : Shared) (H0 : Hp) (C : Addr) (cl : List (Str × Addr)) (fp : List Addr), WE (X.blk s H0 scope (compEnvC scope cl C X.env) fp) elt σ H Q
  have main := src G1 H1 e1 e2 (fun J H2 => ∀ D, H2 D = none → ∃ W : Nat → Nat → Hp → Prop, (∃ m, W 0 m (upd H2 D (.lst []))) ∧ ∀ i m H, W i m H →
      (J.stop i H ∧ Q (.ref D) H) ∨ (J.go i H ∧ ∃ Nx : Hp → Prop, (∀ H', Nx H' → ∃ m', m' < m ∧ W (i + 1) m' H') ∧ ∀ x H', J.yld i H x H' → g x (wipe σ (own.map (·.2))) H' fun σ2 H2 => wipe σ2 (own.map (·.2)) = wipe σ (own.map (·.2)) ∧ tt σ2 H2 fun b H3 =>
        if b = true then te σ2 H3 fun y H4 => ∃ acc, H4 D = some (.lst acc) ∧ acc.length < sizeLine ∧ Nx (upd H4 D (.lst (acc ++ [y]))) else Nx H3)) ?_
  · obtain ⟨wi, hw, q⟩ := main
    exact ⟨wi, g, tt, te, hw, hg, fun s H C cl fp => ⟨fun pins s1 σ1 H1 Q1 I1 z => WF.pts.run pins s1 σ1 H1 Q1 I1 (z s H C cl fp)⟩, fun s H C cl fp => ⟨fun pins s1 σ1 H1 Q1 I1 z => WE.pe.run pins s1 σ1 H1 Q1 I1 (z s H C cl fp)⟩, q⟩
  · intro J Gw Y G2 H2 g2 wk hGw hY hz D hD
    rw [ho]
    have eD : Ex H2 (upd H2 D (.lst [])) := Ex.new hD
    have nD : G2 D = none := Ex.fresh g2.gh hD
    refine lc_it wk (fun i H => ∃ G3 acc, Gr [] G2 H2 G3 H ∧ G3 D = none ∧ H D = some (.lst acc) ∧ acc.length ≤ i ∧ Reps G3 acc (((l.take i).filter f).map h)) ⟨G2, [], Gr.own g2.gh hD, nD, upd_same, Nat.le_refl _, .nil⟩
      (fun i H _ ⟨G3, acc, g3, _⟩ => hGw H (fun x o q => g3.gh x o (g3.gg x o q))) ?_ ?_
    · rintro i x H H' hi ⟨G3, acc, g3, n3, hA, hl, r⟩ y
      obtain ⟨z, G4, hzl, g4, rz⟩ := hY i G3 H x H' hi g3.gg g3.gh y
      refine tg1 x z σ G4 H' g4.gh rz _ fun σ2 hT hw => ⟨hw, fun s H0 C cl fp => ?_⟩
      have eG4 : Ex G G4 := e1.trans (g2.gg.trans (g3.gg.trans g4.gg))
      refine ht i z σ2 G4 hzl eG4 hT _ ⟨s, H0, C, cl, fp, rfl⟩ G4 H' (Ex.refl G4) g4.gh _ fun G5 H5 g5 => ?_
      have g45 := g4.and g5
      have n5 : G5 D = none := Gr.unk g45 hA n3
      have hA5 : H5 D = some (.lst acc) := g45.hh _ _ hA
      have tk : l.take (i + 1) = l.take i ++ [z] := by rw [List.take_add_one, hzl]; rfl
      cases hf : f z with
      | true =>
        refine iteT fun s H0 C cl fp => ?_
        refine he i z σ2 G4 hzl eG4 hT hf _ ⟨s, H0, C, cl, fp, rfl⟩ G5 H5 g5.gg g5.gh _ fun w G6 H6 g6 r6 => ?_
        have hA6 : H6 D = some (.lst acc) := g6.hh _ _ hA5
        have n6 : G6 D = none := Gr.unk g6 hA5 n5
        have g36 : Gr [] G2 H2 G6 H6 := (g3.and g45).and g6
        refine ⟨acc, hA6, by omega, G6, acc ++ [w], g36.set (.inr hD) n6, n6, upd_same, by rw [List.length_append, List.length_singleton]; omega, ?_⟩
        rw [tk, List.filter_append, List.map_append]
        have e1 : List.filter f [z] = [z] := by simp [hf]
        rw [e1]
        exact (Reps.mono (g45.gg.trans g6.gg) r).app (.cons r6 .nil)
      | false =>
        refine iteF ⟨G5, acc, g3.and g45, n5, hA5, by omega, ?_⟩
        rw [tk, List.filter_append, List.map_append]
        have e1 : List.filter f [z] = [] := by simp [hf]
        rw [e1]
        simpa using Reps.mono g45.gg r
    · rintro H ⟨G3, acc, g3, n3, hA, hl, r⟩
      rw [List.take_length] at r
      exact k D acc G3 H (g2.and g3) (g2.dom _ hD) n3 hA (by omega) r
theorem do_lc {l : List β} (h : LC X elt tg iter ifs scope σ G l) (hs : ∀ x, foldedSetIterable iter X.env x = pure x := by intro _; rfl) : DO X (.ListComp elt [⟨tg, iter, ifs, 0⟩] scope pos) σ G l := fun G1 H1 e1 e2 Q k => by
  obtain ⟨own, ok, hN, hc, m⟩ := h
  obtain ⟨wi, g, tt, te, h1, h2, h3, h4, q⟩ := m G1 H1 e1 e2 Q k
  exact ⟨_, pe_lc hc hN h1 ok h2 h3 h4 hs, q⟩
end
end Dn

namespace Dn
open Dn.Rep (rep)
open PySem L2

section
variable {P : Program} {w : World} {K : PySem.W.Frag} {mg : Str → Option Value} {base : Heap} {x qual : Str} {params : Arguments} {body : List Stmt} {scope : Scope} {f : Addr} {N : List Str} {k : Nat}
/-- what binds the parameters -/
abbrev BindOk (x qual : Str) (params : Arguments) (body : List Stmt) (scope : Scope) (ps : List Str) : Prop :=
  ∀ (kV doc pm : Value) (an : Option Addr) (cdv ct : Value) (us : List Value), us.length = ps.length → bindArgs (PySem.W.fnOf x qual params body scope .none kV doc pm an cdv ct) ⟨us, []⟩ = pure (ps.zip us)
theorem has_of {ps : List Str} {sp : Sp} (F : ∃ fd, FunD K x qual params body scope [] [] f fd) (hm : mg x = some (.ref f)) (S : FnScope N ps scope) (hb : BindOk x qual params body scope ps) (len : ∀ vs H Q E, sp vs H Q E → vs.length = ps.length)
    (hbody : ∀ (X : Cx), (∃ cdv A outer s H E, X = (cxOf CX0 P w K mg base N qual scope f cdv A outer s H E).nox) → Rm k X.A → ∀ (H : Hp) (vs : List V) (Q : VK) (E : XK), sp vs H Q E → WS X body { nx := fun _ H' => Q .non H', rt := Q } (start N vs) H) : Has P w K mg base x f (k + 1) ps sp := by
  obtain ⟨fd, F⟩ := F
  refine ⟨fd, hm, F.kp, F.bindsN hb, okG F S len fun cdv A outer s H vs Q E hr hsp => ?_⟩
  obtain ⟨t, h1, h2⟩ := hbody _ ⟨cdv, A, outer, s, H, E, rfl⟩ hr H vs Q E hsp
  exact ⟨t, h1.nox, h2⟩
end
end Dn

namespace Dn
open Dn.Rep (rep)
open PySem L2

/-- what a cell holds -/
structure Cont where
  ok : Hp → HO → Prop
  mono : ∀ {G G' : Hp} {o : HO}, Ex G G' → ok G o → ok G' o
def cl {α : Type} [Rep α] (l : List α) : Cont := ⟨fun G o => ∃ vs, o = .lst vs ∧ vs.length ≤ sizeLine ∧ Reps G vs l, fun e ⟨vs, h1, h2, h3⟩ => ⟨vs, h1, h2, Reps.mono e h3⟩⟩
abbrev Cs := List (Addr × Cont)
/-- the base of a def: what it may change, what was known, what was there -/
structure Bs where
  M : List Addr
  G : Hp
  H : Hp
structure On (B : Bs) (C : Cs) (G H : Hp) : Prop where
  gr : Gr B.M B.G B.H G H
  at_ : ∀ (i : Nat) u c, C[i]? = some (u, c) → ∃ o, H u = some o ∧ G u = none ∧ c.ok G o
  own : ∀ (i : Nat) u c, C[i]? = some (u, c) → u ∈ B.M ∨ B.H u = none
  nd : (C.map (·.1)).Nodup
section
variable {B : Bs} {C C' : Cs} {G H G1 H1 : Hp} {u : Addr} {c c' : Cont} {o : HO} {i : Nat}
theorem On.ex (h : On B C G H) : Ex G H := h.gr.gh
theorem On.ne (h : On B C G H) {j : Nat} {v : Addr} {d : Cont} (hi : C[i]? = some (u, c)) (hj : C[j]? = some (v, d)) (n : i ≠ j) : u ≠ v := by
  intro e
  subst e
  have n1 := h.nd
  have a1 : (C.map (·.1))[i]? = some u := by rw [List.getElem?_map, hi]; rfl
  have a2 : (C.map (·.1))[j]? = some u := by rw [List.getElem?_map, hj]; rfl
  exact n ((List.getElem?_inj (List.getElem?_eq_some_iff.mp a1).1 n1).mp (a1.trans a2.symm))
theorem On.grow (h : On B C G H) (g : Gr [] G H G1 H1) : On B C G1 H1 :=
  ⟨h.gr.and g, fun i u c hi => by
    obtain ⟨o, h1, h2, h3⟩ := h.at_ i u c hi
    exact ⟨o, g.hh _ _ h1, Gr.unk g h1 h2, c.mono g.gg h3⟩, h.own, h.nd⟩
theorem map_set_fst (hi : C[i]? = some (u, c)) : (C.set i (u, c')).map (·.1) = C.map (·.1) := by
  apply List.ext_getElem?
  intro j
  rw [List.getElem?_map, List.getElem?_set, List.getElem?_map]
  by_cases e : i = j
  · subst e
    obtain ⟨hl, he⟩ := List.getElem?_eq_some_iff.mp hi
    simp [hl, he]
  · simp [e]
/-- a call changed the cell u alone -/
theorem On.chg (h : On B C G H) (hi : C[i]? = some (u, c)) (g : Gr [u] G H G1 H1) (ho : H1 u = some o) (hc : c'.ok G1 o) : On B (C.set i (u, c')) G1 H1 := by
  obtain ⟨o0, q1, q2, q3⟩ := h.at_ i u c hi
  refine ⟨h.gr.trans g fun x hx => ?_, fun j v d hj => ?_, fun j v d hj => ?_, ?_⟩
  · rw [List.mem_singleton.mp hx]; exact h.own i u c hi
  · rw [List.getElem?_set] at hj
    by_cases e : i = j
    · subst e
      rw [if_pos rfl] at hj
      split at hj
      · cases hj; exact ⟨o, ho, Gr.unk g q1 q2, hc⟩
      · cases hj
    · rw [if_neg e] at hj
      obtain ⟨p, h1, h2, h3⟩ := h.at_ j v d hj
      have ne := h.ne hi hj e
      exact ⟨p, g.keep _ _ h1 (fun z => ne (List.mem_singleton.mp z).symm), Gr.unk g h1 h2, d.mono g.gg h3⟩
  · rw [List.getElem?_set] at hj
    by_cases e : i = j
    · subst e
      rw [if_pos rfl] at hj
      split at hj
      · cases hj; exact h.own i u c hi
      · cases hj
    · rw [if_neg e] at hj
      exact h.own j v d hj
  · rw [map_set_fst hi]; exact h.nd
theorem gr_upd (e : Ex G H) (ho : H u = some o) (hg : G u = none) {o' : HO} : Gr [u] G H G (upd H u o') := (Gr.refl e).set (.inl (List.mem_singleton.mpr rfl)) hg
theorem On.put (h : On B C G H) (hi : C[i]? = some (u, c)) (hc : c'.ok G o) : On B (C.set i (u, c')) G (upd H u o) := by
  obtain ⟨o0, q1, q2, q3⟩ := h.at_ i u c hi
  exact h.chg hi (gr_upd h.ex q1 q2) upd_same hc
/-- a new cell -/
theorem On.push (h : On B C G H) (hu : H u = none) (hc : c.ok G o) : On B (C ++ [(u, c)]) G (upd H u o) := by
  have g : Gr [] G H G (upd H u o) := Gr.own h.ex hu
  have h' := h.grow g
  have old : ∀ (j : Nat) v d, C[j]? = some (v, d) → v ≠ u := fun j v d hj e => by
    obtain ⟨p, h1, _⟩ := h.at_ j v d hj
    rw [e, hu] at h1; cases h1
  refine ⟨h'.gr, fun j v d hj => ?_, fun j v d hj => ?_, ?_⟩
  · rw [List.getElem?_append] at hj
    split at hj
    · exact h'.at_ j v d hj
    · have hl := (List.getElem?_eq_some_iff.mp hj).1
      have e : j - C.length = 0 := by simpa using hl
      rw [e] at hj
      cases hj
      exact ⟨o, upd_same, Ex.fresh h.ex hu, hc⟩
  · rw [List.getElem?_append] at hj
    split at hj
    · exact h'.own j v d hj
    · have hl := (List.getElem?_eq_some_iff.mp hj).1
      have e : j - C.length = 0 := by simpa using hl
      rw [e] at hj
      cases hj
      exact .inr (h.gr.dom _ hu)
  · rw [List.map_append, List.nodup_append]
    refine ⟨h.nd, List.nodup_cons.mpr ⟨(by simp), List.nodup_nil⟩, fun a ha b hb => ?_⟩
    have e : b = u := by simpa using hb
    obtain ⟨p, hp, rfl⟩ := List.mem_map.mp ha
    obtain ⟨j, hj⟩ := List.mem_iff_getElem?.mp hp
    rw [e]
    exact old j p.1 p.2 hj
/-- an owned list as a new cell -/
theorem On.take_ (h : On B C G H) {p : Addr} (g : Gr [] G H G1 H1) (n1 : H p = none) (n2 : G1 p = none) (hp : H1 p = some o) (hc : c.ok G1 o) : On B (C ++ [(p, c)]) G1 H1 := by
  have h' := h.grow g
  have old : ∀ (j : Nat) v d, C[j]? = some (v, d) → v ≠ p := fun j v d hj e => by
    obtain ⟨q, h1, _⟩ := h.at_ j v d hj
    rw [e, n1] at h1; cases h1
  refine ⟨h'.gr, fun j v d hj => ?_, fun j v d hj => ?_, ?_⟩
  · rw [List.getElem?_append] at hj
    split at hj
    · exact h'.at_ j v d hj
    · have hl := (List.getElem?_eq_some_iff.mp hj).1
      have e : j - C.length = 0 := by simpa using hl
      rw [e] at hj
      cases hj
      exact ⟨o, hp, n2, hc⟩
  · rw [List.getElem?_append] at hj
    split at hj
    · exact h'.own j v d hj
    · have hl := (List.getElem?_eq_some_iff.mp hj).1
      have e : j - C.length = 0 := by simpa using hl
      rw [e] at hj
      cases hj
      exact .inr (h.gr.dom _ n1)
  · rw [List.map_append, List.nodup_append]
    refine ⟨h.nd, List.nodup_cons.mpr ⟨(by simp), List.nodup_nil⟩, fun a ha b hb => ?_⟩
    have e : b = p := by simpa using hb
    obtain ⟨q, hq, rfl⟩ := List.mem_map.mp ha
    obtain ⟨j, hj⟩ := List.mem_iff_getElem?.mp hq
    rw [e]
    exact old j q.1 q.2 hj
theorem On.add {p : Addr} (h : On B C G H) (hp : H p = some o) (n2 : G p = none) (hc : c.ok G o) (ho : p ∈ B.M ∨ B.H p = none) (old : ∀ (j : Nat) v d, C[j]? = some (v, d) → v ≠ p) : On B (C ++ [(p, c)]) G H := by
  refine ⟨h.gr, fun j v d hj => ?_, fun j v d hj => ?_, ?_⟩
  · rw [List.getElem?_append] at hj
    split at hj
    · exact h.at_ j v d hj
    · have hl := (List.getElem?_eq_some_iff.mp hj).1
      have e : j - C.length = 0 := by simpa using hl
      rw [e] at hj
      cases hj
      exact ⟨o, hp, n2, hc⟩
  · rw [List.getElem?_append] at hj
    split at hj
    · exact h.own j v d hj
    · have hl := (List.getElem?_eq_some_iff.mp hj).1
      have e : j - C.length = 0 := by simpa using hl
      rw [e] at hj
      cases hj
      exact ho
  · rw [List.map_append, List.nodup_append]
    refine ⟨h.nd, List.nodup_cons.mpr ⟨(by simp), List.nodup_nil⟩, fun a ha b hb => ?_⟩
    have e : b = p := by simpa using hb
    obtain ⟨q, hq, rfl⟩ := List.mem_map.mp ha
    obtain ⟨j, hj⟩ := List.mem_iff_getElem?.mp hq
    rw [e]
    exact old j q.1 q.2 hj
/-- the last cells forgotten -/
theorem On.first (h : On B C G H) (n : Nat) : On B (C.take n) G H := by
  have sub : ∀ (j : Nat) v d, (C.take n)[j]? = some (v, d) → C[j]? = some (v, d) := fun j v d hj => by
    rw [List.getElem?_take] at hj
    split at hj
    · exact hj
    · cases hj
  exact ⟨h.gr, fun j v d hj => h.at_ j v d (sub j v d hj), fun j v d hj => h.own j v d (sub j v d hj), by rw [List.map_take]; exact h.nd.sublist (List.take_sublist _ _)⟩
end

section
variable (B : Bs) (X : Cx) {α : Type} [Rep α]
def SE (e : Expr) (σ : L2.St) (G : Hp) (C : Cs) (a : α) (C' : Cs) : Prop :=
  ∀ G1 H1, Ex G G1 → On B C G1 H1 → ∀ Q : VK, (∀ v G2 H2, Ex G1 G2 → On B C' G2 H2 → rep G2 v a → Q v H2) → WE X e σ H1 Q
def ST (e : Expr) (σ : L2.St) (G : Hp) (C : Cs) (b : Bool) (C' : Cs) : Prop :=
  ∀ G1 H1, Ex G G1 → On B C G1 H1 → ∀ Q : Bool → Hp → Prop, (∀ G2 H2, Ex G1 G2 → On B C' G2 H2 → Q b H2) → WT X e σ H1 Q
/-- a list of one's own, at a new address -/
def SO (e : Expr) (σ : L2.St) (G : Hp) (C : Cs) (l : List α) (C' : Cs) : Prop :=
  ∀ G1 H1, Ex G G1 → On B C G1 H1 → ∀ Q : VK, (∀ p G2 H2, Ex G1 G2 → On B (C' ++ [(p, cl l)]) G2 H2 → B.H p = none → Q (.ref p) H2) → WE X e σ H1 Q
def SP (e : Option Expr) (σ : L2.St) (G : Hp) (C : Cs) (o : Option Int) (C' : Cs) : Prop :=
  ∀ G1 H1, Ex G G1 → On B C G1 H1 → ∀ Q : Option Int → Hp → Prop, (∀ G2 H2, Ex G1 G2 → On B C' G2 H2 → Q o H2) → WO X e σ H1 Q
end
section
variable {B : Bs} {X : Cx} {α β γ δ : Type} [Rep α] [Rep β] [Rep γ] [Rep δ] {e a b c : Expr} {es : List Expr} {σ : L2.St} {G G' : Hp} {C C' C2 C3 : Cs} {pos pos' p2 p : Pos}
theorem DE.se {x : α} (h : DE X e σ G x) : SE B X e σ G C x C := fun G1 H1 e1 o Q k => h G1 H1 e1 o.ex Q fun v G2 H2 g r => k v G2 H2 g.gg (o.grow g) r
theorem DT.st {x : Bool} (h : DT X e σ G x) : ST B X e σ G C x C := fun G1 H1 e1 o Q k => h G1 H1 e1 o.ex Q fun G2 H2 g => k G2 H2 g.gg (o.grow g)
theorem DO.so {x : List α} (h : DO X e σ G x) : SO B X e σ G C x C := fun G1 H1 e1 o Q k => h G1 H1 e1 o.ex Q fun p vs G2 H2 g n1 n2 hp hz r => k p G2 H2 g.gg (o.take_ g n1 n2 hp ⟨vs, rfl, hz, r⟩) (o.gr.dom _ n1)
theorem DP.sp {e : Option Expr} {x : Option Int} (h : DP X e σ G x) : SP B X e σ G C x C := fun G1 H1 e1 o Q k => h G1 H1 e1 o.ex Q fun G2 H2 g => k G2 H2 g.gg (o.grow g)
theorem SE.mono {x : α} (q : Ex G G') (h : SE B X e σ G C x C') : SE B X e σ G' C x C' := fun G1 H1 e1 o Q k => h G1 H1 (q.trans e1) o Q k
theorem SE.cast {x y : α} (h : SE B X e σ G C x C') (q : x = y) : SE B X e σ G C y C' := q ▸ h
theorem On.drop1 {l : Cs} {p : Addr} {c : Cont} {H : Hp} (h : On B (l ++ [(p, c)]) G H) : On B l G H := by
  have q := h.first l.length
  rw [List.take_left'] at q
  · exact q
  · rfl
/-- one's own list gets known -/
theorem On.frz {p : Addr} {l : List α} {H : Hp} (h : On B (C ++ [(p, cl l)]) G H) (hB : B.H p = none) : ∃ vs, H p = some (.lst vs) ∧ G p = none ∧ On B C (upd G p (.lst vs)) H ∧ rep (upd G p (.lst vs)) (.ref p) l := by
  have hi : (C ++ [(p, cl l)])[C.length]? = some (p, cl l) := by simp
  obtain ⟨o, h1, h2, vs, rfl, hz, r⟩ := h.at_ _ _ _ hi
  have ex : Ex G (upd G p (.lst vs)) := Ex.new h2
  have d := h.drop1
  refine ⟨vs, h1, h2, ⟨?_, fun j v c hj => ?_, d.own, d.nd⟩, p, vs, rfl, upd_same, hz, Reps.mono ex r⟩
  · refine ⟨d.gr.keep, d.gr.dom, d.gr.gg.trans ex, fun x u q => ?_, fun x u q1 q2 => ?_⟩
    · by_cases z : x = p
      · subst z; rw [upd_same] at q; cases q; exact h1
      · rw [upd_ne z] at q; exact d.gr.gh x u q
    · by_cases z : x = p
      · subst z; exact hB
      · rw [upd_ne z] at q1; exact d.gr.fr x u q1 q2
  · obtain ⟨o, q1, q2, q3⟩ := d.at_ j v c hj
    have ne : v ≠ p := by
      have hj' : (C ++ [(p, cl l)])[j]? = some (v, c) := by
        rw [List.getElem?_append_left (List.getElem?_eq_some_iff.mp hj).1]; exact hj
      exact h.ne hj' hi (Nat.ne_of_lt (List.getElem?_eq_some_iff.mp hj).1)
    exact ⟨o, q1, by rw [upd_ne ne]; exact q2, c.mono ex q3⟩
end
end Dn

namespace Dn
open Dn.Rep (rep)
open PySem L2

class Args (A : Type) where
  rel : A → Hp → List V → Prop
  mono : ∀ {a : A} {G G' : Hp} {vs : List V}, Ex G G' → rel a G vs → rel a G' vs
instance : Args Unit := ⟨fun _ _ vs => vs = [], fun _ h => h⟩
instance instArgsCons {α A : Type} [Rep α] [Args A] : Args (α × A) := ⟨fun a G vs => ∃ v r, vs = v :: r ∧ rep G v a.1 ∧ Args.rel a.2 G r, fun e ⟨v, r, h1, h2, h3⟩ => ⟨v, r, h1, Rep.mono e h2, Args.mono e h3⟩⟩
/-- a kind of result: data, or a list of the caller's own -/
structure Kd (δ : Type) where
  is : δ → Hp → Hp → Hp → V → Prop
def kD {δ : Type} [Rep δ] : Kd δ := ⟨fun x _ G' _ w => rep G' w x⟩
def kO {δ : Type} [Rep δ] : Kd (List δ) := ⟨fun l H G' H' w => ∃ p, w = .ref p ∧ H p = none ∧ G' p = none ∧ ∃ o, H' p = some o ∧ (cl l).ok G' o⟩
/-- a def that changes nothing -/
def SpN {A δ : Type} [Args A] (kd : Kd δ) (pre : A → Prop) (f : A → δ) : Sp := fun vs H Q _ => ∃ G a, Ex G H ∧ Args.rel a G vs ∧ pre a ∧ ∀ w G' H', Gr [] G H G' H' → kd.is (f a) H G' H' w → Q w H'
/-- a def that changes its first argument, a list -/
def SpU {β A δ : Type} [Rep β] [Args A] (kd : Kd δ) (pre : List β → A → Prop) (f : List β → A → δ × List β) : Sp := fun vs H Q _ => ∃ G u p a r, vs = .ref u :: r ∧ Ex G H ∧ G u = none ∧ (∃ o, H u = some o ∧ (cl p).ok G o) ∧ Args.rel a G r ∧ pre p a ∧
  ∀ w G' H', Gr [u] G H G' H' → (∃ o, H' u = some o ∧ (cl (f p a).2).ok G' o) → kd.is (f p a).1 H G' H' w → Q w H'

section
variable {B : Bs} {X : Cx} {α β γ δ A : Type} [Rep α] [Rep β] [Rep γ] [Rep δ] [Args A] {e a b c : Expr} {es : List Expr} {σ : L2.St} {G G' : Hp} {C C' C1 C2 C3 : Cs} {pos pos' p2 p : Pos}
/-- arguments without effects -/
def DA (X : Cx) (es : List Expr) (σ : L2.St) (G : Hp) (x : A) : Prop :=
  ∀ G1 H1, Ex G G1 → Ex G1 H1 → ∀ Q : List V → Hp → Prop, (∀ vs G2 H2, Gr [] G1 H1 G2 H2 → Args.rel x G2 vs → Q vs H2) → WA X es σ H1 Q
theorem da_nil : DA X [] σ G () := fun G1 H1 e1 e2 Q k => ⟨_, pa_nil, k _ G1 H1 (Gr.refl e2) rfl⟩
theorem da_cons {x : α} {y : A} (ha : DE X a σ G x) (hs : DA X es σ G y) (h : starEach (a :: es) X.env = (false, eval a X.env) :: starEach es X.env := by rfl) : DA X (a :: es) σ G (x, y) := fun G1 H1 e1 e2 Q k =>
  ⟨_, pa_cons WE.pe WA.pa h, ha G1 H1 e1 e2 _ fun v G2 H2 g r => hs G2 H2 (e1.trans g.gg) g.gh _ fun vs G3 H3 g3 r3 => k _ G3 H3 (g.and g3) ⟨v, vs, rfl, Rep.mono g3.gg r, r3⟩⟩
/-- .. with effects -/
def SA (B : Bs) (X : Cx) (es : List Expr) (σ : L2.St) (G : Hp) (C : Cs) (x : A) (C' : Cs) : Prop :=
  ∀ G1 H1, Ex G G1 → On B C G1 H1 → ∀ Q : List V → Hp → Prop, (∀ vs G2 H2, Ex G1 G2 → On B C' G2 H2 → Args.rel x G2 vs → Q vs H2) → WA X es σ H1 Q
theorem DA.sa {x : A} (h : DA X es σ G x) : SA B X es σ G C x C := fun G1 H1 e1 o Q k => h G1 H1 e1 o.ex Q fun v G2 H2 g r => k v G2 H2 g.gg (o.grow g) r
theorem sa_nil : SA B X [] σ G C () C := da_nil.sa
theorem sa_cons {x : α} {y : A} (ha : SE B X a σ G C x C1) (hs : SA B X es σ G C1 y C2) (h : starEach (a :: es) X.env = (false, eval a X.env) :: starEach es X.env := by rfl) : SA B X (a :: es) σ G C (x, y) C2 := fun G1 H1 e1 o Q k =>
  ⟨_, pa_cons WE.pe WA.pa h, ha G1 H1 e1 o _ fun v G2 H2 g o2 r => hs G2 H2 (e1.trans g) o2 _ fun vs G3 H3 g3 o3 r3 => k _ G3 H3 (g.trans g3) o3 ⟨v, vs, rfl, Rep.mono g3 r, r3⟩⟩

variable {x : Str} {f : Addr} {lvl k : Nat} {ps : List Str}
theorem de_call {pre : A → Prop} {g : A → δ} {y : A} (F : Has X.prog X.w X.K X.mg X.base x f lvl ps (SpN kD pre g)) (hr : Rm k X.A) (ha : DA X (e :: es) σ G y) (hp : pre y) (hl : lvl ≤ k := by decide) (hg : Gl X x := by rfl) (hdb : (x == ("__debug__" : Str)) = false := by decide)
    (he : starEach (e :: es) X.env = (false, eval e X.env) :: starEach es X.env := by rfl) (hpl : (backTo pos (starEach es X.env)).any (·.1) = false := by rfl) : DE X (.Call (.Name x p) (e :: es) [] pos) σ G (g y) := fun G1 H1 e1 e2 Q k =>
  we_call F hr (ha G1 H1 e1 e2 _ fun vs G2 H2 g2 r => ⟨G2, y, g2.gh, r, hp, fun w G3 H3 g3 r3 => k w G3 H3 (g2.and g3) r3⟩) hl hg hdb he hpl
theorem do_call {pre : A → Prop} {g : A → List δ} {y : A} (F : Has X.prog X.w X.K X.mg X.base x f lvl ps (SpN kO pre g)) (hr : Rm k X.A) (ha : DA X (e :: es) σ G y) (hp : pre y) (hl : lvl ≤ k := by decide) (hg : Gl X x := by rfl) (hdb : (x == ("__debug__" : Str)) = false := by decide)
    (he : starEach (e :: es) X.env = (false, eval e X.env) :: starEach es X.env := by rfl) (hpl : (backTo pos (starEach es X.env)).any (·.1) = false := by rfl) : DO X (.Call (.Name x p) (e :: es) [] pos) σ G (g y) := fun G1 H1 e1 e2 Q k =>
  we_call F hr (ha G1 H1 e1 e2 _ fun vs G2 H2 g2 r => ⟨G2, y, g2.gh, r, hp, fun w G3 H3 g3 ⟨q, ew, n1, n2, o, h3, vs, eo, hz, r3⟩ => by
    subst ew; subst eo
    exact k q vs G3 H3 (g2.and g3) (g2.dom _ n1) n2 h3 hz r3⟩) hl hg hdb he hpl
/-- the name nm stands for the thing at u -/
structure AtVar (X : Cx) (σ : L2.St) (nm : Str) (u : Addr) : Prop where
  ex : ∃ j : Nat, X.N[j]? = some nm ∧ σ[j]? = some (some (.ref u)) ∧ Vis X.env.scope nm ∧ (nm == ("__debug__" : Str)) = false ∧ (nm == ("__classdict__" : Str)) = false
theorem at_var {nm : Str} {u : Addr} (j : Nat) (hN : X.N[j]? = some nm := by rfl) (hs : σ[j]? = some (some (.ref u)) := by rfl) (hv : Vis X.env.scope nm := by first | exact Or.inl rfl | exact Or.inr (Or.inl rfl) | exact Or.inr (Or.inr rfl))
    (hd : (nm == ("__debug__" : Str)) = false := by decide) (hcd : (nm == ("__classdict__" : Str)) = false := by decide) : AtVar X σ nm u := ⟨j, hN, hs, hv, hd, hcd⟩
theorem AtVar.we {nm : Str} {u : Addr} {H : Hp} {Q : VK} (h : AtVar X σ nm u) (q : Q (.ref u) H) : WE X (.Name nm pos) σ H Q := by
  obtain ⟨j, hN, hs, hv, hd, hcd⟩ := h.ex
  exact ⟨_, pe_var hN hv hd hcd, _, hs, q⟩
/-- a call that changes the i-th cell -/
theorem se_callU {pre : List β → A → Prop} {g : List β → A → δ × List β} {y : A} {l : List β} {u : Addr} {nm : Str} {pn : Pos} (i : Nat) (F : Has X.prog X.w X.K X.mg X.base x f lvl ps (SpU kD pre g)) (hr : Rm k X.A) (hu : AtVar X σ nm u) (ha : SA B X es σ G C y C1) (hi : C1[i]? = some (u, cl l)) (hp : pre l y)
    (hl : lvl ≤ k := by decide) (hg : Gl X x := by rfl) (hdb : (x == ("__debug__" : Str)) = false := by decide) (he : starEach (.Name nm pn :: es) X.env = (false, eval (.Name nm pn) X.env) :: starEach es X.env := by rfl) (hpl : (backTo pos (starEach es X.env)).any (·.1) = false := by rfl) :
    SE B X (.Call (.Name x p) (.Name nm pn :: es) [] pos) σ G C (g l y).1 (C1.set i (u, cl (g l y).2)) := fun G1 H1 e1 o Q k =>
  we_call F hr ⟨_, pa_cons WE.pe WA.pa he, hu.we (ha G1 H1 e1 o _ fun vs G2 H2 e2 o2 r => by
    obtain ⟨ob, h1, h2, h3⟩ := o2.at_ i u _ hi
    refine ⟨G2, u, l, y, vs, rfl, o2.ex, h2, ⟨ob, h1, h3⟩, r, hp, fun w G3 H3 g3 ⟨ob', h4, h5⟩ r3 => k w G3 H3 (e2.trans g3.gg) (o2.chg hi g3 h4 h5) r3⟩)⟩ hl hg hdb he hpl
theorem so_callU {pre : List β → A → Prop} {g : List β → A → List δ × List β} {y : A} {l : List β} {u : Addr} {nm : Str} {pn : Pos} (i : Nat) (F : Has X.prog X.w X.K X.mg X.base x f lvl ps (SpU kO pre g)) (hr : Rm k X.A) (hu : AtVar X σ nm u) (ha : SA B X es σ G C y C1) (hi : C1[i]? = some (u, cl l)) (hp : pre l y)
    (hl : lvl ≤ k := by decide) (hg : Gl X x := by rfl) (hdb : (x == ("__debug__" : Str)) = false := by decide) (he : starEach (.Name nm pn :: es) X.env = (false, eval (.Name nm pn) X.env) :: starEach es X.env := by rfl) (hpl : (backTo pos (starEach es X.env)).any (·.1) = false := by rfl) :
    SO B X (.Call (.Name x p) (.Name nm pn :: es) [] pos) σ G C (g l y).1 (C1.set i (u, cl (g l y).2)) := fun G1 H1 e1 o Q k =>
  we_call F hr ⟨_, pa_cons WE.pe WA.pa he, hu.we (ha G1 H1 e1 o _ fun vs G2 H2 e2 o2 r => by
    obtain ⟨ob, h1, h2, h3⟩ := o2.at_ i u _ hi
    refine ⟨G2, u, l, y, vs, rfl, o2.ex, h2, ⟨ob, h1, h3⟩, r, hp, fun w G3 H3 g3 ⟨ob', h4, h5⟩ ⟨q, ew, n1, n2, o', h6, h7⟩ => ?_⟩
    subst ew
    have oo := o2.chg hi g3 h4 h5
    refine k q G3 H3 (e2.trans g3.gg) ?_ (o2.gr.dom _ n1)
    -- the new list as a cell
    have old : ∀ (j : Nat) v d, (C1.set i (u, cl (g l y).2))[j]? = some (v, d) → v ≠ q := fun j v d hj e => by
      have hm : v ∈ (C1.set i (u, cl (g l y).2)).map (·.1) := List.mem_map.mpr ⟨_, List.mem_of_getElem? hj, rfl⟩
      rw [map_set_fst hi] at hm
      obtain ⟨z, hz, ez⟩ := List.mem_map.mp hm
      obtain ⟨j2, hj2⟩ := List.mem_iff_getElem?.mp hz
      obtain ⟨ob2, q1, _⟩ := o2.at_ j2 z.1 z.2 hj2
      rw [ez, e, n1] at q1
      cases q1
    exact oo.add h6 n2 h7 (.inr (o2.gr.dom _ n1)) old)⟩ hl hg hdb he hpl
end

section
variable {B : Bs} {X : Cx} {α β γ δ A : Type} [Rep α] [Rep β] [Rep γ] [Rep δ] [Args A] {e a b c : Expr} {es : List Expr} {σ : L2.St} {G G' : Hp} {C C' C1 C2 C3 : Cs} {pos pos' p2 p : Pos}
theorem se_two {r : R2} {x : α} {y : β} {z : γ} (ha : SE B X a σ G C x C1) (hb : SE B X b σ G C1 y C2) (hr : R2D r x y z) (G1 H1 : Hp) (e1 : Ex G G1) (o1 : On B C G1 H1) (Q : VK) (k : ∀ v G2 H2, Ex G1 G2 → On B C2 G2 H2 → rep G2 v z → Q v H2) :
    WE X a σ H1 fun u H2 => WE X b σ H2 fun v H3 => r u v H3 Q :=
  ha G1 H1 e1 o1 _ fun u G2 H2 g2 o2 r2 => hb G2 H2 (e1.trans g2) o2 _ fun v G3 H3 g3 o3 r3 => hr G3 H3 u v o3.ex (Rep.mono g3 r2) r3 Q fun w G4 H4 g4 r4 => k w G4 H4 ((g2.trans g3).trans g4.gg) (o3.grow g4) r4
theorem se_op {op : Operator} {r : R2} {x : α} {y : β} {z : γ} (ho : OpR X (binaryOp op) r) (hr : R2D r x y z) (ha : SE B X a σ G C x C1) (hb : SE B X b σ G C1 y C2) : SE B X (.BinOp a op b pos) σ G C z C2 := fun G1 H1 e1 o1 Q k =>
  ⟨_, pe_op ho WE.pe WE.pe, se_two ha hb hr G1 H1 e1 o1 Q k⟩
theorem se_add {i j : Int} (ha : SE B X a σ G C i C1) (hb : SE B X b σ G C1 j C2) : SE B X (.BinOp a .Add b pos) σ G C (i + j) C2 := se_op op_add (r2_I0 fun _ => rfl) ha hb
theorem se_sub {i j : Int} (ha : SE B X a σ G C i C1) (hb : SE B X b σ G C1 j C2) : SE B X (.BinOp a .Sub b pos) σ G C (i - j) C2 := se_op op_sub (r2_I0 fun _ => rfl) ha hb
structure SC (B : Bs) (X : Cx) (op : CmpOp) (a b : Expr) (σ : L2.St) (G : Hp) (C : Cs) (z : Bool) (C' : Cs) : Prop where
  se : ∀ {pos : Pos}, SE B X (.Compare a [op] [b] pos) σ G C z C'
  st : ∀ {pos : Pos}, ST B X (.Compare a [op] [b] pos) σ G C z C'
theorem sc_cmp {op : CmpOp} {r : R2} {x : α} {y : β} {z : Bool} (ho : OpR X (compareOp op) r) (hr : R2D r x y z) (ha : SE B X a σ G C x C1) (hb : SE B X b σ G C1 y C2) (hm : behindInMarks op b = false := by first | exact nomark _ | rfl) : SC B X op a b σ G C z C2 :=
  ⟨fun {_} G1 H1 e1 o1 Q k => ⟨_, pe_cmpR ho WE.pe WE.pe hm, se_two ha hb hr G1 H1 e1 o1 Q k⟩,
    fun {_} G1 H1 e1 o1 Q k => ⟨_, pt_cmpR ho WE.pe WE.pe hm, se_two ha hb hr G1 H1 e1 o1 _ fun v G2 H2 g o r => ⟨z, r, k G2 H2 g o⟩⟩⟩
theorem sc_lt {i j : Int} (ha : SE B X a σ G C i C1) (hb : SE B X b σ G C1 j C2) : SC B X .Lt a b σ G C (decide (i < j)) C2 := sc_cmp op_lt (r2_I0 fun _ => rfl) ha hb
theorem sc_le {i j : Int} (ha : SE B X a σ G C i C1) (hb : SE B X b σ G C1 j C2) : SC B X .LtE a b σ G C (decide (i ≤ j)) C2 := sc_cmp op_le (r2_I0 fun _ => rfl) ha hb
theorem sc_gt {i j : Int} (ha : SE B X a σ G C i C1) (hb : SE B X b σ G C1 j C2) : SC B X .Gt a b σ G C (decide (j < i)) C2 := sc_cmp op_gt (r2_I0 fun _ => rfl) ha hb
theorem sc_ge {i j : Int} (ha : SE B X a σ G C i C1) (hb : SE B X b σ G C1 j C2) : SC B X .GtE a b σ G C (decide (j ≤ i)) C2 := sc_cmp op_ge (r2_I0 fun _ => rfl) ha hb
theorem r2_eqI {i j : Int} : R2D rEq i j (decide (i = j)) := fun G H u v e r1 r2 Q k => by cases r1; cases r2; exact ⟨rfl, k _ G H (Gr.refl e) (by show V.bl _ = V.bl _; simp)⟩
theorem r2_neI {i j : Int} : R2D rNe i j (!decide (i = j)) := fun G H u v e r1 r2 Q k => by cases r1; cases r2; exact ⟨rfl, k _ G H (Gr.refl e) (by show V.bl _ = V.bl _; simp)⟩
theorem sc_eqI {i j : Int} (ha : SE B X a σ G C i C1) (hb : SE B X b σ G C1 j C2) : SC B X .Eq a b σ G C (decide (i = j)) C2 := sc_cmp op_eq r2_eqI ha hb
theorem sc_neI {i j : Int} (ha : SE B X a σ G C i C1) (hb : SE B X b σ G C1 j C2) : SC B X .NotEq a b σ G C (!decide (i = j)) C2 := sc_cmp op_ne r2_neI ha hb
theorem SO.se {l : List α} (h : SO B X e σ G C l C') : SE B X e σ G C l C' := fun G1 H1 e1 o Q k => h G1 H1 e1 o _ fun q G2 H2 e2 o2 hB => by
  obtain ⟨vs, h1, h2, o3, r⟩ := o2.frz hB
  exact k _ _ H2 (e2.trans (Ex.new h2)) o3 r
theorem sp_none : SP B X none σ G C none C := dp_none.sp
theorem sp_some {i : Int} (h : SE B X e σ G C i C') : SP B X (some e) σ G C (some i) C' := fun G1 H1 e1 o Q k => ⟨_, po_some WE.pe, h G1 H1 e1 o _ fun v G2 H2 g o2 r => ⟨i, r, k G2 H2 g o2⟩⟩
theorem so_slice {l : List α} {lo hi : Option Expr} {i j : Option Int} (ha : SE B X a σ G C l C1) (hl : SP B X lo σ G C1 i C2) (hh : SP B X hi σ G C2 j C3) : SO B X (.Subscript a (.Slice lo hi none p2) pos) σ G C (cut l i j) C3 := fun G1 H1 e1 o1 Q k =>
  ⟨_, pe_slice sl_list WE.pe WO.po WO.po, ha G1 H1 e1 o1 _ fun v G2 H2 g2 o2 r2 => hl G2 H2 (e1.trans g2) o2 _ fun G3 H3 g3 o3 => hh G3 H3 (e1.trans (g2.trans g3)) o3 _ fun G4 H4 g4 o4 => by
    obtain ⟨p, vs, rfl, hp, hz, r⟩ := Rep.mono (g3.trans g4) r2
    refine ⟨p, vs, rfl, .inl (.inl (o4.ex _ _ hp)), fun q hq => k q G4 _ (g2.trans (g3.trans g4)) (o4.push hq ⟨_, rfl, Nat.le_trans (cutV_length vs _ _) hz, ?_⟩) (o4.gr.dom _ hq)⟩
    unfold cutV cut
    rw [r.len]
    exact Reps.take _ (Reps.drop _ r)⟩
theorem so_cat {l m : List α} (ha : SE B X a σ G C l C1) (hb : SE B X b σ G C1 m C2) (hl : l.length + m.length ≤ sizeLine) : SO B X (.BinOp a .Add b pos) σ G C (l ++ m) C2 := fun G1 H1 e1 o1 Q k =>
  ⟨_, pe_op op_cat WE.pe WE.pe, ha G1 H1 e1 o1 _ fun v G2 H2 g2 o2 r2 => hb G2 H2 (e1.trans g2) o2 _ fun w G3 H3 g3 o3 r3 => by
    obtain ⟨p, vs, rfl, hp, hz, r⟩ := Rep.mono g3 r2
    obtain ⟨q, ws, rfl, hq, hw, r'⟩ := r3
    have hlen : vs.length + ws.length ≤ sizeLine := by rw [r.len, r'.len]; exact hl
    exact ⟨p, q, vs, ws, rfl, rfl, o3.ex _ _ hp, o3.ex _ _ hq, hlen, fun t ht => k t G3 _ (g2.trans g3) (o3.push ht ⟨_, rfl, by rw [List.length_append]; exact hlen, r.app r'⟩) (o3.gr.dom _ ht)⟩⟩
/-- texts put together -/
theorem strW_app {x y : Str} (hx : StrW x) (hy : StrW y) (hl : x.length + y.length ≤ sizeLine) : StrW (x ++ y) := by
  have e : (x ++ y).cps = x.cps ++ y.cps := rfl
  refine ⟨?_, ?_⟩
  · have : (x ++ y).length = x.length + y.length := by
      show (x ++ y).cps.size = x.cps.size + y.cps.size
      rw [e, Array.size_append]
    omega
  · have h1 := hx.2
    have h2 := hy.2
    simp only [PyData.canLay0, PyData.strOk, Array.all_eq_true_iff_forall_mem] at h1 h2 ⊢
    intro c hc
    rw [e, Array.mem_append] at hc
    exact hc.elim (h1 c) (h2 c)
theorem r2_addS {x y : Str} (hl : x.length + y.length ≤ sizeLine) : R2D (fun x y H Q => ∃ i j, x = .str i ∧ y = .str j ∧ i.length + j.length ≤ sizeLine ∧ Q (.str (i ++ j)) H) x y (x ++ y) := fun G H u v e (r1 : u = .str x ∧ StrW x) (r2 : v = .str y ∧ StrW y) Q k =>
  ⟨x, y, r1.1, r2.1, hl, k _ G H (Gr.refl e) ⟨rfl, strW_app r1.2 r2.2 hl⟩⟩
theorem se_sign {z : Str} {i : Int} {ch : Nat} (ha : SE B X a σ G C z C1) (hb : SE B X b σ G C1 i C2) (h : atI z.cps.toList i = some ch) (hs : PlainIx b := by exact fun _ _ => rfl) : SE B X (.Subscript a b pos) σ G C (⟨#[ch]⟩ : Str) C2 := fun G1 H1 e1 o1 Q k =>
  ⟨_, pe_ix ix_str WE.pe WE.pe hs, se_two (x := z) (y := i) ha hb (fun G H u v e (r1 : u = .str z ∧ StrW z) (r2 : v = .int i) Q k => by
    refine ⟨z, i, ch, r1.1, r2, r1.2.1, h, k _ G H (Gr.refl e) ⟨rfl, by show 1 ≤ sizeLine; decide, ?_⟩⟩
    have h2 := r1.2.2
    have hm : ch ∈ z.cps := by
      unfold atI at h
      cases q : ixN z.cps.toList.length i with
      | none => rw [q] at h; cases h
      | some j =>
        rw [q] at h
        have q := List.mem_of_getElem? (show z.cps.toList[j]? = some ch from h)
        simpa using q
    simp only [PyData.canLay0, PyData.strOk, Array.all_eq_true_iff_forall_mem] at h2 ⊢
    intro x hx
    have : x = ch := by simpa using hx
    subst this
    exact h2 x hm) G1 H1 e1 o1 Q k⟩
theorem se_if {q : Bool} {x y : α} (hc : ST B X c σ G C q C1) (ha : q = true → SE B X a σ G C1 x C2) (hb : q = false → SE B X b σ G C1 y C2) : SE B X (.IfExp c a b pos) σ G C (if q = true then x else y) C2 := fun G1 H1 e1 o1 Q k =>
  ⟨_, pe_ifExp WT.pt WE.pe WE.pe, hc G1 H1 e1 o1 _ fun G2 H2 g o2 => by
    cases q with
    | true => exact iteT (ha rfl G2 H2 (e1.trans g) o2 Q fun w G3 H3 g3 o3 r3 => k w G3 H3 (g.trans g3) o3 r3)
    | false => exact iteF (hb rfl G2 H2 (e1.trans g) o2 Q fun w G3 H3 g3 o3 r3 => k w G3 H3 (g.trans g3) o3 r3)⟩
end
end Dn

namespace Dn
open Dn.Rep (rep)
open PySem L2

/-- what is handed back: data, behind the cells Cp -/
def RD {δ : Type} [Rep δ] (B : Bs) (Cp : Cs) (x : δ) : VK → Prop := fun Q => ∀ w G' H', On B Cp G' H' → rep G' w x → Q w H'
/-- a list of the caller's own -/
def RO {δ : Type} [Rep δ] (B : Bs) (Cp : Cs) (l : List δ) : VK → Prop := fun Q => ∀ p G' H', On B (Cp ++ [(p, cl l)]) G' H' → B.H p = none → Q (.ref p) H'
section
variable (B : Bs) (X : Cx)
def SB (sts : List Stmt) (σ : L2.St) (G : Hp) (C : Cs) (R : VK → Prop) (P : L2.St → Hp → Cs → Prop) : Prop :=
  ∀ G1 H1, Ex G G1 → On B C G1 H1 → ∀ D : Ends, R D.rt → (∀ σ2 G2 H2 C2, Ex G1 G2 → On B C2 G2 H2 → P σ2 G2 C2 → D.nx σ2 H2) → WS X sts D σ H1
end
section
variable {B : Bs} {X : Cx} {α β γ δ A : Type} [Rep α] [Rep β] [Rep γ] [Rep δ] [Args A] {e a b c tg iter elt : Expr} {ifs : List Expr} {es : List Expr} {σ : L2.St} {G G' : Hp} {C C' C1 C2 C3 Cp : Cs} {pos pos' p2 p pos2 : Pos} {scope : Scope} {sts rest thn els body : List Stmt} {R : VK → Prop} {P : L2.St → Hp → Cs → Prop}
theorem SB.mono (q : Ex G G') (h : SB B X sts σ G C R P) : SB B X sts σ G' C R P := fun G1 H1 e1 o D k1 k2 => h G1 H1 (q.trans e1) o D k1 k2
theorem SB.castR {R' : VK → Prop} (h : SB B X sts σ G C R P) (q : R = R') : SB B X sts σ G C R' P := q ▸ h
theorem sb_nil (h : ∀ G', Ex G G' → P σ G' C) : SB B X [] σ G C R P := fun G1 H1 e1 o D _ k2 => ⟨_, pss_nil, k2 σ G1 H1 C (Ex.refl G1) o (h G1 e1)⟩
theorem sb_pass (h : ∀ G', Ex G G' → SB B X rest σ G' C R P) : SB B X (.Pass pos :: rest) σ G C R P := fun G1 H1 e1 o D k1 k2 => ⟨_, pss_cons ps_pass WS.pss, h G1 e1 G1 H1 (Ex.refl _) o D k1 k2⟩
theorem sb_ret {x : δ} (n : Nat) (h : SE B X e σ G C x C') (hn : C'.take n = Cp := by rfl) : SB B X (.Return (some e) pos :: rest) σ G C (RD B Cp x) P := fun G1 H1 e1 o D k1 k2 =>
  ⟨_, pss_cons (ps_ret WE.pe) pss_never, h G1 H1 e1 o _ fun v G2 H2 e2 o2 r => k1 v G2 H2 (by have q := o2.first n; rw [hn] at q; exact q) r⟩
theorem On.pick {H : Hp} {u : Addr} {c : Cont} (h : On B C G H) (i n : Nat) (hi : C[i]? = some (u, c)) (hn : n ≤ i) : On B (C.take n ++ [(u, c)]) G H := by
  obtain ⟨o, h1, h2, h3⟩ := h.at_ i u c hi
  refine (h.first n).add h1 h2 h3 (h.own i u c hi) fun j v d hj e => ?_
  have hj' : C[j]? = some (v, d) ∧ j < n := by
    rw [List.getElem?_take] at hj
    split at hj
    · exact ⟨hj, by assumption⟩
    · cases hj
  exact h.ne hj'.1 hi (by omega) e
theorem sb_retO {x : List δ} (n : Nat) (h : SO B X e σ G C x C') (hz : n ≤ C'.length) (hn : C'.take n = Cp := by rfl) : SB B X (.Return (some e) pos :: rest) σ G C (RO B Cp x) P := fun G1 H1 e1 o D k1 k2 =>
  ⟨_, pss_cons (ps_ret WE.pe) pss_never, h G1 H1 e1 o _ fun q G2 H2 e2 o2 hB => k1 q G2 H2 (by
    have w := o2.pick C'.length n (u := q) (c := cl x) (by simp) hz
    rw [List.take_append_of_le_length hz, hn] at w
    exact w) hB⟩
/-- return x, x a cell of one's own -/
theorem sb_retCell {x : List δ} {u : Addr} {nm : Str} (i n : Nat) (hu : AtVar X σ nm u) (hi : C[i]? = some (u, cl x) := by rfl) (hm : n ≤ i := by decide) (hB : B.H u = none) (hn : C.take n = Cp := by rfl) : SB B X (.Return (some (.Name nm pos')) pos :: rest) σ G C (RO B Cp x) P := fun G1 H1 e1 o D k1 k2 =>
  ⟨_, pss_cons (ps_ret WE.pe) pss_never, hu.we (k1 u G1 H1 (by have w := o.pick i n hi hm; rw [hn] at w; exact w) hB)⟩
theorem sb_if {q : Bool} (hc : ST B X c σ G C q C1) (h1 : q = true → SB B X thn σ G C1 R (fun σ' G' C' => SB B X rest σ' G' C' R P)) (h2 : q = false → SB B X els σ G C1 R (fun σ' G' C' => SB B X rest σ' G' C' R P)) : SB B X (.If c thn els pos :: rest) σ G C R P := fun G1 H1 e1 o D k1 k2 =>
  ⟨_, pss_cons (ps_if WT.pt WS.pss WS.pss) WS.pss, hc G1 H1 e1 o _ fun G2 H2 e2 o2 => by
    have cont : ∀ σ2 G3 H3 C3, Ex G2 G3 → On B C3 G3 H3 → SB B X rest σ2 G3 C3 R P → WS X rest D σ2 H3 := fun σ2 G3 H3 C3 e3 o3 hb => hb G3 H3 (Ex.refl G3) o3 D k1 fun σ4 G4 H4 C4 e4 o4 p4 => k2 σ4 G4 H4 C4 ((e2.trans e3).trans e4) o4 p4
    cases q with
    | true => exact iteT (h1 rfl G2 H2 (e1.trans e2) o2 _ k1 cont)
    | false => exact iteF (h2 rfl G2 H2 (e1.trans e2) o2 _ k1 cont)⟩
theorem sb_when {q : Bool} (hc : ST B X c σ G C q C1) (h1 : q = true → SB B X thn σ G C1 R (fun _ _ _ => False)) (h2 : q = false → SB B X rest σ G C1 R P) : SB B X (.If c thn [] pos :: rest) σ G C R P :=
  sb_if hc (fun hq G1 H1 e1 o D k1 k2 => h1 hq G1 H1 e1 o D k1 fun _ _ _ _ _ _ z => z.elim) fun hq => sb_nil fun G' e => (h2 hq).mono e
theorem sb_never (h : False) : SB B X sts σ G C R P := h.elim
theorem sb_set {x : Str} {v0 : α} (i : Nat) (h : SE B X e σ G C v0 C1) (k : ∀ v G', Ex G G' → rep G' v v0 → SB B X rest (σ.set i (some v)) G' C1 R P) (hN : X.N.Nodup) (hi : X.N[i]? = some x := by rfl) (hx : L2.Loc X.env.scope x := by first | exact Or.inl rfl | exact Or.inr rfl)
    (hs : swapsWithSole [.Name x pos'] e pos.line X.env = pure false := by rfl) (hw : swappedStores [.Name x pos'] e X.env = pure none := by rfl) (h1 : (assignEach [.Name x pos'] X.env).map (·.2) = [assign (.Name x pos') X.env] := by rfl)
    (hf : X.fn x = true ∨ X.env.scope.names.lookup x = some .local := by first | exact .inl rfl | exact .inr rfl) : SB B X (.Assign [.Name x pos'] e pos :: rest) σ G C R P := fun G1 H1 e1 o D k1 k2 =>
  ⟨_, pss_cons (ps_asg WE.pe (pg_name hN hi hx hf) hs hw h1) WS.pss, h G1 H1 e1 o _ fun v G2 H2 e2 o2 r => k v G2 (e1.trans e2) r G2 H2 (Ex.refl G2) o2 D k1 fun σ3 G3 H3 C3 e3 o3 p3 => k2 σ3 G3 H3 C3 (e2.trans e3) o3 p3⟩
/-- x = a new list of one's own, a cell from here on -/
theorem sb_setO {x : Str} {l : List α} (i : Nat) (h : SO B X e σ G C l C1) (k : ∀ u G', Ex G G' → B.H u = none → SB B X rest (σ.set i (some (.ref u))) G' (C1 ++ [(u, cl l)]) R P) (hN : X.N.Nodup) (hi : X.N[i]? = some x := by rfl) (hx : L2.Loc X.env.scope x := by first | exact Or.inl rfl | exact Or.inr rfl)
    (hs : swapsWithSole [.Name x pos'] e pos.line X.env = pure false := by rfl) (hw : swappedStores [.Name x pos'] e X.env = pure none := by rfl) (h1 : (assignEach [.Name x pos'] X.env).map (·.2) = [assign (.Name x pos') X.env] := by rfl)
    (hf : X.fn x = true ∨ X.env.scope.names.lookup x = some .local := by first | exact .inl rfl | exact .inr rfl) : SB B X (.Assign [.Name x pos'] e pos :: rest) σ G C R P := fun G1 H1 e1 o D k1 k2 =>
  ⟨_, pss_cons (ps_asg WE.pe (pg_name hN hi hx hf) hs hw h1) WS.pss, h G1 H1 e1 o _ fun u G2 H2 e2 o2 hB => k u G2 (e1.trans e2) hB G2 H2 (Ex.refl G2) o2 D k1 fun σ3 G3 H3 C3 e3 o3 p3 => k2 σ3 G3 H3 C3 (e2.trans e3) o3 p3⟩
theorem sb_setLc {x : Str} {l : List α} (i : Nat) (h : LC X elt tg iter ifs scope σ G l) (k : ∀ v G', Ex G G' → rep G' v l → SB B X rest (σ.set i (some v)) G' C R P) (hy : X.N[i]? = some x := by rfl) (hyl : X.env.scope.names.lookup x = some .local := by rfl)
    (hsw : swapsWith (.ListComp elt [⟨tg, iter, ifs, 0⟩] scope pos) (some (.Name x pos')) pos2.line X.env = pure true := by first | exact sw_true rfl rfl rfl (by decide +kernel) | rfl) (hs : ∀ x, foldedSetIterable iter X.env x = pure x := by intro _; rfl) :
    SB B X (.Assign [.Name x pos'] (.ListComp elt [⟨tg, iter, ifs, 0⟩] scope pos) pos2 :: rest) σ G C R P := fun G1 H1 e1 o D k1 k2 => by
  obtain ⟨own, ok, hN, hc, m⟩ := h
  obtain ⟨wi, g, tt, te, h1, h2, h3, h4, q⟩ := m G1 H1 e1 o.ex (fun v H2 => WS X rest D (σ.set i (some v)) H2) fun q vs G2 H2 g n1 n2 h hz r => by
    obtain ⟨vs', h1, h2, o3, r3⟩ := (o.take_ g n1 n2 h (c := cl l) ⟨vs, rfl, hz, r⟩).frz (o.gr.dom _ n1)
    exact k (.ref q) _ (e1.trans (g.gg.trans (Ex.new h2))) r3 _ H2 (Ex.refl _) o3 D k1 fun σ3 G3 H3 C3 e3 o3 p3 => k2 σ3 G3 H3 C3 ((g.gg.trans (Ex.new h2)).trans e3) o3 p3
  exact ⟨_, pss_cons (ps_setLc hc hN hy hyl hsw h1 ok h2 h3 h4 hs) WS.pss, q⟩
theorem sb_setLcO {x : Str} {l : List α} (i : Nat) (h : LC X elt tg iter ifs scope σ G l) (k : ∀ u G', Ex G G' → B.H u = none → SB B X rest (σ.set i (some (.ref u))) G' (C ++ [(u, cl l)]) R P) (hy : X.N[i]? = some x := by rfl) (hyl : X.env.scope.names.lookup x = some .local := by rfl)
    (hsw : swapsWith (.ListComp elt [⟨tg, iter, ifs, 0⟩] scope pos) (some (.Name x pos')) pos2.line X.env = pure true := by first | exact sw_true rfl rfl rfl (by decide +kernel) | rfl) (hs : ∀ x, foldedSetIterable iter X.env x = pure x := by intro _; rfl) :
    SB B X (.Assign [.Name x pos'] (.ListComp elt [⟨tg, iter, ifs, 0⟩] scope pos) pos2 :: rest) σ G C R P := fun G1 H1 e1 o D k1 k2 => by
  obtain ⟨own, ok, hN, hc, m⟩ := h
  obtain ⟨wi, g, tt, te, h1, h2, h3, h4, q⟩ := m G1 H1 e1 o.ex (fun v H2 => WS X rest D (σ.set i (some v)) H2) fun q vs G2 H2 g n1 n2 h hz r => by
    have o3 := o.take_ g n1 n2 h (c := cl l) ⟨vs, rfl, hz, r⟩
    exact k q _ (e1.trans g.gg) (o.gr.dom _ n1) _ H2 (Ex.refl _) o3 D k1 fun σ3 G3 H3 C3 e3 o3 p3 => k2 σ3 G3 H3 C3 (g.gg.trans e3) o3 p3
  exact ⟨_, pss_cons (ps_setLc hc hN hy hyl hsw h1 ok h2 h3 h4 hs) WS.pss, q⟩
theorem sb_expr {v0 : α} (h : SE B X e σ G C v0 C1) (k : ∀ G', Ex G G' → SB B X rest σ G' C1 R P) (hs : swapsWith e none pos.line X.env = pure false := by rfl) : SB B X (.Expr e pos :: rest) σ G C R P := fun G1 H1 e1 o D k1 k2 =>
  ⟨_, pss_cons (ps_expr WE.pe hs) WS.pss, h G1 H1 e1 o _ fun v G2 H2 e2 o2 r => k G2 (e1.trans e2) G2 H2 (Ex.refl G2) o2 D k1 fun σ3 G3 H3 C3 e3 o3 p3 => k2 σ3 G3 H3 C3 (e2.trans e3) o3 p3⟩
end
def loopR {α S ρ : Type} (f : S → α → ρ ⊕ S) : List α → S → ρ ⊕ S
  | [], s => .inr s
  | x :: l, s => match f s x with
    | .inl r => .inl r
    | .inr s' => loopR f l s'
def loopOk {α S ρ : Type} (f : S → α → ρ ⊕ S) (okf : S → α → Prop) : List α → S → Prop
  | [], _ => True
  | x :: l, s => okf s x ∧ ∀ s', f s x = .inr s' → loopOk f okf l s'
section
variable {B : Bs} {X : Cx} {α β γ δ A : Type} [Rep α] [Rep β] [Rep γ] [Rep δ] [Args A] {e a b c tg iter elt : Expr} {ifs : List Expr} {es : List Expr} {σ : L2.St} {G G' : Hp} {C C' C1 C2 C3 Cp : Cs} {pos pos' p2 p pos2 : Pos} {scope : Scope} {sts rest thn els body : List Stmt} {R : VK → Prop} {P : L2.St → Hp → Cs → Prop}
/-- how a for's target takes an item -/
structure SG (X : Cx) (tg : Expr) (T : α → L2.St → Hp → L2.St → Prop) : Prop where
  ex : ∃ g, PG X tg g ∧ ∀ (v : V) (y : α) (σ : L2.St) (G H : Hp), Ex G H → rep G v y → ∀ Q : L2.St → Hp → Prop, (∀ σ2, T y σ G σ2 → Q σ2 H) → g v σ H Q
theorem sg_name {x : Str} (j : Nat) (hN : X.N.Nodup) (hi : X.N[j]? = some x := by rfl) (hx : L2.Loc X.env.scope x := by first | exact Or.inl rfl | exact Or.inr rfl) (hf : X.fn x = true ∨ X.env.scope.names.lookup x = some .local := by first | exact .inl rfl | exact .inr rfl) :
    SG (α := α) X (.Name x pos) fun y σ G σ2 => ∃ v, rep G v y ∧ σ2 = σ.set j (some v) :=
  ⟨gName j, pg_name hN hi hx hf, fun v y σ G H e r Q k => k _ ⟨v, r, rfl⟩⟩
theorem sg_pair {x y : Str} {kk : Nat} {pos1 pos2 : Pos} (j k : Nat) (hN : X.N.Nodup) (hc : X.calm = true := by rfl) (hi : X.N[j]? = some x := by rfl) (hk : X.N[k]? = some y := by rfl) (hx : L2.Loc X.env.scope x := by first | exact Or.inl rfl | exact Or.inr rfl) (hy : L2.Loc X.env.scope y := by first | exact Or.inl rfl | exact Or.inr rfl)
    (hf : X.fn x = true ∨ X.env.scope.names.lookup x = some .local := by first | exact .inl rfl | exact .inr rfl) (hf2 : X.fn y = true ∨ X.env.scope.names.lookup y = some .local := by first | exact .inl rfl | exact .inr rfl)
    (hn : (assignEach [.Name x pos1, .Name y pos2] X.env).length = 2 := by rfl) (hst : (assignEach [.Name x pos1, .Name y pos2] X.env).findIdx? (·.1) = none := by rfl) :
    SG (α := α × β) X (.Tuple [.Name x pos1, .Name y pos2] kk pos) fun z σ G σ2 => ∃ v w, rep G v z.1 ∧ rep G w z.2 ∧ σ2 = (σ.set j (some v)).set k (some w) :=
  ⟨gTup X.K 2 (gCons (gName j) (gCons (gName k) gNil)), pg_tup hc (pgs_cons (pg_name hN hi hx hf) (pgs_cons (pg_name hN hk hy hf2) pgs_nil)) hn hst, fun v z σ G H e r Q q => by
    obtain ⟨p, u, w, rfl, hp, r1, r2⟩ := r
    exact ⟨p, _, rfl, .inl (.inl (e _ _ hp)), rfl, u, _, rfl, w, _, rfl, rfl, q _ ⟨u, w, r1, r2, rfl⟩⟩⟩
/-- for x in ..: T tells the slots and cells of a state between the turns; f what a turn makes of it (or hands back) -/
theorem sb_for {S ρ : Type} {l : List α} {Tg : α → L2.St → Hp → L2.St → Prop} {Rg : ρ → VK → Prop} (T : S → L2.St → Hp → Cs → Prop) (f : S → α → ρ ⊕ S) (okf : S → α → Prop) (s0 : S) (src : DI X tg iter σ G l) (tgt : SG X tg Tg) (h0 : ∀ G', Ex G G' → T s0 σ G' C)
    (hT : ∀ s σ' G' G'' C', Ex G' G'' → T s σ' G' C' → T s σ' G'' C') (hok : loopOk f okf l s0)
    (hs : ∀ s y σ' σ2 G' C', y ∈ l → Ex G G' → T s σ' G' C' → Tg y σ' G' σ2 → okf s y → SB B X body σ2 G' C' (fun Q => ∀ r, f s y = .inl r → Rg r Q) (fun σ'' G'' C'' => ∃ s', f s y = .inr s' ∧ T s' σ'' G'' C''))
    (hret : ∀ r Q, loopR f l s0 = .inl r → R Q → Rg r Q) (hd : ∀ s σ' G' C', loopR f l s0 = .inr s → Ex G G' → T s σ' G' C' → SB B X rest σ' G' C' R P) (hp : PassesOwn (model X.prog X.w) X.A X.env X.xe := by exact PassesOwn.never) (hc : X.calm = true := by rfl)
    (hfs : ∀ x, foldedSetIterable iter X.env x = pure x := by intro _; rfl) : SB B X (.For tg iter body [] pos :: rest) σ G C R P := fun G1 H1 e1 o1 D k1 k2 => by
  obtain ⟨g, hg, tg1⟩ := tgt.ex
  have main := src G1 H1 e1 o1.ex (fun J H2 => ∃ W : Nat → Nat → L2.St → Hp → Prop, (∃ m, W 0 m σ H2) ∧ ∀ i' m σ H, W i' m σ H →
    (J.stop i' H ∧ (WS X rest D) σ H) ∨ (J.go i' H ∧ ∃ N : L2.St → Hp → Prop, (∀ σ' H', N σ' H' → ∃ m', m' < m ∧ W (i' + 1) m' σ' H') ∧ ∀ x H', J.yld i' H x H' → g x σ H' fun σ2 H2 => WS X body { ({ D with nx := WS X rest D } : Ends) with nx := N, ct := N, bk := WS X rest D } σ2 H2)) ?_
  · obtain ⟨wi, hw, q⟩ := main
    exact ⟨_, pss_cons (ps_for hp hc hw hg WS.pss hfs) WS.pss, q⟩
  · intro J Gw Y G2 H2 g2 wk hGw hY hz
    have o2 := o1.grow g2
    refine for_it wk (D := { D with nx := WS X rest D }) (tb := WS X body) (g := g) (fun n σ' H => ∃ G3 C3 s, Ex G2 G3 ∧ On B C3 G3 H ∧ T s σ' G3 C3 ∧ loopR f l s0 = loopR f (l.drop n) s ∧ loopOk f okf (l.drop n) s)
      ⟨G2, C, s0, Ex.refl _, o2, h0 G2 (e1.trans g2.gg), rfl, hok⟩ (fun n σ' H _ ⟨G3, C3, s, e3, o3, _⟩ => hGw H (e3.trans o3.ex)) ?_ ?_
    · rintro n v σ' H H' hn ⟨G3, C3, s, e3, o3, t3, q1, q2⟩ y
      obtain ⟨z, G4, hzl, g4, rz⟩ := hY n G3 H v H' hn e3 o3.ex y
      have hd1 : l.drop n = z :: l.drop (n + 1) := by
        obtain ⟨hl, he⟩ := List.getElem?_eq_some_iff.mp hzl
        rw [List.drop_eq_getElem_cons hl, he]
      rw [hd1] at q1 q2
      obtain ⟨q3, q4⟩ := q2
      have o4 := o3.grow g4
      refine tg1 v z σ' G4 H' g4.gh rz _ fun σ2 ht => ?_
      refine hs s z σ' σ2 G4 C3 (List.mem_of_getElem? hzl) (e1.trans (g2.gg.trans (e3.trans g4.gg))) (hT s σ' G3 G4 C3 g4.gg t3) ht q3 G4 H' (Ex.refl G4) o4 _ (fun r hr => hret r _ ?_ k1) ?_
      · rw [q1]
        unfold loopR
        rw [hr]
      · rintro σ5 G5 H5 C5 e5 o5 ⟨s', hs', t5⟩
        refine ⟨G5, C5, s', e3.trans (g4.gg.trans e5), o5, t5, ?_, q4 s' hs'⟩
        rw [q1]
        conv => lhs; unfold loopR
        rw [hs']
    · rintro σ' H ⟨G3, C3, s, e3, o3, t3, q1, q2⟩
      rw [List.drop_length] at q1
      exact hd s σ' G3 C3 q1 (e1.trans (g2.gg.trans e3)) t3 G3 H (Ex.refl G3) o3 D k1 fun σ5 G5 H5 C5 e5 o5 p5 => k2 σ5 G5 H5 C5 (g2.gg.trans (e3.trans e5)) o5 p5

theorem sb_append {x : Str} {l : List α} {y : α} {u : Addr} {cpos apos : Pos} (i : Nat) (hu : AtVar X σ x u) (he : SE B X e σ G C y C1) (h0 : C[i]? = some (u, cl l)) (hi : C1[i]? = some (u, cl l)) (hz : l.length < sizeLine) (k : ∀ G', Ex G G' → SB B X rest σ G' (C1.set i (u, cl (l ++ [y]))) R P)
    (hbase : attributeBase (.Name x pos') "append" X.env (eval (.Name x pos') X.env) = eval (.Name x pos') X.env := by rfl)
    (hfew : ((backTo cpos (starEach (e :: []) X.env)).all (fun x => !x.1) && (backToKw cpos (keywordEach [] X.env)).all (fun x => x.1.isSome) && decide ((e :: []).length + ([] : List Keyword).length + (if ([] : List Keyword).isEmpty then 0 else 1) < 30)) = true := by rfl)
    (hline : (apos.endLine == cpos.line) = true := by rfl) (hs : starEach [e] X.env = (false, eval e X.env) :: starEach [] X.env := by rfl) (hplain : (backTo cpos (starEach [] X.env)).any (·.1) = false := by rfl) (hsw : swapsWith (.Call (.Attribute (.Name x pos') "append" apos) [e] [] cpos) none pos.line X.env = pure false := by rfl) :
    SB B X (.Expr (.Call (.Attribute (.Name x pos') "append" apos) [e] [] cpos) pos :: rest) σ G C R P := fun G1 H1 e1 o1 D k1 k2 =>
  ⟨_, pss_cons (ps_expr (pe_bm PySem.F.plainAttrs_list PySem.F.slot_list_append PySem.F.type_list_append (name := "append") mt_append WE.pe (pa_cons WE.pe pa_nil hs) hbase hfew hline hs hplain) hsw) WS.pss, hu.we (by
    obtain ⟨ob, h1, h2, vs, rfl, hz0, r⟩ := o1.at_ i u _ h0
    refine ⟨.inl ⟨rfl, vs, .inl (.inl h1)⟩, he G1 H1 e1 o1 _ fun w G2 H2 e2 o2 rw => ?_⟩
    obtain ⟨ob2, h3, h4, vs2, rfl, hz2, r2⟩ := o2.at_ i u _ hi
    refine ⟨u, vs2, w, rfl, rfl, h3, by rw [r2.len]; exact hz, ?_⟩
    refine k G2 (e1.trans e2) G2 _ (Ex.refl _) (o2.put hi ⟨_, rfl, by rw [List.length_append, List.length_singleton, r2.len]; omega, r2.app (.cons rw .nil)⟩) D k1 fun σ3 G3 H3 C3 e3 o3 p3 => k2 σ3 G3 H3 C3 (e2.trans e3) o3 p3)⟩
/-- found.insert(i, y) -/
theorem sb_insert {x : Str} {l : List α} {j : Int} {y : α} {u : Addr} {cpos apos : Pos} (i : Nat) (hu : AtVar X σ x u) (ha : SE B X a σ G C j C1) (he : SE B X e σ G C1 y C2) (h0 : C[i]? = some (u, cl l)) (hi : C2[i]? = some (u, cl l)) (hz : l.length < sizeLine) (hj : 0 ≤ j ∧ j < 2 ^ 63) (k : ∀ G', Ex G G' → SB B X rest σ G' (C2.set i (u, cl (l.take j.toNat ++ [y] ++ l.drop j.toNat))) R P)
    (hbase : attributeBase (.Name x pos') "insert" X.env (eval (.Name x pos') X.env) = eval (.Name x pos') X.env := by rfl)
    (hfew : ((backTo cpos (starEach (a :: [e]) X.env)).all (fun x => !x.1) && (backToKw cpos (keywordEach [] X.env)).all (fun x => x.1.isSome) && decide ((a :: [e]).length + ([] : List Keyword).length + (if ([] : List Keyword).isEmpty then 0 else 1) < 30)) = true := by rfl)
    (hline : (apos.endLine == cpos.line) = true := by rfl) (hs0 : starEach [a, e] X.env = (false, eval a X.env) :: starEach [e] X.env := by rfl) (hs : starEach [e] X.env = (false, eval e X.env) :: starEach [] X.env := by rfl) (hplain : (backTo cpos (starEach [e] X.env)).any (·.1) = false := by rfl) (hsw : swapsWith (.Call (.Attribute (.Name x pos') "insert" apos) [a, e] [] cpos) none pos.line X.env = pure false := by rfl) :
    SB B X (.Expr (.Call (.Attribute (.Name x pos') "insert" apos) [a, e] [] cpos) pos :: rest) σ G C R P := fun G1 H1 e1 o1 D k1 k2 =>
  ⟨_, pss_cons (ps_expr (pe_bm PySem.F.plainAttrs_list PySem.F.slot_list_insert PySem.F.type_list_insert (name := "insert") mt_insert WE.pe (pa_cons WE.pe (pa_cons WE.pe pa_nil hs) hs0) hbase hfew hline hs0 hplain) hsw) WS.pss, hu.we (by
    obtain ⟨ob, h1, h2, vs, rfl, hz0, r⟩ := o1.at_ i u _ h0
    refine ⟨.inl ⟨rfl, vs, .inl (.inl h1)⟩, ha G1 H1 e1 o1 _ fun w1 G2 H2 e2 o2 rw1 => he G2 H2 (e1.trans e2) o2 _ fun w G3 H3 e3 o3 rw => ?_⟩
    obtain ⟨ob2, h3, h4, vs2, rfl, hz2, r2⟩ := o3.at_ i u _ hi
    refine ⟨u, vs2, j, w, rfl, by rw [rw1] <;> rfl, h3, by rw [r2.len]; exact hz, hj.1, hj.2, ?_⟩
    refine k G3 (e1.trans (e2.trans e3)) G3 _ (Ex.refl _) (o3.put hi ⟨_, rfl, ?_, ((r2.take _).app (.cons rw .nil)).app (r2.drop _)⟩) D k1 fun σ4 G4 H4 C4 e4 o4 p4 => k2 σ4 G4 H4 C4 ((e2.trans e3).trans e4) o4 p4
    rw [List.length_append, List.length_append, List.length_singleton, List.length_take, List.length_drop]
    have := r2.len
    omega)⟩
/-- x[i] = e -/
theorem sb_setIx {x : Str} {l : List α} {m : Int} {j : Nat} {y : α} {u : Addr} {tpos : Pos} (i : Nat) (hu : AtVar X σ x u) (he : SE B X e σ G C y C1) (ha : DE X a σ G m) (hi : C1[i]? = some (u, cl l)) (hj : ixN l.length m = some j) (k : ∀ G', Ex G G' → SB B X rest σ G' (C1.set i (u, cl (l.set j y))) R P)
    (hae : ∀ v, assign (.Subscript (.Name x pos') a tpos) X.env v = (do
      let ov ← holding [v] (eval (.Name x pos') X.env)
      let iv ← holding [v, ov] (eval a X.env)
      standAt tpos
      holding [v, ov, iv] (setItem ov iv v)
      release [v, ov, iv] []) := by intro _; rfl)
    (hs : swapsWithSole [.Subscript (.Name x pos') a tpos] e pos.line X.env = pure false := by rfl) (hw : swappedStores [.Subscript (.Name x pos') a tpos] e X.env = pure none := by rfl) (h1 : (assignEach [.Subscript (.Name x pos') a tpos] X.env).map (·.2) = [assign (.Subscript (.Name x pos') a tpos) X.env] := by rfl) :
    SB B X (.Assign [.Subscript (.Name x pos') a tpos] e pos :: rest) σ G C R P := fun G1 H1 e1 o1 D k1 k2 =>
  ⟨_, pss_cons (ps_asg WE.pe (pg_sub WE.pe WE.pe set_list hae) hs hw h1) WS.pss, he G1 H1 e1 o1 _ fun w G2 H2 e2 o2 rw => hu.we (ha G2 H2 (e1.trans e2) o2.ex _ fun v G3 H3 g3 r3 => by
    have o3 := o2.grow g3
    obtain ⟨ob, h3, h4, vs, rfl, hz, r⟩ := o3.at_ i u _ hi
    refine ⟨u, vs, m, j, rfl, r3, h3, by rw [r.len]; exact hj, ?_⟩
    refine k G3 (e1.trans (e2.trans g3.gg)) G3 _ (Ex.refl _) (o3.put hi ⟨_, rfl, by rw [List.length_set]; exact hz, Reps.set (Rep.mono g3.gg rw) j r⟩) D k1 fun σ4 G4 H4 C4 e4 o4 p4 => k2 σ4 G4 H4 C4 ((e2.trans g3.gg).trans e4) o4 p4)⟩
/-- x, y = e1, e2: y a cell or not is not asked here: both data -/
theorem sb_par {x y : Str} {v0 : α} {w0 : β} {px py pt pt2 : Pos} {kt kt2 : Nat} (i j : Nat) (ha : SE B X a σ G C v0 C1) (hb : SE B X b σ G C1 w0 C2) (k : ∀ v w G', Ex G G' → rep G' v v0 → rep G' w w0 → SB B X rest ((σ.set i (some v)).set j (some w)) G' C2 R P) (hN : X.N.Nodup) (hi : X.N[i]? = some x := by rfl) (hj : X.N[j]? = some y := by rfl) (hij : i ≠ j := by decide)
    (hx : X.env.scope.names.lookup x = some .local := by rfl) (hy : X.env.scope.names.lookup y = some .local := by rfl) (hc : X.calm = true := by rfl) (hw : swappedStores [.Tuple [.Name x px, .Name y py] kt pt] (.Tuple [a, b] kt2 pt2) X.env = pure (some [x, y]) := by rfl) (hs : swapsWithSole [.Tuple [.Name x px, .Name y py] kt pt] (.Tuple [a, b] kt2 pt2) pos.line X.env = pure false := by rfl)
    (h : starEach [a, b] X.env = (false, eval a X.env) :: starEach [b] X.env := by rfl) (h' : starEach [b] X.env = (false, eval b X.env) :: starEach [] X.env := by rfl) : SB B X (.Assign [.Tuple [.Name x px, .Name y py] kt pt] (.Tuple [a, b] kt2 pt2) pos :: rest) σ G C R P := fun G1 H1 e1 o1 D k1 k2 =>
  ⟨_, pss_cons (ps_par hc hN hi hj hij hx hy (pa_cons WE.pe (pa_cons WE.pe pa_nil h') h) hw hs) WS.pss, ha G1 H1 e1 o1 _ fun v G2 H2 e2 o2 r => hb G2 H2 (e1.trans e2) o2 _ fun w G3 H3 e3 o3 r3 =>
    ⟨v, w, rfl, k v w G3 (e1.trans (e2.trans e3)) (Rep.mono e3 r) r3 G3 H3 (Ex.refl _) o3 D k1 fun σ4 G4 H4 C4 e4 o4 p4 => k2 σ4 G4 H4 C4 ((e2.trans e3).trans e4) o4 p4⟩⟩
/-- x, y = e1, [..]: the second a new cell -/
theorem sb_parO {x y : Str} {v0 : α} {w0 : List β} {px py pt pt2 : Pos} {kt kt2 : Nat} (i j : Nat) (ha : SE B X a σ G C v0 C1) (hb : SO B X b σ G C1 w0 C2) (k : ∀ v u G', Ex G G' → rep G' v v0 → B.H u = none → SB B X rest ((σ.set i (some v)).set j (some (.ref u))) G' (C2 ++ [(u, cl w0)]) R P) (hN : X.N.Nodup) (hi : X.N[i]? = some x := by rfl) (hj : X.N[j]? = some y := by rfl) (hij : i ≠ j := by decide)
    (hx : X.env.scope.names.lookup x = some .local := by rfl) (hy : X.env.scope.names.lookup y = some .local := by rfl) (hc : X.calm = true := by rfl) (hw : swappedStores [.Tuple [.Name x px, .Name y py] kt pt] (.Tuple [a, b] kt2 pt2) X.env = pure (some [x, y]) := by rfl) (hs : swapsWithSole [.Tuple [.Name x px, .Name y py] kt pt] (.Tuple [a, b] kt2 pt2) pos.line X.env = pure false := by rfl)
    (h : starEach [a, b] X.env = (false, eval a X.env) :: starEach [b] X.env := by rfl) (h' : starEach [b] X.env = (false, eval b X.env) :: starEach [] X.env := by rfl) : SB B X (.Assign [.Tuple [.Name x px, .Name y py] kt pt] (.Tuple [a, b] kt2 pt2) pos :: rest) σ G C R P := fun G1 H1 e1 o1 D k1 k2 =>
  ⟨_, pss_cons (ps_par hc hN hi hj hij hx hy (pa_cons WE.pe (pa_cons WE.pe pa_nil h') h) hw hs) WS.pss, ha G1 H1 e1 o1 _ fun v G2 H2 e2 o2 r => hb G2 H2 (e1.trans e2) o2 _ fun u G3 H3 e3 o3 hB =>
    ⟨v, _, rfl, k v u G3 (e1.trans (e2.trans e3)) (Rep.mono e3 r) hB G3 H3 (Ex.refl _) o3 D k1 fun σ4 G4 H4 C4 e4 o4 p4 => k2 σ4 G4 H4 C4 ((e2.trans e3).trans e4) o4 p4⟩⟩
end

class Scal (α : Type) [Rep α] where
  any : ∀ {G G' : Hp} {v : V} {a : α}, rep G v a → rep G' v a
instance : Scal Int := ⟨fun h => h⟩
instance : Scal Nat := ⟨fun h => h⟩
instance : Scal Bool := ⟨fun h => h⟩
instance : Scal Unit := ⟨fun h => h⟩
instance : Scal Str := ⟨fun h => h⟩
section
variable {B : Bs} {X : Cx} {α β γ : Type} [Rep α] [Rep β] [Rep γ] {e : Expr} {σ : L2.St} {G : Hp} {C : Cs} {u : Addr} {l : List β}
theorem On.know {G1 H1 : Hp} {i : Nat} (o : On B C G1 H1) (hi : C[i]? = some (u, cl l)) : ∃ G2, Ex G1 G2 ∧ Ex G2 H1 ∧ rep G2 (.ref u) l := by
  obtain ⟨ob, h1, h2, vs, rfl, hz, r⟩ := o.at_ i u _ hi
  refine ⟨upd G1 u (.lst vs), Ex.new h2, fun x q hq => ?_, u, vs, rfl, upd_same, hz, Reps.mono (Ex.new h2) r⟩
  by_cases z : x = u
  · subst z; rw [upd_same] at hq; cases hq; exact h1
  · rw [upd_ne z] at hq; exact o.ex x q hq
theorem SE.cell [Scal α] {a : α} (i : Nat) (hi : C[i]? = some (u, cl l)) (h : ∀ G', Ex G G' → rep G' (.ref u) l → DE X e σ G' a) : SE B X e σ G C a C := fun G1 H1 e1 o Q k => by
  obtain ⟨G2, q1, q2, r⟩ := o.know hi
  refine h G2 (e1.trans q1) r G2 H1 (Ex.refl _) q2 Q fun v G3 H3 g3 r3 => k v G1 H3 (Ex.refl _) (o.grow (Gr.of_ex o.ex g3.hh)) (Scal.any r3)
theorem ST.cell {a : Bool} (i : Nat) (hi : C[i]? = some (u, cl l)) (h : ∀ G', Ex G G' → rep G' (.ref u) l → DT X e σ G' a) : ST B X e σ G C a C := fun G1 H1 e1 o Q k => by
  obtain ⟨G2, q1, q2, r⟩ := o.know hi
  exact h G2 (e1.trans q1) r G2 H1 (Ex.refl _) q2 Q fun G3 H3 g3 => k G1 H3 (Ex.refl _) (o.grow (Gr.of_ex o.ex g3.hh))
theorem reps_any [Scal α] {G G' : Hp} : ∀ {vs : List V} {l : List α}, Reps G vs l → Reps G' vs l
  | _, _, .nil => .nil
  | _, _, .cons r t => .cons (Scal.any r) (reps_any t)
theorem SO.cell [Scal α] {a : List α} (i : Nat) (hi : C[i]? = some (u, cl l)) (h : ∀ G', Ex G G' → rep G' (.ref u) l → DO X e σ G' a) : SO B X e σ G C a C := fun G1 H1 e1 o Q k => by
  obtain ⟨G2, q1, q2, r⟩ := o.know hi
  refine h G2 (e1.trans q1) r G2 H1 (Ex.refl _) q2 Q fun p vs G3 H3 g3 n1 n2 hp hz r3 => ?_
  have g : Gr [] G1 H1 G1 H3 := Gr.of_ex o.ex g3.hh
  exact k p G1 H3 (Ex.refl _) (o.take_ g n1 (Ex.fresh (q1.trans g3.gg) n2) hp ⟨vs, rfl, hz, reps_any r3⟩) (o.gr.dom _ n1)
end

section
variable {P : Program} {w : World} {K : PySem.W.Frag} {mg : Str → Option Value} {base : Heap} {x qual : Str} {params : Arguments} {body : List Stmt} {scope : Scope} {f : Addr} {N ps : List Str} {k : Nat}
variable {A β δ : Type} [Args A] [Rep β] [Rep δ]
abbrev Body (P : Program) (w : World) (K : PySem.W.Frag) (mg : Str → Option Value) (base : Heap) (N : List Str) (qual : Str) (scope : Scope) (f : Addr) (X : Cx) : Prop := ∃ cdv A outer s H E, X = (cxOf CX0 P w K mg base N qual scope f cdv A outer s H E).nox
theorem has_D {pre : A → Prop} {g : A → δ} (F : ∃ fd, FunD K x qual params body scope [] [] f fd) (hm : mg x = some (.ref f)) (S : FnScope N ps scope) (hb : BindOk x qual params body scope ps) (len : ∀ a G vs, Args.rel (A := A) a G vs → vs.length = ps.length)
    (h : ∀ X, Body P w K mg base N qual scope f X → Rm k X.A → ∀ B vs a G, B.M = [] → Args.rel a G vs → pre a → SB B X body (start N vs) G [] (RD B [] (g a)) (fun _ _ _ => False)) : Has P w K mg base x f (k + 1) ps (SpN kD pre g) :=
  has_of F hm S hb (fun vs H Q E ⟨G, a, eG, r, _⟩ => len a G vs r) fun X hX hr H vs Q E ⟨G, a, eG, r, hp, q⟩ => by
    refine h X hX hr ⟨[], G, H⟩ vs a G rfl r hp G H (Ex.refl _) ⟨Gr.refl eG, fun i u c hi => by simp at hi, fun i u c hi => by simp at hi, List.nodup_nil⟩ _ (fun w G' H' o r => q w G' H' o.gr r) fun _ _ _ _ _ _ z => z.elim
theorem has_N {pre : A → Prop} (F : ∃ fd, FunD K x qual params body scope [] [] f fd) (hm : mg x = some (.ref f)) (S : FnScope N ps scope) (hb : BindOk x qual params body scope ps) (len : ∀ a G vs, Args.rel (A := A) a G vs → vs.length = ps.length)
    (h : ∀ X, Body P w K mg base N qual scope f X → Rm k X.A → ∀ B vs a G, B.M = [] → Args.rel a G vs → pre a → SB B X body (start N vs) G [] (RD B [] ()) (fun _ _ _ => True)) : Has P w K mg base x f (k + 1) ps (SpN kD pre fun _ => ()) :=
  has_of F hm S hb (fun vs H Q E ⟨G, a, eG, r, _⟩ => len a G vs r) fun X hX hr H vs Q E ⟨G, a, eG, r, hp, q⟩ => by
    refine h X hX hr ⟨[], G, H⟩ vs a G rfl r hp G H (Ex.refl _) ⟨Gr.refl eG, fun i u c hi => by simp at hi, fun i u c hi => by simp at hi, List.nodup_nil⟩ _ (fun w G' H' o r => q w G' H' o.gr r) fun σ2 G2 H2 C2 _ o _ => q .non G2 H2 o.gr rfl
theorem has_O {pre : A → Prop} {g : A → List δ} (F : ∃ fd, FunD K x qual params body scope [] [] f fd) (hm : mg x = some (.ref f)) (S : FnScope N ps scope) (hb : BindOk x qual params body scope ps) (len : ∀ a G vs, Args.rel (A := A) a G vs → vs.length = ps.length)
    (h : ∀ X, Body P w K mg base N qual scope f X → Rm k X.A → ∀ B vs a G, B.M = [] → Args.rel a G vs → pre a → SB B X body (start N vs) G [] (RO B [] (g a)) (fun _ _ _ => False)) : Has P w K mg base x f (k + 1) ps (SpN kO pre g) :=
  has_of F hm S hb (fun vs H Q E ⟨G, a, eG, r, _⟩ => len a G vs r) fun X hX hr H vs Q E ⟨G, a, eG, r, hp, q⟩ => by
    refine h X hX hr ⟨[], G, H⟩ vs a G rfl r hp G H (Ex.refl _) ⟨Gr.refl eG, fun i u c hi => by simp at hi, fun i u c hi => by simp at hi, List.nodup_nil⟩ _ (fun p G' H' o hB => q _ G' H' o.gr ?_) fun _ _ _ _ _ _ z => z.elim
    obtain ⟨ob, h1, h2, h3⟩ := o.at_ 0 p _ rfl
    exact ⟨p, rfl, hB, h2, ob, h1, h3⟩
theorem on_start {G H : Hp} {u : Addr} {p : List β} (eG : Ex G H) (hu : G u = none) (h : ∃ o, H u = some o ∧ (cl p).ok G o) : On ⟨[u], G, H⟩ [(u, cl p)] G H := by
  obtain ⟨o, h1, h2⟩ := h
  refine ⟨Gr.refl eG, fun i v c hi => ?_, fun i v c hi => ?_, by simp⟩
  · have e : i = 0 := by
      have := (List.getElem?_eq_some_iff.mp hi).1
      simp at this
      exact this
    subst e
    cases hi
    exact ⟨o, h1, hu, h2⟩
  · have e : i = 0 := by
      have := (List.getElem?_eq_some_iff.mp hi).1
      simp at this
      exact this
    subst e
    cases hi
    exact .inl (List.mem_singleton.mpr rfl)
theorem has_UD {pre : List β → A → Prop} {g : List β → A → δ × List β} (F : ∃ fd, FunD K x qual params body scope [] [] f fd) (hm : mg x = some (.ref f)) (S : FnScope N ps scope) (hb : BindOk x qual params body scope ps) (len : ∀ a G vs, Args.rel (A := A) a G vs → vs.length + 1 = ps.length)
    (h : ∀ X, Body P w K mg base N qual scope f X → Rm k X.A → ∀ B u p vs a G, B.M = [u] → Args.rel a G vs → pre p a → SB B X body (start N (.ref u :: vs)) G [(u, cl p)] (RD B [(u, cl (g p a).2)] (g p a).1) (fun _ _ _ => False)) : Has P w K mg base x f (k + 1) ps (SpU kD pre g) :=
  has_of F hm S hb (fun vs H Q E ⟨G, u, p, a, r, ev, eG, hu, ho, hr, _⟩ => by rw [ev]; exact len a G r hr) fun X hX hr H vs Q E ⟨G, u, p, a, r, ev, eG, hu, ho, hrel, hp, q⟩ => by
    subst ev
    refine h X hX hr ⟨[u], G, H⟩ u p r a G rfl hrel hp G H (Ex.refl _) (on_start eG hu ho) _ (fun w G' H' o r => ?_) fun _ _ _ _ _ _ z => z.elim
    obtain ⟨ob, h1, h2, h3⟩ := o.at_ 0 u _ rfl
    exact q w G' H' o.gr ⟨ob, h1, h3⟩ r
theorem has_UN {pre : List β → A → Prop} {g : List β → A → List β} (F : ∃ fd, FunD K x qual params body scope [] [] f fd) (hm : mg x = some (.ref f)) (S : FnScope N ps scope) (hb : BindOk x qual params body scope ps) (len : ∀ a G vs, Args.rel (A := A) a G vs → vs.length + 1 = ps.length)
    (h : ∀ X, Body P w K mg base N qual scope f X → Rm k X.A → ∀ B u p vs a G, B.M = [u] → Args.rel a G vs → pre p a → SB B X body (start N (.ref u :: vs)) G [(u, cl p)] (RD B [(u, cl (g p a))] ()) (fun _ _ C => C.take 1 = [(u, cl (g p a))])) : Has P w K mg base x f (k + 1) ps (SpU kD pre fun p a => ((), g p a)) :=
  has_of F hm S hb (fun vs H Q E ⟨G, u, p, a, r, ev, eG, hu, ho, hr, _⟩ => by rw [ev]; exact len a G r hr) fun X hX hr H vs Q E ⟨G, u, p, a, r, ev, eG, hu, ho, hrel, hp, q⟩ => by
    subst ev
    refine h X hX hr ⟨[u], G, H⟩ u p r a G rfl hrel hp G H (Ex.refl _) (on_start eG hu ho) _ (fun w G' H' o r => ?_) fun σ2 G2 H2 C2 _ o hC => ?_
    · obtain ⟨ob, h1, h2, h3⟩ := o.at_ 0 u _ rfl
      exact q w G' H' o.gr ⟨ob, h1, h3⟩ r
    · have o' := o.first 1
      rw [hC] at o'
      obtain ⟨ob, h1, h2, h3⟩ := o'.at_ 0 u _ rfl
      exact q .non G2 H2 o'.gr ⟨ob, h1, h3⟩ rfl
theorem has_UO {pre : List β → A → Prop} {g : List β → A → List δ × List β} (F : ∃ fd, FunD K x qual params body scope [] [] f fd) (hm : mg x = some (.ref f)) (S : FnScope N ps scope) (hb : BindOk x qual params body scope ps) (len : ∀ a G vs, Args.rel (A := A) a G vs → vs.length + 1 = ps.length)
    (h : ∀ X, Body P w K mg base N qual scope f X → Rm k X.A → ∀ B u p vs a G, B.M = [u] → Args.rel a G vs → pre p a → SB B X body (start N (.ref u :: vs)) G [(u, cl p)] (RO B [(u, cl (g p a).2)] (g p a).1) (fun _ _ _ => False)) : Has P w K mg base x f (k + 1) ps (SpU kO pre g) :=
  has_of F hm S hb (fun vs H Q E ⟨G, u, p, a, r, ev, eG, hu, ho, hr, _⟩ => by rw [ev]; exact len a G r hr) fun X hX hr H vs Q E ⟨G, u, p, a, r, ev, eG, hu, ho, hrel, hp, q⟩ => by
    subst ev
    refine h X hX hr ⟨[u], G, H⟩ u p r a G rfl hrel hp G H (Ex.refl _) (on_start eG hu ho) _ (fun s G' H' o hB => ?_) fun _ _ _ _ _ _ z => z.elim
    obtain ⟨ob, h1, h2, h3⟩ := o.at_ 0 u _ rfl
    obtain ⟨ob', h4, h5, h6⟩ := o.at_ 1 s _ rfl
    exact q _ G' H' o.gr ⟨ob, h1, h3⟩ ⟨s, rfl, hB, h5, ob', h4, h6⟩
end
end Dn

namespace Dn
open Dn.Rep (rep)
open PySem L2

section
variable {X : Cx}
/-- a new dict, locked for good -/
theorem pe_frz {e : Expr} {t : TE} (h : PE X e t) : PE X e (fun σ H Q => t σ H fun v H' => ∃ d kvs, v = .ref d ∧ H' d = some (.dK kvs) ∧ ∀ od, Q v (upd H' d (.frz od (.dK kvs)))) :=
  ⟨fun pins s σ H Q I q => wpAny_mono (h.run pins s σ H _ I q) (fun w s' z => by
    obtain ⟨v, H', I', rv, d, kvs, ev, hd, qq⟩ := z
    obtain ⟨od, I2⟩ := I'.lock hd trivial
    exact ⟨v, _, I2, rv, qq od⟩) fun _ _ e => e⟩
end
section
variable {B : Bs} {X : Cx} {α β γ δ A : Type} [Rep α] [Rep β] [Rep γ] [Rep δ] [Args A] {e a b c tg iter elt : Expr} {ifs : List Expr} {es : List Expr} {σ : L2.St} {G G' : Hp} {C C' C1 C2 C3 Cp : Cs} {pos pos' p2 p pos2 : Pos} {scope : Scope} {sts rest thn els body : List Stmt}
/-- the item at a place, where there is one -/
def getI [Inhabited α] (l : List α) (i : Int) : α := (atI l i).getD default
theorem getI_some [Inhabited α] {l : List α} {i : Int} (h : (atI l i).isSome = true) : atI l i = some (getI l i) := by
  unfold getI
  cases q : atI l i with
  | none => rw [q] at h; cases h
  | some x => rfl
theorem de_ixI [Inhabited α] {l : List α} {i : Int} (ha : DE X a σ G l) (hb : DE X b σ G i) (h : (atI l i).isSome = true) (hs : PlainIx b := by exact fun _ _ => rfl) : DE X (.Subscript a b pos) σ G (getI l i) := de_ixL i ha hb (getI_some h) hs
/-- the sign at a place -/
def signAt (z : Str) (i : Int) : Str := ⟨#[(atI z.cps.toList i).getD 0]⟩
theorem de_signI {z : Str} {i : Int} (ha : DE X a σ G z) (hb : DE X b σ G i) (h : (atI z.cps.toList i).isSome = true) (hs : PlainIx b := by exact fun _ _ => rfl) : DE X (.Subscript a b pos) σ G (signAt z i) := by
  intro G1 H1 e1 e2 Q k
  have hh : atI z.cps.toList i = some ((atI z.cps.toList i).getD 0) := by
    cases q : atI z.cps.toList i with
    | none => rw [q] at h; cases h
    | some x => rfl
  exact ⟨_, pe_ix ix_str WE.pe WE.pe hs, de_two (x := z) (y := i) (z := signAt z i) ha hb (fun G H u v e (r1 : u = .str z ∧ StrW z) (r2 : v = .int i) Q k => by
    refine ⟨z, i, _, r1.1, r2, r1.2.1, hh, k _ G H (Gr.refl e) ⟨rfl, by show 1 ≤ sizeLine; decide, ?_⟩⟩
    have h2 := r1.2.2
    unfold signAt
    generalize (atI z.cps.toList i).getD 0 = ch at hh
    have hm : ch ∈ z.cps := by
      unfold atI at hh
      cases q : ixN z.cps.toList.length i with
      | none => rw [q] at hh; cases hh
      | some j =>
        rw [q] at hh
        have q := List.mem_of_getElem? (show z.cps.toList[j]? = some ch from hh)
        simpa using q
    simp only [PyData.canLay0, PyData.strOk, Array.all_eq_true_iff_forall_mem] at h2 ⊢
    intro x hx
    have : x = ch := by simpa using hx
    subst this
    exact h2 x hm) G1 H1 e1 e2 Q k⟩
theorem se_signI {z : Str} {i : Int} (ha : SE B X a σ G C z C1) (hb : SE B X b σ G C1 i C2) (h : (atI z.cps.toList i).isSome = true) (hs : PlainIx b := by exact fun _ _ => rfl) : SE B X (.Subscript a b pos) σ G C (signAt z i) C2 := by
  have hh : atI z.cps.toList i = some ((atI z.cps.toList i).getD 0) := by
    cases q : atI z.cps.toList i with
    | none => rw [q] at h; cases h
    | some x => rfl
  exact se_sign ha hb hh hs
theorem de_lenI {l : List α} (hm : X.mg ("len" : Str) = none) (ha : DE X a σ G l) (hg : Gl X "len" := by rfl)
    (he : starEach [a] X.env = (false, eval a X.env) :: starEach [] X.env := by rfl) (hpl : (backTo pos (starEach [] X.env)).any (·.1) = false := by rfl) : DE X (.Call (.Name "len" p) [a] [] pos) σ G (l.length : Int) := (de_len hm ha hg he hpl).int rfl
theorem de_lenSI {z : Str} (hm : X.mg ("len" : Str) = none) (ha : DE X a σ G z) (hg : Gl X "len" := by rfl)
    (he : starEach [a] X.env = (false, eval a X.env) :: starEach [] X.env := by rfl) (hpl : (backTo pos (starEach [] X.env)).any (·.1) = false := by rfl) : DE X (.Call (.Name "len" p) [a] [] pos) σ G (z.length : Int) := (de_lenS hm ha hg he hpl).int rfl
theorem de_lenSetI {p3 : Pos} {l : List Str} (hm1 : X.mg ("len" : Str) = none) (hm : X.mg ("set" : Str) = none) (ha : DE X a σ G l) (hl : l.length < 64) (hc : X.calm = true := by rfl) (hg1 : Gl X "len" := by rfl) (hg : Gl X "set" := by rfl)
    (he : starEach [a] X.env = (false, eval a X.env) :: starEach [] X.env := by rfl) (hpl : (backTo p3 (starEach [] X.env)).any (·.1) = false := by rfl)
    (he2 : starEach [.Call (.Name "set" p2) [a] [] p3] X.env = (false, eval (.Call (.Name "set" p2) [a] [] p3) X.env) :: starEach [] X.env := by rfl) (hpl2 : (backTo pos (starEach [] X.env)).any (·.1) = false := by rfl) :
    DE X (.Call (.Name "len" p) [.Call (.Name "set" p2) [a] [] p3] [] pos) σ G ((ddp l).length : Int) := (de_lenSet (p4 := p3) hm1 hm hc ha (by omega) hg1 hg he hpl he2 hpl2).int rfl
/-- range(n) -/
def irange (n : Int) : List Int := (List.range n.toNat).map fun (i : Nat) => (i : Int)
theorem di_rangeI {n : Int} (hm : X.mg ("range" : Str) = none) (h : DE X e σ G n) (hn : -(2 ^ 24) ≤ n ∧ n ≤ 2 ^ 24) (hg : Gl X "range" := by rfl) (he : starEach [e] X.env = (false, eval e X.env) :: starEach [] X.env := by rfl) (hs : starEach [e] X.env = [(false, eval e X.env)] := by rfl) :
    DI X tg (.Call (.Name "range" p) [e] [] pos) σ G (irange n) := fun G1 H1 e1 e2 R k =>
  ⟨_, pi_range1 hg hm (pa_cons WE.pe pa_nil he) hs, h G1 H1 e1 e2 _ fun v G2 H2 g r => by
    have hz : n.toNat ≤ 2 ^ 24 := by omega
    have hl : (irange n).length = n.toNat := by unfold irange; rw [List.length_map, List.length_range]
    refine ⟨n, by rw [r] <;> rfl, by omega, by omega, ?_⟩
    refine k _ (fun _ => True) _ G2 H2 g (by rw [hl]; exact walk_range) (fun _ _ => trivial) (fun i G3 H3 x H' hi e3 e4 y => ?_) (by rw [hl]; exact hz)
    obtain ⟨rfl, hy⟩ := y
    rw [hl] at hi
    exact ⟨(i : Int), G3, by unfold irange; rw [List.getElem?_map, List.getElem?_range hi]; rfl, Gr.refl e4, by show x = .int (i : Int); rw [hy]; simp⟩⟩
/-- enumerate -/
def enumI (l : List α) : List (Int × α) := (enum l).map fun x => ((x.1 : Int), x.2)
theorem di_enumI {l : List α} {elts : List Expr} {kk : Nat} {tpos : Pos} (hm : X.mg ("enumerate" : Str) = none) (h : DE X e σ G l) (hg : Gl X "enumerate" := by rfl) (he : starEach [e] X.env = (false, eval e X.env) :: starEach [] X.env := by rfl) (hs : starEach [e] X.env = [(false, eval e X.env)] := by rfl) :
    DI X (.Tuple elts kk tpos) (.Call (.Name "enumerate" p) [e] [] pos) σ G (enumI l) := fun G1 H1 e1 e2 R k => by
  have hl : (enumI l).length = (enum l).length := by unfold enumI; rw [List.length_map]
  refine di_enum hm h hg he hs G1 H1 e1 e2 R fun J Gw Y G2 H2 g wk hG hY hz => k J Gw Y G2 H2 g (by rw [hl]; exact wk) hG (fun i G3 H3 x H' hi e3 e4 y => ?_) (by rw [hl]; exact hz)
  obtain ⟨z, G4, h1, h2, h3⟩ := hY i G3 H3 x H' (by rw [← hl]; exact hi) e3 e4 y
  refine ⟨((z.1 : Int), z.2), G4, by unfold enumI; rw [List.getElem?_map, h1]; rfl, h2, ?_⟩
  obtain ⟨q, u, w, a1, a2, a3, a4⟩ := h3
  exact ⟨q, u, w, a1, a2, a3, a4⟩
def dget (d : Dict α) (k : Str) : Option α := (d.kvs.find? fun q => decide (q.1 = k)).map (·.2)
def dgetD [Inhabited α] (d : Dict α) (k : Str) : α := (dget d k).getD default
theorem valV_dict {G : Hp} {k : Str} : ∀ {kv : List (Key × V)} {m : List (Str × α)}, kv.map (·.1) = m.map (fun q => Sum.inr q.1) → Reps G (kv.map (·.2)) (m.map (·.2)) → (valV kv (Sum.inr k) = none ∧ dget ⟨m⟩ k = none) ∨ ∃ v x, valV kv (Sum.inr k) = some v ∧ dget ⟨m⟩ k = some x ∧ rep G v x
  | [], [], _, _ => .inl ⟨rfl, rfl⟩
  | [], _ :: _, h, _ => by simp at h
  | _ :: _, [], h, _ => by simp at h
  | (k1, v1) :: kv, (k2, x2) :: m, h, r => by
    simp only [List.map_cons, List.cons.injEq] at h
    simp only [List.map_cons] at r
    cases r with
    | cons r1 r2 =>
      obtain ⟨h1, h2⟩ := h
      subst h1
      by_cases e : k2 = k
      · subst e
        exact .inr ⟨v1, x2, valV_pos rfl, by simp [dget], r1⟩
      · rcases valV_dict (k := k) h2 r2 with ⟨q1, q2⟩ | ⟨v, x, q1, q2, q3⟩
        · refine .inl ⟨by rw [valV_neg (fun z => e (Sum.inr.inj z))]; exact q1, ?_⟩
          unfold dget at q2 ⊢
          simpa [List.find?_cons, e] using q2
        · refine .inr ⟨v, x, by rw [valV_neg (fun z => e (Sum.inr.inj z))]; exact q1, ?_, q3⟩
          unfold dget at q2 ⊢
          simpa [List.find?_cons, e] using q2
theorem de_dget [Inhabited α] {d : Dict α} {k : Str} (hu : X.A.units + 64 < cLine) (ha : DE X a σ G d) (hb : DE X b σ G k) (h : (dget d k).isSome = true) (hs : NoSl b := by exact fun _ _ => rfl) : DE X (.Subscript a b pos) σ G (dgetD d k) := fun G1 H1 e1 e2 Q kk =>
  ⟨_, pe_dget (by omega) WE.pe WE.pe hs, ha G1 H1 e1 e2 _ fun v G2 H2 g r => hb G2 H2 (e1.trans g.gg) g.gh _ fun w G3 H3 g3 (r3 : w = .str k ∧ _) => by
    obtain ⟨p, kv, od, rfl, hp, h1, h2, _⟩ := Rep.mono g3.gg r
    rcases valV_dict (k := k) h1 h2 with ⟨q1, q2⟩ | ⟨v, x, q1, q2, q3⟩
    · have : dget d k = none := q2
      rw [this] at h; cases h
    · refine ⟨p, v, rfl, .inl ⟨kv, Sum.inr k, .inr ⟨od, g3.gh _ _ hp⟩, r3.1, q1.symm⟩, ?_⟩
      have e : dgetD d k = x := by
        have q2' : dget d k = some x := q2
        unfold dgetD
        rw [q2'] <;> rfl
      exact kk v G3 H3 (g.and g3) (by rw [e]; exact q3)⟩
theorem dc_of_pc {op : CmpOp} {z : Bool} (h : ∀ G1 H1, Ex G G1 → Ex G1 H1 → ∀ Q : VK, (∀ G2 H2, Gr [] G1 H1 G2 H2 → Q (.bl z) H2) → ∃ t, PC X op a b t ∧ t σ H1 Q) (h1 : behindInMarks op b = false := by first | exact nobehind _ (by decide) (by decide) | rfl) : DC X op a b σ G z :=
  ⟨fun {_} G1 H1 e1 e2 Q k => by
    obtain ⟨t, p, q⟩ := h G1 H1 e1 e2 Q fun G2 H2 g => k _ G2 H2 g rfl
    exact ⟨_, pe_cmp p h1, q⟩,
  fun {_} G1 H1 e1 e2 Q k => by
    obtain ⟨t, p, q⟩ := h G1 H1 e1 e2 (fun x H1 => ∃ c, x = .bl c ∧ Q c H1) fun G2 H2 g => ⟨z, rfl, k G2 H2 g⟩
    exact ⟨_, pt_cmp p h1, q⟩⟩
theorem dc_din {d : Dict α} {k : Str} (hu : X.A.units + 64 < cLine) (ha : DE X a σ G k) (hb : DE X b σ G d) (h1 : behindInMarks .In b = false := by rfl) : DC X .In a b σ G (dget d k).isSome := dc_of_pc (fun G1 H1 e1 e2 Q kk =>
  ⟨_, pc_din (by omega) WE.pe WE.pe, ha G1 H1 e1 e2 _ fun w G2 H2 g (r : w = .str k ∧ _) => hb G2 H2 (e1.trans g.gg) g.gh _ fun v G3 H3 g3 r3 => by
    obtain ⟨p, kv, od, rfl, hp, h1, h2, _⟩ := r3
    rcases valV_dict (k := k) h1 h2 with ⟨q1, q2⟩ | ⟨v, x, q1, q2, q3⟩
    · refine ⟨p, none, rfl, .inl ⟨kv, Sum.inr k, .inr ⟨od, g3.gh _ _ hp⟩, r.1, q1.symm⟩, ?_⟩
      have q := kk G3 H3 (g.and g3)
      have e : dget d k = none := q2
      rw [e] at q; exact q
    · refine ⟨p, some v, rfl, .inl ⟨kv, Sum.inr k, .inr ⟨od, g3.gh _ _ hp⟩, r.1, q1.symm⟩, ?_⟩
      have q := kk G3 H3 (g.and g3)
      have e : dget d k = some x := q2
      rw [e] at q; exact q⟩) h1
theorem dc_dnin {d : Dict α} {k : Str} (hu : X.A.units + 64 < cLine) (ha : DE X a σ G k) (hb : DE X b σ G d) (h1 : behindInMarks .NotIn b = false := by rfl) : DC X .NotIn a b σ G (!(dget d k).isSome) := dc_of_pc (fun G1 H1 e1 e2 Q kk =>
  ⟨_, pc_dnotin (by omega) WE.pe WE.pe, ha G1 H1 e1 e2 _ fun w G2 H2 g (r : w = .str k ∧ _) => hb G2 H2 (e1.trans g.gg) g.gh _ fun v G3 H3 g3 r3 => by
    obtain ⟨p, kv, od, rfl, hp, h1, h2, _⟩ := r3
    rcases valV_dict (k := k) h1 h2 with ⟨q1, q2⟩ | ⟨v, x, q1, q2, q3⟩
    · refine ⟨p, none, rfl, .inl ⟨kv, Sum.inr k, .inr ⟨od, g3.gh _ _ hp⟩, r.1, q1.symm⟩, ?_⟩
      have q := kk G3 H3 (g.and g3)
      have e : dget d k = none := q2
      rw [e] at q; exact q
    · refine ⟨p, some v, rfl, .inl ⟨kv, Sum.inr k, .inr ⟨od, g3.gh _ _ hp⟩, r.1, q1.symm⟩, ?_⟩
      have q := kk G3 H3 (g.and g3)
      have e : dget d k = some x := q2
      rw [e] at q; exact q⟩) h1
/-- dict(pairs), later ones win -/
def dput (m : List (Str × α)) (k : Str) (x : α) : List (Str × α) := if (m.any fun q => decide (q.1 = k)) = true then m.map (fun q => if q.1 = k then (q.1, x) else q) else m ++ [(k, x)]
def dmk (l : List (Str × α)) : Dict α := ⟨l.foldl (fun m q => dput m q.1 q.2) []⟩
theorem dput_rep {G : Hp} {k : Str} {v : V} {x : α} (rv : rep G v x) : ∀ {kv : List (Key × V)} {m : List (Str × α)}, kv.map (·.1) = m.map (fun q => Sum.inr q.1) → Reps G (kv.map (·.2)) (m.map (·.2)) →
    (putK kv (Sum.inr k) v).map (·.1) = (dput m k x).map (fun q => Sum.inr q.1) ∧ Reps G ((putK kv (Sum.inr k) v).map (·.2)) ((dput m k x).map (·.2)) := by
  intro kv m h r
  have hany : (kv.any fun q => decide (q.1 = (Sum.inr k : Key))) = (m.any fun q => decide (q.1 = k)) := by
    have e1 : (kv.any fun q => decide (q.1 = (Sum.inr k : Key))) = (kv.map (·.1)).any fun z => decide (z = (Sum.inr k : Key)) := by rw [List.any_map]; rfl
    have e2 : (m.any fun q => decide (q.1 = k)) = (m.map (fun q => (Sum.inr q.1 : Key))).any fun z => decide (z = (Sum.inr k : Key)) := by
      rw [List.any_map]
      congr 1
      funext q
      show decide (q.1 = k) = decide ((Sum.inr q.1 : Key) = Sum.inr k)
      rw [decide_eq_decide]
      exact ⟨fun z => by rw [z], fun z => Sum.inr.inj z⟩
    rw [e1, e2, h]
  unfold putK dput
  rw [hany]
  split
  · have key : ∀ {kv : List (Key × V)} {m : List (Str × α)}, kv.map (·.1) = m.map (fun q => (Sum.inr q.1 : Key)) → Reps G (kv.map (·.2)) (m.map (·.2)) →
        (kv.map fun z => if z.1 = (Sum.inr k : Key) then (z.1, v) else z).map (·.1) = (m.map fun q => if q.1 = k then (q.1, x) else q).map (fun q => (Sum.inr q.1 : Key)) ∧ Reps G ((kv.map fun z => if z.1 = (Sum.inr k : Key) then (z.1, v) else z).map (·.2)) ((m.map fun q => if q.1 = k then (q.1, x) else q).map (·.2)) := by
      intro kv
      induction kv with
      | nil =>
        intro m h r
        cases m with
        | nil => exact ⟨rfl, .nil⟩
        | cons _ _ => simp at h
      | cons p kv ih =>
        intro m h r
        cases m with
        | nil => simp at h
        | cons q m =>
          simp only [List.map_cons, List.cons.injEq] at h
          simp only [List.map_cons] at r
          cases r with
          | cons r1 r2 =>
            obtain ⟨i1, i2⟩ := ih h.2 r2
            obtain ⟨p1, p2⟩ := p
            obtain ⟨q1, q2⟩ := q
            have hp : p1 = Sum.inr q1 := h.1
            subst hp
            by_cases e : q1 = k
            · subst e
              simp only [List.map_cons, if_pos rfl, if_true]
              exact ⟨by rw [i1], .cons rv i2⟩
            · have e' : ¬ (Sum.inr q1 : Key) = Sum.inr k := fun z => e (Sum.inr.inj z)
              simp only [List.map_cons, if_neg e, if_neg e']
              exact ⟨by rw [i1], .cons r1 i2⟩
    exact key h r
  · rw [List.map_append, List.map_append, List.map_append, List.map_append, h]
    exact ⟨rfl, r.app (.cons rv .nil)⟩
theorem dmk_rep {G : Hp} : ∀ {ps : List (Key × V)} {l : List (Str × α)} {kv : List (Key × V)} {m : List (Str × α)}, ps.map (·.1) = l.map (fun q => Sum.inr q.1) → Reps G (ps.map (·.2)) (l.map (·.2)) → kv.map (·.1) = m.map (fun q => Sum.inr q.1) → Reps G (kv.map (·.2)) (m.map (·.2)) →
    (mergeK kv ps).map (·.1) = (l.foldl (fun m q => dput m q.1 q.2) m).map (fun q => Sum.inr q.1) ∧ Reps G ((mergeK kv ps).map (·.2)) ((l.foldl (fun m q => dput m q.1 q.2) m).map (·.2))
  | [], [], _, _, _, _, h, r => ⟨h, r⟩
  | [], _ :: _, _, _, h, _, _, _ => by simp at h
  | _ :: _, [], _, _, h, _, _, _ => by simp at h
  | (k1, v1) :: ps, (k2, x2) :: l, kv, m, h, r, h2, r2 => by
    simp only [List.map_cons, List.cons.injEq] at h
    simp only [List.map_cons] at r
    cases r with
    | cons a1 a2 =>
      obtain ⟨b1, b2⟩ := h
      subst b1
      obtain ⟨c1, c2⟩ := dput_rep (k := k2) a1 h2 r2
      exact dmk_rep (ps := ps) (l := l) b2 a2 c1 c2
theorem pairs_of {G H : Hp} {K : PySem.W.Frag} (e : Ex G H) : ∀ {vs : List V} {l : List (Str × α)}, Reps G vs l → ∃ (ps : List Addr) (kvs : List (Key × V)), vs = ps.map V.ref ∧ Paired (fun p kv => SqT K H p [kV kv.1, kv.2]) ps kvs ∧ kvs.map (·.1) = l.map (fun q => Sum.inr q.1) ∧ Reps G (kvs.map (·.2)) (l.map (·.2))
  | _, _, .nil => ⟨[], [], rfl, .nil, rfl, .nil⟩
  | _, _, .cons (a := v) (b := q) r t => by
    obtain ⟨ps, kvs, h1, h2, h3, h4⟩ := pairs_of (K := K) e t
    obtain ⟨p, u, w, rfl, hp, (q1 : u = .str q.1 ∧ _), q2⟩ := r
    refine ⟨p :: ps, (Sum.inr q.1, w) :: kvs, by rw [h1] <;> rfl, .cons (.inl (.inl ?_)) h2, by simp [h3], .cons q2 h4⟩
    have := e _ _ hp
    rw [q1.1] at this
    exact this
theorem dput_len (m : List (Str × α)) (k : Str) (x : α) : (dput m k x).length ≤ m.length + 1 := by
  unfold dput
  split
  · rw [List.length_map]; omega
  · rw [List.length_append]; simp
theorem dput_keys {m : List (Str × α)} {k : Str} {x : α} {P : Str → Prop} (h : ∀ q ∈ m, P q.1) (hk : P k) : ∀ q ∈ dput m k x, P q.1 := by
  intro q hq
  unfold dput at hq
  split at hq
  · obtain ⟨z, hz, rfl⟩ := List.mem_map.mp hq
    split
    · exact h z hz
    · exact h z hz
  · rcases List.mem_append.mp hq with z | z
    · exact h q z
    · have : q = (k, x) := by simpa using z
      subst this; exact hk
theorem dmk_len : ∀ (l m : List (Str × α)), (l.foldl (fun m q => dput m q.1 q.2) m).length ≤ m.length + l.length
  | [], m => by simp
  | q :: l, m => by
    have h1 := dmk_len l (dput m q.1 q.2)
    have h2 := dput_len m q.1 q.2
    simp only [List.foldl_cons, List.length_cons]
    omega
theorem dmk_keys {P : Str → Prop} : ∀ {l m : List (Str × α)}, (∀ q ∈ l, P q.1) → (∀ q ∈ m, P q.1) → ∀ q ∈ l.foldl (fun m q => dput m q.1 q.2) m, P q.1
  | [], m, _, h => h
  | q :: l, m, h, h2 => dmk_keys (l := l) (fun z hz => h z (List.mem_cons_of_mem _ hz)) (dput_keys h2 (h q (List.mem_cons_self ..)))
theorem reps_keys {G : Hp} : ∀ {vs : List V} {l : List (Str × α)}, Reps G vs l → ∀ q ∈ l, StrW q.1
  | _, _, .nil => fun _ h => nomatch h
  | _, _, .cons r t => fun q hq => by
    rcases List.mem_cons.mp hq with e | e
    · subst e
      obtain ⟨p, u, w, _, _, (q1 : u = .str q.1 ∧ _), _⟩ := r
      exact q1.2
    · exact reps_keys t q e
theorem de_dmk {l : List (Str × α)} (hm : X.mg ("dict" : Str) = none) (ha : DE X a σ G l) (hc : X.calm = true := by rfl) (hg : Gl X "dict" := by rfl)
    (he : starEach [a] X.env = (false, eval a X.env) :: starEach [] X.env := by rfl) (hpl : (backTo pos (starEach [] X.env)).any (·.1) = false := by rfl) : DE X (.Call (.Name "dict" p) [a] [] pos) σ G (dmk l) := fun G1 H1 e1 e2 Q k =>
  ⟨_, pe_frz (pe_callTy (call_dictP hc) hg hm (by decide +kernel) (pa_cons WE.pe pa_nil he) (by decide) (by decide) he hpl), ha G1 H1 e1 e2 _ fun v G2 H2 g r1 => by
    obtain ⟨p, vs, rfl, hp, hz, r⟩ := r1
    have hsz : l.length ≤ sizeLine := by rw [← r.len]; exact hz
    have hkk := reps_keys r
    obtain ⟨ps, kvs, rfl, h2, h3, h4⟩ := pairs_of (K := X.K) g.gh r
    refine ⟨p, ps, kvs, rfl, .inl (.inl (g.gh _ _ hp)), h2, fun q hq => ?_⟩
    obtain ⟨m1, m2⟩ := dmk_rep (kv := []) (m := []) h3 h4 rfl .nil
    refine ⟨q, _, rfl, upd_same, fun od => ?_⟩
    have e : upd (upd H2 q (.dK (mergeK [] kvs))) q (.frz od (.dK (mergeK [] kvs))) = upd H2 q (.frz od (.dK (mergeK [] kvs))) := by
      funext z
      by_cases w : z = q
      · subst w; rw [upd_same, upd_same]
      · rw [upd_ne w, upd_ne w, upd_ne w]
    rw [e]
    exact k _ _ _ (g.and (Gr.new (M := []) g.gh hq)) ⟨q, _, od, rfl, upd_same, m1, Reps.mono (Ex.new (Ex.fresh g.gh hq)) m2, Nat.le_trans (dmk_len l []) (by simpa using hsz), dmk_keys hkk (fun _ z => nomatch z)⟩⟩

abbrev Jd (δ : Type) := δ → (VK → Prop) × (L2.St → Hp → Cs → Prop)
abbrev SJ (B : Bs) (X : Cx) (sts : List Stmt) (σ : L2.St) (G : Hp) (C : Cs) {δ : Type} (J : Jd δ) (x : δ) : Prop := SB B X sts σ G C (J x).1 (J x).2
theorem sj_if {δ : Type} {J : Jd δ} {q : Bool} {x y : δ} (hc : ST B X c σ G C q C1) (h1 : q = true → SB B X thn σ G C1 (J x).1 (fun σ' G' C' => SJ B X rest σ' G' C' J x)) (h2 : q = false → SB B X els σ G C1 (J y).1 (fun σ' G' C' => SJ B X rest σ' G' C' J y)) : SJ B X (.If c thn els pos :: rest) σ G C J (if q = true then x else y) := by
  cases q with
  | true => exact sb_if hc h1 (fun z => nomatch z)
  | false => exact sb_if hc (fun z => nomatch z) h2
theorem sj_when {δ : Type} {J : Jd δ} {q : Bool} {x y : δ} (hc : ST B X c σ G C q C1) (h1 : q = true → SB B X thn σ G C1 (J x).1 (fun _ _ _ => False)) (h2 : q = false → SJ B X rest σ G C1 J y) : SJ B X (.If c thn [] pos :: rest) σ G C J (if q = true then x else y) := by
  cases q with
  | true => exact sb_when hc h1 (fun z => nomatch z)
  | false => exact sb_when hc (fun z => nomatch z) h2
/-- a test that must not hold: what is raised there is not met -/
theorem sj_ward {δ : Type} {J : Jd δ} {q : Bool} {y : δ} (hc : ST B X c σ G C q C1) (hq : q = false) (h2 : SJ B X rest σ G C1 J y) : SJ B X (.If c thn [] pos :: rest) σ G C J y := by
  subst hq
  exact sb_when hc (fun z => nomatch z) fun _ => h2
/-- the whole of a loop: handed back within, or gone on -/
def elimR {ρ S δ : Type} (x : ρ ⊕ S) (i : ρ → δ) (k : S → δ) : δ := match x with
  | .inl r => i r
  | .inr s => k s
theorem sj_for {δ S ρ : Type} {J : Jd δ} {l : List α} {Tg : α → L2.St → Hp → L2.St → Prop} {Rg : ρ → VK → Prop} {inj : ρ → δ} {k : S → δ} (T : S → L2.St → Hp → Cs → Prop) (f : S → α → ρ ⊕ S) (okf : S → α → Prop) (s0 : S) (src : DI X tg iter σ G l) (tgt : SG X tg Tg) (h0 : ∀ G', Ex G G' → T s0 σ G' C)
    (hT : ∀ s σ' G' G'' C', Ex G' G'' → T s σ' G' C' → T s σ' G'' C') (hok : loopOk f okf l s0)
    (hs : ∀ s y σ' σ2 G' C', y ∈ l → Ex G G' → T s σ' G' C' → Tg y σ' G' σ2 → okf s y → SJ B X body σ2 G' C' (fun b => ((fun Q => ∀ r, b = .inl r → Rg r Q), (fun σ'' G'' C'' => ∃ s', b = .inr s' ∧ T s' σ'' G'' C''))) (f s y))
    (hret : ∀ r Q, (J (inj r)).1 Q → Rg r Q) (hd : ∀ s σ' G' C', loopR f l s0 = .inr s → Ex G G' → T s σ' G' C' → SJ B X rest σ' G' C' J (k s)) (hp : PassesOwn (model X.prog X.w) X.A X.env X.xe := by exact PassesOwn.never) (hc : X.calm = true := by rfl)
    (hfs : ∀ x, foldedSetIterable iter X.env x = pure x := by intro _; rfl) : SJ B X (.For tg iter body [] pos :: rest) σ G C J (elimR (loopR f l s0) inj k) := by
  cases q : loopR f l s0 with
  | inl r =>
    exact sb_for (Rg := Rg) T f okf s0 src tgt h0 hT hok hs (fun r' Q h h2 => by rw [q] at h; cases h; exact hret r Q h2) (fun s _ _ _ h => by rw [q] at h; cases h) hp hc hfs
  | inr s =>
    exact sb_for (Rg := Rg) T f okf s0 src tgt h0 hT hok hs (fun r' Q h h2 => by rw [q] at h; cases h) (fun s' σ' G' C' h e t => by rw [q] at h; cases h; exact hd s σ' G' C' q e t) hp hc hfs
/-- a loop that hands nothing back: a fold -/
def foldOk {S : Type} (f : S → α → S) (okf : S → α → Prop) : List α → S → Prop
  | [], _ => True
  | x :: l, s => okf s x ∧ foldOk f okf l (f s x)
theorem loop_fold {S : Type} (f : S → α → S) : ∀ (l : List α) (s : S), loopR (ρ := Empty) (fun s x => .inr (f s x)) l s = .inr (l.foldl f s)
  | [], _ => rfl
  | x :: l, s => by
    show loopR (ρ := Empty) (fun s x => .inr (f s x)) l (f s x) = _
    rw [loop_fold f l (f s x)] <;> rfl
theorem loopOk_fold {S : Type} (f : S → α → S) (okf : S → α → Prop) : ∀ (l : List α) (s : S), foldOk f okf l s → loopOk (ρ := Empty) (fun s x => .inr (f s x)) okf l s
  | [], _, _ => trivial
  | x :: l, s, h => ⟨h.1, fun s' e => by cases e; exact loopOk_fold f okf l _ h.2⟩
theorem sj_fold {δ S : Type} {J : Jd δ} {l : List α} {Tg : α → L2.St → Hp → L2.St → Prop} {k : S → δ} (T : S → L2.St → Hp → Cs → Prop) (f : S → α → S) (okf : S → α → Prop) (s0 : S) (src : DI X tg iter σ G l) (tgt : SG X tg Tg) (h0 : ∀ G', Ex G G' → T s0 σ G' C)
    (hT : ∀ s σ' G' G'' C', Ex G' G'' → T s σ' G' C' → T s σ' G'' C') (hok : foldOk f okf l s0)
    (hs : ∀ s y σ' σ2 G' C', y ∈ l → Ex G G' → T s σ' G' C' → Tg y σ' G' σ2 → okf s y → SJ B X body σ2 G' C' (fun b => ((fun _ => True), (fun σ'' G'' C'' => T b σ'' G'' C''))) (f s y))
    (hd : ∀ σ' G' C', Ex G G' → T (l.foldl f s0) σ' G' C' → SJ B X rest σ' G' C' J (k (l.foldl f s0))) (hp : PassesOwn (model X.prog X.w) X.A X.env X.xe := by exact PassesOwn.never) (hc : X.calm = true := by rfl)
    (hfs : ∀ x, foldedSetIterable iter X.env x = pure x := by intro _; rfl) : SJ B X (.For tg iter body [] pos :: rest) σ G C J (k (l.foldl f s0)) := by
  refine sb_for (ρ := Empty) (Rg := fun r _ => r.elim) T (fun s x => .inr (f s x)) okf s0 src tgt h0 hT (loopOk_fold f okf l s0 hok) (fun s y σ' σ2 G' C' hy e t tt ok G1 H1 e1 o1 D k1 k2 => ?_) (fun r => r.elim) (fun s σ' G' C' h e t => ?_) hp hc hfs
  · exact hs s y σ' σ2 G' C' hy e t tt ok G1 H1 e1 o1 D trivial fun σ3 G3 H3 C3 e3 o3 p3 => k2 σ3 G3 H3 C3 e3 o3 ⟨_, rfl, p3⟩
  · rw [loop_fold] at h
    cases h
    exact hd σ' G' C' e t
end
end Dn

namespace Dn
open Dn.Rep (rep)
open PySem L2
def JD {δ : Type} [Rep δ] (B : Bs) (Cp : Cs) : Jd δ := fun x => (RD B Cp x, fun _ _ _ => False)
def JO {δ : Type} [Rep δ] (B : Bs) (Cp : Cs) : Jd (List δ) := fun x => (RO B Cp x, fun _ _ _ => False)
def JN (B : Bs) : Jd Unit := fun x => (RD B [] x, fun _ _ _ => True)
/-- with a cell that was handed in at u -/
def JUD {β δ : Type} [Rep β] [Rep δ] (B : Bs) (u : Addr) : Jd (δ × List β) := fun x => (RD B [(u, cl x.2)] x.1, fun _ _ _ => False)
def JUO {β δ : Type} [Rep β] [Rep δ] (B : Bs) (u : Addr) : Jd (List δ × List β) := fun x => (RO B [(u, cl x.2)] x.1, fun _ _ _ => False)
def JUN {β : Type} [Rep β] (B : Bs) (u : Addr) : Jd (List β) := fun x => (RD B [(u, cl x)] (), fun _ _ C => C.take 1 = [(u, cl x)])
/-- within a loop whose turns may hand back -/
def JL {ρ S : Type} (Rg : ρ → VK → Prop) (T : S → L2.St → Hp → Cs → Prop) : Jd (ρ ⊕ S) := fun b => ((fun Q => ∀ r, b = .inl r → Rg r Q), (fun σ'' G'' C'' => ∃ s', b = .inr s' ∧ T s' σ'' G'' C''))
/-- within a loop whose turns do not -/
def JF {S : Type} (T : S → L2.St → Hp → Cs → Prop) : Jd S := fun b => ((fun _ => True), (fun σ'' G'' C'' => T b σ'' G'' C''))
/-- a block that does not end by itself -/
def JX {δ : Type} (J : Jd δ) : Jd δ := fun x => ((J x).1, fun _ _ _ => False)
/-- a block behind which more follows -/
def JR {δ : Type} (B : Bs) (X : Cx) (rest : List Stmt) (J : Jd δ) : Jd δ := fun x => ((J x).1, fun σ' G' C' => SJ B X rest σ' G' C' J x)
section
variable {B : Bs} {X : Cx} {α β γ δ ρ S : Type} [Rep α] [Rep β] [Rep γ] {e a b c tg iter elt : Expr} {ifs : List Expr} {es : List Expr} {σ : L2.St} {G G' : Hp} {C C' C1 C2 C3 Cp : Cs} {pos pos' p2 p pos2 : Pos} {scope : Scope} {sts rest thn els body : List Stmt} {J : Jd δ}
theorem sj_whenX {q : Bool} {x y : δ} (hc : ST B X c σ G C q C1) (h1 : q = true → SJ B X thn σ G C1 (JX J) x) (h2 : q = false → SJ B X rest σ G C1 J y) : SJ B X (.If c thn [] pos :: rest) σ G C J (if q = true then x else y) := sj_when hc h1 h2
theorem sj_ifR {q : Bool} {x y : δ} (hc : ST B X c σ G C q C1) (h1 : q = true → SJ B X thn σ G C1 (JR B X rest J) x) (h2 : q = false → SJ B X els σ G C1 (JR B X rest J) y) : SJ B X (.If c thn els pos :: rest) σ G C J (if q = true then x else y) := sj_if hc h1 h2
theorem sj_nilR {x : δ} (h : ∀ G', Ex G G' → SJ B X rest σ G' C J x) : SJ B X [] σ G C (JR B X rest J) x := sb_nil h
/-- handing back within a loop -/
theorem sb_retL {Rg : ρ → VK → Prop} {T : S → L2.St → Hp → Cs → Prop} {r : ρ} {P : L2.St → Hp → Cs → Prop} (h : SB B X sts σ G C (Rg r) P) (hP : ∀ σ G C, ¬ P σ G C) : SJ B X sts σ G C (JL Rg T) (.inl r) := fun G1 H1 e1 o D k1 k2 => h G1 H1 e1 o D (k1 r rfl) fun σ2 G2 H2 C2 _ _ p => absurd p (hP σ2 G2 C2)
theorem sb_retLX {Rg : ρ → VK → Prop} {T : S → L2.St → Hp → Cs → Prop} {r : ρ} {P : L2.St → Hp → Cs → Prop} (h : SB B X sts σ G C (Rg r) P) (hP : ∀ σ G C, ¬ P σ G C) : SJ B X sts σ G C (JX (JL Rg T)) (.inl r) := fun G1 H1 e1 o D k1 k2 => h G1 H1 e1 o D (k1 r rfl) fun σ2 G2 H2 C2 _ _ p => absurd p (hP σ2 G2 C2)
theorem sb_nilL {Rg : ρ → VK → Prop} {T : S → L2.St → Hp → Cs → Prop} {s : S} (h : ∀ G', Ex G G' → T s σ G' C) : SJ B X [] σ G C (JL Rg T) (.inr s) := sb_nil fun G' e => ⟨s, rfl, h G' e⟩
theorem sb_nilF {T : S → L2.St → Hp → Cs → Prop} {s : S} (h : ∀ G', Ex G G' → T s σ G' C) : SJ B X [] σ G C (JF T) s := sb_nil h
/-- comprehensions without a test; of the items themselves -/
theorem lc_map {l : List α} {own : List (Str × Nat)} {vs : List Nat} {T : α → L2.St → Hp → L2.St → Prop} (h : α → β) (hN : X.N.Nodup) (hc : X.calm = true) (src : DI X tg iter σ G l) (ok : BlkOk X.N X.env.scope scope own) (ho : own.map (·.2) = vs) (tgt : DG X scope tg vs T)
    (he : ∀ (i : Nat) y σ2 G', l[i]? = some y → Ex G G' → T y (wipe σ vs) G' σ2 → ∀ Y, InBlk X scope Y → DE Y elt σ2 G' (h y)) : LC X elt tg iter [] scope σ G (l.map h) :=
  (lc_mk (fun _ => true) h hN hc src ok ho tgt (fun _ _ _ _ _ _ _ _ _ => df_nil) (fun i y σ2 G' h1 h2 h3 _ Y hY => he i y σ2 G' h1 h2 h3 Y hY)).cast (by rw [List.filter_eq_self.mpr fun _ _ => rfl])
theorem lc_fil {l : List α} {own : List (Str × Nat)} {vs : List Nat} {T : α → L2.St → Hp → L2.St → Prop} (f : α → Bool) (hN : X.N.Nodup) (hc : X.calm = true) (src : DI X tg iter σ G l) (ok : BlkOk X.N X.env.scope scope own) (ho : own.map (·.2) = vs) (tgt : DG X scope tg vs T)
    (ht : ∀ (i : Nat) y σ2 G', l[i]? = some y → Ex G G' → T y (wipe σ vs) G' σ2 → ∀ Y, InBlk X scope Y → DF Y ifs σ2 G' (f y))
    (he : ∀ (i : Nat) y σ2 G', l[i]? = some y → Ex G G' → T y (wipe σ vs) G' σ2 → f y = true → ∀ Y, InBlk X scope Y → DE Y elt σ2 G' y) : LC X elt tg iter ifs scope σ G (l.filter f) :=
  (lc_mk f id hN hc src ok ho tgt ht he).cast (List.map_id _)
/-- a text of the module -/
theorem de_gstr {x z : Str} (h : ∃ t, X.mg x = some (.str z t)) (hw : StrW z := by exact ⟨by decide +kernel, by decide +kernel⟩) (hg : Gl X x := by rfl) (hd : (x == ("__debug__" : Str)) = false := by decide) : DE X (.Name x pos) σ G z := fun G1 H1 e1 e2 Q k => by
  obtain ⟨t, h⟩ := h
  exact ⟨_, pe_glob hg h (show RelV (.str z) (.str z t) from ⟨t, rfl⟩) hd, k _ G1 H1 (Gr.refl e2) ⟨rfl, hw⟩⟩
/-- a written number below nought -/
theorem de_neg {i : Int} (h : DE X a σ G i) : DE X (.UnaryOp .USub a pos) σ G (-i) := fun G1 H1 e1 e2 Q k => ⟨_, pe_un un_neg WE.pe, h G1 H1 e1 e2 _ fun v G2 H2 g r => ⟨i, r, k _ G2 H2 g rfl⟩⟩
theorem de_max {i j : Int} (hm : X.mg ("max" : Str) = none) (ha : DE X a σ G i) (hb : DE X b σ G j) (hc : X.calm = true := by rfl) (hg : Gl X "max" := by rfl) (he : starEach [a, b] X.env = (false, eval a X.env) :: starEach [b] X.env := by rfl) (he2 : starEach [b] X.env = (false, eval b X.env) :: starEach [] X.env := by rfl) (hpl : (backTo pos (starEach [b] X.env)).any (·.1) = false := by rfl) :
    DE X (.Call (.Name "max" p) [a, b] [] pos) σ G (if j > i then j else i) := fun G1 H1 e1 e2 Q k =>
  ⟨_, pe_callB (call_max2 hc) hg hm (by decide +kernel) (pa_cons WE.pe (pa_cons WE.pe pa_nil he2) he) (by decide) (by decide) he hpl, ha G1 H1 e1 e2 _ fun v G2 H2 g r => hb G2 H2 (e1.trans g.gg) g.gh _ fun w G3 H3 g3 r3 => ⟨i, j, by rw [r, r3] <;> rfl, k _ G3 H3 (g.and g3) rfl⟩⟩
theorem de_min {i j : Int} (hm : X.mg ("min" : Str) = none) (ha : DE X a σ G i) (hb : DE X b σ G j) (hc : X.calm = true := by rfl) (hg : Gl X "min" := by rfl) (he : starEach [a, b] X.env = (false, eval a X.env) :: starEach [b] X.env := by rfl) (he2 : starEach [b] X.env = (false, eval b X.env) :: starEach [] X.env := by rfl) (hpl : (backTo pos (starEach [b] X.env)).any (·.1) = false := by rfl) :
    DE X (.Call (.Name "min" p) [a, b] [] pos) σ G (if j < i then j else i) := fun G1 H1 e1 e2 Q k =>
  ⟨_, pe_callB (call_min2 hc) hg hm (by decide +kernel) (pa_cons WE.pe (pa_cons WE.pe pa_nil he2) he) (by decide) (by decide) he hpl, ha G1 H1 e1 e2 _ fun v G2 H2 g r => hb G2 H2 (e1.trans g.gg) g.gh _ fun w G3 H3 g3 r3 => ⟨i, j, by rw [r, r3] <;> rfl, k _ G3 H3 (g.and g3) rfl⟩⟩
/-- powers of any size -/
def CPowW (i j : Int) : Prop := 0 ≤ j ∧ (Builtin.Int.intBits i : Int) * j ≤ 2 ^ 27
theorem op_powW : OpR X (binaryOp .Pow) (rI CPowW fun i j => .int (i ^ j.toNat)) := opI fun _ _ _ _ _ _ _ hc q => PyProof.Rows.pow_int hc.1 hc.2 q
theorem de_pow {i j : Int} (ha : DE X a σ G i) (hb : DE X b σ G j) (h : CPowW i j) : DE X (.BinOp a .Pow b pos) σ G (i ^ j.toNat) := de_op op_powW (r2_I h fun _ => rfl) ha hb
theorem de_bits {i : Int} {apos : Pos} (ha : DE X a σ G i) (hbase : attributeBase a "bit_length" X.env (eval a X.env) = eval a X.env := by rfl) (hline : (apos.endLine == pos.line) = true := by rfl) : DE X (.Call (.Attribute a "bit_length" apos) [] [] pos) σ G (Builtin.Int.intBits i : Int) := fun G1 H1 e1 e2 Q k =>
  ⟨_, pe_bits WE.pe hbase hline, ha G1 H1 e1 e2 _ fun v G2 H2 g r => ⟨i, r, k _ G2 H2 g rfl⟩⟩
end
end Dn

namespace Dn
open Dn.Rep (rep)
open PySem L2
theorem kit_same {K : PySem.W.Frag} (a : String) : PySem.W.kitOne K (.type a) (.type a) = some true := kit_ty (by unfold kitB; simp)
theorem kit_int_bool {K : PySem.W.Frag} : PySem.W.kitOne K (.type "int") (.type "bool") = some false := kit_ty (by decide +kernel)
section
variable {B : Bs} {X : Cx} {α β γ δ A : Type} [Rep α] [Rep β] [Rep γ] [Rep δ] [Args A] {e a b c : Expr} {es : List Expr} {σ : L2.St} {G G' : Hp} {C C' C1 C2 C3 : Cs} {pos pos' p2 p : Pos} {x : Str} {f : Addr} {lvl k : Nat} {ps : List Str}
theorem de_callZ {pre : A → Prop} {g : A → δ} {y : A} {z : δ} (F : Has X.prog X.w X.K X.mg X.base x f lvl ps (SpN kD pre g)) (hr : Rm k X.A) (ha : DA X (e :: es) σ G y) (hp : pre y) (hz : g y = z := by rfl) (hl : lvl ≤ k := by decide) (hg : Gl X x := by rfl) (hdb : (x == ("__debug__" : Str)) = false := by decide)
    (he : starEach (e :: es) X.env = (false, eval e X.env) :: starEach es X.env := by rfl) (hpl : (backTo pos (starEach es X.env)).any (·.1) = false := by rfl) : DE X (.Call (.Name x p) (e :: es) [] pos) σ G z := hz ▸ de_call F hr ha hp hl hg hdb he hpl
theorem do_callZ {pre : A → Prop} {g : A → List δ} {y : A} {z : List δ} (F : Has X.prog X.w X.K X.mg X.base x f lvl ps (SpN kO pre g)) (hr : Rm k X.A) (ha : DA X (e :: es) σ G y) (hp : pre y) (hz : g y = z := by rfl) (hl : lvl ≤ k := by decide) (hg : Gl X x := by rfl) (hdb : (x == ("__debug__" : Str)) = false := by decide)
    (he : starEach (e :: es) X.env = (false, eval e X.env) :: starEach es X.env := by rfl) (hpl : (backTo pos (starEach es X.env)).any (·.1) = false := by rfl) : DO X (.Call (.Name x p) (e :: es) [] pos) σ G z := hz ▸ do_call F hr ha hp hl hg hdb he hpl
end
section
variable {B : Bs} {X : Cx} {α β γ δ ρ S : Type} [Rep α] [Rep β] [Rep γ] {e a b c tg iter elt : Expr} {ifs : List Expr} {es : List Expr} {σ : L2.St} {G G' : Hp} {C C' C1 C2 C3 Cp : Cs} {pos pos' p2 p pos2 : Pos} {scope : Scope} {sts rest thn els body : List Stmt} {J : Jd δ} {P : L2.St → Hp → Cs → Prop} {R : VK → Prop}
/-- handing back within a loop -/
theorem sb_retLg {Rg : ρ → VK → Prop} {r : ρ} (h : SB B X sts σ G C (Rg r) P) : SB B X sts σ G C (fun Q => ∀ r' : ρ, (Sum.inl r : ρ ⊕ S) = .inl r' → Rg r' Q) P := fun G1 H1 e1 o D k1 k2 => h G1 H1 e1 o D (k1 r rfl) k2
/-- an item put at a place -/
def setI (l : List α) (i : Int) (x : α) : List α := match ixN l.length i with
  | some j => l.set j x
  | none => l
def insI (l : List α) (i : Int) (x : α) : List α := l.take i.toNat ++ [x] ++ l.drop i.toNat
theorem sb_setIxI {x : Str} {l : List α} {m : Int} {y : α} {u : Addr} {tpos : Pos} (i : Nat) (hu : AtVar X σ x u) (he : SE B X e σ G C y C1) (ha : DE X a σ G m) (hi : C1[i]? = some (u, cl l)) (hj : (ixN l.length m).isSome = true) (k : ∀ G', Ex G G' → SB B X rest σ G' (C1.set i (u, cl (setI l m y))) R P)
    (hae : ∀ v, assign (.Subscript (.Name x pos') a tpos) X.env v = (do
      let ov ← holding [v] (eval (.Name x pos') X.env)
      let iv ← holding [v, ov] (eval a X.env)
      standAt tpos
      holding [v, ov, iv] (setItem ov iv v)
      release [v, ov, iv] []) := by intro _; rfl)
    (hs : swapsWithSole [.Subscript (.Name x pos') a tpos] e pos.line X.env = pure false := by rfl) (hw : swappedStores [.Subscript (.Name x pos') a tpos] e X.env = pure none := by rfl) (h1 : (assignEach [.Subscript (.Name x pos') a tpos] X.env).map (·.2) = [assign (.Subscript (.Name x pos') a tpos) X.env] := by rfl) :
    SB B X (.Assign [.Subscript (.Name x pos') a tpos] e pos :: rest) σ G C R P := by
  obtain ⟨j, hj⟩ := Option.isSome_iff_exists.mp hj
  refine sb_setIx i hu he ha hi hj (fun G' e1 => ?_) hae hs hw h1
  have := k G' e1
  unfold setI at this
  rw [hj] at this
  exact this
/-- xs[::-1] -/
theorem do_rev {l : List α} {kk : Nat} {q1 q2 q3 : Pos} (ha : DE X a σ G l) : DO X (.Subscript a (.Slice none none (some (.UnaryOp .USub (.Constant (.int 1) kk q1) q2)) q3) pos) σ G l.reverse := fun G1 H1 e1 e2 Q k =>
  ⟨_, pe_revL WE.pe, ha G1 H1 e1 e2 _ fun v G2 H2 g r => by
    obtain ⟨p, vs, rfl, hp, hz, r⟩ := r
    refine ⟨p, vs, rfl, .inl (.inl (g.gh _ _ hp)), fun q hq => ?_⟩
    refine k q vs.reverse G2 _ (g.and (Gr.own (M := []) g.gh hq)) (g.dom _ hq) (Ex.fresh g.gh hq) upd_same (by rw [List.length_reverse]; exact hz) ?_
    have rv : ∀ {vs : List V} {l : List α}, Reps G2 vs l → Reps G2 vs.reverse l.reverse := by
      intro vs l r
      induction r with
      | nil => exact .nil
      | cons r t ih => rw [List.reverse_cons, List.reverse_cons]; exact ih.app (.cons r .nil)
    exact rv r⟩
/-- a fold, what it comes to kept as an equation -/
theorem sj_foldS {l : List α} {Tg : α → L2.St → Hp → L2.St → Prop} {k : S → δ} (T : S → L2.St → Hp → Cs → Prop) (f : S → α → S) (okf : S → α → Prop) (s0 : S) (src : DI X tg iter σ G l) (tgt : SG X tg Tg) (h0 : ∀ G', Ex G G' → T s0 σ G' C)
    (hT : ∀ s σ' G' G'' C', Ex G' G'' → T s σ' G' C' → T s σ' G'' C') (hok : foldOk f okf l s0)
    (hs : ∀ s y σ' σ2 G' C', y ∈ l → Ex G G' → T s σ' G' C' → Tg y σ' G' σ2 → okf s y → SJ B X body σ2 G' C' (JF T) (f s y))
    (hd : ∀ s σ' G' C', s = l.foldl f s0 → Ex G G' → T s σ' G' C' → SJ B X rest σ' G' C' J (k s)) (hp : PassesOwn (model X.prog X.w) X.A X.env X.xe := by exact PassesOwn.never) (hc : X.calm = true := by rfl)
    (hfs : ∀ x, foldedSetIterable iter X.env x = pure x := by intro _; rfl) : SJ B X (.For tg iter body [] pos :: rest) σ G C J (k (l.foldl f s0)) :=
  sj_fold T f okf s0 src tgt h0 hT hok hs (fun σ' G' C' e t => hd _ σ' G' C' rfl e t) hp hc hfs
theorem dc_isN {x : α} (ha : DE X a σ G x) (hb : DE X b σ G ()) (h : ∀ (G : Hp) v, rep G v x → v ≠ V.non) : DC X .Is a b σ G false :=
  dc_cmp op_isN (fun G H u v e r1 r2 Q k => ⟨r2, k _ G H (Gr.refl e) (by rw [decide_eq_false (h G u r1)] <;> rfl)⟩) ha hb
theorem dc_notN {x : α} (ha : DE X a σ G x) (hb : DE X b σ G ()) (h : ∀ (G : Hp) v, rep G v x → v ≠ V.non) : DC X .IsNot a b σ G true :=
  dc_cmp op_notN (fun G H u v e r1 r2 Q k => ⟨r2, k _ G H (Gr.refl e) (by rw [decide_eq_false (h G u r1)] <;> rfl)⟩) ha hb
/-- two cells read -/
theorem On.know2 {G1 H1 : Hp} {i j : Nat} {u v : Addr} {l : List α} {m : List β} (o : On B C G1 H1) (hi : C[i]? = some (u, cl l)) (hj : C[j]? = some (v, cl m)) : ∃ G2, Ex G1 G2 ∧ Ex G2 H1 ∧ rep G2 (.ref u) l ∧ rep G2 (.ref v) m := by
  obtain ⟨ob, h1, h2, vs, rfl, hz, r⟩ := o.at_ i u _ hi
  obtain ⟨ob2, h3, h4, ws, rfl, hz2, r2⟩ := o.at_ j v _ hj
  have e1 : Ex G1 (upd G1 u (.lst vs)) := Ex.new h2
  have q1 : Ex (upd G1 u (.lst vs)) H1 := fun x q hq => by
    by_cases z : x = u
    · subst z; rw [upd_same] at hq; cases hq; exact h1
    · rw [upd_ne z] at hq; exact o.ex x q hq
  by_cases z : v = u
  · subst z
    rw [h1] at h3
    cases h3
    exact ⟨_, e1, q1, ⟨v, vs, rfl, upd_same, hz, Reps.mono e1 r⟩, v, vs, rfl, upd_same, hz2, Reps.mono e1 r2⟩
  · have n2 : upd G1 u (.lst vs) v = none := by rw [upd_ne z]; exact h4
    have e2 : Ex (upd G1 u (.lst vs)) (upd (upd G1 u (.lst vs)) v (.lst ws)) := Ex.new n2
    refine ⟨_, e1.trans e2, fun x q hq => ?_, ⟨u, vs, rfl, e2 _ _ upd_same, hz, Reps.mono (e1.trans e2) r⟩, v, ws, rfl, upd_same, hz2, Reps.mono (e1.trans e2) r2⟩
    by_cases y : x = v
    · subst y; rw [upd_same] at hq; cases hq; exact h3
    · rw [upd_ne y] at hq; exact q1 x q hq
theorem SE.cell2 [Scal γ] {x : γ} {u v : Addr} {l : List α} {m : List β} (i j : Nat) (hi : C[i]? = some (u, cl l)) (hj : C[j]? = some (v, cl m)) (h : ∀ G', Ex G G' → rep G' (.ref u) l → rep G' (.ref v) m → DE X e σ G' x) : SE B X e σ G C x C := fun G1 H1 e1 o Q k => by
  obtain ⟨G2, q1, q2, r, r'⟩ := o.know2 hi hj
  refine h G2 (e1.trans q1) r r' G2 H1 (Ex.refl _) q2 Q fun v G3 H3 g3 r3 => k v G1 H3 (Ex.refl _) (o.grow (Gr.of_ex o.ex g3.hh)) (Scal.any r3)
theorem ST.cell2 {x : Bool} {u v : Addr} {l : List α} {m : List β} (i j : Nat) (hi : C[i]? = some (u, cl l)) (hj : C[j]? = some (v, cl m)) (h : ∀ G', Ex G G' → rep G' (.ref u) l → rep G' (.ref v) m → DT X e σ G' x) : ST B X e σ G C x C := fun G1 H1 e1 o Q k => by
  obtain ⟨G2, q1, q2, r, r'⟩ := o.know2 hi hj
  exact h G2 (e1.trans q1) r r' G2 H1 (Ex.refl _) q2 Q fun G3 H3 g3 => k G1 H3 (Ex.refl _) (o.grow (Gr.of_ex o.ex g3.hh))
theorem SO.cell2 [Scal γ] {x : List γ} {u v : Addr} {l : List α} {m : List β} (i j : Nat) (hi : C[i]? = some (u, cl l)) (hj : C[j]? = some (v, cl m)) (h : ∀ G', Ex G G' → rep G' (.ref u) l → rep G' (.ref v) m → DO X e σ G' x) : SO B X e σ G C x C := fun G1 H1 e1 o Q k => by
  obtain ⟨G2, q1, q2, r, r'⟩ := o.know2 hi hj
  refine h G2 (e1.trans q1) r r' G2 H1 (Ex.refl _) q2 Q fun p vs G3 H3 g3 n1 n2 hp hz r3 => ?_
  have g : Gr [] G1 H1 G1 H3 := Gr.of_ex o.ex g3.hh
  exact k p G1 H3 (Ex.refl _) (o.take_ g n1 (Ex.fresh (q1.trans g3.gg) n2) hp ⟨vs, rfl, hz, reps_any r3⟩) (o.gr.dom _ n1)
/-- handed back by a block that more follows -/
theorem ok_pair {p q : Prop} (h : p ∧ q) : p ∧ q := h
end

section
variable {B : Bs} {X : Cx} {α β γ δ A : Type} [Rep α] [Rep β] [Rep γ] [Rep δ] [Args A] {e a b c tg iter elt : Expr} {ifs : List Expr} {es : List Expr} {σ : L2.St} {G G' : Hp} {C C' Ci C1 C2 C3 Cp : Cs} {pos pos' p2 p pos2 : Pos} {scope : Scope} {sts rest thn els body : List Stmt} {R : VK → Prop} {P : L2.St → Hp → Cs → Prop}
def SI (B : Bs) (X : Cx) (tg iter : Expr) (σ : L2.St) (G : Hp) (C : Cs) (l : List α) (C' : Cs) : Prop :=
  ∀ G1 H1, Ex G G1 → On B C G1 H1 → ∀ R : It → Hp → Prop,
    (∀ (J : It) (Gw : Hp → Prop) (Y : Nat → Hp → V → Hp → Prop) (G2 H2 : Hp), Ex G1 G2 → On B C' G2 H2 → Walk J l.length Gw Y → (∀ H3, Ex G2 H3 → Gw H3) →
      (∀ i G3 H3 x H', i < l.length → Ex G2 G3 → Ex G3 H3 → Y i H3 x H' → ∃ y G4, l[i]? = some y ∧ Gr [] G3 H3 G4 H' ∧ rep G4 x y) → l.length ≤ sizeLine → R J H2) → ∃ wi, PI X tg iter wi ∧ wi σ H1 R
theorem DI.si {l : List α} (h : DI X tg iter σ G l) : SI B X tg iter σ G C l C := fun G1 H1 e1 o R k => h G1 H1 e1 o.ex R fun J Gw Y G2 H2 g wk hG hY hz => k J Gw Y G2 H2 g.gg (o.grow g) wk hG hY hz
theorem si_list {l : List α} (h : SE B X e σ G C l C') : SI B X tg e σ G C l C' := fun G1 H1 e1 o R k =>
  ⟨_, pi_list WE.pe, h G1 H1 e1 o _ fun v G2 H2 g o2 r => by
    obtain ⟨p, vs, rfl, hp, hz, r⟩ := r
    refine ⟨p, rfl, ⟨vs, .inl (.inl (o2.ex _ _ hp))⟩, ?_⟩
    refine k (Itl X.K p) (fun H => SqL X.K H p vs) _ G2 H2 g o2 (by rw [← r.len]; exact walk_list (xs := vs)) (fun H3 e3 => .inl (.inl (e3 _ _ hp))) (fun i G3 H3 x H' hi e3 e4 y => ?_) (by rw [← r.len]; exact hz)
    obtain ⟨rfl, hy⟩ := y
    obtain ⟨q, h1, h2⟩ := r.get hy
    exact ⟨q, G3, h1, Gr.refl e4, Rep.mono e3 h2⟩⟩
theorem si_rangeI {n : Int} (hm : X.mg ("range" : Str) = none) (h : SE B X e σ G C n C') (hn : -(2 ^ 24) ≤ n ∧ n ≤ 2 ^ 24) (hg : Gl X "range" := by rfl) (he : starEach [e] X.env = (false, eval e X.env) :: starEach [] X.env := by rfl) (hs : starEach [e] X.env = [(false, eval e X.env)] := by rfl) :
    SI B X tg (.Call (.Name "range" p) [e] [] pos) σ G C (irange n) C' := fun G1 H1 e1 o R k =>
  ⟨_, pi_range1 hg hm (pa_cons WE.pe pa_nil he) hs, h G1 H1 e1 o _ fun v G2 H2 g o2 r => by
    have hz : n.toNat ≤ 2 ^ 24 := by omega
    have hl : (irange n).length = n.toNat := by unfold irange; rw [List.length_map, List.length_range]
    refine ⟨n, by rw [r] <;> rfl, by omega, by omega, ?_⟩
    refine k _ (fun _ => True) _ G2 H2 g o2 (by rw [hl]; exact walk_range) (fun _ _ => trivial) (fun i G3 H3 x H' hi e3 e4 y => ?_) (by rw [hl]; exact hz)
    obtain ⟨rfl, hy⟩ := y
    rw [hl] at hi
    exact ⟨(i : Int), G3, by unfold irange; rw [List.getElem?_map, List.getElem?_range hi]; rfl, Gr.refl e4, by show x = .int (i : Int); rw [hy]; simp⟩⟩
theorem sb_forS {S ρ : Type} {l : List α} {Tg : α → L2.St → Hp → L2.St → Prop} {Rg : ρ → VK → Prop} (T : S → L2.St → Hp → Cs → Prop) (f : S → α → ρ ⊕ S) (okf : S → α → Prop) (s0 : S) (src : SI B X tg iter σ G C l Ci) (tgt : SG X tg Tg) (h0 : ∀ G', Ex G G' → T s0 σ G' Ci)
    (hT : ∀ s σ' G' G'' C', Ex G' G'' → T s σ' G' C' → T s σ' G'' C') (hok : loopOk f okf l s0)
    (hs : ∀ s y σ' σ2 G' C', y ∈ l → Ex G G' → T s σ' G' C' → Tg y σ' G' σ2 → okf s y → SB B X body σ2 G' C' (fun Q => ∀ r, f s y = .inl r → Rg r Q) (fun σ'' G'' C'' => ∃ s', f s y = .inr s' ∧ T s' σ'' G'' C''))
    (hret : ∀ r Q, loopR f l s0 = .inl r → R Q → Rg r Q) (hd : ∀ s σ' G' C', loopR f l s0 = .inr s → Ex G G' → T s σ' G' C' → SB B X rest σ' G' C' R P) (hp : PassesOwn (model X.prog X.w) X.A X.env X.xe := by exact PassesOwn.never) (hc : X.calm = true := by rfl)
    (hfs : ∀ x, foldedSetIterable iter X.env x = pure x := by intro _; rfl) : SB B X (.For tg iter body [] pos :: rest) σ G C R P := fun G1 H1 e1 o1 D k1 k2 => by
  obtain ⟨g, hg, tg1⟩ := tgt.ex
  have main := src G1 H1 e1 o1 (fun J H2 => ∃ W : Nat → Nat → L2.St → Hp → Prop, (∃ m, W 0 m σ H2) ∧ ∀ i' m σ H, W i' m σ H →
    (J.stop i' H ∧ (WS X rest D) σ H) ∨ (J.go i' H ∧ ∃ N : L2.St → Hp → Prop, (∀ σ' H', N σ' H' → ∃ m', m' < m ∧ W (i' + 1) m' σ' H') ∧ ∀ x H', J.yld i' H x H' → g x σ H' fun σ2 H2 => WS X body { ({ D with nx := WS X rest D } : Ends) with nx := N, ct := N, bk := WS X rest D } σ2 H2)) ?_
  · obtain ⟨wi, hw, q⟩ := main
    exact ⟨_, pss_cons (ps_for hp hc hw hg WS.pss hfs) WS.pss, q⟩
  · intro J Gw Y G2 H2 g2 o2 wk hGw hY hz
    refine for_it wk (D := { D with nx := WS X rest D }) (tb := WS X body) (g := g) (fun n σ' H => ∃ G3 C3 s, Ex G2 G3 ∧ On B C3 G3 H ∧ T s σ' G3 C3 ∧ loopR f l s0 = loopR f (l.drop n) s ∧ loopOk f okf (l.drop n) s)
      ⟨G2, Ci, s0, Ex.refl _, o2, h0 G2 (e1.trans g2), rfl, hok⟩ (fun n σ' H _ ⟨G3, C3, s, e3, o3, _⟩ => hGw H (e3.trans o3.ex)) ?_ ?_
    · rintro n v σ' H H' hn ⟨G3, C3, s, e3, o3, t3, q1, q2⟩ y
      obtain ⟨z, G4, hzl, g4, rz⟩ := hY n G3 H v H' hn e3 o3.ex y
      have hd1 : l.drop n = z :: l.drop (n + 1) := by
        obtain ⟨hl, he⟩ := List.getElem?_eq_some_iff.mp hzl
        rw [List.drop_eq_getElem_cons hl, he]
      rw [hd1] at q1 q2
      obtain ⟨q3, q4⟩ := q2
      have o4 := o3.grow g4
      refine tg1 v z σ' G4 H' g4.gh rz _ fun σ2 ht => ?_
      refine hs s z σ' σ2 G4 C3 (List.mem_of_getElem? hzl) (e1.trans (g2.trans (e3.trans g4.gg))) (hT s σ' G3 G4 C3 g4.gg t3) ht q3 G4 H' (Ex.refl G4) o4 _ (fun r hr => hret r _ ?_ k1) ?_
      · rw [q1]
        unfold loopR
        rw [hr]
      · rintro σ5 G5 H5 C5 e5 o5 ⟨s', hs', t5⟩
        refine ⟨G5, C5, s', e3.trans (g4.gg.trans e5), o5, t5, ?_, q4 s' hs'⟩
        rw [q1]
        conv => lhs; unfold loopR
        rw [hs']
    · rintro σ' H ⟨G3, C3, s, e3, o3, t3, q1, q2⟩
      rw [List.drop_length] at q1
      exact hd s σ' G3 C3 q1 (e1.trans (g2.trans e3)) t3 G3 H (Ex.refl G3) o3 D k1 fun σ5 G5 H5 C5 e5 o5 p5 => k2 σ5 G5 H5 C5 (g2.trans (e3.trans e5)) o5 p5

theorem sj_forS {δ S ρ : Type} {J : Jd δ} {l : List α} {Tg : α → L2.St → Hp → L2.St → Prop} {Rg : ρ → VK → Prop} {inj : ρ → δ} {k : S → δ} (T : S → L2.St → Hp → Cs → Prop) (f : S → α → ρ ⊕ S) (okf : S → α → Prop) (s0 : S) (src : SI B X tg iter σ G C l Ci) (tgt : SG X tg Tg) (h0 : ∀ G', Ex G G' → T s0 σ G' Ci)
    (hT : ∀ s σ' G' G'' C', Ex G' G'' → T s σ' G' C' → T s σ' G'' C') (hok : loopOk f okf l s0)
    (hs : ∀ s y σ' σ2 G' C', y ∈ l → Ex G G' → T s σ' G' C' → Tg y σ' G' σ2 → okf s y → SJ B X body σ2 G' C' (fun b => ((fun Q => ∀ r, b = .inl r → Rg r Q), (fun σ'' G'' C'' => ∃ s', b = .inr s' ∧ T s' σ'' G'' C''))) (f s y))
    (hret : ∀ r Q, (J (inj r)).1 Q → Rg r Q) (hd : ∀ s σ' G' C', loopR f l s0 = .inr s → Ex G G' → T s σ' G' C' → SJ B X rest σ' G' C' J (k s)) (hp : PassesOwn (model X.prog X.w) X.A X.env X.xe := by exact PassesOwn.never) (hc : X.calm = true := by rfl)
    (hfs : ∀ x, foldedSetIterable iter X.env x = pure x := by intro _; rfl) : SJ B X (.For tg iter body [] pos :: rest) σ G C J (elimR (loopR f l s0) inj k) := by
  cases q : loopR f l s0 with
  | inl r =>
    exact sb_forS (Rg := Rg) T f okf s0 src tgt h0 hT hok hs (fun r' Q h h2 => by rw [q] at h; cases h; exact hret r Q h2) (fun s _ _ _ h => by rw [q] at h; cases h) hp hc hfs
  | inr s =>
    exact sb_forS (Rg := Rg) T f okf s0 src tgt h0 hT hok hs (fun r' Q h h2 => by rw [q] at h; cases h) (fun s' σ' G' C' h e t => by rw [q] at h; cases h; exact hd s σ' G' C' q e t) hp hc hfs
theorem sj_foldI {δ S : Type} {J : Jd δ} {l : List α} {Tg : α → L2.St → Hp → L2.St → Prop} {k : S → δ} (T : S → L2.St → Hp → Cs → Prop) (f : S → α → S) (okf : S → α → Prop) (s0 : S) (src : SI B X tg iter σ G C l Ci) (tgt : SG X tg Tg) (h0 : ∀ G', Ex G G' → T s0 σ G' Ci)
    (hT : ∀ s σ' G' G'' C', Ex G' G'' → T s σ' G' C' → T s σ' G'' C') (hok : foldOk f okf l s0)
    (hs : ∀ s y σ' σ2 G' C', y ∈ l → Ex G G' → T s σ' G' C' → Tg y σ' G' σ2 → okf s y → SJ B X body σ2 G' C' (fun b => ((fun _ => True), (fun σ'' G'' C'' => T b σ'' G'' C''))) (f s y))
    (hd : ∀ σ' G' C', Ex G G' → T (l.foldl f s0) σ' G' C' → SJ B X rest σ' G' C' J (k (l.foldl f s0))) (hp : PassesOwn (model X.prog X.w) X.A X.env X.xe := by exact PassesOwn.never) (hc : X.calm = true := by rfl)
    (hfs : ∀ x, foldedSetIterable iter X.env x = pure x := by intro _; rfl) : SJ B X (.For tg iter body [] pos :: rest) σ G C J (k (l.foldl f s0)) := by
  refine sb_forS (ρ := Empty) (Rg := fun r _ => r.elim) T (fun s x => .inr (f s x)) okf s0 src tgt h0 hT (loopOk_fold f okf l s0 hok) (fun s y σ' σ2 G' C' hy e t tt ok G1 H1 e1 o1 D k1 k2 => ?_) (fun r => r.elim) (fun s σ' G' C' h e t => ?_) hp hc hfs
  · exact hs s y σ' σ2 G' C' hy e t tt ok G1 H1 e1 o1 D trivial fun σ3 G3 H3 C3 e3 o3 p3 => k2 σ3 G3 H3 C3 e3 o3 ⟨_, rfl, p3⟩
  · rw [loop_fold] at h
    cases h
    exact hd σ' G' C' e t

theorem sj_foldSS {S δ : Type} {J : Jd δ} {l : List α} {Tg : α → L2.St → Hp → L2.St → Prop} {k : S → δ} (T : S → L2.St → Hp → Cs → Prop) (f : S → α → S) (okf : S → α → Prop) (s0 : S) (src : SI B X tg iter σ G C l Ci) (tgt : SG X tg Tg) (h0 : ∀ G', Ex G G' → T s0 σ G' Ci)
    (hT : ∀ s σ' G' G'' C', Ex G' G'' → T s σ' G' C' → T s σ' G'' C') (hok : foldOk f okf l s0)
    (hs : ∀ s y σ' σ2 G' C', y ∈ l → Ex G G' → T s σ' G' C' → Tg y σ' G' σ2 → okf s y → SJ B X body σ2 G' C' (JF T) (f s y))
    (hd : ∀ s σ' G' C', s = l.foldl f s0 → Ex G G' → T s σ' G' C' → SJ B X rest σ' G' C' J (k s)) (hp : PassesOwn (model X.prog X.w) X.A X.env X.xe := by exact PassesOwn.never) (hc : X.calm = true := by rfl)
    (hfs : ∀ x, foldedSetIterable iter X.env x = pure x := by intro _; rfl) : SJ B X (.For tg iter body [] pos :: rest) σ G C J (k (l.foldl f s0)) :=
  sj_foldI T f okf s0 src tgt h0 hT hok hs (fun σ' G' C' e t => hd _ σ' G' C' rfl e t) hp hc hfs
end

section
variable {B : Bs} {X : Cx} {α β γ δ A : Type} [Rep α] [Rep β] [Rep γ] [Rep δ] [Args A] {e a b c : Expr} {es : List Expr} {σ : L2.St} {G G' : Hp} {C C' C1 C2 C3 : Cs} {pos pos' p2 p : Pos} {x : Str} {f : Addr} {lvl k : Nat} {ps : List Str}
theorem se_callUZ {pre : List β → A → Prop} {g : List β → A → δ × List β} {y : A} {l : List β} {u : Addr} {nm : Str} {pn : Pos} {z : δ} {l' : List β} (i : Nat) (F : Has X.prog X.w X.K X.mg X.base x f lvl ps (SpU kD pre g)) (hr : Rm k X.A) (hu : AtVar X σ nm u) (ha : SA B X es σ G C y C1) (hi : C1[i]? = some (u, cl l)) (hp : pre l y) (hz : g l y = (z, l') := by rfl)
    (hl : lvl ≤ k := by decide) (hg : Gl X x := by rfl) (hdb : (x == ("__debug__" : Str)) = false := by decide) (he : starEach (.Name nm pn :: es) X.env = (false, eval (.Name nm pn) X.env) :: starEach es X.env := by rfl) (hpl : (backTo pos (starEach es X.env)).any (·.1) = false := by rfl) :
    SE B X (.Call (.Name x p) (.Name nm pn :: es) [] pos) σ G C z (C1.set i (u, cl l')) := by
  have q := se_callU (pos := pos) (p := p) i F hr hu ha hi hp hl hg hdb he hpl
  rw [hz] at q
  exact q
theorem so_callUZ {pre : List β → A → Prop} {g : List β → A → List δ × List β} {y : A} {l : List β} {u : Addr} {nm : Str} {pn : Pos} {z : List δ} {l' : List β} (i : Nat) (F : Has X.prog X.w X.K X.mg X.base x f lvl ps (SpU kO pre g)) (hr : Rm k X.A) (hu : AtVar X σ nm u) (ha : SA B X es σ G C y C1) (hi : C1[i]? = some (u, cl l)) (hp : pre l y) (hz : g l y = (z, l') := by rfl)
    (hl : lvl ≤ k := by decide) (hg : Gl X x := by rfl) (hdb : (x == ("__debug__" : Str)) = false := by decide) (he : starEach (.Name nm pn :: es) X.env = (false, eval (.Name nm pn) X.env) :: starEach es X.env := by rfl) (hpl : (backTo pos (starEach es X.env)).any (·.1) = false := by rfl) :
    SO B X (.Call (.Name x p) (.Name nm pn :: es) [] pos) σ G C z (C1.set i (u, cl l')) := by
  have q := so_callU (pos := pos) (p := p) i F hr hu ha hi hp hl hg hdb he hpl
  rw [hz] at q
  exact q
theorem so_sorted {l : List Str} (hm : X.mg ("sorted" : Str) = none) (ha : SE B X a σ G C l C1) (h64 : l.length < 64) (hg : Gl X "sorted" := by rfl)
    (he : starEach [a] X.env = (false, eval a X.env) :: starEach [] X.env := by rfl) (hpl : (backTo pos (starEach [] X.env)).any (·.1) = false := by rfl) : SO B X (.Call (.Name "sorted" p) [a] [] pos) σ G C (srt l) C1 := fun G1 H1 e1 o Q k =>
  ⟨_, pe_callB cr_sortedS hg hm (by decide +kernel) (pa_cons WE.pe pa_nil he) (by decide) (by decide) he hpl, ha G1 H1 e1 o _ fun v G2 H2 e2 o2 r => by
    obtain ⟨p, vs, rfl, hp, hz, r⟩ := r
    obtain ⟨rfl, hw⟩ := reps_strs r
    refine ⟨p, l, rfl, .inl (.inl (o2.ex _ _ hp)), h64, fun ys q hpm hs hq => ?_⟩
    have eq := srt_of hpm hs
    subst eq
    exact k q G2 _ e2 (o2.push hq ⟨_, rfl, by rw [List.length_map, srt_len, ← List.length_map (f := V.str)]; exact hz, strs_reps fun x hx => hw x (mem_srt.mp hx)⟩) (o2.gr.dom _ hq)⟩
end
section
variable {P : Program} {w : World} {K : PySem.W.Frag} {mg : Str → Option Value} {base : Heap} {x qual : Str} {params : Arguments} {body : List Stmt} {scope : Scope} {f : Addr} {N ps : List Str} {k : Nat} {dvs : List V} {fd : FuncData}
variable {A β δ : Type} [Args A] [Rep β] [Rep δ]
theorem binds_all (F : FunD K x qual params body scope dvs [] f fd) (hd : dvs ≠ [])
    (h : ∀ (T : Addr) (kV doc pm : Value) (an : Option Addr) (cdv ct : Value) (us its : List Value), us.length = ps.length → its.length = dvs.length →
      ∃ k, bindArgs (PySem.W.fnOf x qual params body scope (.ref T) kV doc pm an cdv ct) ⟨us, []⟩ = seqItems? (.ref T) >>= k ∧ k (some its.toArray) = pure (ps.zip us)) : Binds K fd ps [] := by
  obtain ⟨ds, h1, h2⟩ := F.binds1 (ps := ps) ps.length dvs.length hd (by omega) (fun T kV doc pm an cdv ct us its l1 l2 => by
    obtain ⟨k, e1, e2⟩ := h T kV doc pm an cdv ct us its l1 l2
    refine ⟨k, e1, ?_⟩
    rw [e2, List.drop_eq_nil_of_le (by omega), List.append_nil])
  rw [List.drop_length] at h1
  cases h1
  exact h2
theorem has_ofd {sp : Sp} (F : ∃ fd, FunD K x qual params body scope dvs [] f fd) (hm : mg x = some (.ref f)) (S : FnScope N ps scope) (hb : ∀ fd, FunD K x qual params body scope dvs [] f fd → Binds K fd ps []) (len : ∀ vs H Q E, sp vs H Q E → vs.length = ps.length)
    (hbody : ∀ (X : Cx), (∃ cdv A outer s H E, X = (cxOf CX0 P w K mg base N qual scope f cdv A outer s H E).nox) → Rm k X.A → ∀ (H : Hp) (vs : List V) (Q : VK) (E : XK), sp vs H Q E → WS X body { nx := fun _ H' => Q .non H', rt := Q } (start N vs) H) : Has P w K mg base x f (k + 1) ps sp := by
  obtain ⟨fd, F⟩ := F
  refine ⟨fd, hm, F.kp, hb fd F, okG F S len fun cdv A outer s H vs Q E hr hsp => ?_⟩
  obtain ⟨t, h1, h2⟩ := hbody _ ⟨cdv, A, outer, s, H, E, rfl⟩ hr H vs Q E hsp
  exact ⟨t, h1.nox, h2⟩
theorem has_Dd {pre : A → Prop} {g : A → δ} (F : ∃ fd, FunD K x qual params body scope dvs [] f fd) (hm : mg x = some (.ref f)) (S : FnScope N ps scope) (hb : ∀ fd, FunD K x qual params body scope dvs [] f fd → Binds K fd ps []) (len : ∀ a G vs, Args.rel (A := A) a G vs → vs.length = ps.length)
    (h : ∀ X, Body P w K mg base N qual scope f X → Rm k X.A → ∀ B vs a G, B.M = [] → Args.rel a G vs → pre a → SB B X body (start N vs) G [] (RD B [] (g a)) (fun _ _ _ => False)) : Has P w K mg base x f (k + 1) ps (SpN kD pre g) :=
  has_ofd F hm S hb (fun vs H Q E ⟨G, a, eG, r, _⟩ => len a G vs r) fun X hX hr H vs Q E ⟨G, a, eG, r, hp, q⟩ => by
    refine h X hX hr ⟨[], G, H⟩ vs a G rfl r hp G H (Ex.refl _) ⟨Gr.refl eG, fun i u c hi => by simp at hi, fun i u c hi => by simp at hi, List.nodup_nil⟩ _ (fun w G' H' o r => q w G' H' o.gr r) fun _ _ _ _ _ _ z => z.elim
theorem has_Nd {pre : A → Prop} (F : ∃ fd, FunD K x qual params body scope dvs [] f fd) (hm : mg x = some (.ref f)) (S : FnScope N ps scope) (hb : ∀ fd, FunD K x qual params body scope dvs [] f fd → Binds K fd ps []) (len : ∀ a G vs, Args.rel (A := A) a G vs → vs.length = ps.length)
    (h : ∀ X, Body P w K mg base N qual scope f X → Rm k X.A → ∀ B vs a G, B.M = [] → Args.rel a G vs → pre a → SB B X body (start N vs) G [] (RD B [] ()) (fun _ _ _ => True)) : Has P w K mg base x f (k + 1) ps (SpN kD pre fun _ => ()) :=
  has_ofd F hm S hb (fun vs H Q E ⟨G, a, eG, r, _⟩ => len a G vs r) fun X hX hr H vs Q E ⟨G, a, eG, r, hp, q⟩ => by
    refine h X hX hr ⟨[], G, H⟩ vs a G rfl r hp G H (Ex.refl _) ⟨Gr.refl eG, fun i u c hi => by simp at hi, fun i u c hi => by simp at hi, List.nodup_nil⟩ _ (fun w G' H' o r => q w G' H' o.gr r) fun σ2 G2 H2 C2 _ o _ => q .non G2 H2 o.gr rfl
end

section
variable {B : Bs} {X : Cx} {α β γ δ A : Type} [Rep α] [Rep β] [Rep γ] [Rep δ] {e a b c : Expr} {es : List Expr} {σ : L2.St} {G G' : Hp} {C C' C1 C2 C3 : Cs} {pos pos' p2 p : Pos} {rest : List Stmt} {R : VK → Prop} {P : L2.St → Hp → Cs → Prop}
theorem sb_parT {x y : Str} {v0 : α} {w0 : β} {px py pt pt2 : Pos} {kt kt2 : Nat} (i j : Nat) (ha : SE B X a σ G C v0 C1) (hb : SE B X b σ G C1 w0 C2) (k : ∀ v w G', Ex G G' → rep G' v v0 → rep G' w w0 → SB B X rest ((σ.set i (some v)).set j (some w)) G' C2 R P) (hN : X.N.Nodup) (hi : X.N[i]? = some x := by rfl) (hj : X.N[j]? = some y := by rfl)
    (hx : L2.Loc X.env.scope x := by first | exact Or.inl rfl | exact Or.inr rfl) (hy : L2.Loc X.env.scope y := by first | exact Or.inl rfl | exact Or.inr rfl) (hc : X.calm = true := by rfl)
    (hf : X.fn x = true ∨ X.env.scope.names.lookup x = some .local := by first | exact .inl rfl | exact .inr rfl) (hf2 : X.fn y = true ∨ X.env.scope.names.lookup y = some .local := by first | exact .inl rfl | exact .inr rfl)
    (hs : swapsWithSole [.Tuple [.Name x px, .Name y py] kt pt] (.Tuple [a, b] kt2 pt2) pos.line X.env = pure false := by rfl) (hw : swappedStores [.Tuple [.Name x px, .Name y py] kt pt] (.Tuple [a, b] kt2 pt2) X.env = pure none := by rfl) (h1 : (assignEach [.Tuple [.Name x px, .Name y py] kt pt] X.env).map (·.2) = [assign (.Tuple [.Name x px, .Name y py] kt pt) X.env] := by rfl)
    (h : starEach [a, b] X.env = (false, eval a X.env) :: starEach [b] X.env := by rfl) (h' : starEach [b] X.env = (false, eval b X.env) :: starEach [] X.env := by rfl)
    (hn : (assignEach [.Name x px, .Name y py] X.env).length = 2 := by rfl) (hst : (assignEach [.Name x px, .Name y py] X.env).findIdx? (·.1) = none := by rfl) : SB B X (.Assign [.Tuple [.Name x px, .Name y py] kt pt] (.Tuple [a, b] kt2 pt2) pos :: rest) σ G C R P := fun G1 H1 e1 o1 D k1 k2 =>
  ⟨_, pss_cons (ps_asg (pe_tup (pa_cons WE.pe (pa_cons WE.pe pa_nil h') h)) (pg_tup hc (pgs_cons (pg_name hN hi hx hf) (pgs_cons (pg_name hN hj hy hf2) pgs_nil)) hn hst) hs hw h1) WS.pss, ha G1 H1 e1 o1 _ fun v G2 H2 e2 o2 r => hb G2 H2 (e1.trans e2) o2 _ fun w G3 H3 e3 o3 r3 => ⟨by show 2 ≤ sizeLine; decide, fun q hq =>
    ⟨q, _, rfl, .inl (.inl upd_same), rfl, v, _, rfl, w, _, rfl, rfl, k v w G3 (e1.trans (e2.trans e3)) (Rep.mono e3 r) r3 G3 _ (Ex.refl _) (o3.grow (Gr.own (M := []) o3.ex hq)) D k1 fun σ4 G4 H4 C4 e4 o4 p4 => k2 σ4 G4 H4 C4 ((e2.trans e3).trans e4) o4 p4⟩⟩⟩
theorem sb_parTO {x y : Str} {v0 : α} {w0 : List β} {px py pt pt2 : Pos} {kt kt2 : Nat} (i j : Nat) (ha : SE B X a σ G C v0 C1) (hb : SO B X b σ G C1 w0 C2) (k : ∀ v u G', Ex G G' → rep G' v v0 → B.H u = none → SB B X rest ((σ.set i (some v)).set j (some (.ref u))) G' (C2 ++ [(u, cl w0)]) R P) (hN : X.N.Nodup) (hi : X.N[i]? = some x := by rfl) (hj : X.N[j]? = some y := by rfl)
    (hx : L2.Loc X.env.scope x := by first | exact Or.inl rfl | exact Or.inr rfl) (hy : L2.Loc X.env.scope y := by first | exact Or.inl rfl | exact Or.inr rfl) (hc : X.calm = true := by rfl)
    (hf : X.fn x = true ∨ X.env.scope.names.lookup x = some .local := by first | exact .inl rfl | exact .inr rfl) (hf2 : X.fn y = true ∨ X.env.scope.names.lookup y = some .local := by first | exact .inl rfl | exact .inr rfl)
    (hs : swapsWithSole [.Tuple [.Name x px, .Name y py] kt pt] (.Tuple [a, b] kt2 pt2) pos.line X.env = pure false := by rfl) (hw : swappedStores [.Tuple [.Name x px, .Name y py] kt pt] (.Tuple [a, b] kt2 pt2) X.env = pure none := by rfl) (h1 : (assignEach [.Tuple [.Name x px, .Name y py] kt pt] X.env).map (·.2) = [assign (.Tuple [.Name x px, .Name y py] kt pt) X.env] := by rfl)
    (h : starEach [a, b] X.env = (false, eval a X.env) :: starEach [b] X.env := by rfl) (h' : starEach [b] X.env = (false, eval b X.env) :: starEach [] X.env := by rfl)
    (hn : (assignEach [.Name x px, .Name y py] X.env).length = 2 := by rfl) (hst : (assignEach [.Name x px, .Name y py] X.env).findIdx? (·.1) = none := by rfl) : SB B X (.Assign [.Tuple [.Name x px, .Name y py] kt pt] (.Tuple [a, b] kt2 pt2) pos :: rest) σ G C R P := fun G1 H1 e1 o1 D k1 k2 =>
  ⟨_, pss_cons (ps_asg (pe_tup (pa_cons WE.pe (pa_cons WE.pe pa_nil h') h)) (pg_tup hc (pgs_cons (pg_name hN hi hx hf) (pgs_cons (pg_name hN hj hy hf2) pgs_nil)) hn hst) hs hw h1) WS.pss, ha G1 H1 e1 o1 _ fun v G2 H2 e2 o2 r => hb G2 H2 (e1.trans e2) o2 _ fun u G3 H3 e3 o3 hB => ⟨by show 2 ≤ sizeLine; decide, fun q hq =>
    ⟨q, _, rfl, .inl (.inl upd_same), rfl, v, _, rfl, .ref u, _, rfl, rfl, k v u G3 (e1.trans (e2.trans e3)) (Rep.mono e3 r) hB G3 _ (Ex.refl _) (o3.grow (Gr.own (M := []) o3.ex hq)) D k1 fun σ4 G4 H4 C4 e4 o4 p4 => k2 σ4 G4 H4 C4 ((e2.trans e3).trans e4) o4 p4⟩⟩⟩
end

theorem InBlk.room {X Y : Cx} {scope : Scope} {k : Nat} (h : InBlk X scope Y) (hr : Rm k X.A) : Rm k Y.A := by
  obtain ⟨⟨s_, H_, C_, cl_, fp_, rfl⟩⟩ := h
  exact hr
end Dn

namespace Dn
open Dn.Rep (rep)
open PySem L2
open PySem.Calls
section
variable {X : Cx} {pins : List (Addr × Obj)} {σ : L2.St} {H : Hp} {s : Shared} {n : Nat} {sp : Sp} {f C : Addr} {fd : FuncData} {ps : List Str}
theorem run_ok {A : Around} {Q : VK} {us : List Value} {vs : List V} (F : FnOk X.prog X.w X.K X.mg X.base CX0 n f fd ps sp) (hr : Room n A) (e0 : Env0 X.prog X.w X.K X.mg X.base A X.stack s H) (hb : Binds X.K fd ps []) (I : Inv X pins σ H s) (r : Vals vs us) (h : ∀ E, sp vs H Q E) :
    wpAny (model X.prog X.w) A (call (.ref f) us) (EP X pins σ Q) X.xe s := by
  have hl := F.len _ _ _ _ (h E0)
  refine wpAny_call (codeAny_mono (F.run A X.stack s H ⟨us, []⟩ us vs Q E0 hr e0 (by
    have := hb s us I.kIn (by rw [List.append_nil, ← r.length]; exact hl)
    simpa using this) r (h E0)) fun r s' hq => ?_)
  cases r with
  | error e => exact pass0 pins σ H s e s' I hq
  | ok fl =>
    cases fl with
    | ret u => exact I.after hq
    | next => exact False.elim hq
    | brk => exact False.elim hq
    | cont => exact False.elim hq
/-- x == y of an own class -/
theorem op_eqOw (F : FnOk X.prog X.w X.K X.mg X.base CX0 n f fd ps sp) (hs : PySem.W.findIn X.K (.ref C) "__eq__" = some (some (.ref f))) (hf : PySem.W.isFn X.K (.ref f) = true) (hb : Binds X.K fd ps []) (hr : Room n X.A) :
    OpR X (compareOp .Eq) (fun x y H Q => ∃ a dx fs b dy gs, x = .ref a ∧ y = .ref b ∧ H a = some (.ins C dx fs) ∧ H b = some (.ins C dy gs) ∧ ∀ E, sp [x, y] H Q E) := by
  intro pins s σ H x y v u Q I rx ry h
  obtain ⟨a, dx, fs, b, dy, gs, rfl, rfl, ha, hb', q⟩ := h
  cases rx
  cases ry
  obtain ⟨mA, J, _⟩ := ins_get I.hok ha
  obtain ⟨mB, J', _⟩ := ins_get I.hok hb'
  obtain ⟨od, J, _⟩ := J.look
  obtain ⟨od', J', _⟩ := J'.look
  obtain ⟨m, hF⟩ := I.fr
  unfold compareOp
  refine PySem.W.cmp_K (op := .Eq) (tb := .ref C) hr.units0 hF I.ok.mod.kin J J'.type (by simp [PySem.W.notFirst]) hs hf ?_
  refine wpAny_mono (run_ok (us := [.ref a, .ref b]) (vs := [.ref a, .ref b]) F hr I.env0 hb I (.cons rfl (.cons rfl .nil)) q) (fun w s' z => ?_) fun _ _ x => x
  obtain ⟨z', H', I', rz, qz⟩ := z
  exact SlX.cmpback rz ⟨z', H', I', rz, qz⟩
theorem ifBound_B {M : Model} {A : Around} {E : Value → Shared → Prop} {K : PySem.W.Frag} {x : Addr} {ox : Obj} {od : Option Obj} {name : Str} {args : List Value} {id : String} {Q : Option Value → Shared → Prop} (X : K.In s.heap) (I : PySem.W.InstAt s.heap x ox C od) (hs : PySem.W.findIn K (.ref C) name = some (some (.builtin id))) (hb : bindSpecial (.builtin id) (.ref x) = pure (.builtin id, [.ref x]))
    (h : wpAny M A (call (.builtin id) (.ref x :: args)) (fun v => Q (some v)) E s) : wpAny M A (callSpecialIfBound? (.ref x) name args) Q E s := by
  simp only [callSpecialIfBound?, bindSpecialIfBound?]
  refine wpAny_holding (wpAny_bind (wpAny_bind (wpAny_bind (I.type.here ((PySem.W.looks_findIn X hs).here ?_)))))
  refine wpAny_bind (wpAny_askSetting (wpAny_ite ?_))
  have fin : wpAny M A (call (.builtin id) ([.ref x] ++ args) >>= fun v => pure (some v)) Q E s := wpAny_bind (wpAny_mono h (fun v s' h' => wpAny_pure h') fun _ _ h' => h')
  rw [hb]
  split
  · exact wpAny_bind (wpAny_pure (wpAny_pure (by exact fin)))
  · exact wpAny_tryCatch (wpAny_bind (wpAny_pure (wpAny_pure (by exact fin))))
/-- what != asks of an own class with its own == -/
structure NeC (K : PySem.W.Frag) (C : Addr) : Prop where
  ne : PySem.W.findIn K (.ref C) "__ne__" = some (some (.builtin "object.__ne__"))
  ob : PySem.W.mroIn K C (.type "object") = some true
theorem op_neOw (F : FnOk X.prog X.w X.K X.mg X.base CX0 n f fd ps sp) (hs : PySem.W.findIn X.K (.ref C) "__eq__" = some (some (.ref f))) (hf : PySem.W.isFn X.K (.ref f) = true) (hb : Binds X.K fd ps []) (hr : Room (n + 1) X.A) (N : NeC X.K C) :
    OpR X (compareOp .NotEq) (fun x y H Q => ∃ a dx fs b dy gs, x = .ref a ∧ y = .ref b ∧ H a = some (.ins C dx fs) ∧ H b = some (.ins C dy gs) ∧ ∀ E, sp [x, y] H (fun v H' => ∃ t, v = .bl t ∧ Q (.bl (!t)) H') E) := by
  intro pins s σ H x y v u Q I rx ry h
  obtain ⟨a, dx, fs, b, dy, gs, rfl, rfl, ha, hb', q⟩ := h
  cases rx
  cases ry
  obtain ⟨mA, J, _⟩ := ins_get I.hok ha
  obtain ⟨mB, J', _⟩ := ins_get I.hok hb'
  obtain ⟨od, J, _⟩ := J.look
  obtain ⟨od', J', _⟩ := J'.look
  obtain ⟨m, hF⟩ := I.fr
  have X1 : X.K.In s.heap := I.kIn
  have sub : PySem.W.Looks (model X.prog X.w) s.heap (isInstance (.ref a) (.type "object")) true := J.type.andThen (PySem.W.looks_mroIn X1 N.ob)
  have hr1 : Room n X.A.in1 := hr.in1
  have core : wpAny (model X.prog X.w) X.A.in1 (call (.ref f) [.ref a, .ref b]) (fun v s' => ∃ t, v = .bool t ∧ EP X pins σ Q (.bool (!t)) s') X.xe s :=
    wpAny_mono (run_ok (us := [.ref a, .ref b]) (vs := [.ref a, .ref b]) F hr1 I.env0.in1 hb I (.cons rfl (.cons rfl .nil)) q) (fun w s' z => by
      obtain ⟨z', H', I', rz, t, et, qz⟩ := z
      subst et
      cases rz
      exact ⟨t, rfl, .bl (!t), H', I', rfl, qz⟩) fun _ _ x => x
  have ent : wpAny (model X.prog X.w) X.A.in1 (Builtin.«object.__ne__» ⟨[.ref a, .ref b], []⟩) (fun r s' => ∃ v, r = .done (.ret v) ∧ ∃ t, v = .bool t ∧ EP X pins σ Q v s') X.xe s := by
    unfold Builtin.«object.__ne__»
    refine wpAny_bind (m := slotArgs "__ne__" 1 _) (wpAny_of_eq (a := (Value.ref a, [Value.ref b])) rfl ?_)
    refine wpAny_bind (wpAny_cRoomFor hr1.units0 ?_)
    refine wpAny_bind (PySem.W.ifBound_K X1 J hs hf (wpAny_mono core (fun v s' hv => ?_) fun _ _ e => e))
    obtain ⟨t, rfl, hq⟩ := hv
    refine wpAny_bind (m := truthy (.bool t)) (wpAny_truthy_bool ?_)
    exact wpAny_pure ⟨_, rfl, _, rfl, hq⟩
  have one : wpAny (model X.prog X.w) X.A (tryCompare (.ref a) (cmpInfo .NotEq).2.1 (.ref b)) (fun r s' => ∃ v, r = some v ∧ EP X pins σ Q v s') X.xe s := by
    unfold tryCompare
    refine wpAny_bind (ifBound_B X1 J N.ne (PySem.F.cmp_object.ne.bind _) (wpAny_call (codeAny_call_builtin PySem.F.cmp_object.ne.plain PySem.F.cmpEntry_ne (PySem.W.check_slot PySem.F.cmpKind_ne PySem.F.cmpSplit_ne sub (PySem.F.cmpArgs_ne _ _) ?_))))
    refine wpAny_mono ent (fun r s' hv => ?_) fun _ _ e => e
    obtain ⟨v, rfl, t, rfl, hq⟩ := hv
    first | exact wpAny_pure ⟨_, rfl, hq⟩ | exact wpAny_pure (wpAny_pure ⟨_, rfl, hq⟩)
  unfold compareOp richCompare
  simp only [oneThing_ref]
  refine wpAny_holding (wpAny_bind (wpAny_cRoomFor (show X.A.units < cLine from hr.units0) ?_))
  refine wpAny_bind (J.type.here (wpAny_bind (J'.type.here ?_)))
  rw [show (Value.ref C != Value.ref C) = false from by simp]
  simp only [Bool.false_eq_true, if_false]
  refine wpAny_bind (wpAny_pure ?_)
  simp only [Bool.false_eq_true, if_false]
  refine wpAny_bind (wpAny_mono one (fun r s' z => ?_) fun _ _ e => e)
  obtain ⟨v, rfl, hq⟩ := z
  exact wpAny_pure hq
theorem bound_K {M : Model} {A : Around} {E : Value → Shared → Prop} {K : PySem.W.Frag} {x : Addr} {ox : Obj} {od : Option Obj} {name : Str} {args : List Value} {Q : Option Value → Shared → Prop} (X : K.In s.heap) (I : PySem.W.InstAt s.heap x ox C od) (hs : PySem.W.findIn K (.ref C) name = some (some (.ref f))) (hf : PySem.W.isFn K (.ref f) = true)
    (h : wpAny M A (call (.ref f) (.ref x :: args)) (fun v => Q (some v)) E s) : wpAny M A (callSpecial? (.ref x) name args) Q E s := by
  unfold callSpecial?
  refine wpAny_bind (wpAny_bind (I.type.here ((PySem.W.looks_findIn X hs).here ?_)))
  have fin : wpAny M A (call (.ref f) ([.ref x] ++ args) >>= fun v => pure (some v)) Q E s := wpAny_bind (wpAny_mono h (fun v s' h' => wpAny_pure h') fun _ _ h' => h')
  refine wpAny_holding (wpAny_bind ((PySem.W.bind_fn X _ (beq_iff_eq.mp hf)).here ?_))
  exact fin
/-- len(x), x of an own class -/
theorem call_lenOw (F : FnOk X.prog X.w X.K X.mg X.base CX0 n f fd ps sp) (hs : PySem.W.findIn X.K (.ref C) "__len__" = some (some (.ref f))) (hf : PySem.W.isFn X.K (.ref f) = true) (hb : Binds X.K fd ps []) (hr : Room (n + 1) X.A) :
    CallR X (.builtin "len") (fun xs H Q => ∃ a dx fs, xs = [.ref a] ∧ H a = some (.ins C dx fs) ∧ ∀ E, sp [.ref a] H (fun v H' => ∃ i : Int, v = .int i ∧ 0 ≤ i ∧ i < 2 ^ 63 ∧ Q (.int i) H') E) := by
  intro pins s σ H xs us Q I r h
  obtain ⟨a, dx, fs, rfl, ha, q⟩ := h
  obtain ⟨u, rfl, ru⟩ := vals1 r
  obtain rfl : u = Value.ref a := ru
  obtain ⟨mA, J, _⟩ := ins_get I.hok ha
  obtain ⟨od, J, _⟩ := J.look
  have hr1 : Room n X.A.in1 := hr.in1
  refine Calls.call_function_entry kind_len plain_len entry_len (args_len1 _) ?_
  unfold Builtin.«len»
  refine wpAny_bind (m := oneArg "len" _) (wpAny_pure ?_)
  refine wpAny_bind (m := callSpecial? (.ref a) (PySem.Str.ofString "__len__")) (bound_K I.kIn J hs hf (wpAny_mono (run_ok (us := [.ref a]) (vs := [.ref a]) F hr1 I.env0.in1 hb I (.cons rfl .nil) q) (fun w s' z => ?_) fun _ _ e => e))
  obtain ⟨z', H', I', rz, i, ei, h0, h1, qz⟩ := z
  subst ei
  obtain ⟨t, rfl⟩ := (show ∃ t, w = Value.int i t from rz)
  refine wpAny_bind (wpAny_holding (wpAny_pure ?_))
  refine wpAny_bind (wpAny_letGo ?_)
  show wpAny _ _ (if i < 0 then _ else _) _ _ _
  rw [if_neg (by omega)]
  show wpAny _ _ (if i ≥ 2 ^ 63 then _ else _) _ _ _
  rw [if_neg (by omega)]
  exact wpAny_bind (wpAny_mkInt (wpAny_pure ⟨_, rfl, .int i, H', I'.tok _, ⟨_, rfl⟩, qz⟩))
end
end Dn

namespace Dn
open Dn.Rep (rep)
open PySem L2
abbrev AlE : Type := He.AlD × Bool
def obsE (n : Nat) (fa : List He.Fa) (fn : List He.DefD) (ex : PySem.W.Frag → Bool) (g : Addr → Option Obj) : AlE := (He.obsD fa fn (He.frG g (He.asD g n)), ex (He.frG g (He.asD g n)))
structure SaysE (fa : List He.Fa) (fn : List He.DefD) (ex : PySem.W.Frag → Bool) (K : PySem.W.Frag) : Prop where
  d : He.SaysD fa fn K
  more : ex K = true
def hookE (n : Nat) (fa : List He.Fa) (fn : List He.DefD) (ex : PySem.W.Frag → Bool) : PySem.W.Hook where
  α := AlE
  obs := fun s => obsE n fa fn ex s.heap.get?
  val := fun _ => (He.valD fn, true)
  says := fun _ h => ∃ K : PySem.W.Frag, K.In h ∧ SaysE fa fn ex K
  of := fun _ _ e => ⟨_, He.frG_in, congrArg (fun z : AlE => z.1) e, congrArg (fun z : AlE => z.2) e⟩
  keeps := fun _ _ _ ⟨K, hK, c⟩ k => ⟨K, PySem.W.Frag.In.keeps hK k, c⟩
theorem obsE_eq {n : Nat} {fa : List He.Fa} {fn : List He.DefD} {ex : PySem.W.Frag → Bool} {g : Addr → Option Obj} {s : Shared} (h : ∀ a, g a = s.heap.get? a) : obsE n fa fn ex g = (hookE n fa fn ex).obs s := by
  have e : g = s.heap.get? := funext h
  rw [e] <;> rfl
/-- what isinstance asks of the class x -/
def insB (x : Str) (K : PySem.W.Frag) : Bool :=
  He.eqO (PySem.W.findIn K (.ref (He.ga K x)) "__class__") (some (some (.builtin "object.__class__"))) && (He.eqO (PySem.W.specialIn K (.builtin "object.__class__") "__get__") (some (some (.builtin "getset_descriptor.__get__"))) &&
    (decide (PySem.W.takesIn K (.builtin "object.__class__") = some true) && (decide (PySem.W.mroIn K (He.ga K x) (.type "object") = some true) && decide (PySem.W.kitOne K (.ref (He.ga K x)) (.ref (He.ga K x)) = some true))))
theorem insB_ok {x : Str} {K : PySem.W.Frag} (c : Cls K (He.ga K x)) (h : insB x K = true) : C8.InsC K (He.ga K x) := by
  obtain ⟨h1, h⟩ := He.ba h
  obtain ⟨h2, h⟩ := He.ba h
  obtain ⟨h3, h⟩ := He.ba h
  obtain ⟨h4, h5⟩ := He.ba h
  exact ⟨c, He.eqO_ok h1, He.eqO_ok h2, of_decide_eq_true h3, of_decide_eq_true h4, of_decide_eq_true h5⟩

/-- exactly this -/
def eqc (o : HO) : Cont := ⟨fun _ o' => o' = o, fun _ h => h⟩
/-- instances of C as data: ic tells what the object holds -/
class Inst (δ : Type) (C : outParam Addr) where
  ic : δ → Cont
  ins : ∀ {x : δ} {G : Hp} {o : HO}, (ic x).ok G o → ∃ dx fs, o = .ins C dx fs
@[reducible] def instRep {δ : Type} (ic : δ → Cont) : Rep δ := ⟨fun G v x => ∃ p o, v = .ref p ∧ G p = some o ∧ (ic x).ok G o, fun e ⟨p, o, h1, h2, h3⟩ => ⟨p, o, h1, e _ _ h2, (ic _).mono e h3⟩⟩

section
variable {B : Bs} {X : Cx} {α β γ δ A : Type} [Rep α] [Rep β] [Rep γ] [Args A] {e a b c : Expr} {es : List Expr} {σ : L2.St} {G G' : Hp} {C C' C1 C2 C3 : Cs} {pos pos' p2 p : Pos} {x : Str} {f Cl : Addr} {lvl k : Nat} {ps : List Str} {rest : List Stmt} {R : VK → Prop} {P : L2.St → Hp → Cs → Prop}
/-- e.f -/
theorem de_fld {x : α} {y : β} {fl : Str} (c : Cls X.K Cl) (n : NoAttr X.K Cl fl) (h : ∀ G v, rep G v x → ∃ p dx fs w, v = .ref p ∧ G p = some (.ins Cl dx fs) ∧ fs.lookup fl = some w ∧ rep G w y) (ha : DE X e σ G x)
    (hb : attributeBase e fl X.env (eval e X.env) = eval e X.env := by rfl) : DE X (.Attribute e fl pos) σ G y := fun G1 H1 e1 e2 Q k =>
  ⟨_, pe_fld WE.pe hb, ha G1 H1 e1 e2 _ fun v G2 H2 g r => by
    obtain ⟨p, dx, fs, w, rfl, hp, hl, ry⟩ := h G2 v r
    exact ⟨p, Cl, dx, fs, w, rfl, g.gh _ _ hp, c, n, hl, k w G2 H2 g ry⟩⟩
/-- self.f = e, self a cell -/
theorem sb_fld {nm fl : Str} {v0 : α} {u : Addr} {dx : Addr} {fs : List (Str × V)} {tpos : Pos} (i : Nat) (hu : AtVar X σ nm u) (c : Cls X.K Cl) (n : NoAttr X.K Cl fl) (he : SE B X e σ G C v0 C1) (hi : C1[i]? = some (u, eqc (.ins Cl dx fs))) (hl : fs.length < 1000)
    (k : ∀ v G', Ex G G' → rep G' v v0 → SB B X rest σ G' (C1.set i (u, eqc (.ins Cl dx (putF fl v fs)))) R P)
    (hs : swapsWith e (some (.Attribute (.Name nm pos') fl tpos)) pos.line X.env = pure false := by rfl) : SB B X (.Assign [.Attribute (.Name nm pos') fl tpos] e pos :: rest) σ G C R P := fun G1 H1 e1 o D k1 k2 =>
  ⟨_, pss_cons (ps_fld WE.pe WE.pe hs) WS.pss, he G1 H1 e1 o _ fun v G2 H2 e2 o2 r => hu.we (by
    obtain ⟨ob, h1, h2, h3⟩ := o2.at_ i u _ hi
    have h3' : ob = .ins Cl dx fs := h3
    subst h3'
    refine ⟨u, Cl, dx, fs, rfl, h1, c, n, hl, ?_⟩
    exact k v G2 (e1.trans e2) r G2 _ (Ex.refl _) (o2.put hi (show _ = _ from rfl)) D k1 fun σ3 G3 H3 C3 e3 o3 p3 => k2 σ3 G3 H3 C3 (e2.trans e3) o3 p3)⟩
/-- isinstance(e, C) -/
theorem de_isC {x : α} {nm : Str} (c : C8.InsC X.K Cl) (hm : X.mg ("isinstance" : Str) = none) (hm2 : X.mg nm = some (.ref Cl)) (h : ∀ G v, rep G v x → ∃ p dx fs, v = .ref p ∧ G p = some (.ins Cl dx fs)) (ha : DE X a σ G x) (hg : Gl X "isinstance" := by rfl) (hg2 : Gl X nm := by rfl) (hd2 : (nm == ("__debug__" : Str)) = false := by decide)
    (he : starEach [a, .Name nm p2] X.env = (false, eval a X.env) :: starEach [.Name nm p2] X.env := by rfl) (he2 : starEach [.Name nm p2] X.env = (false, eval (.Name nm p2) X.env) :: starEach [] X.env := by rfl) (hpl : (backTo pos (starEach [.Name nm p2] X.env)).any (·.1) = false := by rfl) :
    DE X (.Call (.Name "isinstance" p) [a, .Name nm p2] [] pos) σ G true := fun G1 H1 e1 e2 Q k =>
  ⟨_, pe_callB (C8.call_isC c) hg hm (by decide +kernel) (pa_cons WE.pe (pa_cons (pe_glob hg2 hm2 (show RelV (.ref Cl) (.ref Cl) from rfl) hd2) pa_nil he2) he) (by decide) (by decide) he hpl, ha G1 H1 e1 e2 _ fun v G2 H2 g r1 => by
    obtain ⟨p, dx, fs, rfl, hp⟩ := h G2 v r1
    exact ⟨p, dx, fs, rfl, g.gh _ _ hp, k _ G2 H2 g rfl⟩⟩
end

structure HasF (P : Program) (w : World) (K : PySem.W.Frag) (mg : Str → Option Value) (base : Heap) (f : Addr) (lvl : Nat) (ps : List Str) (sp : Sp) : Prop where
  ex : ∃ fd, Binds K fd ps [] ∧ FnG P w K mg base CX0 lvl f fd ps sp
section
variable {P : Program} {w : World} {K : PySem.W.Frag} {mg : Str → Option Value} {base : Heap} {x qual : Str} {params : Arguments} {body : List Stmt} {scope : Scope} {f : Addr} {N ps : List Str} {k : Nat}
variable {A β δ : Type} [Args A] [Rep β]
theorem hasF_of {sp : Sp} (F : ∃ fd, FunD K x qual params body scope [] [] f fd) (S : FnScope N ps scope) (hb : BindOk x qual params body scope ps) (len : ∀ vs H Q E, sp vs H Q E → vs.length = ps.length)
    (hbody : ∀ (X : Cx), (∃ cdv A outer s H E, X = (cxOf CX0 P w K mg base N qual scope f cdv A outer s H E).nox) → Rm k X.A → ∀ (H : Hp) (vs : List V) (Q : VK) (E : XK), sp vs H Q E → WS X body { nx := fun _ H' => Q .non H', rt := Q } (start N vs) H) : HasF P w K mg base f (k + 1) ps sp := by
  obtain ⟨fd, F⟩ := F
  refine ⟨fd, F.bindsN hb, okG F S len fun cdv A outer s H vs Q E hr hsp => ?_⟩
  obtain ⟨t, h1, h2⟩ := hbody _ ⟨cdv, A, outer, s, H, E, rfl⟩ hr H vs Q E hsp
  exact ⟨t, h1.nox, h2⟩
variable [Rep δ]
/-- a def that may run whatever is under way: an own == -/
structure HasE (P : Program) (w : World) (K : PySem.W.Frag) (mg : Str → Option Value) (base : Heap) (f : Addr) (lvl : Nat) (ps : List Str) (sp : Sp) : Prop where
  ex : ∃ fd, Binds K fd ps [] ∧ FnOk P w K mg base CX0 lvl f fd ps sp
theorem hasE_D {pre : A → Prop} {g : A → δ} (F : ∃ fd, FunD K x qual params body scope [] [] f fd) (S : FnScope N ps scope) (hb : BindOk x qual params body scope ps) (len : ∀ a G vs, Args.rel (A := A) a G vs → vs.length = ps.length)
    (h : ∀ X, Body P w K mg base N qual scope f X → Room k X.A → ∀ B vs a G, B.M = [] → Args.rel a G vs → pre a → SB B X body (start N vs) G [] (RD B [] (g a)) (fun _ _ _ => False)) : HasE P w K mg base f (k + 1) ps (SpN kD pre g) := by
  obtain ⟨fd, F⟩ := F
  refine ⟨fd, F.bindsN hb, F.ok S (fun vs H Q E ⟨G, a, eG, r, _⟩ => len a G vs r) fun cdv A outer s H vs Q E hr ⟨G, a, eG, r, hp, q⟩ => ?_⟩
  obtain ⟨t, h1, h2⟩ := h _ ⟨cdv, A, outer, s, H, E, rfl⟩ hr ⟨[], G, H⟩ vs a G rfl r hp G H (Ex.refl _) ⟨Gr.refl eG, fun i u c hi => by simp at hi, fun i u c hi => by simp at hi, List.nodup_nil⟩ { nx := fun _ H' => Q .non H', rt := Q } (fun w G' H' o r => q w G' H' o.gr r) fun _ _ _ _ _ _ z => z.elim
  exact ⟨t, h1.nox, h2⟩
theorem hasF_D {pre : A → Prop} {g : A → δ} (F : ∃ fd, FunD K x qual params body scope [] [] f fd) (S : FnScope N ps scope) (hb : BindOk x qual params body scope ps) (len : ∀ a G vs, Args.rel (A := A) a G vs → vs.length = ps.length)
    (h : ∀ X, Body P w K mg base N qual scope f X → Rm k X.A → ∀ B vs a G, B.M = [] → Args.rel a G vs → pre a → SB B X body (start N vs) G [] (RD B [] (g a)) (fun _ _ _ => False)) : HasF P w K mg base f (k + 1) ps (SpN kD pre g) :=
  hasF_of F S hb (fun vs H Q E ⟨G, a, eG, r, _⟩ => len a G vs r) fun X hX hr H vs Q E ⟨G, a, eG, r, hp, q⟩ => by
    refine h X hX hr ⟨[], G, H⟩ vs a G rfl r hp G H (Ex.refl _) ⟨Gr.refl eG, fun i u c hi => by simp at hi, fun i u c hi => by simp at hi, List.nodup_nil⟩ _ (fun w G' H' o r => q w G' H' o.gr r) fun _ _ _ _ _ _ z => z.elim
theorem hasF_O {pre : A → Prop} {g : A → List δ} (F : ∃ fd, FunD K x qual params body scope [] [] f fd) (S : FnScope N ps scope) (hb : BindOk x qual params body scope ps) (len : ∀ a G vs, Args.rel (A := A) a G vs → vs.length = ps.length)
    (h : ∀ X, Body P w K mg base N qual scope f X → Rm k X.A → ∀ B vs a G, B.M = [] → Args.rel a G vs → pre a → SB B X body (start N vs) G [] (RO B [] (g a)) (fun _ _ _ => False)) : HasF P w K mg base f (k + 1) ps (SpN kO pre g) :=
  hasF_of F S hb (fun vs H Q E ⟨G, a, eG, r, _⟩ => len a G vs r) fun X hX hr H vs Q E ⟨G, a, eG, r, hp, q⟩ => by
    refine h X hX hr ⟨[], G, H⟩ vs a G rfl r hp G H (Ex.refl _) ⟨Gr.refl eG, fun i u c hi => by simp at hi, fun i u c hi => by simp at hi, List.nodup_nil⟩ _ (fun p G' H' o hB => q _ G' H' o.gr ?_) fun _ _ _ _ _ _ z => z.elim
    obtain ⟨ob, h1, h2, h3⟩ := o.at_ 0 p _ rfl
    exact ⟨p, rfl, hB, h2, ob, h1, h3⟩
/-- __init__: the new object at u, empty, gets what ic says -/
def SpI {ε : Type} (Cl : Addr) (ic : ε → Cont) (pre : A → Prop) (g : A → ε) : Sp := fun vs H Q _ => ∃ G u dx a r, vs = .ref u :: r ∧ Ex G H ∧ G u = none ∧ H u = some (.ins Cl dx []) ∧ Args.rel a G r ∧ pre a ∧
  ∀ G' H', Gr [u] G H G' H' → (∃ o, H' u = some o ∧ (ic (g a)).ok G' o) → Q .non H'
/-- the end of an __init__ -/
def JI {ε : Type} (ic : ε → Cont) (u : Addr) : Jd ε := fun x => (fun _ => True, fun _ G C => ∃ o, C.take 1 = [(u, eqc o)] ∧ (ic x).ok G o)
theorem hasF_I {ε : Type} {Cl : Addr} {ic : ε → Cont} {pre : A → Prop} {g : A → ε} (F : ∃ fd, FunD K x qual params body scope [] [] f fd) (S : FnScope N ps scope) (hb : BindOk x qual params body scope ps) (len : ∀ a G vs, Args.rel (A := A) a G vs → vs.length + 1 = ps.length)
    (h : ∀ X, Body P w K mg base N qual scope f X → Rm k X.A → ∀ B u dx vs a G, B.M = [u] → Args.rel a G vs → pre a → SJ B X body (start N (.ref u :: vs)) G [(u, eqc (.ins Cl dx []))] (JI ic u) (g a)) : HasF P w K mg base f (k + 1) ps (SpI Cl ic pre g) :=
  hasF_of F S hb (fun vs H Q E ⟨G, u, dx, a, r, ev, eG, hu, ho, hr, _⟩ => by rw [ev]; exact len a G r hr) fun X hX hr H vs Q E ⟨G, u, dx, a, r, ev, eG, hu, ho, hrel, hp, q⟩ => by
    subst ev
    refine h X hX hr ⟨[u], G, H⟩ u dx r a G rfl hrel hp G H (Ex.refl _) ⟨Gr.refl eG, fun i v c hi => ?_, fun i v c hi => ?_, by simp⟩ _ trivial fun σ2 G2 H2 C2 _ o ⟨ob, hC, hok⟩ => ?_
    · have e : i = 0 := by
        have := (List.getElem?_eq_some_iff.mp hi).1
        simp at this
        exact this
      subst e
      cases hi
      exact ⟨_, ho, hu, rfl⟩
    · have e : i = 0 := by
        have := (List.getElem?_eq_some_iff.mp hi).1
        simp at this
        exact this
      subst e
      cases hi
      exact .inl (List.mem_singleton.mpr rfl)
    · have o' := o.first 1
      rw [hC] at o'
      obtain ⟨ob', h1, h2, h3⟩ := o'.at_ 0 u _ rfl
      have h3' : ob' = ob := h3
      subst h3'
      exact q G2 H2 o'.gr ⟨ob', h1, hok⟩
end
section
variable {B : Bs} {X : Cx} {α β γ δ A : Type} [Rep α] [Rep β] [Rep γ] [Args A] {e a b c : Expr} {es : List Expr} {σ : L2.St} {G G' : Hp} {C C' C1 C2 C3 : Cs} {pos pos' p2 p apos : Pos} {x m : Str} {f Cl : Addr} {lvl k : Nat} {ps : List Str}
/-- Cl(..) -/
theorem we_make {ε : Type} {ic : ε → Cont} {pre : A → Prop} {g : A → ε} {y : A} {H1 : Hp} {Q : VK} (F : HasF X.prog X.w X.K X.mg X.base f lvl ps (SpI Cl ic pre g)) (M : Mk X.K Cl f) (hm : X.mg x = some (.ref Cl)) (hr : Rm k X.A) (ha : DA X (e :: es) σ G y) (hp : pre y) (e1 : Ex G H1)
    (k0 : ∀ q G3 H3 o, Gr [] G H1 G3 H3 → G3 q = some o → (ic (g y)).ok G3 o → Q (.ref q) H3)
    (hl : lvl + 1 ≤ k := by decide) (hg : Gl X x := by rfl) (hdb : (x == ("__debug__" : Str)) = false := by decide)
    (he : starEach (e :: es) X.env = (false, eval e X.env) :: starEach es X.env := by rfl) (hpl : (backTo pos (starEach es X.env)).any (·.1) = false := by rfl) : WE X (.Call (.Name x p) (e :: es) [] pos) σ H1 Q := by
  obtain ⟨fd, hb, F⟩ := F.ex
  refine ⟨_, pe_makeG M F (hr.mono hl) hg hm hb .nil pass0 WA.pa hdb he hpl, ?_⟩
  refine ha G H1 (Ex.refl _) e1 _ fun vs G2 H2 g2 r => fun u dx n1 n2 ne => ?_
  have hex : Ex G2 (upd (upd H2 dx (.own u)) u (.ins Cl dx [])) := (g2.gh.trans (Ex.new n2)).trans (Ex.new (by rw [upd_ne (Ne.symm ne)]; exact n1))
  refine ⟨G2, u, dx, y, vs ++ [], rfl, hex, Ex.fresh g2.gh n1, upd_same, by rw [List.append_nil]; exact r, hp, fun G3 H3 g3 ⟨o, h1, h2⟩ => ⟨rfl, ?_⟩⟩
  have ga : Gr [] G2 H2 G2 (upd (upd H2 dx (.own u)) u (.ins Cl dx [])) := Gr.of_ex g2.gh ((Ex.new n2).trans (Ex.new (by rw [upd_ne (Ne.symm ne)]; exact n1)))
  have gb : Gr [] G2 H2 G3 H3 := ga.trans g3 fun z hz => .inr (by rw [List.mem_singleton.mp hz]; exact n1)
  have gc := (g2.and gb)
  have gd := gc.freeze h1 (g2.dom _ n1)
  have hx : Ex G3 (upd G3 u o) := fun z q hq => by
    by_cases w : z = u
    · subst w; rw [gc.gh _ _ hq] at h1; cases h1; exact upd_same
    · rw [upd_ne w]; exact hq
  exact k0 u _ H3 o gd upd_same ((ic (g y)).mono hx h2)
/-- e.m(..), a method that changes nothing -/
theorem de_methZ {r : α} {pre : α × A → Prop} {g : α × A → β} {y : A} {z : β} {pl : Sem Bool} (F : HasF X.prog X.w X.K X.mg X.base f lvl ps (SpN kD pre g)) (c : Cls X.K Cl) (hm : Meth X.K Cl m f) (hr : Rm k X.A) (h : ∀ G v, rep G v r → ∃ p dx fs, v = .ref p ∧ G p = some (.ins Cl dx fs) ∧ fs.lookup m = none)
    (ho : DE X a σ G r) (ha : DA X (e :: es) σ G y) (hp : pre (r, y)) (hz : g (r, y) = z := by rfl) (hl : lvl ≤ k := by decide) (hst : starEach (e :: es) X.env = (false, eval e X.env) :: starEach es X.env := by rfl) (hpl : (backTo pos (starEach es X.env)).any (·.1) = false := by rfl)
    (ht : eval (.Call (.Attribute a m apos) (e :: es) [] pos) X.env = (do
      let ov ← eval a X.env
      standAt apos.atName
      let (f, first) ← holding [ov] (getMethod ov m pl)
      callWith pos f first (backTo pos (starEach (e :: es) X.env)) (backToKw pos (keywordEach [] X.env))) := by rfl) : DE X (.Call (.Attribute a m apos) (e :: es) [] pos) σ G z := fun G1 H1 e1 e2 Q k => by
  obtain ⟨fd, hb, F⟩ := F.ex
  refine ⟨_, pe_methG WE.pe c hm F (hr.mono hl) hb .nil pass0 WA.pa hst hpl ht, ho G1 H1 e1 e2 _ fun v G2 H2 g2 r2 => ?_⟩
  obtain ⟨q, dx, fs, rfl, hq, hlk⟩ := h G2 v r2
  refine ⟨q, dx, fs, rfl, g2.gh _ _ hq, hlk, ha G2 H2 (e1.trans g2.gg) g2.gh _ fun vs G3 H3 g3 r3 => ?_⟩
  exact ⟨G3, (r, y), g3.gh, ⟨_, _, rfl, Rep.mono g3.gg r2, by rw [List.append_nil]; exact r3⟩, hp, fun w G4 H4 g4 r4 => k w G4 H4 ((g2.and g3).and g4) (hz ▸ r4)⟩
theorem de_meth0Z {r : α} {pre : α × Unit → Prop} {g : α × Unit → β} {z : β} {pl : Sem Bool} (F : HasF X.prog X.w X.K X.mg X.base f lvl ps (SpN kD pre g)) (c : Cls X.K Cl) (hm : Meth X.K Cl m f) (hr : Rm k X.A) (h : ∀ G v, rep G v r → ∃ p dx fs, v = .ref p ∧ G p = some (.ins Cl dx fs) ∧ fs.lookup m = none)
    (ho : DE X a σ G r) (hp : pre (r, ())) (hz : g (r, ()) = z := by rfl) (hl : lvl ≤ k := by decide)
    (ht : eval (.Call (.Attribute a m apos) [] [] pos) X.env = (do
      let ov ← eval a X.env
      standAt apos.atName
      let (f, first) ← holding [ov] (getMethod ov m pl)
      callWith pos f first (backTo pos (starEach [] X.env)) (backToKw pos (keywordEach [] X.env))) := by rfl) : DE X (.Call (.Attribute a m apos) [] [] pos) σ G z := fun G1 H1 e1 e2 Q k => by
  obtain ⟨fd, hb, F⟩ := F.ex
  refine ⟨_, pe_meth0G WE.pe c hm F (hr.mono hl) hb .nil pass0 ht, ho G1 H1 e1 e2 _ fun v G2 H2 g2 r2 => ?_⟩
  obtain ⟨q, dx, fs, rfl, hq, hlk⟩ := h G2 v r2
  refine ⟨q, dx, fs, rfl, g2.gh _ _ hq, hlk, ?_⟩
  exact ⟨G2, (r, ()), g2.gh, ⟨_, _, rfl, r2, rfl⟩, hp, fun w G4 H4 g4 r4 => k w G4 H4 (g2.and g4) (hz ▸ r4)⟩
/-- == of an own class, where it holds -/
theorem dc_eqOwn {x y : α} {pre : α × α × Unit → Prop} {g0 : α × α × Unit → Bool} {n : Nat} (F : HasE X.prog X.w X.K X.mg X.base f n ps (SpN kD pre g0)) (hm : Meth X.K Cl "__eq__" f) (hr : Rm k X.A) (h : ∀ G v (r : α), rep G v r → ∃ p dx fs, v = .ref p ∧ G p = some (.ins Cl dx fs))
    (ha : DE X a σ G x) (hb : DE X b σ G y) (hp : pre (x, y, ()) ∧ g0 (x, y, ()) = true) (hl : n ≤ k := by decide) : DC X .Eq a b σ G true := by
  obtain ⟨fd, hbn, F⟩ := F.ex
  let R : Addr → Addr → Hp → Prop := fun p q H => ∃ G, Ex G H ∧ rep G (.ref p) x ∧ rep G (.ref q) y
  have F2 : FnOk X.prog X.w X.K X.mg X.base CX0 n f fd ps (spEq R) := F.imp fun vs H Q E ⟨p, q, ev, ⟨G, eG, r1, r2⟩, hq⟩ =>
    ⟨G, (x, y, ()), eG, ⟨_, _, ev, r1, _, _, rfl, r2, rfl⟩, hp.1, fun w G' H' g r => by
      have e : w = .bl true := by rw [← hp.2]; exact r
      rw [e]
      exact hq H' g.hh⟩
  refine dc_cmp (op_eqG (rcG_ins (C := Cl) (R := R) F2 hm.at_ hm.fn hbn pass0) (hr.room.mono hl)) (fun G H u v e r1 r2 Q k => ?_) ha hb
  obtain ⟨p, dx, fs, rfl, hpp⟩ := h G u x r1
  obtain ⟨q, dy, gs, rfl, hqq⟩ := h G v y r2
  exact ⟨⟨p, q, dx, dy, fs, gs, rfl, rfl, e _ _ hpp, e _ _ hqq, G, e, r1, r2⟩, fun H' eH => k _ G H' (Gr.of_ex e eH) rfl⟩
end

theorem HasF.data {P : Program} {w : World} {K : PySem.W.Frag} {mg : Str → Option Value} {base : Heap} {A δ : Type} [Args A] [Rep δ] {f : Addr} {lvl : Nat} {ps : List Str} {pre : A → Prop} {g : A → List δ} (F : HasF P w K mg base f lvl ps (SpN kO pre g)) : HasF P w K mg base f lvl ps (SpN kD pre g) := by
  obtain ⟨fd, hb, F⟩ := F.ex
  refine ⟨fd, hb, F.imp fun vs H Q E ⟨G, a, eG, r, hp, q⟩ => ⟨G, a, eG, r, hp, fun w G' H' g' hk => ?_⟩⟩
  obtain ⟨p, rfl, n1, n2, o, h3, vs, rfl, hz, r3⟩ := hk
  refine q _ (upd G' p (.lst vs)) H' (g'.freeze h3 n1) ⟨p, vs, rfl, upd_same, hz, Reps.mono (fun x u hq => ?_) r3⟩
  by_cases z : x = p
  · subst z; rw [g'.gh _ _ hq] at h3; cases h3; exact upd_same
  · rw [upd_ne z]; exact hq
section
variable {B : Bs} {X : Cx} {α β γ δ A : Type} [Rep α] [Rep β] [Rep γ] [Args A] {e a b c : Expr} {es : List Expr} {σ : L2.St} {G G' : Hp} {pos pos' p2 p apos : Pos} {x m : Str} {f Cl : Addr} {lvl k : Nat} {ps : List Str}
theorem do_methZ {r : α} {pre : α × A → Prop} {g : α × A → List β} {y : A} {z : List β} {pl : Sem Bool} (F : HasF X.prog X.w X.K X.mg X.base f lvl ps (SpN kO pre g)) (c : Cls X.K Cl) (hm : Meth X.K Cl m f) (hr : Rm k X.A) (h : ∀ G v, rep G v r → ∃ p dx fs, v = .ref p ∧ G p = some (.ins Cl dx fs) ∧ fs.lookup m = none)
    (ho : DE X a σ G r) (ha : DA X (e :: es) σ G y) (hp : pre (r, y)) (hz : g (r, y) = z := by rfl) (hl : lvl ≤ k := by decide) (hst : starEach (e :: es) X.env = (false, eval e X.env) :: starEach es X.env := by rfl) (hpl : (backTo pos (starEach es X.env)).any (·.1) = false := by rfl)
    (ht : eval (.Call (.Attribute a m apos) (e :: es) [] pos) X.env = (do
      let ov ← eval a X.env
      standAt apos.atName
      let (f, first) ← holding [ov] (getMethod ov m pl)
      callWith pos f first (backTo pos (starEach (e :: es) X.env)) (backToKw pos (keywordEach [] X.env))) := by rfl) : DO X (.Call (.Attribute a m apos) (e :: es) [] pos) σ G z := fun G1 H1 e1 e2 Q k => by
  obtain ⟨fd, hb, F⟩ := F.ex
  refine ⟨_, pe_methG WE.pe c hm F (hr.mono hl) hb .nil pass0 WA.pa hst hpl ht, ho G1 H1 e1 e2 _ fun v G2 H2 g2 r2 => ?_⟩
  obtain ⟨q, dx, fs, rfl, hq, hlk⟩ := h G2 v r2
  refine ⟨q, dx, fs, rfl, g2.gh _ _ hq, hlk, ha G2 H2 (e1.trans g2.gg) g2.gh _ fun vs G3 H3 g3 r3 => ?_⟩
  refine ⟨G3, (r, y), g3.gh, ⟨_, _, rfl, Rep.mono g3.gg r2, by rw [List.append_nil]; exact r3⟩, hp, fun w G4 H4 g4 hk => ?_⟩
  obtain ⟨u, rfl, n1, n2, o, h3, vs2, rfl, hz2, r4⟩ := hk
  exact k u vs2 G4 H4 ((g2.and g3).and g4) (g2.dom _ (g3.dom _ n1)) n2 h3 hz2 (hz ▸ r4)
theorem do_meth0Z {r : α} {pre : α × Unit → Prop} {g : α × Unit → List β} {z : List β} {pl : Sem Bool} (F : HasF X.prog X.w X.K X.mg X.base f lvl ps (SpN kO pre g)) (c : Cls X.K Cl) (hm : Meth X.K Cl m f) (hr : Rm k X.A) (h : ∀ G v, rep G v r → ∃ p dx fs, v = .ref p ∧ G p = some (.ins Cl dx fs) ∧ fs.lookup m = none)
    (ho : DE X a σ G r) (hp : pre (r, ())) (hz : g (r, ()) = z := by rfl) (hl : lvl ≤ k := by decide)
    (ht : eval (.Call (.Attribute a m apos) [] [] pos) X.env = (do
      let ov ← eval a X.env
      standAt apos.atName
      let (f, first) ← holding [ov] (getMethod ov m pl)
      callWith pos f first (backTo pos (starEach [] X.env)) (backToKw pos (keywordEach [] X.env))) := by rfl) : DO X (.Call (.Attribute a m apos) [] [] pos) σ G z := fun G1 H1 e1 e2 Q k => by
  obtain ⟨fd, hb, F⟩ := F.ex
  refine ⟨_, pe_meth0G WE.pe c hm F (hr.mono hl) hb .nil pass0 ht, ho G1 H1 e1 e2 _ fun v G2 H2 g2 r2 => ?_⟩
  obtain ⟨q, dx, fs, rfl, hq, hlk⟩ := h G2 v r2
  refine ⟨q, dx, fs, rfl, g2.gh _ _ hq, hlk, ?_⟩
  refine ⟨G2, (r, ()), g2.gh, ⟨_, _, rfl, r2, rfl⟩, hp, fun w G4 H4 g4 hk => ?_⟩
  obtain ⟨u, rfl, n1, n2, o, h3, vs2, rfl, hz2, r4⟩ := hk
  exact k u vs2 G4 H4 (g2.and g4) (g2.dom _ n1) n2 h3 hz2 (hz ▸ r4)
end
end Dn

namespace Dn
open Dn.Rep (rep)
open PySem L2
/-- where the own classes stand -/
class PC where
  at_ : Str → Addr
  K : PySem.W.Frag
structure PanelD where
  names : List Str
  orders : List (List Str)
  spots : List (Dict Int)
instance : Inhabited PanelD := ⟨⟨[], [], []⟩⟩
instance {α : Type} : Inhabited (Dict α) := ⟨⟨[]⟩⟩
section
variable [PC]
def icP (x : PanelD) : Cont := ⟨fun G o => ∃ dx u1 u2 u3, o = .ins (PC.at_ "Panel") dx [("names", u1), ("orders", u2), ("spots", u3)] ∧ rep G u1 x.names ∧ rep G u2 x.orders ∧ rep G u3 x.spots,
  fun e ⟨dx, u1, u2, u3, h1, h2, h3, h4⟩ => ⟨dx, u1, u2, u3, h1, Rep.mono e h2, Rep.mono e h3, Rep.mono e h4⟩⟩
instance instRepPanel : Rep PanelD := instRep icP
theorem panel_ins {x : PanelD} {G : Hp} {v : V} (r : rep G v x) : ∃ p dx fs, v = .ref p ∧ G p = some (.ins (PC.at_ "Panel") dx fs) := by
  obtain ⟨p, o, h1, h2, dx, u1, u2, u3, rfl, _⟩ := r
  exact ⟨p, dx, _, h1, h2⟩
theorem panel_get {x : PanelD} {G : Hp} {v : V} (r : rep G v x) : ∃ p dx u1 u2 u3, v = .ref p ∧ G p = some (.ins (PC.at_ "Panel") dx [("names", u1), ("orders", u2), ("spots", u3)]) ∧ rep G u1 x.names ∧ rep G u2 x.orders ∧ rep G u3 x.spots := by
  obtain ⟨p, o, h1, h2, dx, u1, u2, u3, rfl, r1, r2, r3⟩ := r
  exact ⟨p, dx, u1, u2, u3, h1, h2, r1, r2, r3⟩
variable {B : Bs} {X : Cx} {A : Type} [Args A] {e a b c : Expr} {es : List Expr} {σ : L2.St} {G G' : Hp} {C C' C1 C2 C3 : Cs} {pos pos' p2 p apos : Pos} {x m : Str} {f : Addr} {lvl k : Nat} {ps : List Str}
theorem de_panel_names {x : PanelD} (c : Cls X.K (PC.at_ "Panel")) (n : NoAttr X.K (PC.at_ "Panel") "names") (ha : DE X e σ G x) (hb : attributeBase e "names" X.env (eval e X.env) = eval e X.env := by rfl) : DE X (.Attribute e "names" pos) σ G x.names :=
  de_fld (x := x) (y := x.names) c n (fun G v r => by obtain ⟨p, dx, u1, u2, u3, h1, h2, r1, r2, r3⟩ := panel_get r; exact ⟨p, dx, _, u1, h1, h2, rfl, r1⟩) ha hb
theorem de_panel_orders {x : PanelD} (c : Cls X.K (PC.at_ "Panel")) (n : NoAttr X.K (PC.at_ "Panel") "orders") (ha : DE X e σ G x) (hb : attributeBase e "orders" X.env (eval e X.env) = eval e X.env := by rfl) : DE X (.Attribute e "orders" pos) σ G x.orders :=
  de_fld (x := x) (y := x.orders) c n (fun G v r => by obtain ⟨p, dx, u1, u2, u3, h1, h2, r1, r2, r3⟩ := panel_get r; exact ⟨p, dx, _, u2, h1, h2, rfl, r2⟩) ha hb
theorem de_panel_spots {x : PanelD} (c : Cls X.K (PC.at_ "Panel")) (n : NoAttr X.K (PC.at_ "Panel") "spots") (ha : DE X e σ G x) (hb : attributeBase e "spots" X.env (eval e X.env) = eval e X.env := by rfl) : DE X (.Attribute e "spots" pos) σ G x.spots :=
  de_fld (x := x) (y := x.spots) c n (fun G v r => by obtain ⟨p, dx, u1, u2, u3, h1, h2, r1, r2, r3⟩ := panel_get r; exact ⟨p, dx, _, u3, h1, h2, rfl, r3⟩) ha hb
theorem de_isPanel {x : PanelD} (c : C8.InsC X.K (PC.at_ "Panel")) (hm : X.mg ("isinstance" : Str) = none) (hm2 : X.mg ("Panel" : Str) = some (.ref (PC.at_ "Panel"))) (ha : DE X a σ G x) (hg : Gl X "isinstance" := by rfl) (hg2 : Gl X "Panel" := by rfl)
    (he : starEach [a, .Name "Panel" p2] X.env = (false, eval a X.env) :: starEach [.Name "Panel" p2] X.env := by rfl) (he2 : starEach [.Name "Panel" p2] X.env = (false, eval (.Name "Panel" p2) X.env) :: starEach [] X.env := by rfl) (hpl : (backTo pos (starEach [.Name "Panel" p2] X.env)).any (·.1) = false := by rfl) :
    DE X (.Call (.Name "isinstance" p) [a, .Name "Panel" p2] [] pos) σ G true := de_isC c hm hm2 (fun _ _ r => panel_ins r) ha hg hg2 (by decide) he he2 hpl
theorem de_Panel {pre : A → Prop} {g : A → PanelD} {y : A} {z : PanelD} (F : HasF X.prog X.w X.K X.mg X.base f lvl ps (SpI (PC.at_ "Panel") icP pre g)) (M : Mk X.K (PC.at_ "Panel") f) (hm : X.mg ("Panel" : Str) = some (.ref (PC.at_ "Panel"))) (hr : Rm k X.A) (ha : DA X (e :: es) σ G y) (hp : pre y) (hz : g y = z := by rfl)
    (hl : lvl + 1 ≤ k := by decide) (hg : Gl X "Panel" := by rfl)
    (he : starEach (e :: es) X.env = (false, eval e X.env) :: starEach es X.env := by rfl) (hpl : (backTo pos (starEach es X.env)).any (·.1) = false := by rfl) : DE X (.Call (.Name "Panel" p) (e :: es) [] pos) σ G z := fun G1 H1 e1 e2 Q q =>
  we_make F M hm hr (fun G2 H2 a1 a2 => ha G2 H2 (e1.trans a1) a2) hp e2 (fun u G3 H3 o g3 h1 h2 => q _ G3 H3 g3 ⟨u, o, rfl, h1, by rw [← hz]; exact h2⟩) hl hg (by decide) he hpl
theorem dc_eqPanel {x y : PanelD} {pre : PanelD × PanelD × Unit → Prop} {g0 : PanelD × PanelD × Unit → Bool} {n : Nat} (F : HasE X.prog X.w X.K X.mg X.base f n ps (SpN kD pre g0)) (hm : Meth X.K (PC.at_ "Panel") "__eq__" f) (hr : Rm k X.A) (ha : DE X a σ G x) (hb : DE X b σ G y) (hp : pre (x, y, ()) ∧ g0 (x, y, ()) = true) (hl : n ≤ k := by decide) : DC X .Eq a b σ G true :=
  dc_eqOwn F hm hr (fun _ _ _ r => panel_ins r) ha hb hp hl
theorem de_methP {β : Type} [Rep β] {r : PanelD} {pre : PanelD × A → Prop} {g : PanelD × A → β} {y : A} {z : β} {pl : Sem Bool} (F : HasF X.prog X.w X.K X.mg X.base f lvl ps (SpN kD pre g)) (c : Cls X.K (PC.at_ "Panel")) (hm : Meth X.K (PC.at_ "Panel") m f) (hr : Rm k X.A)
    (ho : DE X a σ G r) (ha : DA X (e :: es) σ G y) (hp : pre (r, y)) (hz : g (r, y) = z := by rfl) (hl : lvl ≤ k := by decide) (hn : ∀ u1 u2 u3 : V, [(("names" : Str), u1), ("orders", u2), ("spots", u3)].lookup m = none := by intro _ _ _; rfl) (hst : starEach (e :: es) X.env = (false, eval e X.env) :: starEach es X.env := by rfl) (hpl : (backTo pos (starEach es X.env)).any (·.1) = false := by rfl)
    (ht : eval (.Call (.Attribute a m apos) (e :: es) [] pos) X.env = (do
      let ov ← eval a X.env
      standAt apos.atName
      let (f, first) ← holding [ov] (getMethod ov m pl)
      callWith pos f first (backTo pos (starEach (e :: es) X.env)) (backToKw pos (keywordEach [] X.env))) := by rfl) : DE X (.Call (.Attribute a m apos) (e :: es) [] pos) σ G z :=
  de_methZ F c hm hr (fun G v r => by obtain ⟨p, dx, u1, u2, u3, h1, h2, r1, r2, r3⟩ := panel_get r; exact ⟨p, dx, _, h1, h2, hn u1 u2 u3⟩) ho ha hp hz hl hst hpl ht
theorem de_methP0 {β : Type} [Rep β] {r : PanelD} {pre : PanelD × Unit → Prop} {g : PanelD × Unit → β} {z : β} {pl : Sem Bool} (F : HasF X.prog X.w X.K X.mg X.base f lvl ps (SpN kD pre g)) (c : Cls X.K (PC.at_ "Panel")) (hm : Meth X.K (PC.at_ "Panel") m f) (hr : Rm k X.A)
    (ho : DE X a σ G r) (hp : pre (r, ())) (hz : g (r, ()) = z := by rfl) (hl : lvl ≤ k := by decide) (hn : ∀ u1 u2 u3 : V, [(("names" : Str), u1), ("orders", u2), ("spots", u3)].lookup m = none := by intro _ _ _; rfl)
    (ht : eval (.Call (.Attribute a m apos) [] [] pos) X.env = (do
      let ov ← eval a X.env
      standAt apos.atName
      let (f, first) ← holding [ov] (getMethod ov m pl)
      callWith pos f first (backTo pos (starEach [] X.env)) (backToKw pos (keywordEach [] X.env))) := by rfl) : DE X (.Call (.Attribute a m apos) [] [] pos) σ G z :=
  de_meth0Z F c hm hr (fun G v r => by obtain ⟨p, dx, u1, u2, u3, h1, h2, r1, r2, r3⟩ := panel_get r; exact ⟨p, dx, _, h1, h2, hn u1 u2 u3⟩) ho hp hz hl ht
theorem do_methP {β : Type} [Rep β] {r : PanelD} {pre : PanelD × A → Prop} {g : PanelD × A → List β} {y : A} {z : List β} {pl : Sem Bool} (F : HasF X.prog X.w X.K X.mg X.base f lvl ps (SpN kO pre g)) (c : Cls X.K (PC.at_ "Panel")) (hm : Meth X.K (PC.at_ "Panel") m f) (hr : Rm k X.A)
    (ho : DE X a σ G r) (ha : DA X (e :: es) σ G y) (hp : pre (r, y)) (hz : g (r, y) = z := by rfl) (hl : lvl ≤ k := by decide) (hn : ∀ u1 u2 u3 : V, [(("names" : Str), u1), ("orders", u2), ("spots", u3)].lookup m = none := by intro _ _ _; rfl) (hst : starEach (e :: es) X.env = (false, eval e X.env) :: starEach es X.env := by rfl) (hpl : (backTo pos (starEach es X.env)).any (·.1) = false := by rfl)
    (ht : eval (.Call (.Attribute a m apos) (e :: es) [] pos) X.env = (do
      let ov ← eval a X.env
      standAt apos.atName
      let (f, first) ← holding [ov] (getMethod ov m pl)
      callWith pos f first (backTo pos (starEach (e :: es) X.env)) (backToKw pos (keywordEach [] X.env))) := by rfl) : DO X (.Call (.Attribute a m apos) (e :: es) [] pos) σ G z :=
  do_methZ F c hm hr (fun G v r => by obtain ⟨p, dx, u1, u2, u3, h1, h2, r1, r2, r3⟩ := panel_get r; exact ⟨p, dx, _, h1, h2, hn u1 u2 u3⟩) ho ha hp hz hl hst hpl ht
theorem do_methP0 {β : Type} [Rep β] {r : PanelD} {pre : PanelD × Unit → Prop} {g : PanelD × Unit → List β} {z : List β} {pl : Sem Bool} (F : HasF X.prog X.w X.K X.mg X.base f lvl ps (SpN kO pre g)) (c : Cls X.K (PC.at_ "Panel")) (hm : Meth X.K (PC.at_ "Panel") m f) (hr : Rm k X.A)
    (ho : DE X a σ G r) (hp : pre (r, ())) (hz : g (r, ()) = z := by rfl) (hl : lvl ≤ k := by decide) (hn : ∀ u1 u2 u3 : V, [(("names" : Str), u1), ("orders", u2), ("spots", u3)].lookup m = none := by intro _ _ _; rfl)
    (ht : eval (.Call (.Attribute a m apos) [] [] pos) X.env = (do
      let ov ← eval a X.env
      standAt apos.atName
      let (f, first) ← holding [ov] (getMethod ov m pl)
      callWith pos f first (backTo pos (starEach [] X.env)) (backToKw pos (keywordEach [] X.env))) := by rfl) : DO X (.Call (.Attribute a m apos) [] [] pos) σ G z :=
  do_meth0Z F c hm hr (fun G v r => by obtain ⟨p, dx, u1, u2, u3, h1, h2, r1, r2, r3⟩ := panel_get r; exact ⟨p, dx, _, h1, h2, hn u1 u2 u3⟩) ho hp hz hl ht
end
end Dn

namespace Dn
open Dn.Rep (rep)
open PySem L2
/-- a text of which only the length is known to be within the line -/
structure RS where
  s : Str
  deriving DecidableEq
instance : Rep RS := ⟨fun _ v a => v = .str a.s ∧ a.s.length ≤ sizeLine, fun _ h => h⟩
instance : Scal RS := ⟨fun h => h⟩
section
variable {X : Cx} {a b : Expr} {σ : L2.St} {G : Hp}
theorem r2_eqR {i j : RS} : R2D rEq i j (decide (i = j)) := fun G H u v e r1 r2 Q k => by
  obtain ⟨i⟩ := i; obtain ⟨j⟩ := j
  cases r1.1; cases r2.1
  exact ⟨rfl, k _ G H (Gr.refl e) (by show V.bl _ = V.bl _; simp)⟩
theorem r2_neR {i j : RS} : R2D rNe i j (!decide (i = j)) := fun G H u v e r1 r2 Q k => by
  obtain ⟨i⟩ := i; obtain ⟨j⟩ := j
  cases r1.1; cases r2.1
  exact ⟨rfl, k _ G H (Gr.refl e) (by show V.bl _ = V.bl _; simp)⟩
theorem dc_eqR {i j : RS} (ha : DE X a σ G i) (hb : DE X b σ G j) : DC X .Eq a b σ G (decide (i = j)) := dc_cmp op_eq r2_eqR ha hb
theorem dc_neR {i j : RS} (ha : DE X a σ G i) (hb : DE X b σ G j) : DC X .NotEq a b σ G (!decide (i = j)) := dc_cmp op_ne r2_neR ha hb
end
section
variable {α β : Type} [Rep α] [Dat α]
def reprD (x : α) : RS := ⟨(Dat.dat x).shown⟩
def RepOk (x : α) : Prop := (Dat.dat x).showable = true ∧ (Dat.dat x).shown.length ≤ sizeLine
theorem call_reprD {X : Cx} (hg : X.A.guards = some []) : CallR X (.builtin "repr") (fun xs H Q => ∃ a d, xs = [.ref a] ∧ Dp X.K H (.ref a) d ∧ d.showable = true ∧ d.hasDict = false ∧ X.A.units + (d.depth + 1) < cLine ∧ d.shown.length ≤ sizeLine ∧ Q (.str d.shown) H) := by
  intro pins s σ H xs us Q I r h
  obtain ⟨a, d, rfl, hd, hs, hn, hu, hz, q⟩ := h
  cases r with
  | cons r1 r2 =>
    cases r2
    cases r1
    obtain ⟨as, hr⟩ := Dp.reads I d _ _ hd rfl
    exact repr_of_reads' hr hs (PyData.noDict_hsm hn) hg hu (fun _ _ e => e) (fun h' u tk hk => ⟨.str d.shown, H, I.kept (t' := tk) hk, ⟨u, rfl⟩, q⟩) hz
variable {X : Cx} {a : Expr} {σ : L2.St} {G : Hp} {p pos : Pos} {k : Nat}
theorem de_repr {x : List α} (hm : X.mg ("repr" : Str) = none) (hr : Rm k X.A) (ha : DE X a σ G x) (h : RepOk x) (hd : Dat.dep α ≤ 60 := by decide) (hg : Gl X "repr" := by rfl)
    (he : starEach [a] X.env = (false, eval a X.env) :: starEach [] X.env := by rfl) (hpl : (backTo pos (starEach [] X.env)).any (·.1) = false := by rfl) : DE X (.Call (.Name "repr" p) [a] [] pos) σ G (reprD x) :=
  de_callB (call_reprD hr.gd) (fun G H u e r1 Q k => by
    have f1 := Rep.mono e r1
    have hl := Dat.lay f1
    have hdp := Dat.depth x
    have hd2 : Dat.dep (List α) = Dat.dep α + 1 := rfl
    have hu := hr.units
    have dd := Dat.dp X.K f1
    obtain ⟨q, vs, ev, hq, hz, r⟩ := r1
    subst ev
    exact ⟨q, Dat.dat x, rfl, dd, h.1, PyData.hasDict_of_canLay _ hl, by omega, h.2, k _ G H (Gr.refl e) ⟨rfl, h.2⟩⟩) hm ha hg (by decide +kernel) (by decide) (by decide) he hpl
end
section
variable {X : Cx} {a : Expr} {σ : L2.St} {G : Hp} {p p2 pos : Pos} {k : Nat}
theorem reps_ints {G : Hp} : ∀ {vs : List V} {l : List Int}, Reps G vs l → vs = l.map V.int
  | _, _, .nil => rfl
  | _, _, .cons (h : _ = V.int _) t => by rw [h, reps_ints t]; rfl
theorem ints_reps {G : Hp} : ∀ (l : List Int), Reps G (l.map V.int) l
  | [] => .nil
  | _ :: l => .cons rfl (ints_reps l)
theorem de_sum {l : List Int} (hm : X.mg ("sum" : Str) = none) (ha : DE X a σ G l) (hc : X.calm = true := by rfl) (hg : Gl X "sum" := by rfl)
    (he : starEach [a] X.env = (false, eval a X.env) :: starEach [] X.env := by rfl) (hpl : (backTo pos (starEach [] X.env)).any (·.1) = false := by rfl) : DE X (.Call (.Name "sum" p) [a] [] pos) σ G l.sum :=
  de_callB (cr_sum hc) (fun G H u e r1 Q k => by
    obtain ⟨q, vs, rfl, hq, hz, r⟩ := r1
    have ev := reps_ints r
    subst ev
    exact ⟨q, l, rfl, .inl (.inl (e _ _ hq)), k _ G H (Gr.refl e) rfl⟩) hm ha hg (by decide +kernel) (by decide) (by decide) he hpl
end
structure Scr where
  ns : List Int
theorem SqL.ex {K : PySem.W.Frag} {H H' : Hp} {a : Addr} {xs : List V} (h : SqL K H a xs) (e : Ex H H') : SqL K H' a xs := by
  rcases h with (h | ⟨o, h⟩) | h
  · exact .inl (.inl (e _ _ h))
  · exact .inl (.inr ⟨o, e _ _ h⟩)
  · exact .inr h
section
variable [PC]
instance instRepScr : Rep Scr := ⟨fun G v s => ∃ p, v = .ref p ∧ SqL PC.K G p (s.ns.map V.int) ∧ s.ns.length ≤ sizeLine, fun e ⟨p, h1, h2, h3⟩ => ⟨p, h1, SqL.ex h2 e, h3⟩⟩
variable {X : Cx} {a : Expr} {σ : L2.St} {G : Hp} {p p2 pos : Pos} {k : Nat}
theorem de_lenScr {s : Scr} (hK : PC.K = X.K) (hm : X.mg ("len" : Str) = none) (ha : DE X a σ G s) (hg : Gl X "len" := by rfl)
    (he : starEach [a] X.env = (false, eval a X.env) :: starEach [] X.env := by rfl) (hpl : (backTo pos (starEach [] X.env)).any (·.1) = false := by rfl) : DE X (.Call (.Name "len" p) [a] [] pos) σ G (s.ns.length : Int) := fun G1 H1 e1 e2 Q k =>
  ⟨_, pe_callB call_len_seq hg hm (by decide +kernel) (pa_cons WE.pe pa_nil he) (by decide) (by decide) he hpl, ha G1 H1 e1 e2 _ fun v G2 H2 g r => by
    obtain ⟨q, rfl, hq, hz⟩ := r
    rw [hK] at hq
    exact ⟨q, _, rfl, .inl (SqL.ex hq g.gh), k _ G2 H2 g (by show V.int _ = V.int _; rw [List.length_map])⟩⟩
theorem do_sliceScr {s : Scr} {lo hi : Option Expr} {i j : Option Int} (hK : PC.K = X.K) (ha : DE X a σ G s) (hl : DP X lo σ G i) (hh : DP X hi σ G j) : DO X (.Subscript a (.Slice lo hi none p2) pos) σ G (cut s.ns i j) := fun G1 H1 e1 e2 Q k =>
  ⟨_, pe_slice sl_list WE.pe WO.po WO.po, ha G1 H1 e1 e2 _ fun v G2 H2 g2 r2 => hl G2 H2 (e1.trans g2.gg) g2.gh _ fun G3 H3 g3 => hh G3 H3 (e1.trans (g2.gg.trans g3.gg)) g3.gh _ fun G4 H4 g4 => by
    obtain ⟨p, rfl, hq, hz⟩ := Rep.mono (g3.gg.trans g4.gg) r2
    rw [hK] at hq
    refine ⟨p, _, rfl, SqL.ex hq g4.gh, fun q hq => k q _ G4 _ (((g2.and g3).and g4).and (Gr.own (M := []) g4.gh hq)) (g2.dom _ (g3.dom _ (g4.dom _ hq))) (Ex.fresh g4.gh hq) upd_same (Nat.le_trans (cutV_length _ _ _) (by rw [List.length_map]; exact hz)) ?_⟩
    unfold cutV cut
    rw [List.length_map]
    exact Reps.take _ (Reps.drop _ (ints_reps _))⟩
end
/-- a thing at u, of which nothing is said -/
structure Hd where
  u : Addr
instance : Rep Hd := ⟨fun _ v h => v = .ref h.u, fun _ h => h⟩
theorem hd_reps {G : Hp} : ∀ (us : List Addr), Reps G (us.map V.ref) (us.map Hd.mk)
  | [] => .nil
  | _ :: us => .cons rfl (hd_reps us)
def kP {β : Type} [Rep β] : Kd (List (List β)) := ⟨fun x H G' H' w => ∃ us : List Addr, us.length = x.length ∧ rep G' w (us.map Hd.mk) ∧ us.Nodup ∧ ∀ (i : Nat) (u : Addr) (p : List β), us[i]? = some u → x[i]? = some p → H u = none ∧ G' u = none ∧ ∃ o, H' u = some o ∧ (cl p).ok G' o⟩
section
variable {X : Cx} {α β γ : Type} [Rep α] [Rep β] [Rep γ] {e a b c tg iter elt : Expr} {ifs : List Expr} {σ : L2.St} {G G' : Hp} {pos pos' p2 p : Pos} {scope : Scope}
def DPz (X : Cx) (e : Expr) (σ : L2.St) (G : Hp) (ls : List (List β)) : Prop := ∀ G1 H1, Ex G G1 → Ex G1 H1 → ∀ Q : VK, (∀ w G2 H2, Gr [] G1 H1 G2 H2 → kP.is ls H1 G2 H2 w → Q w H2) → WE X e σ H1 Q
theorem dp_lc {l : List α} {own : List (Str × Nat)} {vs : List Nat} {T : α → L2.St → Hp → L2.St → Prop} (h : α → List β) (hN : X.N.Nodup) (hc : X.calm = true) (src : DI X tg iter σ G l) (ok : BlkOk X.N X.env.scope scope own) (ho : own.map (·.2) = vs) (tgt : DG X scope tg vs T)
    (he : ∀ (i : Nat) y σ2 G', l[i]? = some y → Ex G G' → T y (wipe σ vs) G' σ2 → ∀ Y, InBlk X scope Y → DO Y elt σ2 G' (h y)) (hs : ∀ x, foldedSetIterable iter X.env x = pure x := by intro _; rfl) :
    DPz X (.ListComp elt [⟨tg, iter, [], 0⟩] scope pos) σ G (l.map h) := fun G1 H1 e1 e2 Q k => by
  obtain ⟨g, hg, tg1⟩ := tgt.ex
  let te : TE := fun σ H Q => ∀ (s : Shared) (H0 : Hp) (C : Addr) (cl : List (Str × Addr)) (fp : List Addr), WE (X.blk s H0 scope (compEnvC scope cl C X.env) fp) elt σ H Q
  have main := src G1 H1 e1 e2 (fun J H2 => ∀ D, H2 D = none → ∃ W : Nat → Nat → Hp → Prop, (∃ m, W 0 m (upd H2 D (.lst []))) ∧ ∀ i m H, W i m H →
      (J.stop i H ∧ Q (.ref D) H) ∨ (J.go i H ∧ ∃ Nx : Hp → Prop, (∀ H', Nx H' → ∃ m', m' < m ∧ W (i + 1) m' H') ∧ ∀ x H', J.yld i H x H' → g x (wipe σ (own.map (·.2))) H' fun σ2 H2 => wipe σ2 (own.map (·.2)) = wipe σ (own.map (·.2)) ∧ tYes σ2 H2 fun b H3 =>
        if b = true then te σ2 H3 fun y H4 => ∃ acc, H4 D = some (.lst acc) ∧ acc.length < sizeLine ∧ Nx (upd H4 D (.lst (acc ++ [y]))) else Nx H3)) ?_
  · obtain ⟨wi, hw, q⟩ := main
    exact ⟨_, pe_lc hc hN hw ok hg (fun s H C cl fp => pts_nil) (te := te) (fun s H C cl fp => ⟨fun pins s1 σ1 H1 Q1 I1 z => WE.pe.run pins s1 σ1 H1 Q1 I1 (z s H C cl fp)⟩) hs, q⟩
  · intro J Gw Y G2 H2 g2 wk hGw hY hz D hD
    rw [ho]
    have eD : Ex H2 (upd H2 D (.lst [])) := Ex.new hD
    have nD : G2 D = none := Ex.fresh g2.gh hD
    refine lc_it wk (fun i H => ∃ G3 us, Gr [] G2 H2 G3 H ∧ G3 D = none ∧ H D = some (.lst (us.map V.ref)) ∧ us.length = (l.take i).length ∧ us.Nodup ∧ D ∉ us ∧ ∀ (j : Nat) (u : Addr) (p : List β), us[j]? = some u → ((l.take i).map h)[j]? = some p → H2 u = none ∧ G3 u = none ∧ ∃ o, H u = some o ∧ (cl p).ok G3 o) ⟨G2, [], Gr.own g2.gh hD, nD, upd_same, rfl, List.nodup_nil, by simp, fun j u p hj => by simp at hj⟩
      (fun i H _ ⟨G3, acc, g3, _⟩ => hGw H (fun x o q => g3.gh x o (g3.gg x o q))) ?_ ?_
    · rintro i x H H' hi ⟨G3, us, g3, n3, hA, hl, nd, hDu, hu⟩ y
      obtain ⟨z, G4, hzl, g4, rz⟩ := hY i G3 H x H' hi g3.gg g3.gh y
      refine tg1 x z σ G4 H' g4.gh rz _ fun σ2 hT hw => ⟨hw, ?_⟩
      have eG4 : Ex G G4 := e1.trans (g2.gg.trans (g3.gg.trans g4.gg))
      have tk : l.take (i + 1) = l.take i ++ [z] := by rw [List.take_add_one, hzl]; rfl
      change te σ2 H' _
      intro s H0 C cl fp
      refine he i z σ2 G4 hzl eG4 hT _ ⟨s, H0, C, cl, fp, rfl⟩ G4 H' (Ex.refl _) g4.gh _ fun q ws G6 H6 g6 n1 n2 hq hwz r6 => ?_
      have hA4 : H' D = some (.lst (us.map V.ref)) := g4.hh _ _ hA
      have hA6 : H6 D = some (.lst (us.map V.ref)) := g6.hh _ _ hA4
      have n6 : G6 D = none := Gr.unk g6 hA4 (Gr.unk g4 hA n3)
      have g36 : Gr [] G2 H2 G6 H6 := (g3.and g4).and g6
      have hlen : us.length < sizeLine := by rw [hl, List.length_take]; omega
      have qD : q ≠ D := fun e => by rw [e, hA4] at n1; cases n1
      have hqu : q ∉ us := fun e => by
        obtain ⟨j, hj⟩ := List.mem_iff_getElem?.mp e
        have hjl := (List.getElem?_eq_some_iff.mp hj).1
        obtain ⟨_, _, o, hh, _⟩ := hu j q _ hj (List.getElem?_eq_getElem (by rw [List.length_map, ← hl]; exact hjl))
        rw [g4.hh _ _ hh] at n1; cases n1
      refine ⟨us.map V.ref, hA6, by rw [List.length_map]; exact hlen, G6, us ++ [q], g36.set (.inr hD) n6, n6, by rw [upd_same, List.map_append]; rfl, by rw [tk, List.length_append, List.length_append, hl]; rfl, ?_, ?_, ?_⟩
      · refine List.nodup_append.mpr ⟨nd, by simp, fun a ha b hb => ?_⟩
        have e : b = q := by simpa using hb
        subst e
        exact fun z => hqu (z ▸ ha)
      · intro hm
        rcases List.mem_append.mp hm with hm | hm
        · exact hDu hm
        · exact qD (List.mem_singleton.mp hm).symm
      · intro j u p hj hp
        rw [tk, List.map_append] at hp
        by_cases hjl : j < us.length
        · rw [List.getElem?_append_left hjl] at hj
          rw [List.getElem?_append_left (by rw [List.length_map, ← hl]; exact hjl)] at hp
          obtain ⟨a1, a2, o, a3, a4⟩ := hu j u p hj hp
          have ne : u ≠ D := fun e => hDu (e ▸ List.mem_of_getElem? hj)
          have g46 := g4.and g6
          exact ⟨a1, Gr.unk g46 a3 a2, o, by rw [upd_ne ne]; exact g46.hh _ _ a3, (Dn.cl p).mono g46.gg a4⟩
        · rw [List.getElem?_append_right (by omega)] at hj
          have hj0 : j - us.length = 0 := by
            have := (List.getElem?_eq_some_iff.mp hj).1
            simpa using this
          rw [hj0] at hj
          have eu : q = u := by simpa using hj
          subst eu
          rw [List.getElem?_append_right (by rw [List.length_map, ← hl]; omega)] at hp
          have e0 : j - ((l.take i).map h).length = 0 := by rw [List.length_map, ← hl]; exact hj0
          rw [e0] at hp
          have ep : h z = p := by simpa using hp
          subst ep
          exact ⟨g3.dom _ (g4.dom _ n1), n2, _, by rw [upd_ne qD]; exact hq, ws, rfl, hwz, r6⟩
    · rintro H ⟨G3, us, g3, n3, hA, hl, nd, hDu, hu⟩
      rw [List.take_length] at hl hu
      have gf := (g2.and g3).freeze hA (g2.dom _ hD)
      refine k (.ref D) _ H gf ⟨us, by rw [hl, List.length_map], ⟨D, _, rfl, upd_same, by rw [List.length_map, hl]; exact hz, ?_⟩, nd, fun j u p hj hp => ?_⟩
      · exact hd_reps us
      · obtain ⟨a1, a2, o, a3, a4⟩ := hu j u p hj hp
        have ne : u ≠ D := fun e => hDu (e ▸ List.mem_of_getElem? hj)
        exact ⟨g2.dom _ a1, by rw [upd_ne ne]; exact a2, o, a3, (Dn.cl p).mono (Ex.new n3) a4⟩
end

section
variable {B : Bs} {X : Cx} {α β γ δ A : Type} [Rep α] [Rep β] [Rep γ] [Rep δ] [Args A] {e a b c tg iter elt : Expr} {es : List Expr} {σ : L2.St} {G G' : Hp} {pos pos' p2 p pos2 : Pos} {scope : Scope} {sts rest thn els body : List Stmt} {x : Str} {f : Addr} {lvl k : Nat} {ps : List Str}
/-- f(..), that hands back a list of lists of one's own -/
theorem dp_call {pre : A → Prop} {g : A → List (List β)} {y : A} {z : List (List β)} (F : Has X.prog X.w X.K X.mg X.base x f lvl ps (SpN kP pre g)) (hr : Rm k X.A) (ha : DA X (e :: es) σ G y) (hp : pre y) (hz : g y = z := by rfl) (hl : lvl ≤ k := by decide) (hg : Gl X x := by rfl) (hdb : (x == ("__debug__" : Str)) = false := by decide)
    (he : starEach (e :: es) X.env = (false, eval e X.env) :: starEach es X.env := by rfl) (hpl : (backTo pos (starEach es X.env)).any (·.1) = false := by rfl) : DPz X (.Call (.Name x p) (e :: es) [] pos) σ G z := fun G1 H1 e1 e2 Q k => by
  subst hz
  exact we_call F hr (ha G1 H1 e1 e2 _ fun vs G2 H2 g2 r => ⟨G2, y, g2.gh, r, hp, fun w G3 H3 g3 ⟨us, h1, h2, h3, h4⟩ => k w G3 H3 (g2.and g3) ⟨us, h1, h2, h3, fun i u p hu hp => by
    obtain ⟨a1, a2, a3⟩ := h4 i u p hu hp
    exact ⟨g2.dom _ a1, a2, a3⟩⟩⟩) hl hg hdb he hpl
/-- what a turn hands back: data, or goes on -/
def JP {δ : Type} [Rep δ] (B : Bs) (T : L2.St → Hp → Prop) : Jd (δ ⊕ Unit) := fun b => ((fun Q => ∀ r, b = .inl r → RD B [] r Q), (fun σ'' G'' _ => b = .inr () ∧ T σ'' G''))
def loopP {α ρ : Type} (f : α → ρ ⊕ Unit) : List α → ρ ⊕ Unit
  | [] => .inr ()
  | x :: l => match f x with
    | .inl r => .inl r
    | .inr _ => loopP f l
def loopOkP {α ρ : Type} (f : α → ρ ⊕ Unit) (okf : α → Prop) : List α → Prop
  | [] => True
  | x :: l => okf x ∧ (f x = .inr () → loopOkP f okf l)
theorem sj_forP {l : List (List β)} {J : Jd δ} {k : δ} {v : Str} (j : Nat) (T : L2.St → Hp → Prop) (f : List β → δ ⊕ Unit) (okf : List β → Prop) (src : DPz X iter σ G l) (hN : X.N.Nodup) (hj : X.N[j]? = some v) (h0 : ∀ G', Ex G G' → T σ G') (hT : ∀ σ' G' G'', Ex G' G'' → T σ' G' → T σ' G'') (hok : loopOkP f okf l)
    (hs : ∀ (B' : Bs) (u : Addr) (y : List β) σ' G', B'.M = [u] → Ex G G' → T σ' G' → okf y → SJ B' X body (σ'.set j (some (.ref u))) G' [(u, cl y)] (JP B' T) (f y))
    (hJ : ∀ r Q, (J r).1 Q → RD B [] r Q) (hd : ∀ σ' G', loopP f l = .inr () → Ex G G' → T σ' G' → SJ B X rest σ' G' [] J k) (hx : L2.Loc X.env.scope v := by first | exact Or.inl rfl | exact Or.inr rfl) (hf : X.fn v = true ∨ X.env.scope.names.lookup v = some .local := by first | exact .inl rfl | exact .inr rfl) (hp : PassesOwn (model X.prog X.w) X.A X.env X.xe := by exact PassesOwn.never) (hc : X.calm = true := by rfl)
    (hfs : ∀ x, foldedSetIterable iter X.env x = pure x := by intro _; rfl) : SJ B X (.For (.Name v pos') iter body [] pos :: rest) σ G [] J (elimR (loopP f l) id fun _ => k) := fun G1 H1 e1 o1 D k1 k2 => by
  have main : WE X iter σ H1 fun w H2 => ∃ q, w = .ref q ∧ (∃ xs, SqL X.K H2 q xs) ∧ ∃ W : Nat → Nat → L2.St → Hp → Prop, (∃ m, W 0 m σ H2) ∧ ∀ i' m σ H, W i' m σ H →
      ((Itl X.K q).stop i' H ∧ (WS X rest D) σ H) ∨ ((Itl X.K q).go i' H ∧ ∃ N : L2.St → Hp → Prop, (∀ σ' H', N σ' H' → ∃ m', m' < m ∧ W (i' + 1) m' σ' H') ∧ ∀ x H', (Itl X.K q).yld i' H x H' → gName j x σ H' fun σ2 H2 => WS X body { ({ D with nx := WS X rest D } : Ends) with nx := N, ct := N, bk := WS X rest D } σ2 H2) := by
    refine src G1 H1 e1 o1.ex _ fun w G2 H2 g2 ⟨us, hul, hw, hnd, hus⟩ => ?_
    obtain ⟨q, vs, rfl, hq, hz, r⟩ := hw
    have hvs : vs = us.map V.ref := by
      have : ∀ {vs : List V} {us : List Addr}, Reps G2 vs (us.map Hd.mk) → vs = us.map V.ref := by
        intro vs us
        induction us generalizing vs with
        | nil => intro r; cases r; rfl
        | cons u us ih =>
          intro r
          cases r with
          | cons r1 r2 =>
            have r1' : _ = V.ref u := r1
            rw [r1', ih r2]; rfl
      exact this r
    subst hvs
    have o2 := o1.grow g2
    refine ⟨q, rfl, ⟨_, .inl (.inl (g2.gh _ _ hq))⟩, ?_⟩
    have wk : Walk (Itl X.K q) (us.map V.ref).length (fun H => SqL X.K H q (us.map V.ref)) _ := walk_list
    refine for_it wk (D := { D with nx := WS X rest D }) (tb := WS X body) (g := gName j) (fun n σ' H => ∃ G3, Ex G2 G3 ∧ On B [] G3 H ∧ T σ' G3 ∧ (∀ (i : Nat) u y, n ≤ i → us[i]? = some u → l[i]? = some y → B.H u = none ∧ G3 u = none ∧ ∃ o, H u = some o ∧ (cl y).ok G3 o) ∧ loopP f l = loopP f (l.drop n) ∧ loopOkP f okf (l.drop n))
      ⟨G2, Ex.refl _, o2, h0 G2 (e1.trans g2.gg), fun i u y _ hu hy => by
        obtain ⟨a1, a2, a3⟩ := hus i u y hu hy
        exact ⟨o1.gr.dom _ a1, a2, a3⟩, rfl, hok⟩ (fun n σ' H _ ⟨G3, e3, o3, _⟩ => .inl (.inl (o3.ex _ _ (e3 _ _ hq)))) ?_ ?_
    · rintro n v' σ' H0 H hn ⟨G3, e3, o3, t3, hcs, q1, q2⟩ ⟨rfl, hv⟩
      rw [List.getElem?_map] at hv
      obtain ⟨u, hu, rfl⟩ := Option.map_eq_some_iff.mp hv
      rw [List.length_map] at hn
      have hln : n < l.length := by rw [← hul]; exact hn
      obtain ⟨y, hy⟩ : ∃ y, l[n]? = some y := ⟨_, List.getElem?_eq_getElem hln⟩
      have hd1 : l.drop n = y :: l.drop (n + 1) := by
        obtain ⟨hl, he⟩ := List.getElem?_eq_some_iff.mp hy
        rw [List.drop_eq_getElem_cons hl, he]
      rw [hd1] at q1 q2
      obtain ⟨q3, q4⟩ := q2
      obtain ⟨b1, b2, b3⟩ := hcs n u y (Nat.le_refl _) hu hy
      have on := on_start (p := y) o3.ex b2 b3
      show WS X body _ (σ'.set j (some (.ref u))) H
      have back : ∀ {Cp : Cs} {G5 H5 : Hp}, On ⟨[u], G3, H⟩ Cp G5 H5 → On B [] G5 H5 := fun {Cp G5 H5} o5 => ⟨o3.gr.trans o5.gr fun z hz => .inr (by rw [List.mem_singleton.mp hz]; exact b1), fun i u c hi => by simp at hi, fun i u c hi => by simp at hi, List.nodup_nil⟩
      refine hs ⟨[u], G3, H⟩ u y σ' G3 rfl (e1.trans (g2.gg.trans e3)) t3 q3 G3 H (Ex.refl _) on _ (fun r hr w G5 H5 o5 r5 => ?_) fun σ5 G5 H5 C5 e5 o5 ⟨hfy, t5⟩ => ?_
      · have e : elimR (loopP f l) id (fun _ => k) = r := by
          rw [q1]
          unfold loopP
          rw [hr] <;> rfl
        rw [e] at k1
        exact hJ r _ k1 w G5 H5 (back o5) r5
      · refine ⟨G5, e3.trans e5, back o5, t5, fun i u' y' hi hu' hy' => ?_, ?_, q4 hfy⟩
        · obtain ⟨c1, c2, o, c3, c4⟩ := hcs i u' y' (by omega) hu' hy'
          have ne : u' ≠ u := fun e => by
            subst e
            have := (List.getElem?_inj (by rw [hul]; exact hln) hnd).mp (hu.trans hu'.symm)
            omega
          exact ⟨c1, Gr.unk o5.gr c3 c2, o, o5.gr.keep _ _ c3 (fun z => ne (List.mem_singleton.mp z)), (cl y').mono o5.gr.gg c4⟩
        · rw [q1]
          conv => lhs; unfold loopP
          rw [hfy]
    · rintro σ' H ⟨G3, e3, o3, t3, hcs, q1, q2⟩
      rw [List.length_map, hul, List.drop_length] at q1
      have e : elimR (loopP f l) id (fun _ => k) = k := by rw [q1] <;> rfl
      rw [e] at k1 k2
      exact hd σ' G3 q1 (e1.trans (g2.gg.trans e3)) t3 G3 H (Ex.refl _) o3 D k1 fun σ5 G5 H5 C5 e5 o5 p5 => k2 σ5 G5 H5 C5 (g2.gg.trans (e3.trans e5)) o5 p5
  exact ⟨_, pss_cons (ps_for hp hc (pi_list WE.pe) (pg_name hN hj hx hf) WS.pss hfs) WS.pss, main⟩
end
end Dn

namespace Dn
open Dn.Rep (rep)
open PySem L2
inductive IS where
  | i (n : Int)
  | s (z : Str)
  deriving DecidableEq
instance : Inhabited IS := ⟨.i 0⟩
instance : Rep IS := ⟨fun _ v x => match x with
  | .i n => v = .int n
  | .s z => v = .str z ∧ StrW z, fun _ h => h⟩
instance : Dat IS := ⟨fun x => match x with
  | .i n => .int n
  | .s z => .str z, fun K {_} {_} {x} h => by
    cases x with
    | i n => cases h; exact .int n
    | s z => cases h.1; exact .str z, fun {_} {_} {x} h => by
    cases x with
    | i n => simp [PyData.canLay0]
    | s z => exact h.2.2, 0, fun x => by cases x <;> simp [PyData.depth], fun {a b} => by cases a <;> cases b <;> simp [PyData.eqv]⟩
theorem reps_is {G : Hp} : ∀ {vs : List V} {l : List Int}, Reps G vs l → Reps G vs (l.map IS.i)
  | _, _, .nil => .nil
  | _, _, .cons (h : _ = V.int _) t => .cons h (reps_is t)
section
variable {B : Bs} {X : Cx} {α β γ δ A : Type} [Rep α] [Rep β] [Rep γ] [Rep δ] [Args A] {e a b c tg iter elt : Expr} {es : List Expr} {σ : L2.St} {G G' : Hp} {C C' C1 C2 : Cs} {pos pos' p2 p pos2 : Pos} {scope : Scope} {sts rest thn els body : List Stmt} {x : Str} {f : Addr} {lvl k : Nat} {ps : List Str} {R : VK → Prop} {P : L2.St → Hp → Cs → Prop}
theorem DE.toIS {l : List Int} (h : DE X e σ G l) : DE X e σ G (l.map IS.i) := fun G1 H1 e1 e2 Q k => h G1 H1 e1 e2 Q fun v G2 H2 g ⟨p, vs, h1, h2, h3, h4⟩ => k v G2 H2 g ⟨p, vs, h1, h2, h3, reps_is h4⟩
theorem sb_nilT (n : Nat) (h : ∀ G', Ex G G' → P σ G' (C.take n)) : SB B X [] σ G C R P := fun G1 H1 e1 o D _ k2 => ⟨_, pss_nil, k2 σ G1 H1 (C.take n) (Ex.refl G1) (o.first n) (h G1 e1)⟩
theorem sb_nilLn {ρ S : Type} {Rg : ρ → VK → Prop} {T : S → L2.St → Hp → Cs → Prop} {s : S} (n : Nat) (h : ∀ G', Ex G G' → T s σ G' (C.take n)) : SJ B X [] σ G C (JL Rg T) (.inr s) := sb_nilT n fun G' e => ⟨s, rfl, h G' e⟩
theorem sb_nilFn {S : Type} {T : S → L2.St → Hp → Cs → Prop} {s : S} (n : Nat) (h : ∀ G', Ex G G' → T s σ G' (C.take n)) : SJ B X [] σ G C (JF T) s := sb_nilT n fun G' e => h G' e
theorem st_val {p : Bool} (h : SE B X e σ G C p C') (he : ∀ whole, isTrue e X.env whole = (do let v ← whole; standAt e.pos; holding [v] (truthy v)) := by intro _; rfl) : ST B X e σ G C p C' := fun G1 H1 e1 o Q k =>
  ⟨_, pt_val WE.pe he, h G1 H1 e1 o _ fun v G2 H2 e2 o2 r => ⟨p, r, k G2 H2 e2 o2⟩⟩
theorem st_not {p : Bool} (h : ST B X a σ G C p C') : ST B X (.UnaryOp .Not a pos) σ G C (!p) C' := fun G1 H1 e1 o Q k => ⟨_, pt_not WT.pt, h G1 H1 e1 o _ fun G2 H2 e2 o2 => k G2 H2 e2 o2⟩
theorem DE.asIS {z : Str} (h : DE X e σ G z) : DE X e σ G (IS.s z) := fun G1 H1 e1 e2 Q k => h G1 H1 e1 e2 Q fun v G2 H2 g r => k v G2 H2 g r
theorem DE.asISi {z : Int} (h : DE X e σ G z) : DE X e σ G (IS.i z) := fun G1 H1 e1 e2 Q k => h G1 H1 e1 e2 Q fun v G2 H2 g r => k v G2 H2 g r
/-- the same list, its ints among texts -/
theorem sb_toIS {l : List Int} {u : Addr} (i : Nat) (hi : C[i]? = some (u, cl l)) (k : SB B X sts σ G (C.set i (u, cl (l.map IS.i))) R P) : SB B X sts σ G C R P := fun G1 H1 e1 o D k1 k2 => by
  obtain ⟨ob, h1, h2, vs, h3, h4, h5⟩ := o.at_ i u _ hi
  have ex : upd H1 u ob = H1 := by
    funext z
    by_cases q : z = u
    · subst q; rw [upd_same, h1]
    · rw [upd_ne q]
  have o2 := o.put (o := ob) (c' := cl (l.map IS.i)) hi ⟨vs, h3, h4, reps_is h5⟩
  rw [ex] at o2
  exact k G1 H1 e1 o2 D k1 k2
theorem made {ε : Type} {Cl : Addr} {ic : ε → Cont} {pre : A → Prop} {g : A → ε} {y : A} {G2 H2 : Hp} {vs : List V} {Q : VK} {E : XK} (gh : Ex G2 H2) (r : Args.rel y G2 vs) (hp : pre y) (k0 : ∀ q G3 H3 o, Gr [] G2 H2 G3 H3 → G3 q = some o → (ic (g y)).ok G3 o → Q (.ref q) H3) (u dx : Addr) (n1 : H2 u = none) (n2 : H2 dx = none) (ne : dx ≠ u) :
    SpI Cl ic pre g (.ref u :: (vs ++ [])) (upd (upd H2 dx (.own u)) u (.ins Cl dx [])) (fun v H3 => v = .non ∧ Q (.ref u) H3) E := by
  have hex : Ex G2 (upd (upd H2 dx (.own u)) u (.ins Cl dx [])) := (gh.trans (Ex.new n2)).trans (Ex.new (by rw [upd_ne (Ne.symm ne)]; exact n1))
  refine ⟨G2, u, dx, y, vs ++ [], rfl, hex, Ex.fresh gh n1, upd_same, by rw [List.append_nil]; exact r, hp, fun G3 H3 g3 ⟨o, h1, h2⟩ => ⟨rfl, ?_⟩⟩
  have ga : Gr [] G2 H2 G2 (upd (upd H2 dx (.own u)) u (.ins Cl dx [])) := Gr.of_ex gh ((Ex.new n2).trans (Ex.new (by rw [upd_ne (Ne.symm ne)]; exact n1)))
  have gb : Gr [] G2 H2 G3 H3 := ga.trans g3 fun z hz => .inr (by rw [List.mem_singleton.mp hz]; exact n1)
  have gd := gb.freeze h1 n1
  have hx : Ex G3 (upd G3 u o) := fun z q hq => by
    by_cases w : z = u
    · subst w; rw [gb.gh _ _ hq] at h1; cases h1; exact upd_same
    · rw [upd_ne w]; exact hq
  exact k0 u _ H3 o gd upd_same ((ic (g y)).mono hx h2)
theorem se_Panel [PC] {pre : A → Prop} {g : A → PanelD} {y : A} {z : PanelD} (F : HasF X.prog X.w X.K X.mg X.base f lvl ps (SpI (PC.at_ "Panel") icP pre g)) (M : Mk X.K (PC.at_ "Panel") f) (hm : X.mg ("Panel" : Str) = some (.ref (PC.at_ "Panel"))) (hr : Rm k X.A) (ha : SA B X (e :: es) σ G C y C1) (hp : pre y) (hz : g y = z := by rfl)
    (hl : lvl + 1 ≤ k := by decide) (hg : Gl X "Panel" := by rfl)
    (he : starEach (e :: es) X.env = (false, eval e X.env) :: starEach es X.env := by rfl) (hpl : (backTo pos (starEach es X.env)).any (·.1) = false := by rfl) : SE B X (.Call (.Name "Panel" p) (e :: es) [] pos) σ G C z C1 := fun G1 H1 e1 o1 Q q => by
  obtain ⟨fd, hb, F⟩ := F.ex
  exact ⟨_, pe_makeG M F (hr.mono hl) hg hm hb .nil pass0 WA.pa (by decide) he hpl, ha G1 H1 e1 o1 _ fun vs G2 H2 e2 o2 r => fun u dx n1 n2 ne =>
    made o2.ex r hp (fun u G3 H3 o g3 h1 h2 => q _ G3 H3 (e2.trans g3.gg) (o2.grow g3) ⟨u, o, rfl, h1, by rw [← hz]; exact h2⟩) u dx n1 n2 ne⟩
end
section
variable {P : Program} {w : World} {K : PySem.W.Frag} {mg : Str → Option Value} {base : Heap} {x qual : Str} {params : Arguments} {scope : Scope} {f : Addr} {N ps : List Str} {k : Nat} {e : Expr} {pos : Pos} {rest : List Stmt}
variable {A β δ : Type} [Args A] [Rep β] [Rep δ]
theorem has_P {pre : A → Prop} {g : A → List (List β)} (F : ∃ fd, FunD K x qual params (.Return (some e) pos :: rest) scope [] [] f fd) (hm : mg x = some (.ref f)) (S : FnScope N ps scope) (hb : BindOk x qual params (.Return (some e) pos :: rest) scope ps) (len : ∀ a G vs, Args.rel (A := A) a G vs → vs.length = ps.length)
    (h : ∀ X, Body P w K mg base N qual scope f X → Rm k X.A → ∀ vs a G, Args.rel a G vs → pre a → DPz X e (start N vs) G (g a)) : Has P w K mg base x f (k + 1) ps (SpN kP pre g) :=
  has_of F hm S hb (fun vs H Q E ⟨G, a, eG, r, _⟩ => len a G vs r) fun X hX hr H vs Q E ⟨G, a, eG, r, hp, q⟩ =>
    ⟨_, pss_cons (ps_ret WE.pe) pss_never, h X hX hr vs a G r hp G H (Ex.refl _) eG Q fun w G2 H2 g2 hk => q w G2 H2 g2 hk⟩
end
end Dn

namespace Dn
open Dn.Rep (rep)
open PySem L2
section
variable {X : Cx} {α β γ : Type} [Rep α] [Rep β] [Rep γ] {e a b c tg : Expr} {es : List Expr} {σ : L2.St} {G G' : Hp} {pos pos' p2 p apos : Pos}
theorem des_star {l m : List α} (ha : DE X e σ G l) (hs : DEs X es σ G m) (hst : starEach (.Starred e p :: es) X.env = (true, eval e X.env) :: starEach es X.env := by rfl) : DEs X (.Starred e p :: es) σ G (l ++ m) := fun G1 H1 e1 e2 Q k =>
  ⟨_, StX.pa_star WE.pe WA.pa hst, ha G1 H1 e1 e2 _ fun v G2 H2 g r => by
    obtain ⟨q, vs, rfl, hq, hz, rs⟩ := r
    exact ⟨q, vs, rfl, .inr (.inl (.inl (g.gh _ _ hq))), hs G2 H2 (e1.trans g.gg) g.gh _ fun ws G3 H3 g3 r3 => k _ G3 H3 (g.and g3) ((Reps.mono g3.gg rs).app r3)⟩⟩
theorem do_listK {l : List α} (h : DEs X es σ G l) (hl : l.length ≤ sizeLine) : DO X (.List es pos) σ G l := do_list h hl
theorem keys_reps {G : Hp} : ∀ {l : List Str}, (∀ x ∈ l, StrW x) → Reps G (l.map V.str) l := strs_reps
def dkeys (d : Dict α) : List Str := d.kvs.map (·.1)
/-- for k in d -/
theorem di_keys {d : Dict α} (h : DE X e σ G d) : DI X tg e σ G (dkeys d) := fun G1 H1 e1 e2 R k =>
  ⟨_, pi_keys WE.pe, h G1 H1 e1 e2 _ fun v G2 H2 g r => by
    obtain ⟨p, kv, od, rfl, hp, hk, _, hz, hw⟩ := r
    have hl : (dkeys d).length = kv.length := by
      have := congrArg List.length hk
      unfold dkeys
      rw [List.length_map, List.length_map] at this
      rw [List.length_map]; exact this.symm
    refine ⟨p, od, rfl, .inl ⟨kv, g.gh _ _ hp, k (Itk p od kv) (fun H => H p = some (.frz od (.dK kv))) _ G2 H2 g (by rw [hl]; exact walk_keys) (fun H3 e3 => e3 _ _ hp) (fun i G3 H3 x H' hi e3 e4 y => ?_) (by unfold dkeys; rw [List.length_map]; exact hz)⟩⟩
    obtain ⟨rfl, kk, w, hkv, rfl⟩ := y
    have h1 : (kv.map (·.1))[i]? = some kk := by rw [List.getElem?_map, hkv]; rfl
    rw [hk, List.getElem?_map] at h1
    obtain ⟨q, hq, rfl⟩ := Option.map_eq_some_iff.mp h1
    exact ⟨q.1, G3, by unfold dkeys; rw [List.getElem?_map, hq]; rfl, Gr.refl e4, rfl, hw q (List.mem_of_getElem? hq)⟩⟩
/-- sorted(d) -/
theorem do_sortedD {d : Dict α} (hm : X.mg ("sorted" : Str) = none) (ha : DE X a σ G d) (h64 : (dkeys d).length < 64) (hc : X.calm = true := by rfl) (hg : Gl X "sorted" := by rfl)
    (he : starEach [a] X.env = (false, eval a X.env) :: starEach [] X.env := by rfl) (hpl : (backTo pos (starEach [] X.env)).any (·.1) = false := by rfl) : DO X (.Call (.Name "sorted" p) [a] [] pos) σ G (srt (dkeys d)) :=
  do_callB (call_sortedD hc) (fun G H u e r1 Q k => by
    obtain ⟨q, kv, od, rfl, hp, hk, _, hz, hw⟩ := r1
    refine ⟨q, kv, dkeys d, rfl, .inr ⟨od, e _ _ hp⟩, by rw [hk]; unfold dkeys; rw [List.map_map]; rfl, h64, fun ys s hpm hs hn => ?_⟩
    have eq : ys = srt (dkeys d) := srt_of hpm hs
    subst eq
    exact k s _ G _ (Gr.own e hn) hn (Ex.fresh e hn) upd_same (by rw [List.length_map, srt_len, sizeLine_eq]; omega) (strs_reps fun x hx => by
      obtain ⟨q, hq, rfl⟩ := List.mem_map.mp (mem_srt.mp hx)
      exact hw q hq)) hm ha hg (by decide +kernel) (by decide) (by decide) he hpl
/-- zip(xs, ys) -/
theorem di_zip {l : List α} {m : List β} {elts : List Expr} {kk : Nat} {tpos : Pos} (hm : X.mg ("zip" : Str) = none) (h : DE X a σ G l) (h2 : DE X b σ G m) (hg : Gl X "zip" := by rfl) (he : starEach [a, b] X.env = (false, eval a X.env) :: starEach [b] X.env := by rfl) (he2 : starEach [b] X.env = (false, eval b X.env) :: starEach [] X.env := by rfl) (hpl : (backTo pos (starEach [b] X.env)).any (·.1) = false := by rfl) :
    DI X (.Tuple elts kk tpos) (.Call (.Name "zip" p) [a, b] [] pos) σ G (l.zip m) := fun G1 H1 e1 e2 R k =>
  ⟨_, pi_zip hg hm (pa_cons WE.pe (pa_cons WE.pe pa_nil he2) he) he hpl, h G1 H1 e1 e2 _ fun v G2 H2 g r => h2 G2 H2 (e1.trans g.gg) g.gh _ fun w G3 H3 g3 r3 => by
    obtain ⟨p, vs, rfl, hp, hz, r⟩ := Rep.mono g3.gg r
    obtain ⟨q, ws, rfl, hq, hz2, r2⟩ := r3
    refine ⟨p, q, vs, ws, rfl, .inl (.inl (g3.gh _ _ hp)), .inl (.inl (g3.gh _ _ hq)), ?_⟩
    have hl : (l.zip m).length = min vs.length ws.length := by rw [List.length_zip, r.len, r2.len]
    refine k (Itz X.K p q) (fun H => SqL X.K H p vs ∧ SqL X.K H q ws) _ G3 H3 (g.and g3) (walk_zip hl) (fun H4 e4 => ⟨.inl (.inl (e4 _ _ hp)), .inl (.inl (e4 _ _ hq))⟩) (fun i G4 H4 x H' hi e4 e5 y => ?_) (by rw [hl]; omega)
    obtain ⟨T, x1, x2, rfl, hT, rfl, q1, q2⟩ := y
    obtain ⟨z1, c1, c2⟩ := r.get q1
    obtain ⟨z2, d1, d2⟩ := r2.get q2
    exact ⟨(z1, z2), _, List.getElem?_zip_eq_some.mpr ⟨c1, d1⟩, Gr.new e5 hT, T, _, _, rfl, upd_same, Rep.mono (e4.trans (Ex.new (Ex.fresh e5 hT))) c2, Rep.mono (e4.trans (Ex.new (Ex.fresh e5 hT))) d2⟩⟩
/-- xs.index(x) -/
def lidx [DecidableEq α] (l : List α) (x : α) : Int := (l.findIdx fun y => decide (y = x) : Nat)
theorem de_index [Flat α] [DecidableEq α] {l : List α} {x : α} {cpos : Pos} (ha : DE X a σ G l) (hb : DE X b σ G x) (h : x ∈ l)
    (hbase : attributeBase a "index" X.env (eval a X.env) = eval a X.env := by rfl)
    (hfew : ((backTo cpos (starEach [b] X.env)).all (fun x => !x.1) && (backToKw cpos (keywordEach [] X.env)).all (fun x => x.1.isSome) && decide ([b].length + ([] : List Keyword).length + (if ([] : List Keyword).isEmpty then 0 else 1) < 30)) = true := by rfl)
    (hline : (apos.endLine == cpos.line) = true := by rfl) (hs : starEach [b] X.env = (false, eval b X.env) :: starEach [] X.env := by rfl) (hplain : (backTo cpos (starEach [] X.env)).any (·.1) = false := by rfl) :
    DE X (.Call (.Attribute a "index" apos) [b] [] cpos) σ G (lidx l x) := fun G1 H1 e1 e2 Q k =>
  ⟨_, pe_bm PySem.F.plainAttrs_list PySem.F.slot_list_index PySem.F.type_list_index (name := "index") mt_index WE.pe (pa_cons WE.pe pa_nil hs) hbase hfew hline hs hplain, ha G1 H1 e1 e2 _ fun v G2 H2 g r => by
    obtain ⟨p, vs, rfl, hp, hz, r⟩ := r
    refine ⟨.inl ⟨rfl, vs, .inl (.inl (g.gh _ _ hp))⟩, hb G2 H2 (e1.trans g.gg) g.gh _ fun w G3 H3 g3 r3 => ?_⟩
    have rr := Reps.mono g3.gg r
    have hj : (l.findIdx fun y => decide (y = x)) < l.length := List.findIdx_lt_length_of_exists ⟨x, h, by simp⟩
    have hy := List.findIdx_getElem (w := hj)
    obtain ⟨z, hz1, hz2⟩ := rr.get' (List.getElem?_eq_getElem hj)
    refine ⟨p, vs, w, _, z, rfl, rfl, .inl (.inl (g3.gh _ _ (g3.gg _ _ hp))), Flat.flat r3, flats rr, hz1, ?_, fun m z' hm hz' => ?_, k _ G3 H3 (g.and g3) rfl⟩
    · have e : l[(l.findIdx fun y => decide (y = x))] = x := by simpa using hy
      exact (Flat.eqf hz2 r3).mpr e
    · obtain ⟨y, hy1, hy2⟩ := rr.get hz'
      have nb := List.not_of_lt_findIdx hm
      obtain ⟨hl, he⟩ := List.getElem?_eq_some_iff.mp hy1
      cases q : eqV z' w with
      | false => rfl
      | true =>
        have := (Flat.eqf hy2 r3).mp q
        rw [he] at nb
        simp [this] at nb⟩
end

/-- what != asks of the class x -/
def neB (x : Str) (K : PySem.W.Frag) : Bool :=
  He.eqO (PySem.W.findIn K (.ref (He.ga K x)) "__ne__") (some (some (.builtin "object.__ne__"))) && decide (PySem.W.mroIn K (He.ga K x) (.type "object") = some true)
theorem neB_ok {x : Str} {K : PySem.W.Frag} (h : neB x K = true) : NeC K (He.ga K x) := by
  obtain ⟨h1, h2⟩ := He.ba h
  exact ⟨He.eqO_ok h1, of_decide_eq_true h2⟩
section
variable [PC] {B : Bs} {X : Cx} {A : Type} [Args A] {e a b c : Expr} {es : List Expr} {σ : L2.St} {G G' : Hp} {C C' C1 C2 C3 : Cs} {pos pos' p2 p apos : Pos} {x m : Str} {f : Addr} {lvl k n : Nat} {ps : List Str}
theorem dc_eqP {x y : PanelD} {z : Bool} {pre : PanelD × PanelD × Unit → Prop} {g0 : PanelD × PanelD × Unit → Bool} (F : HasE X.prog X.w X.K X.mg X.base f n ps (SpN kD pre g0)) (hm : Meth X.K (PC.at_ "Panel") "__eq__" f) (hr : Rm k X.A) (ha : DE X a σ G x) (hb : DE X b σ G y) (hp : pre (x, y, ())) (hz : g0 (x, y, ()) = z := by rfl) (hl : n ≤ k := by decide) : DC X .Eq a b σ G z := by
  obtain ⟨fd, hbn, F⟩ := F.ex
  refine dc_cmp (op_eqOw F hm.at_ hm.fn hbn (hr.room.mono hl)) (fun G H u v e r1 r2 Q k => ?_) ha hb
  obtain ⟨p, dx, fs, rfl, hpp⟩ := panel_ins r1
  obtain ⟨q, dy, gs, rfl, hqq⟩ := panel_ins r2
  exact ⟨p, dx, fs, q, dy, gs, rfl, rfl, e _ _ hpp, e _ _ hqq, fun E => ⟨G, (x, y, ()), e, ⟨_, _, rfl, r1, _, _, rfl, r2, rfl⟩, hp, fun w G' H' g r => k w G' H' g (hz ▸ r)⟩⟩
theorem dc_neP {x y : PanelD} {z : Bool} {pre : PanelD × PanelD × Unit → Prop} {g0 : PanelD × PanelD × Unit → Bool} (F : HasE X.prog X.w X.K X.mg X.base f n ps (SpN kD pre g0)) (hm : Meth X.K (PC.at_ "Panel") "__eq__" f) (N : NeC X.K (PC.at_ "Panel")) (hr : Rm k X.A) (ha : DE X a σ G x) (hb : DE X b σ G y) (hp : pre (x, y, ())) (hz : (!g0 (x, y, ())) = z := by rfl) (hl : n + 1 ≤ k := by decide) : DC X .NotEq a b σ G z := by
  obtain ⟨fd, hbn, F⟩ := F.ex
  refine dc_cmp (op_neOw F hm.at_ hm.fn hbn (hr.room.mono hl) N) (fun G H u v e r1 r2 Q k => ?_) ha hb
  obtain ⟨p, dx, fs, rfl, hpp⟩ := panel_ins r1
  obtain ⟨q, dy, gs, rfl, hqq⟩ := panel_ins r2
  exact ⟨p, dx, fs, q, dy, gs, rfl, rfl, e _ _ hpp, e _ _ hqq, fun E => ⟨G, (x, y, ()), e, ⟨_, _, rfl, r1, _, _, rfl, r2, rfl⟩, hp, fun w G' H' g r => ⟨_, r, k _ G' H' g (by rw [hz]; rfl)⟩⟩⟩
theorem de_lenP {x : PanelD} {z : Int} {pre : PanelD × Unit → Prop} {g0 : PanelD × Unit → Int} (F : HasE X.prog X.w X.K X.mg X.base f n ps (SpN kD pre g0)) (hm : Meth X.K (PC.at_ "Panel") "__len__" f) (hmg : X.mg ("len" : Str) = none) (hr : Rm k X.A) (ha : DE X a σ G x) (hp : pre (x, ()) ∧ 0 ≤ z ∧ z < 2 ^ 63) (hz : g0 (x, ()) = z := by rfl) (hl : n + 1 ≤ k := by decide) (hg : Gl X "len" := by rfl)
    (he : starEach [a] X.env = (false, eval a X.env) :: starEach [] X.env := by rfl) (hpl : (backTo pos (starEach [] X.env)).any (·.1) = false := by rfl) : DE X (.Call (.Name "len" p) [a] [] pos) σ G z := by
  obtain ⟨fd, hbn, F⟩ := F.ex
  exact de_callB (call_lenOw F hm.at_ hm.fn hbn (hr.room.mono hl)) (fun G H u e r1 Q k => by
    obtain ⟨q, dx, fs, rfl, hpp⟩ := panel_ins r1
    exact ⟨q, dx, fs, rfl, e _ _ hpp, fun E => ⟨G, (x, ()), e, ⟨_, _, rfl, r1, rfl⟩, hp.1, fun w G' H' g r => ⟨z, (show w = .int _ from r).trans (by rw [hz]), hp.2.1, hp.2.2, k _ G' H' g rfl⟩⟩⟩) hmg ha hg (by decide +kernel) (by decide) (by decide) he hpl
end

section
variable {B : Bs} {X : Cx} {α β γ δ A : Type} [Rep α] [Rep β] [Rep γ] [Rep δ] [Args A] {e a b c : Expr} {es rest : List Expr} {σ : L2.St} {G G' : Hp} {C C' C1 C2 C3 : Cs} {pos pos' p2 p : Pos}
theorem ite_t {p : Bool} {ε : Sort u} {a b : ε} (h : p = true) : (if p = true then a else b) = a := if_pos h
theorem ite_f {p : Bool} {ε : Sort u} {a b : ε} (h : p = false) : (if p = true then a else b) = b := if_neg (by rw [h]; decide)
theorem SE.cs {x : α} (h : SE B X e σ G C x C1) (q : C1 = C2) : SE B X e σ G C x C2 := q ▸ h
def SW (B : Bs) (X : Cx) (e : Expr) (σ : L2.St) (G : Hp) (C : Cs) (b : Bool) (C' : Cs) : Prop :=
  ∀ G1 H1, Ex G G1 → On B C G1 H1 → ∀ Q : Bool → Hp → Prop, (∀ G2 H2, Ex G1 G2 → On B C' G2 H2 → Q b H2) → WW X e σ H1 Q
theorem SW.st {q : Bool} (h : SW B X e σ G C q C') : ST B X e σ G C q C' := fun G1 H1 e1 o Q k => by
  obtain ⟨t, h1, h2⟩ := h G1 H1 e1 o Q k
  exact ⟨t, h1.pt, h2⟩
theorem sw_and1 {q : Bool} (h : ST B X a σ G C q C') : SW B X (.BoolOp .And [a] pos) σ G C q C' := fun G1 H1 e1 o Q k => ⟨_, pw_and1 WT.pt, h G1 H1 e1 o Q k⟩
theorem sw_or1 {q : Bool} (h : ST B X a σ G C q C') : SW B X (.BoolOp .Or [a] pos) σ G C q C' := fun G1 H1 e1 o Q k => ⟨_, pw_or1 WT.pt, h G1 H1 e1 o Q k⟩
theorem sw_and {q1 q2 : Bool} (C3 : Cs) (ha : ST B X a σ G C q1 C1) (hb : q1 = true → SW B X (.BoolOp .And (b :: rest) pos) σ G C1 q2 C2) (h1 : q1 = true → C2 = C3) (h2 : q1 = false → C1 = C3) : SW B X (.BoolOp .And (a :: b :: rest) pos) σ G C (q1 && q2) C3 := fun G1 H1 e1 o Q k =>
  ⟨_, pw_and WT.pt WW.pw, ha G1 H1 e1 o _ fun G2 H2 g o2 => by
    cases q1 with
    | true => exact iteT (hb rfl G2 H2 (e1.trans g) o2 Q fun G3 H3 g3 o3 => k G3 H3 (g.trans g3) (h1 rfl ▸ o3))
    | false => exact iteF (k G2 H2 g (h2 rfl ▸ o2))⟩
theorem sw_or {q1 q2 : Bool} (C3 : Cs) (ha : ST B X a σ G C q1 C1) (hb : q1 = false → SW B X (.BoolOp .Or (b :: rest) pos) σ G C1 q2 C2) (h1 : q1 = true → C1 = C3) (h2 : q1 = false → C2 = C3) : SW B X (.BoolOp .Or (a :: b :: rest) pos) σ G C (q1 || q2) C3 := fun G1 H1 e1 o Q k =>
  ⟨_, pw_or WT.pt WW.pw, ha G1 H1 e1 o _ fun G2 H2 g o2 => by
    cases q1 with
    | true => exact iteT (k G2 H2 g (h1 rfl ▸ o2))
    | false => exact iteF (hb rfl G2 H2 (e1.trans g) o2 Q fun G3 H3 g3 o3 => k G3 H3 (g.trans g3) (h2 rfl ▸ o3))⟩
theorem se_one {op : BoolOp} {q : Bool} (ha : SE B X a σ G C q C') : SE B X (.BoolOp op [a] pos) σ G C q C' := fun G1 H1 e1 o Q k => ⟨_, pe_one WE.pe, ha G1 H1 e1 o Q k⟩
theorem se_and {q1 q2 : Bool} (C3 : Cs) (ha : SE B X a σ G C q1 C1) (hb : q1 = true → SE B X (.BoolOp .And (b :: rest) pos) σ G C1 q2 C2) (h1 : q1 = true → C2 = C3) (h2 : q1 = false → C1 = C3) : SE B X (.BoolOp .And (a :: b :: rest) pos) σ G C (q1 && q2) C3 := fun G1 H1 e1 o Q k =>
  ⟨_, pe_and WE.pe WE.pe, ha G1 H1 e1 o _ fun v G2 H2 g o2 r => ⟨q1, r, by
    cases q1 with
    | true => exact iteT (hb rfl G2 H2 (e1.trans g) o2 Q fun w G3 H3 g3 o3 r3 => k w G3 H3 (g.trans g3) (h1 rfl ▸ o3) r3)
    | false => exact iteF (k _ G2 H2 g (h2 rfl ▸ o2) rfl)⟩⟩
theorem se_or {q1 q2 : Bool} (C3 : Cs) (ha : SE B X a σ G C q1 C1) (hb : q1 = false → SE B X (.BoolOp .Or (b :: rest) pos) σ G C1 q2 C2) (h1 : q1 = true → C1 = C3) (h2 : q1 = false → C2 = C3) : SE B X (.BoolOp .Or (a :: b :: rest) pos) σ G C (q1 || q2) C3 := fun G1 H1 e1 o Q k =>
  ⟨_, pe_or WE.pe WE.pe, ha G1 H1 e1 o _ fun v G2 H2 g o2 r => ⟨q1, r, by
    cases q1 with
    | true => exact iteT (k _ G2 H2 g (h1 rfl ▸ o2) rfl)
    | false => exact iteF (hb rfl G2 H2 (e1.trans g) o2 Q fun w G3 H3 g3 o3 r3 => k w G3 H3 (g.trans g3) (h2 rfl ▸ o3) r3)⟩⟩
theorem se_not {q : Bool} (ha : SE B X a σ G C q C') : SE B X (.UnaryOp .Not a pos) σ G C (!q) C' := fun G1 H1 e1 o Q k =>
  ⟨_, pe_not WE.pe, ha G1 H1 e1 o _ fun v G2 H2 g o2 r => ⟨q, r, k _ G2 H2 g o2 rfl⟩⟩
theorem se_ifC {q : Bool} {x y : α} (C4 : Cs) (hc : ST B X c σ G C q C1) (ha : q = true → SE B X a σ G C1 x C2) (hb : q = false → SE B X b σ G C1 y C3) (h2 : q = true → C2 = C4) (h3 : q = false → C3 = C4) : SE B X (.IfExp c a b pos) σ G C (if q = true then x else y) C4 :=
  se_if hc (fun h => (ha h).cs (h2 h)) (fun h => (hb h).cs (h3 h))
theorem se_ixI [Inhabited α] {l : List α} {i : Int} (ha : SE B X a σ G C l C1) (hb : SE B X b σ G C1 i C2) (h : (atI l i).isSome = true) (hs : PlainIx b := by exact fun _ _ => rfl) : SE B X (.Subscript a b pos) σ G C (getI l i) C2 := fun G1 H1 e1 o1 Q k =>
  ⟨_, pe_ix ix_list WE.pe WE.pe hs, se_two (x := l) (y := i) (z := getI l i) ha hb (fun G H u v e r1 r2 Q k => by
    obtain ⟨p, vs, rfl, hp, _, r⟩ := r1
    have hh := getI_some h
    unfold atI at hh
    cases q : ixN l.length i with
    | none => rw [q] at hh; cases hh
    | some j =>
      rw [q] at hh
      obtain ⟨w, h1, h2⟩ := r.get' (i := j) hh
      refine ⟨p, vs, i, w, rfl, r2, .inl (.inl (e _ _ hp)), ?_, k w G H (Gr.refl e) h2⟩
      unfold atI
      rw [r.len, q]
      exact h1) G1 H1 e1 o1 Q k⟩
theorem so_sortedC {l : List Str} {p : Pos} (hm : X.mg ("sorted" : Str) = none) (ha : SE B X a σ G C l C1) (h64 : l.length < 64) (hg : Gl X "sorted" := by rfl)
    (he : starEach [a] X.env = (false, eval a X.env) :: starEach [] X.env := by rfl) (hpl : (backTo pos (starEach [] X.env)).any (·.1) = false := by rfl) : SO B X (.Call (.Name "sorted" p) [a] [] pos) σ G C (srt l) C1 := fun G1 H1 e1 o Q k =>
  ⟨_, pe_callB cr_sortedS hg hm (by decide +kernel) (pa_cons WE.pe pa_nil he) (by decide) (by decide) he hpl, ha G1 H1 e1 o _ fun v G2 H2 e2 o2 r => by
    obtain ⟨p, vs, rfl, hp, hz, r⟩ := r
    obtain ⟨rfl, hw⟩ := reps_strs r
    refine ⟨p, l, rfl, .inl (.inl (o2.ex _ _ hp)), h64, fun ys q hpm hs hq => ?_⟩
    have eq := srt_of hpm hs
    subst eq
    exact k q G2 _ e2 (o2.push hq ⟨_, rfl, by rw [List.length_map, srt_len, ← List.length_map (f := V.str)]; exact hz, strs_reps fun x hx => hw x (mem_srt.mp hx)⟩) (o2.gr.dom _ hq)⟩
variable {x : Str} {f : Addr} {lvl k : Nat} {ps : List Str}
theorem se_callZ {pre : A → Prop} {g : A → δ} {y : A} {z : δ} (F : Has X.prog X.w X.K X.mg X.base x f lvl ps (SpN kD pre g)) (hr : Rm k X.A) (ha : SA B X (e :: es) σ G C y C1) (hp : pre y) (hz : g y = z := by rfl) (hl : lvl ≤ k := by decide) (hg : Gl X x := by rfl) (hdb : (x == ("__debug__" : Str)) = false := by decide)
    (he : starEach (e :: es) X.env = (false, eval e X.env) :: starEach es X.env := by rfl) (hpl : (backTo pos (starEach es X.env)).any (·.1) = false := by rfl) : SE B X (.Call (.Name x p) (e :: es) [] pos) σ G C z C1 := fun G1 H1 e1 o Q k => by
  subst hz
  exact we_call F hr (ha G1 H1 e1 o _ fun vs G2 H2 e2 o2 r => ⟨G2, y, o2.ex, r, hp, fun w G3 H3 g3 r3 => k w G3 H3 (e2.trans g3.gg) (o2.grow g3) r3⟩) hl hg hdb he hpl
theorem so_callZ {pre : A → Prop} {g : A → List δ} {y : A} {z : List δ} (F : Has X.prog X.w X.K X.mg X.base x f lvl ps (SpN kO pre g)) (hr : Rm k X.A) (ha : SA B X (e :: es) σ G C y C1) (hp : pre y) (hz : g y = z := by rfl) (hl : lvl ≤ k := by decide) (hg : Gl X x := by rfl) (hdb : (x == ("__debug__" : Str)) = false := by decide)
    (he : starEach (e :: es) X.env = (false, eval e X.env) :: starEach es X.env := by rfl) (hpl : (backTo pos (starEach es X.env)).any (·.1) = false := by rfl) : SO B X (.Call (.Name x p) (e :: es) [] pos) σ G C z C1 := fun G1 H1 e1 o Q k => by
  subst hz
  exact we_call F hr (ha G1 H1 e1 o _ fun vs G2 H2 e2 o2 r => ⟨G2, y, o2.ex, r, hp, fun w G3 H3 g3 ⟨q, ew, n1, n2, ob, h3, ws, eo, hz, r3⟩ => by
    subst ew; subst eo
    exact k q G3 H3 (e2.trans g3.gg) (o2.take_ g3 n1 n2 h3 ⟨ws, rfl, hz, r3⟩) (o2.gr.dom _ n1)⟩) hl hg hdb he hpl
end
end Dn

namespace Dn
open Dn.Rep (rep)
open PySem L2
structure Tup (A : Type) where
  val : A
  deriving DecidableEq
structure Het (A : Type) where
  val : A
  deriving DecidableEq
instance {A : Type} [Inhabited A] : Inhabited (Tup A) := ⟨⟨default⟩⟩
instance {A : Type} [Inhabited A] : Inhabited (Het A) := ⟨⟨default⟩⟩
instance instRepTup {A : Type} [Args A] : Rep (Tup A) := ⟨fun G v t => ∃ p vs, v = .ref p ∧ G p = some (.tup vs) ∧ Args.rel t.val G vs, fun e ⟨p, vs, h1, h2, h3⟩ => ⟨p, vs, h1, e _ _ h2, Args.mono e h3⟩⟩
instance instRepHet {A : Type} [Args A] : Rep (Het A) := ⟨fun G v t => ∃ p vs, v = .ref p ∧ G p = some (.lst vs) ∧ Args.rel t.val G vs, fun e ⟨p, vs, h1, h2, h3⟩ => ⟨p, vs, h1, e _ _ h2, Args.mono e h3⟩⟩
class HLen (A : Type) [Args A] where
  n : Nat
  len : ∀ {a : A} {G : Hp} {vs : List V}, Args.rel a G vs → vs.length = n
instance : HLen Unit := ⟨0, fun h => by cases h; rfl⟩
instance instHLenCons {α A : Type} [Rep α] [Args A] [HLen A] : HLen (α × A) := ⟨HLen.n A + 1, fun h => by obtain ⟨v, r, rfl, _, h⟩ := h; rw [List.length_cons, HLen.len h]⟩
class HDat (A : Type) [Args A] where
  dats : A → List PyData
  dp : ∀ (K : PySem.W.Frag) {G : Hp} {vs : List V} {a : A}, Args.rel a G vs → DpAll K G vs (dats a)
  lay : ∀ {G : Hp} {vs : List V} {a : A}, Args.rel a G vs → PyData.canLayAll0 (dats a) = true
  dep : Nat
  depth : ∀ a : A, PyData.depthAll (dats a) ≤ dep
  inj : ∀ {a b : A}, PyData.eqvAll (dats a) (dats b) = true ↔ a = b
instance : HDat Unit := ⟨fun _ => [], fun K _ _ _ h => by cases h; exact .nil, fun _ => by simp [PyData.canLayAll0], 0, fun _ => by simp [PyData.depthAll], fun {a b} => by simp [PyData.eqvAll]⟩
instance instHDatCons {α A : Type} [Rep α] [Dat α] [Args A] [HDat A] : HDat (α × A) := ⟨fun x => Dat.dat x.1 :: HDat.dats x.2, fun K _ _ _ h => by obtain ⟨v, r, rfl, h1, h2⟩ := h; exact .cons (Dat.dp K h1) (HDat.dp K h2),
  fun h => by obtain ⟨v, r, rfl, h1, h2⟩ := h; simp [PyData.canLayAll0, Dat.lay h1, HDat.lay h2], max (Dat.dep α) (HDat.dep A), fun x => by have h1 := Dat.depth x.1; have h2 := HDat.depth x.2; simp only [PyData.depthAll]; omega,
  fun {a b} => by obtain ⟨a1, a2⟩ := a; obtain ⟨b1, b2⟩ := b; simp [PyData.eqvAll, Dat.inj, HDat.inj]⟩
instance instDatTup {A : Type} [Args A] [HDat A] : Dat (Tup A) := ⟨fun t => .tuple (HDat.dats t.val), fun K _ _ _ h => by obtain ⟨p, vs, rfl, hp, r⟩ := h; exact .tup (.inl (.inl hp)) (HDat.dp K r), fun h => by obtain ⟨p, vs, rfl, hp, r⟩ := h; simpa [PyData.canLay0] using HDat.lay r,
  HDat.dep A + 1, fun t => by have := HDat.depth t.val; simp only [PyData.depth]; omega, fun {a b} => by cases a; cases b; simp [PyData.eqv, HDat.inj]⟩
instance instDatHet {A : Type} [Args A] [HDat A] : Dat (Het A) := ⟨fun t => .list (HDat.dats t.val), fun K _ _ _ h => by obtain ⟨p, vs, rfl, hp, r⟩ := h; exact .lst (.inl (.inl hp)) (HDat.dp K r), fun h => by obtain ⟨p, vs, rfl, hp, r⟩ := h; simpa [PyData.canLay0] using HDat.lay r,
  HDat.dep A + 1, fun t => by have := HDat.depth t.val; simp only [PyData.depth]; omega, fun {a b} => by cases a; cases b; simp [PyData.eqv, HDat.inj]⟩

section
variable {B : Bs} {X : Cx} {α β γ A : Type} [Rep α] [Rep β] [Rep γ] [Args A] {e a b c tg : Expr} {es tgs : List Expr} {σ : L2.St} {G G' : Hp} {C C' C1 C2 C3 : Cs} {pos pos' p2 p apos : Pos} {rest : List Stmt} {R : VK → Prop} {P : L2.St → Hp → Cs → Prop}
theorem de_tupN [HLen A] {x : A} {k} (h : DA X es σ G x) (hn : HLen.n A ≤ 1000 := by decide) : DE X (.Tuple es k pos) σ G (Tup.mk x) := fun G1 H1 e1 e2 Q q =>
  ⟨_, pe_tup WA.pa, h G1 H1 e1 e2 _ fun vs G2 H2 g r => ⟨by rw [HLen.len r, sizeLine_eq]; omega, fun p hp => q _ _ _ (g.and (Gr.new (M := []) g.gh hp)) ⟨p, vs, rfl, upd_same, Args.mono (Ex.new (Ex.fresh g.gh hp)) r⟩⟩⟩
theorem de_het [HLen A] {x : A} (h : DA X es σ G x) (hn : HLen.n A ≤ 1000 := by decide) : DE X (.List es pos) σ G (Het.mk x) := fun G1 H1 e1 e2 Q q =>
  ⟨_, pe_lst WA.pa, h G1 H1 e1 e2 _ fun vs G2 H2 g r => ⟨by rw [HLen.len r, sizeLine_eq]; omega, fun p hp => q _ _ _ (g.and (Gr.new (M := []) g.gh hp)) ⟨p, vs, rfl, upd_same, Args.mono (Ex.new (Ex.fresh g.gh hp)) r⟩⟩⟩
theorem se_tupN [HLen A] {x : A} {k} (h : SA B X es σ G C x C1) (hn : HLen.n A ≤ 1000 := by decide) : SE B X (.Tuple es k pos) σ G C (Tup.mk x) C1 := fun G1 H1 e1 o Q q =>
  ⟨_, pe_tup WA.pa, h G1 H1 e1 o _ fun vs G2 H2 e2 o2 r => ⟨by rw [HLen.len r, sizeLine_eq]; omega, fun p hp => q _ _ _ (e2.trans (Ex.new (Ex.fresh o2.ex hp))) (o2.grow (Gr.new (M := []) o2.ex hp)) ⟨p, vs, rfl, upd_same, Args.mono (Ex.new (Ex.fresh o2.ex hp)) r⟩⟩⟩
theorem se_het [HLen A] {x : A} (h : SA B X es σ G C x C1) (hn : HLen.n A ≤ 1000 := by decide) : SE B X (.List es pos) σ G C (Het.mk x) C1 := fun G1 H1 e1 o Q q =>
  ⟨_, pe_lst WA.pa, h G1 H1 e1 o _ fun vs G2 H2 e2 o2 r => ⟨by rw [HLen.len r, sizeLine_eq]; omega, fun p hp => q _ _ _ (e2.trans (Ex.new (Ex.fresh o2.ex hp))) (o2.grow (Gr.new (M := []) o2.ex hp)) ⟨p, vs, rfl, upd_same, Args.mono (Ex.new (Ex.fresh o2.ex hp)) r⟩⟩⟩
/-- a pair, as a tuple -/
theorem se_tup {x : α} {y : β} {k} (ha : SE B X a σ G C x C1) (hb : SE B X b σ G C1 y C2) (h : starEach [a, b] X.env = (false, eval a X.env) :: starEach [b] X.env := by rfl) (h' : starEach [b] X.env = (false, eval b X.env) :: starEach [] X.env := by rfl) :
    SE B X (.Tuple [a, b] k pos) σ G C (x, y) C2 := fun G1 H1 e1 o Q q =>
  ⟨_, pe_tup (pa_cons WE.pe (pa_cons WE.pe pa_nil h') h), ha G1 H1 e1 o _ fun v G2 H2 e2 o2 r => hb G2 H2 (e1.trans e2) o2 _ fun w G3 H3 e3 o3 r3 => ⟨by show 2 ≤ sizeLine; decide, fun p hp =>
    q _ _ _ (e2.trans (e3.trans (Ex.new (Ex.fresh o3.ex hp)))) (o3.grow (Gr.new (M := []) o3.ex hp)) ⟨p, v, w, rfl, upd_same, Rep.mono (e3.trans (Ex.new (Ex.fresh o3.ex hp))) r, Rep.mono (Ex.new (Ex.fresh o3.ex hp)) r3⟩⟩⟩
/-- lists with effects within -/
def SEs (B : Bs) (X : Cx) (es : List Expr) (σ : L2.St) (G : Hp) (C : Cs) (l : List α) (C' : Cs) : Prop :=
  ∀ G1 H1, Ex G G1 → On B C G1 H1 → ∀ Q : List V → Hp → Prop, (∀ vs G2 H2, Ex G1 G2 → On B C' G2 H2 → Reps G2 vs l → Q vs H2) → WA X es σ H1 Q
theorem ses_nil : SEs B X [] σ G C ([] : List α) C := fun G1 H1 e1 o Q k => ⟨_, pa_nil, k _ G1 H1 (Ex.refl _) o .nil⟩
theorem ses_cons {x : α} {l : List α} (ha : SE B X a σ G C x C1) (hs : SEs B X es σ G C1 l C2) (h : starEach (a :: es) X.env = (false, eval a X.env) :: starEach es X.env := by rfl) : SEs B X (a :: es) σ G C (x :: l) C2 := fun G1 H1 e1 o Q k =>
  ⟨_, pa_cons WE.pe WA.pa h, ha G1 H1 e1 o _ fun v G2 H2 e2 o2 r => hs G2 H2 (e1.trans e2) o2 _ fun vs G3 H3 e3 o3 r3 => k _ G3 H3 (e2.trans e3) o3 (.cons (Rep.mono e3 r) r3)⟩
theorem ses_star {l m : List α} (ha : SE B X e σ G C l C1) (hs : SEs B X es σ G C1 m C2) (hst : starEach (.Starred e p :: es) X.env = (true, eval e X.env) :: starEach es X.env := by rfl) : SEs B X (.Starred e p :: es) σ G C (l ++ m) C2 := fun G1 H1 e1 o Q k =>
  ⟨_, StX.pa_star WE.pe WA.pa hst, ha G1 H1 e1 o _ fun v G2 H2 e2 o2 r => by
    obtain ⟨q, vs, rfl, hq, hz, rs⟩ := r
    exact ⟨q, vs, rfl, .inr (.inl (.inl (o2.ex _ _ hq))), hs G2 H2 (e1.trans e2) o2 _ fun ws G3 H3 e3 o3 r3 => k _ G3 H3 (e2.trans e3) o3 ((Reps.mono e3 rs).app r3)⟩⟩
theorem so_listK {l : List α} (h : SEs B X es σ G C l C1) (hl : l.length ≤ sizeLine) : SO B X (.List es pos) σ G C l C1 := fun G1 H1 e1 o Q k =>
  ⟨_, pe_lst WA.pa, h G1 H1 e1 o _ fun vs G2 H2 e2 o2 r => ⟨by rw [r.len]; exact hl, fun p hp => k p G2 _ e2 (o2.push hp ⟨vs, rfl, by rw [r.len]; exact hl, r⟩) (o2.gr.dom _ hp)⟩⟩

def setAll : L2.St → List Nat → List V → L2.St
  | σ, j :: js, v :: vs => setAll (σ.set j (some v)) js vs
  | σ, _, _ => σ
def UG (X : Cx) (tgs : List Expr) (js : List Nat) : Prop := ∃ g, PGs X tgs g ∧ ∀ (vs : List V) (σ : L2.St) (H : Hp) (Q : L2.St → Hp → Prop), vs.length = js.length → Q (setAll σ js vs) H → g vs σ H Q
theorem ug_nil : UG X [] [] := ⟨gNil, pgs_nil, fun vs σ H Q h q => by
  have e := List.eq_nil_of_length_eq_zero h
  subst e
  exact ⟨rfl, q⟩⟩
theorem ug_cons {x : Str} {js : List Nat} {px : Pos} (j : Nat) (h : UG X tgs js) (hN : X.N.Nodup) (hi : X.N[j]? = some x := by rfl) (hx : L2.Loc X.env.scope x := by first | exact Or.inl rfl | exact Or.inr rfl) (hf : X.fn x = true ∨ X.env.scope.names.lookup x = some .local := by first | exact .inl rfl | exact .inr rfl) : UG X (.Name x px :: tgs) (j :: js) := by
  obtain ⟨g, h1, h2⟩ := h
  refine ⟨gCons (gName j) g, pgs_cons (pg_name hN hi hx hf) h1, fun vs σ H Q hl q => ?_⟩
  cases vs with
  | nil => simp at hl
  | cons v vs => exact ⟨v, vs, rfl, h2 vs _ H Q (by simpa using hl) q⟩
/-- a, b, .. = t -/
theorem sb_unp {x : Tup A} {js : List Nat} {k : Nat} {pt : Pos} (he : SE B X e σ G C x C1) (u : UG X tgs js) (hl : ∀ {vs : List V} {G : Hp}, Args.rel x.val G vs → vs.length = js.length) (k2 : ∀ vs G', Ex G G' → Args.rel x.val G' vs → SB B X rest (setAll σ js vs) G' C1 R P) (hc : X.calm = true := by rfl)
    (hs : swapsWithSole [.Tuple tgs k pt] e pos.line X.env = pure false := by rfl) (hw : swappedStores [.Tuple tgs k pt] e X.env = pure none := by rfl) (h1 : (assignEach [.Tuple tgs k pt] X.env).map (·.2) = [assign (.Tuple tgs k pt) X.env] := by rfl)
    (hn : (assignEach tgs X.env).length = js.length := by rfl) (hst : (assignEach tgs X.env).findIdx? (·.1) = none := by rfl) : SB B X (.Assign [.Tuple tgs k pt] e pos :: rest) σ G C R P := fun G1 H1 e1 o1 D d1 d2 => by
  obtain ⟨g, g1, g2⟩ := u
  exact ⟨_, pss_cons (ps_asg WE.pe (pg_tup hc g1 hn hst) hs hw h1) WS.pss, he G1 H1 e1 o1 _ fun v G2 H2 e2 o2 r => by
    obtain ⟨q, vs, rfl, hq, r⟩ := r
    exact ⟨q, vs, rfl, .inl (.inl (o2.ex _ _ hq)), hl r, g2 vs σ H2 _ (hl r) (k2 vs G2 (e1.trans e2) r G2 H2 (Ex.refl _) o2 D d1 fun σ4 G4 H4 C4 e4 o4 p4 => d2 σ4 G4 H4 C4 (e2.trans e4) o4 p4)⟩⟩
theorem sb_unp2 {x : α × β} {js : List Nat} {k : Nat} {pt : Pos} (he : SE B X e σ G C x C1) (u : UG X tgs js) (hj : js.length = 2 := by rfl) (k2 : ∀ v w G', Ex G G' → rep G' v x.1 → rep G' w x.2 → SB B X rest (setAll σ js [v, w]) G' C1 R P) (hc : X.calm = true := by rfl)
    (hs : swapsWithSole [.Tuple tgs k pt] e pos.line X.env = pure false := by rfl) (hw : swappedStores [.Tuple tgs k pt] e X.env = pure none := by rfl) (h1 : (assignEach [.Tuple tgs k pt] X.env).map (·.2) = [assign (.Tuple tgs k pt) X.env] := by rfl)
    (hn : (assignEach tgs X.env).length = js.length := by rfl) (hst : (assignEach tgs X.env).findIdx? (·.1) = none := by rfl) : SB B X (.Assign [.Tuple tgs k pt] e pos :: rest) σ G C R P := fun G1 H1 e1 o1 D d1 d2 => by
  obtain ⟨g, g1, g2⟩ := u
  exact ⟨_, pss_cons (ps_asg WE.pe (pg_tup hc g1 hn hst) hs hw h1) WS.pss, he G1 H1 e1 o1 _ fun v G2 H2 e2 o2 r => by
    obtain ⟨q, v, w, rfl, hq, r1, r2⟩ := r
    exact ⟨q, [v, w], rfl, .inl (.inl (o2.ex _ _ hq)), hj.symm, g2 _ σ H2 _ hj.symm (k2 v w G2 (e1.trans e2) r1 r2 G2 H2 (Ex.refl _) o2 D d1 fun σ4 G4 H4 C4 e4 o4 p4 => d2 σ4 G4 H4 C4 (e2.trans e4) o4 p4)⟩⟩
/-- items of a display: data, or new lists of one's own -/
def SM (B : Bs) (X : Cx) (es : List Expr) (σ : L2.St) (G : Hp) (C : Cs) (C' : List V → Cs) (φ : List V → Hp → Prop) : Prop :=
  ∀ G1 H1, Ex G G1 → On B C G1 H1 → ∀ Q : List V → Hp → Prop, (∀ vs G2 H2, Ex G1 G2 → On B (C' vs) G2 H2 → φ vs G2 → vs.length = es.length → Q vs H2) → WA X es σ H1 Q
theorem sm_nil : SM B X [] σ G C (fun _ => C) (fun vs _ => vs = []) := fun G1 H1 e1 o Q k => ⟨_, pa_nil, k [] G1 H1 (Ex.refl _) o rfl rfl⟩
theorem sm_data {x : α} {C' : List V → Cs} {φ : List V → Hp → Prop} (ha : SE B X a σ G C x C1) (hs : SM B X es σ G C1 C' φ) (h : starEach (a :: es) X.env = (false, eval a X.env) :: starEach es X.env := by rfl) :
    SM B X (a :: es) σ G C (fun vs => C' vs.tail) (fun vs G => ∃ v r, vs = v :: r ∧ rep G v x ∧ φ r G) := fun G1 H1 e1 o Q k =>
  ⟨_, pa_cons WE.pe WA.pa h, ha G1 H1 e1 o _ fun v G2 H2 e2 o2 r => hs G2 H2 (e1.trans e2) o2 _ fun vs G3 H3 e3 o3 r3 hl => k (v :: vs) G3 H3 (e2.trans e3) o3 ⟨v, vs, rfl, Rep.mono e3 r, r3⟩ (by rw [List.length_cons, List.length_cons, hl])⟩
def ownC (C' : Addr → List V → Cs) : List V → Cs
  | .ref p :: r => C' p r
  | _ => []
theorem sm_own {l : List α} {C' : Addr → List V → Cs} {φ : Addr → List V → Hp → Prop} (ha : SO B X a σ G C l C1) (hs : ∀ p, SM B X es σ G (C1 ++ [(p, cl l)]) (C' p) (φ p)) (h : starEach (a :: es) X.env = (false, eval a X.env) :: starEach es X.env := by rfl) :
    SM B X (a :: es) σ G C (ownC C') (fun vs G => ∃ p r, vs = .ref p :: r ∧ B.H p = none ∧ φ p r G) := fun G1 H1 e1 o Q k =>
  ⟨_, pa_cons WE.pe WA.pa h, ha G1 H1 e1 o _ fun p G2 H2 e2 o2 hB => hs p G2 H2 (e1.trans e2) o2 _ fun vs G3 H3 e3 o3 r3 hl => k (.ref p :: vs) G3 H3 (e2.trans e3) o3 ⟨p, vs, rfl, hB, r3⟩ (by rw [List.length_cons, List.length_cons, hl])⟩
/-- a, b = x, y by way of the stack -/
theorem sb_parM2 {x y : Str} {C' : List V → Cs} {φ : List V → Hp → Prop} {px py pt pt2 : Pos} {kt kt2 : Nat} (i j : Nat) (ha : SM B X [a, b] σ G C C' φ) (k : ∀ vs G', Ex G G' → φ vs G' → SB B X rest (setAll σ [i, j] vs) G' (C' vs) R P) (hN : X.N.Nodup) (hij : i ≠ j := by decide) (hi : X.N[i]? = some x := by rfl) (hj : X.N[j]? = some y := by rfl)
    (hx : X.env.scope.names.lookup x = some .local := by rfl) (hy : X.env.scope.names.lookup y = some .local := by rfl) (hc : X.calm = true := by rfl)
    (hw : swappedStores [.Tuple [.Name x px, .Name y py] kt pt] (.Tuple [a, b] kt2 pt2) X.env = pure (some [x, y]) := by rfl) : SB B X (.Assign [.Tuple [.Name x px, .Name y py] kt pt] (.Tuple [a, b] kt2 pt2) pos :: rest) σ G C R P := fun G1 H1 e1 o1 D d1 d2 =>
  ⟨_, pss_cons (ps_par hc hN hi hj hij hx hy WA.pa hw) WS.pss, ha G1 H1 e1 o1 _ fun vs G2 H2 e2 o2 r hl => by
    match vs, hl with
    | [v, w], _ => exact ⟨v, w, rfl, k [v, w] G2 (e1.trans e2) r G2 H2 (Ex.refl _) o2 D d1 fun σ4 G4 H4 C4 e4 o4 p4 => d2 σ4 G4 H4 C4 (e2.trans e4) o4 p4⟩⟩
theorem sb_parM3 {x y z : Str} {C' : List V → Cs} {φ : List V → Hp → Prop} {px py pz pt pt2 : Pos} {kt kt2 : Nat} (i j l : Nat) (ha : SM B X [a, b, c] σ G C C' φ) (k : ∀ vs G', Ex G G' → φ vs G' → SB B X rest (setAll σ [i, j, l] vs) G' (C' vs) R P) (hN : X.N.Nodup) (hij : i ≠ j := by decide) (hil : i ≠ l := by decide) (hjl : j ≠ l := by decide) (hi : X.N[i]? = some x := by rfl) (hj : X.N[j]? = some y := by rfl) (hl : X.N[l]? = some z := by rfl)
    (hx : X.env.scope.names.lookup x = some .local := by rfl) (hy : X.env.scope.names.lookup y = some .local := by rfl) (hz : X.env.scope.names.lookup z = some .local := by rfl) (hc : X.calm = true := by rfl)
    (hw : swappedStores [.Tuple [.Name x px, .Name y py, .Name z pz] kt pt] (.Tuple [a, b, c] kt2 pt2) X.env = pure (some [x, y, z]) := by rfl) : SB B X (.Assign [.Tuple [.Name x px, .Name y py, .Name z pz] kt pt] (.Tuple [a, b, c] kt2 pt2) pos :: rest) σ G C R P := fun G1 H1 e1 o1 D d1 d2 =>
  ⟨_, pss_cons (ps_par3 hc hN hi hj hl hij hil hjl hx hy hz WA.pa hw) WS.pss, ha G1 H1 e1 o1 _ fun vs G2 H2 e2 o2 r hl => by
    match vs, hl with
    | [v, w, u], _ => exact ⟨v, w, u, rfl, k [v, w, u] G2 (e1.trans e2) r G2 H2 (Ex.refl _) o2 D d1 fun σ4 G4 H4 C4 e4 o4 p4 => d2 σ4 G4 H4 C4 (e2.trans e4) o4 p4⟩⟩
/-- .. by way of a tuple -/
theorem sb_parMT {js : List Nat} {C' : List V → Cs} {φ : List V → Hp → Prop} {pt pt2 : Pos} {kt kt2 : Nat} (ha : SM B X es σ G C C' φ) (u : UG X tgs js) (k : ∀ vs G', Ex G G' → φ vs G' → SB B X rest (setAll σ js vs) G' (C' vs) R P) (hl : es.length = js.length := by rfl) (hz : es.length ≤ 1000 := by decide) (hc : X.calm = true := by rfl)
    (hs : swapsWithSole [.Tuple tgs kt pt] (.Tuple es kt2 pt2) pos.line X.env = pure false := by rfl) (hw : swappedStores [.Tuple tgs kt pt] (.Tuple es kt2 pt2) X.env = pure none := by rfl) (h1 : (assignEach [.Tuple tgs kt pt] X.env).map (·.2) = [assign (.Tuple tgs kt pt) X.env] := by rfl)
    (hn : (assignEach tgs X.env).length = js.length := by rfl) (hst : (assignEach tgs X.env).findIdx? (·.1) = none := by rfl) : SB B X (.Assign [.Tuple tgs kt pt] (.Tuple es kt2 pt2) pos :: rest) σ G C R P := fun G1 H1 e1 o1 D d1 d2 => by
  obtain ⟨g, g1, g2⟩ := u
  exact ⟨_, pss_cons (ps_asg (pe_tup WA.pa) (pg_tup hc g1 hn hst) hs hw h1) WS.pss, ha G1 H1 e1 o1 _ fun vs G2 H2 e2 o2 r hlen => ⟨by rw [hlen, sizeLine_eq]; omega, fun q hq =>
    ⟨q, vs, rfl, .inl (.inl upd_same), by rw [hlen, hl], g2 vs σ _ _ (by rw [hlen, hl]) (k vs G2 (e1.trans e2) r G2 _ (Ex.refl _) (o2.grow (Gr.own (M := []) o2.ex hq)) D d1 fun σ4 G4 H4 C4 e4 o4 p4 => d2 σ4 G4 H4 C4 (e2.trans e4) o4 p4)⟩⟩⟩
/-- an item of a tuple -/
theorem de_tix {x : Tup A} {n : Nat} {y : α} (ha : DE X a σ G x) (hb : DE X b σ G (n : Int)) (h : ∀ G vs, Args.rel x.val G vs → ∃ v, vs[n]? = some v ∧ rep G v y) (hs : PlainIx b := by exact fun _ _ => rfl) : DE X (.Subscript a b pos) σ G y :=
  de_ixr (y := (n : Int)) ix_tup (fun G H u v e r1 r2 Q k => by
    obtain ⟨p, vs, rfl, hp, r⟩ := r1
    obtain ⟨w, h1, h2⟩ := h G vs r
    exact ⟨p, vs, (n : Int), w, rfl, r2, .inl (.inl (e _ _ hp)), atI_nat h1, k w G H (Gr.refl e) h2⟩) ha hb hs
/-- repr of what is held by an address -/
theorem de_reprG [Dat α] {x : α} {k : Nat} (hm : X.mg ("repr" : Str) = none) (hr : Rm k X.A) (ha : DE X a σ G x) (h : RepOk x) (href : ∀ (G : Hp) (v : V), rep G v x → ∃ q, v = .ref q) (hd : Dat.dep α ≤ 60 := by decide) (hg : Gl X "repr" := by rfl)
    (he : starEach [a] X.env = (false, eval a X.env) :: starEach [] X.env := by rfl) (hpl : (backTo pos (starEach [] X.env)).any (·.1) = false := by rfl) : DE X (.Call (.Name "repr" p) [a] [] pos) σ G (reprD x) :=
  de_callB (call_reprD hr.gd) (fun G H u e r1 Q k => by
    have f1 := Rep.mono e r1
    have hl := Dat.lay f1
    have hdp := Dat.depth x
    have hu := hr.units
    have dd := Dat.dp X.K f1
    obtain ⟨q, ev⟩ := href _ _ r1
    subst ev
    exact ⟨q, Dat.dat x, rfl, dd, h.1, PyData.hasDict_of_canLay _ hl, by omega, h.2, k _ G H (Gr.refl e) ⟨rfl, h.2⟩⟩) hm ha hg (by decide +kernel) (by decide) (by decide) he hpl
theorem ref_het {x : Het A} : ∀ (G : Hp) (v : V), rep G v x → ∃ q, v = .ref q := fun _ _ ⟨p, _, h, _⟩ => ⟨p, h⟩
theorem ref_tup {x : Tup A} : ∀ (G : Hp) (v : V), rep G v x → ∃ q, v = .ref q := fun _ _ ⟨p, _, h, _⟩ => ⟨p, h⟩
theorem ref_pair {x : α × β} : ∀ (G : Hp) (v : V), rep G v x → ∃ q, v = .ref q := fun _ _ ⟨p, _, _, h, _⟩ => ⟨p, h⟩
end

section
variable [PC] {X : Cx} {a b : Expr} {σ : L2.St} {G : Hp} {pos : Pos} {f : Addr} {k n : Nat} {ps : List Str}
theorem dc_eqPL {l m : List PanelD} {pre : PanelD × PanelD × Unit → Prop} {g0 : PanelD × PanelD × Unit → Bool} (F : HasE X.prog X.w X.K X.mg X.base f n ps (SpN kD pre g0)) (hm : Meth X.K (PC.at_ "Panel") "__eq__" f) (hr : Rm k X.A) (ha : DE X a σ G l) (hb : DE X b σ G m)
    (hp : l.length = m.length ∧ ∀ (i : Nat) x y, l[i]? = some x → m[i]? = some y → pre (x, y, ()) ∧ g0 (x, y, ()) = true) (hl : n + 1 ≤ k := by decide) : DC X .Eq a b σ G true := by
  obtain ⟨fd, hbn, F⟩ := F.ex
  let R : Addr → Addr → Hp → Prop := fun p q H => ∃ G x y, Ex G H ∧ rep G (.ref p) x ∧ rep G (.ref q) y ∧ pre (x, y, ()) ∧ g0 (x, y, ()) = true
  have F2 : FnOk X.prog X.w X.K X.mg X.base CX0 n f fd ps (spEq R) := F.imp fun vs H Q E ⟨p, q, ev, ⟨G, x, y, eG, r1, r2, h1, h2⟩, hq⟩ =>
    ⟨G, (x, y, ()), eG, ⟨_, _, ev, r1, _, _, rfl, r2, rfl⟩, h1, fun w G' H' g r => by
      have e : w = .bl true := by rw [← h2]; exact r
      rw [e]
      exact hq H' g.hh⟩
  have hR : ∀ a b H H', Ext H H' → R a b H → R a b H' := fun a b H H' e ⟨G, x, y, eG, r⟩ => ⟨G, x, y, fun z o hz => e z o (eG z o hz), r⟩
  refine dc_cmp (op_eqG (rcG_list (mon_ins (C := PC.at_ "Panel") hR) (eqG_ins (C := PC.at_ "Panel") (R := R) F2 hm.at_ hm.fn hbn pass0)) (hr.room.mono hl)) (fun G H u v e r1 r2 Q k => ?_) ha hb
  obtain ⟨p, vs, rfl, hpp, hz1, rl⟩ := r1
  obtain ⟨q, ws, rfl, hqq, hz2, rm⟩ := r2
  refine ⟨⟨p, q, vs, ws, rfl, rfl, e _ _ hpp, e _ _ hqq, by rw [rl.len, rm.len]; exact hp.1, fun i v w hv hw => ?_⟩, fun H' eH => k _ G H' (Gr.of_ex e eH) rfl⟩
  obtain ⟨x, hx, rx⟩ := rl.get hv
  obtain ⟨y, hy, ry⟩ := rm.get hw
  obtain ⟨c, dx, fs, rfl, hc⟩ := panel_ins rx
  obtain ⟨d, dy, gs, rfl, hd⟩ := panel_ins ry
  obtain ⟨h1, h2⟩ := hp.2 i x y hx hy
  exact ⟨c, d, dx, dy, fs, gs, rfl, rfl, e _ _ hc, e _ _ hd, G, x, y, e, rx, ry, h1, h2⟩
end
end Dn

namespace Dn
open Dn.Rep (rep)
open PySem L2
def mapS {α β S : Type} (f : S → α → β × S) : List α → S → List β × S
  | [], s => ([], s)
  | x :: l, s => ((f s x).1 :: (mapS f l (f s x).2).1, (mapS f l (f s x).2).2)
def mapOk {α β S : Type} (f : S → α → β × S) (okf : S → α → Prop) : List α → S → Prop
  | [], _ => True
  | x :: l, s => okf s x ∧ mapOk f okf l (f s x).2
section
variable {B : Bs} {X : Cx} {α β γ S : Type} [Rep α] [Rep β] [Rep γ] {e a b c tg iter elt : Expr} {σ : L2.St} {G G' : Hp} {C C' C1 C2 : Cs} {pos : Pos} {scope : Scope}
theorem so_lc {l : List α} {own : List (Str × Nat)} {vs : List Nat} {T : α → L2.St → Hp → L2.St → Prop} (Cf : S → Cs) (f : S → α → β × S) (okf : S → α → Prop) (s0 : S) (hN : X.N.Nodup) (hc : X.calm = true) (src : SI B X tg iter σ G C l (Cf s0)) (ok : BlkOk X.N X.env.scope scope own) (ho : own.map (·.2) = vs) (tgt : DG X scope tg vs T) (hok : mapOk f okf l s0)
    (he : ∀ (B' : Bs) (i : Nat) y s σ2 G', l[i]? = some y → Ex G G' → T y (wipe σ vs) G' σ2 → okf s y → ∀ Y, InBlk X scope Y → SE B' Y elt σ2 G' (Cf s) (f s y).1 (Cf (f s y).2)) (hs : ∀ x, foldedSetIterable iter X.env x = pure x := by intro _; rfl) :
    SO B X (.ListComp elt [⟨tg, iter, [], 0⟩] scope pos) σ G C (mapS f l s0).1 (Cf (mapS f l s0).2) := fun G1 H1 e1 o1 Q k => by
  obtain ⟨g, hg, tg1⟩ := tgt.ex
  let tt : TT := fun σ H Q => ∀ (s : Shared) (H0 : Hp) (C : Addr) (cl : List (Str × Addr)) (fp : List Addr), WF (X.blk s H0 scope (compEnvC scope cl C X.env) fp) [] σ H Q
  let te : TE := fun σ H Q => ∀ (s : Shared) (H0 : Hp) (C : Addr) (cl : List (Str × Addr)) (fp : List Addr), WE (X.blk s H0 scope (compEnvC scope cl C X.env) fp) elt σ H Q
  have main := src G1 H1 e1 o1 (fun J H2 => ∀ D, H2 D = none → ∃ W : Nat → Nat → Hp → Prop, (∃ m, W 0 m (upd H2 D (.lst []))) ∧ ∀ i m H, W i m H →
        (J.stop i H ∧ Q (.ref D) H) ∨ (J.go i H ∧ ∃ Nx : Hp → Prop, (∀ H', Nx H' → ∃ m', m' < m ∧ W (i + 1) m' H') ∧ ∀ x H', J.yld i H x H' → g x (wipe σ (own.map (·.2))) H' fun σ2 H2 => wipe σ2 (own.map (·.2)) = wipe σ (own.map (·.2)) ∧ tt σ2 H2 fun b H3 =>
        if b = true then te σ2 H3 fun y H4 => ∃ acc, H4 D = some (.lst acc) ∧ acc.length < sizeLine ∧ Nx (upd H4 D (.lst (acc ++ [y]))) else Nx H3)) ?_
  · obtain ⟨wi, hw, q⟩ := main
    exact ⟨_, pe_lc hc hN hw ok hg (fun s H C cl fp => ⟨fun pins s1 σ1 H1 Q1 I1 z => WF.pts.run pins s1 σ1 H1 Q1 I1 (z s H C cl fp)⟩) (fun s H C cl fp => ⟨fun pins s1 σ1 H1 Q1 I1 z => WE.pe.run pins s1 σ1 H1 Q1 I1 (z s H C cl fp)⟩) hs, q⟩
  · intro J Gw Y G2 H2 e2 o2 wk hGw hY hz D hD
    rw [ho]
    have eD : Ex H2 (upd H2 D (.lst [])) := Ex.new hD
    have nD : G2 D = none := Ex.fresh o2.ex hD
    have bD : B.H D = none := o2.gr.dom _ hD
    refine lc_it wk (fun i H => ∃ G3 acc s rl, Ex G2 G3 ∧ On B (Cf s) G3 H ∧ G3 D = none ∧ H D = some (.lst acc) ∧ acc.length = i ∧ (∀ (j : Nat) v c, (Cf s)[j]? = some (v, c) → v ≠ D) ∧ Reps G3 acc rl ∧ mapS f l s0 = (rl ++ (mapS f (l.drop i) s).1, (mapS f (l.drop i) s).2) ∧ mapOk f okf (l.drop i) s)
      ⟨G2, [], s0, [], Ex.refl _, o2.grow (Gr.own o2.ex hD), nD, upd_same, rfl, fun j v c hj ev => ?_, .nil, rfl, hok⟩
      (fun i H _ ⟨G3, acc, s, rl, e3, o3, _⟩ => hGw H (e3.trans o3.ex)) ?_ ?_
    · obtain ⟨ob, h1, _⟩ := o2.at_ j v c hj
      rw [ev, hD] at h1; cases h1
    · rintro i x H H' hi ⟨G3, acc, s, rl, e3, o3, n3, hA, hl, nc, r, hm, ho3⟩ y
      obtain ⟨z, G4, hzl, g4, rz⟩ := hY i G3 H x H' hi e3 o3.ex y
      have o4 := o3.grow g4
      have hA4 : H' D = some (.lst acc) := g4.hh _ _ hA
      have n4 : G4 D = none := Gr.unk g4 hA n3
      have hd1 : l.drop i = z :: l.drop (i + 1) := by
        obtain ⟨hl, he⟩ := List.getElem?_eq_some_iff.mp hzl
        rw [List.drop_eq_getElem_cons hl, he]
      rw [hd1] at hm ho3
      obtain ⟨q1, q2⟩ := ho3
      have eG4 : Ex G G4 := e1.trans (e2.trans (e3.trans g4.gg))
      refine tg1 x z σ G4 H' g4.gh rz _ fun σ2 hT hw => ⟨hw, fun s1 H0 C0 cl0 fp0 => ?_⟩
      refine df_nil G4 H' (Ex.refl _) g4.gh _ fun G5 H5 g5 => iteT fun s1 H0 C0 cl0 fp0 => ?_
      have o5 := o4.grow g5
      have hA5 : H5 D = some (.lst acc) := g5.hh _ _ hA4
      have n5 : G5 D = none := Gr.unk g5 hA4 n4
      let B' : Bs := ⟨(Cf s).map (·.1), G5, H5⟩
      have onB : On B' (Cf s) G5 H5 := ⟨Gr.refl o5.ex, o5.at_, fun j v c hj => .inl (List.mem_map.mpr ⟨_, List.mem_of_getElem? hj, rfl⟩), o5.nd⟩
      refine he B' i z s σ2 G4 hzl eG4 hT q1 _ ⟨s1, H0, C0, cl0, fp0, rfl⟩ G5 H5 g5.gg onB _ fun w G6 H6 e6 o6 r6 => ?_
      have notM : D ∉ (Cf s).map (·.1) := fun hmem => by
        obtain ⟨pc, hpc, e⟩ := List.mem_map.mp hmem
        obtain ⟨j, hj⟩ := List.mem_iff_getElem?.mp hpc
        exact nc j pc.1 pc.2 hj e
      have hA6 : H6 D = some (.lst acc) := o6.gr.keep _ _ hA5 notM
      have n6 : G6 D = none := Gr.unk o6.gr hA5 n5
      have hM : ∀ v ∈ (Cf s).map (·.1), v ∈ B.M ∨ B.H v = none := fun v hv => by
        obtain ⟨pc, hpc, e⟩ := List.mem_map.mp hv
        obtain ⟨j, hj⟩ := List.mem_iff_getElem?.mp hpc
        rw [← e]
        exact o5.own j pc.1 pc.2 hj
      have nc6 : ∀ (j : Nat) v c, (Cf (f s z).2)[j]? = some (v, c) → v ≠ D := fun j v c hj e => by
        rcases o6.own j v c hj with h | h
        · exact notM (e ▸ h)
        · rw [e] at h
          have h' : H5 D = none := h
          rw [hA5] at h'; cases h'
      have gr6 : Gr B.M B.G B.H G6 H6 := o5.gr.trans o6.gr hM
      refine ⟨acc, hA6, by omega, G6, acc ++ [w], (f s z).2, rl ++ [(f s z).1], e3.trans (g4.gg.trans (g5.gg.trans e6)), ⟨gr6.set (.inr bD) n6, fun j v c hj => ?_, fun j v c hj => ?_, o6.nd⟩, n6, upd_same, by rw [List.length_append, List.length_singleton, hl], nc6, (Reps.mono (g4.gg.trans (g5.gg.trans e6)) r).app (.cons r6 .nil), ?_, q2⟩
      · obtain ⟨ob, c1, c2, c3⟩ := o6.at_ j v c hj
        exact ⟨ob, by rw [upd_ne (nc6 j v c hj)]; exact c1, c2, c3⟩
      · rcases o6.own j v c hj with h | h
        · exact hM v h
        · exact .inr (o5.gr.dom _ h)
      · rw [hm]
        show (rl ++ ((f s z).1 :: (mapS f (l.drop (i + 1)) (f s z).2).1), _) = _
        rw [List.append_assoc]
        rfl
    · rintro H ⟨G3, acc, s, rl, e3, o3, n3, hA, hl, nc, r, hm, ho3⟩
      rw [List.drop_length] at hm
      have em : mapS f l s0 = (rl, s) := by rw [hm]; simp [mapS]
      rw [em] at k
      exact k D G3 H (e2.trans e3) (o3.add hA n3 ⟨acc, rfl, by rw [hl]; exact hz, r⟩ (.inr bD) nc) bD
theorem so_rev {l : List α} {kk : Nat} {q1 q2 q3 : Pos} (ha : SE B X a σ G C l C1) : SO B X (.Subscript a (.Slice none none (some (.UnaryOp .USub (.Constant (.int 1) kk q1) q2)) q3) pos) σ G C l.reverse C1 := fun G1 H1 e1 o Q k =>
  ⟨_, pe_revL WE.pe, ha G1 H1 e1 o _ fun v G2 H2 e2 o2 r => by
    obtain ⟨p, vs, rfl, hp, hz, r⟩ := r
    have rv : ∀ {vs : List V} {l : List α}, Reps G2 vs l → Reps G2 vs.reverse l.reverse := by
      intro vs l r
      induction r with
      | nil => exact .nil
      | cons r t ih => rw [List.reverse_cons, List.reverse_cons]; exact ih.app (.cons r .nil)
    exact ⟨p, vs, rfl, .inl (.inl (o2.ex _ _ hp)), fun q hq => k q G2 _ e2 (o2.push hq ⟨_, rfl, by rw [List.length_reverse]; exact hz, rv r⟩) (o2.gr.dom _ hq)⟩⟩
theorem so_listOf {l : List α} {p : Pos} (hm : X.mg ("list" : Str) = none) (ha : SE B X a σ G C l C1) (hg : Gl X "list" := by rfl)
    (he : starEach [a] X.env = (false, eval a X.env) :: starEach [] X.env := by rfl) (hpl : (backTo pos (starEach [] X.env)).any (·.1) = false := by rfl) : SO B X (.Call (.Name "list" p) [a] [] pos) σ G C l C1 := fun G1 H1 e1 o Q k =>
  ⟨_, pe_callTy call_list_of hg hm (by decide +kernel) (pa_cons WE.pe pa_nil he) (by decide) (by decide) he hpl, ha G1 H1 e1 o _ fun v G2 H2 e2 o2 r => by
    obtain ⟨p, vs, rfl, hp, hz, r⟩ := r
    exact ⟨p, vs, rfl, .inl (.inl (.inl (o2.ex _ _ hp))), fun q hq => k q G2 _ e2 (o2.push hq ⟨_, rfl, hz, r⟩) (o2.gr.dom _ hq)⟩⟩
/-- one's own list, from here on known and never changed -/
theorem On.frzAt {H : Hp} {i : Nat} {u : Addr} {l : List α} (h : On B C G H) (hi : C[i]? = some (u, cl l)) (hB : B.H u = none) : ∃ vs, G u = none ∧ On B (C.eraseIdx i) (upd G u (.lst vs)) H ∧ rep (upd G u (.lst vs)) (.ref u) l := by
  obtain ⟨o, h1, h2, vs, rfl, hz, r⟩ := h.at_ _ _ _ hi
  have ex : Ex G (upd G u (.lst vs)) := Ex.new h2
  have back : ∀ (j : Nat) v c, (C.eraseIdx i)[j]? = some (v, c) → ∃ k, k ≠ i ∧ C[k]? = some (v, c) := fun j v c hj => by
    rw [List.getElem?_eraseIdx] at hj
    split at hj
    · exact ⟨j, by omega, hj⟩
    · exact ⟨j + 1, by omega, hj⟩
  refine ⟨vs, h2, ⟨?_, fun j v c hj => ?_, fun j v c hj => ?_, ?_⟩, u, vs, rfl, upd_same, hz, Reps.mono ex r⟩
  · refine ⟨h.gr.keep, h.gr.dom, h.gr.gg.trans ex, fun x w q => ?_, fun x w q1 q2 => ?_⟩
    · by_cases z : x = u
      · subst z; rw [upd_same] at q; cases q; exact h1
      · rw [upd_ne z] at q; exact h.gr.gh x w q
    · by_cases z : x = u
      · subst z; exact hB
      · rw [upd_ne z] at q1; exact h.gr.fr x w q1 q2
  · obtain ⟨k, hk, hj'⟩ := back j v c hj
    obtain ⟨o, q1, q2, q3⟩ := h.at_ k v c hj'
    have ne : v ≠ u := h.ne hj' hi hk
    exact ⟨o, q1, by rw [upd_ne ne]; exact q2, c.mono ex q3⟩
  · obtain ⟨k, hk, hj'⟩ := back j v c hj
    exact h.own k v c hj'
  · exact h.nd.sublist ((List.eraseIdx_sublist C i).map _)
theorem sb_frz {sts : List Stmt} {R : VK → Prop} {P : L2.St → Hp → Cs → Prop} {u : Addr} {l : List α} (i : Nat) (hi : C[i]? = some (u, cl l)) (hB : B.H u = none) (k : ∀ G', Ex G G' → rep G' (.ref u) l → SB B X sts σ G' (C.eraseIdx i) R P) : SB B X sts σ G C R P := fun G1 H1 e1 o D k1 k2 => by
  obtain ⟨vs, n, o2, r⟩ := o.frzAt hi hB
  exact k _ (e1.trans (Ex.new n)) r _ H1 (Ex.refl _) o2 D k1 fun σ3 G3 H3 C3 e3 o3 p3 => k2 σ3 G3 H3 C3 ((Ex.new n).trans e3) o3 p3
/-- range(b) etc. -/
theorem SI.cs {l : List α} (h : SI B X tg iter σ G C l C1) (q : C1 = C2) : SI B X tg iter σ G C l C2 := q ▸ h
/-- xs * n of one's own lists is not here; of data: -/
def rept (l : List α) (n : Int) : List α := (List.replicate n.toNat l).flatten
end
end Dn

namespace ZM
open PySem
open PySem.Sem (wp)
section
variable {prog : Program} {w : World} {A : Around} {E : Value → Shared → Prop} {s : Shared}
theorem zipM_next_item {z TI TO i1 i2 l1 l2 : Addr} {k1 k2 : Nat} {xs ys : Array Value} {x y a b : Value} {Q : Value → Shared → Prop} (D : ZipApart z TI TO i1 i2 l1 l2)
    (hz : IsZip s.heap z TI TO .none) (hTI : IsPair s.heap TI (.ref i1) (.ref i2)) (hTO : IsPair s.heap TO a b)
    (h1 : s.heap.IsListIter i1 l1 k1) (h2 : s.heap.IsTupleIter i2 l2 k2) (hl1 : s.heap.IsList l1 xs) (hl2 : s.heap.IsTuple l2 ys) (hx : xs[k1]? = some x) (hy : ys[k2]? = some y)
    (hQ : ∀ h', IsZip h' z TI TO (rawInt s.heap.objs.size) → IsPair h' TO x y → h'.IsListIter i1 l1 (k1 + 1) → h'.IsTupleIter i2 l2 (k2 + 1) → IsPair h' s.heap.objs.size x y → h'.objs.size = s.heap.objs.size + 1 →
      (∀ c o, c ≠ z → c ≠ TO → c ≠ i1 → c ≠ i2 → s.heap.get? c = some o → h'.get? c = some o) → Q (.ref s.heap.objs.size) { s with heap := h' }) :
    wpAny (model prog w) A (Builtin.«zip.__next__» ⟨[.ref z], []⟩) (fun fin s' => ∃ v, fin = .done (.ret v) ∧ Q v s') E s := by
  show wpAny _ _ (field (.ref z) 2 >>= _) _ _ _
  refine wpAny_bind (wpAny_field hz rfl (x := .bool false) rfl ?_)
  show wpAny _ _ (field (.ref z) 3 >>= _) _ _ _
  refine wpAny_bind (wpAny_field hz rfl (x := .ref TI) rfl ?_)
  refine wpAny_bind (wpAny_seqItems hTI rfl ?_)
  show wpAny _ _ (Builtin.SmallTypes.ownedTupleIsFree (.ref z) >>= _) _ _ _
  refine wpAny_bind ?_
  unfold Builtin.SmallTypes.ownedTupleIsFree
  refine wpAny_bind (wpAny_field hz rfl (x := .none) rfl (wpAny_pure ?_))
  simp only [if_true]
  refine wpAny_bind (wpAny_rule ?_)
  refine wpAny_bind (wpAny_field hz rfl (x := .ref TO) rfl ?_)
  refine wpAny_bind (wpAny_setField_rec hz (by simp) fun h₁ hz₁ hs₁ => ?_)
  replace hz₁ : IsZip h₁ z TI TO .ellipsis := hz₁
  refine wpAny_bind ?_
  simp only [List.zipIdx_cons, List.zipIdx_nil, List.forIn_cons, List.forIn_nil]

  refine wpAny_bind (wpAny_bind (wpAny_onRaise ?_))
  show wpAny _ _ (Builtin.SmallTypes.nextOf (.ref i1) >>= _) _ _ _
  refine wpAny_bind (wpAny_nextOf_list_item (h1.extBut hs₁.extBut D.i1z) (hl1.extBut hs₁.extBut D.l1z) hx fun h₂ h1₂ hs₂ => wpAny_pure ?_)
  have hTO₂ : IsPair h₂ TO a b := hs₂.extBut _ _ D.TOi1 (hs₁.extBut _ _ D.TOz hTO)
  refine wpAny_bind (wpAny_seqItems hTO₂ rfl ?_)
  refine wpAny_bind (wpAny_updateSeq_pair hTO₂ fun h₃ hTO₃ hs₃ => ?_)
  replace hTO₃ : IsPair h₃ TO x b := hTO₃
  refine wpAny_bind (wpAny_letGo (wpAny_pure ?_))

  refine wpAny_bind (wpAny_bind (wpAny_onRaise ?_))
  show wpAny _ _ (Builtin.SmallTypes.nextOf (.ref i2) >>= _) _ _ _
  refine wpAny_bind (RZ.nextOf_tuple_item (((h2.extBut hs₁.extBut D.i2z).extBut hs₂.extBut D.i12.symm).extBut hs₃.extBut D.TOi2.symm)
    (((hl2.extBut hs₁.extBut D.l2z).extBut hs₂.extBut D.l2i1).extBut hs₃.extBut D.l2TO) hy fun h₄ h2₄ hs₄ => wpAny_pure ?_)
  have hTO₄ : IsPair h₄ TO x b := hs₄.extBut _ _ D.TOi2 hTO₃
  refine wpAny_bind (wpAny_seqItems hTO₄ rfl ?_)
  refine wpAny_bind (wpAny_updateSeq_pair hTO₄ fun h₅ hTO₅ hs₅ => ?_)
  replace hTO₅ : IsPair h₅ TO x y := hTO₅
  refine wpAny_bind (wpAny_letGo (wpAny_pure (wpAny_pure ?_)))

  refine wpAny_bind (wpAny_seqItems hTO₅ rfl ?_)
  refine wpAny_bind (wpAny_newTuple ?_)
  have hsz : h₅.objs.size = s.heap.objs.size := by rw [hs₅.1, hs₄.1, hs₃.1, hs₂.1, hs₁.1]
  have hz₅ : IsZip h₅ z TI TO .ellipsis := hs₅.extBut _ _ D.TOz.symm (hs₄.extBut _ _ D.i2z.symm (hs₃.extBut _ _ D.TOz.symm (hs₂.extBut _ _ D.i1z.symm hz₁)))
  have hk₅ : ∀ c o, c ≠ z → c ≠ TO → c ≠ i1 → c ≠ i2 → s.heap.get? c = some o → h₅.get? c = some o := fun c o c1 c2 c3 c4 e =>
    hs₅.extBut _ _ c2 (hs₄.extBut _ _ c4 (hs₃.extBut _ _ c2 (hs₂.extBut _ _ c3 (hs₁.extBut _ _ c1 e))))
  have h1₅ : h₅.IsListIter i1 l1 (k1 + 1) := ((h1₂.extBut hs₃.extBut D.TOi1.symm).extBut hs₄.extBut D.i12).extBut hs₅.extBut D.TOi1.symm
  have h2₅ : h₅.IsTupleIter i2 l2 (k2 + 1) := h2₄.extBut hs₅.extBut D.TOi2.symm
  have hzlt : z < h₅.objs.size := Heap.lt_size hz₅
  have hTOlt : TO < h₅.objs.size := Heap.lt_size hTO₅
  have hi1lt : i1 < h₅.objs.size := by obtain ⟨_, e, _⟩ := h1₅; exact Heap.lt_size e
  have hi2lt : i2 < h₅.objs.size := by obtain ⟨_, e, _⟩ := h2₅; exact Heap.lt_size e
  show wpAny _ _ (Builtin.SmallTypes.ownedTupleHandOut (.ref z) (.ref h₅.objs.size) >>= _) _ _ _
  refine wpAny_bind ?_
  unfold Builtin.SmallTypes.ownedTupleHandOut
  have hz₆ : IsZip (h₅.push { cls := .type "tuple", data := .seq #[x, y] }) z TI TO .ellipsis := Heap.get?_push_of_some _ hz₅
  refine wpAny_bind (wpAny_setField_rec hz₆ (by simp) fun h₇ hz₇ hs₇ => ?_)
  replace hz₇ : IsZip h₇ z TI TO (rawInt h₅.objs.size) := hz₇
  refine wpAny_setField_rec hz₇ (by simp) fun h₈ hz₈ hs₈ => ?_
  replace hz₈ : IsZip h₈ z TI TO (rawInt h₅.objs.size) := hz₈
  have up : ∀ c o, c ≠ z → h₅.get? c = some o → h₈.get? c = some o := fun c o c1 e => hs₈.extBut _ _ c1 (hs₇.extBut _ _ c1 (Heap.get?_push_of_some _ e))
  have hT₈ : IsPair h₈ h₅.objs.size x y := hs₈.extBut _ _ (Nat.ne_of_gt hzlt) (hs₇.extBut _ _ (Nat.ne_of_gt hzlt) (Heap.get?_push_size _ rfl))
  have hz8 : h₈.objs.size = h₅.objs.size + 1 := by rw [hs₈.1, hs₇.1, Heap.size_push]
  rw [hsz] at hz₈ hT₈ hz8
  refine wpAny_pure ⟨_, rfl, ?_⟩
  show Q (.ref h₅.objs.size) _
  rw [hsz]
  exact hQ h₈ hz₈ (up _ _ D.TOz hTO₅) (h1₅.at fun o e => up _ o D.i1z e) (h2₅.at fun o e => up _ o D.i2z e) hT₈ hz8 fun c o c1 c2 c3 c4 e => up c o c1 (hk₅ c o c1 c2 c3 c4 e)

theorem zipM_next_end {z TI TO i1 i2 l1 l2 : Addr} {k1 k2 : Nat} {xs ys : Array Value} {a b : Value} {Q : Fin → Shared → Prop} (hh : A.handled = none) (D : ZipApart z TI TO i1 i2 l1 l2)
    (hz : IsZip s.heap z TI TO .none) (hTI : IsPair s.heap TI (.ref i1) (.ref i2)) (hTO : IsPair s.heap TO a b)
    (h1 : s.heap.IsListIter i1 l1 k1) (h2 : s.heap.IsTupleIter i2 l2 k2) (hl1 : s.heap.IsList l1 xs) (hl2 : s.heap.IsTuple l2 ys) (hend : xs[k1]? = none ∨ ys[k2]? = none)
    (hE : ∀ h' e, (∀ c o, c ≠ z → c ≠ TO → c ≠ i1 → c ≠ i2 → s.heap.get? c = some o → h'.get? c = some o) → (∃ o, h'.get? e = some o ∧ o.cls = .type "StopIteration") → E (.ref e) { s with heap := h' }) :
    wpAny (model prog w) A (Builtin.«zip.__next__» ⟨[.ref z], []⟩) Q E s := by
  show wpAny _ _ (field (.ref z) 2 >>= _) _ _ _
  refine wpAny_bind (wpAny_field hz rfl (x := .bool false) rfl ?_)
  show wpAny _ _ (field (.ref z) 3 >>= _) _ _ _
  refine wpAny_bind (wpAny_field hz rfl (x := .ref TI) rfl ?_)
  refine wpAny_bind (wpAny_seqItems hTI rfl ?_)
  show wpAny _ _ (Builtin.SmallTypes.ownedTupleIsFree (.ref z) >>= _) _ _ _
  refine wpAny_bind ?_
  unfold Builtin.SmallTypes.ownedTupleIsFree
  refine wpAny_bind (wpAny_field hz rfl (x := .none) rfl (wpAny_pure ?_))
  simp only [if_true]
  refine wpAny_bind (wpAny_rule ?_)
  refine wpAny_bind (wpAny_field hz rfl (x := .ref TO) rfl ?_)
  refine wpAny_bind (wpAny_setField_rec hz (by simp) fun h₁ hz₁ hs₁ => ?_)
  replace hz₁ : IsZip h₁ z TI TO .ellipsis := hz₁
  refine wpAny_bind ?_
  simp only [List.zipIdx_cons, List.zipIdx_nil, List.forIn_cons, List.forIn_nil]
  refine wpAny_bind (wpAny_bind (wpAny_onRaise ?_))
  show wpAny _ _ (Builtin.SmallTypes.nextOf (.ref i1) >>= _) _ _ _
  cases hx : xs[k1]? with
  | none =>
    refine wpAny_bind (wpAny_nextOf_list_end hh (h1.extBut hs₁.extBut D.i1z) (hl1.extBut hs₁.extBut D.l1z) hx fun h₂ e hs₂ he => ?_)
    obtain ⟨oe, hoe, hce⟩ := he
    have hz₂ : IsZip h₂ z TI TO .ellipsis := hs₂ _ _ D.i1z.symm hz₁
    have hez : e ≠ z := fun x => by subst x; rw [hz₂] at hoe; cases hoe; simp at hce
    refine wpAny_setField_rec hz₂ (by simp) fun h₃ _ hs₃ => hE h₃ e (fun c o c1 _ c3 _ x => hs₃.extBut _ _ c1 (hs₂ _ _ c3 (hs₁.extBut _ _ c1 x))) ⟨oe, hs₃.extBut _ _ hez hoe, hce⟩
  | some x =>
    have hy : ys[k2]? = none := by rcases hend with h | h; rw [hx] at h; cases h; exact h
    refine wpAny_bind (wpAny_nextOf_list_item (h1.extBut hs₁.extBut D.i1z) (hl1.extBut hs₁.extBut D.l1z) hx fun h₂ h1₂ hs₂ => wpAny_pure ?_)
    have hTO₂ : IsPair h₂ TO a b := hs₂.extBut _ _ D.TOi1 (hs₁.extBut _ _ D.TOz hTO)
    refine wpAny_bind (wpAny_seqItems hTO₂ rfl ?_)
    refine wpAny_bind (wpAny_updateSeq_pair hTO₂ fun h₃ hTO₃ hs₃ => ?_)
    refine wpAny_bind (wpAny_letGo (wpAny_pure ?_))
    refine wpAny_bind (wpAny_bind (wpAny_onRaise ?_))
    show wpAny _ _ (Builtin.SmallTypes.nextOf (.ref i2) >>= _) _ _ _
    refine wpAny_bind (RZ.nextOf_tuple_end hh (((h2.extBut hs₁.extBut D.i2z).extBut hs₂.extBut D.i12.symm).extBut hs₃.extBut D.TOi2.symm)
      (((hl2.extBut hs₁.extBut D.l2z).extBut hs₂.extBut D.l2i1).extBut hs₃.extBut D.l2TO) hy fun h₄ e hs₄ he => ?_)
    obtain ⟨oe, hoe, hce⟩ := he
    have hz₄ : IsZip h₄ z TI TO .ellipsis := hs₄ _ _ D.i2z.symm (hs₃.extBut _ _ D.TOz.symm (hs₂.extBut _ _ D.i1z.symm hz₁))
    have hez : e ≠ z := fun x => by subst x; rw [hz₄] at hoe; cases hoe; simp at hce
    refine wpAny_setField_rec hz₄ (by simp) fun h₅ _ hs₅ => hE h₅ e (fun c o c1 c2 c3 c4 x => hs₅.extBut _ _ c1 (hs₄ _ _ c4 (hs₃.extBut _ _ c2 (hs₂.extBut _ _ c3 (hs₁.extBut _ _ c1 x))))) ⟨oe, hs₅.extBut _ _ hez hoe, hce⟩

theorem pyNext_zipM_item {z TI TO i1 i2 l1 l2 : Addr} {k1 k2 : Nat} {xs ys : Array Value} {x y a b : Value} {Q : Option Value → Shared → Prop} (D : ZipApart z TI TO i1 i2 l1 l2)
    (hz : IsZip s.heap z TI TO .none) (hTI : IsPair s.heap TI (.ref i1) (.ref i2)) (hTO : IsPair s.heap TO a b)
    (h1 : s.heap.IsListIter i1 l1 k1) (h2 : s.heap.IsTupleIter i2 l2 k2) (hl1 : s.heap.IsList l1 xs) (hl2 : s.heap.IsTuple l2 ys) (hx : xs[k1]? = some x) (hy : ys[k2]? = some y)
    (hQ : ∀ h', IsZip h' z TI TO (rawInt s.heap.objs.size) → IsPair h' TO x y → h'.IsListIter i1 l1 (k1 + 1) → h'.IsTupleIter i2 l2 (k2 + 1) → IsPair h' s.heap.objs.size x y → h'.objs.size = s.heap.objs.size + 1 →
      (∀ c o, c ≠ z → c ≠ TO → c ≠ i1 → c ≠ i2 → s.heap.get? c = some o → h'.get? c = some o) → Q (some (.ref s.heap.objs.size)) { s with heap := h' }) :
    wpAny (model prog w) A (pyNext (.ref z)) Q E s := by
  have hT : s.TypeIs (.ref z) "zip" := ⟨_, hz, rfl⟩
  unfold pyNext
  exact wpAny_bind (wpAny_attempt (wpAny_callSpecial?_slot (name := Str.ofString "__next__") hT F.slot_zip_next
    (wpAny_call_entry F.slot_zip_next hT F.entry_zip_next
      (zipM_next_item D hz hTI hTO h1 h2 hl1 hl2 hx hy fun h' a1 a2 a3 a4 a5 a6 a7 => wpAny_pure (hQ h' a1 a2 a3 a4 a5 a6 a7)) (F.args_zip_next_1 _))))

theorem pyNext_zipM_end {z TI TO i1 i2 l1 l2 : Addr} {k1 k2 : Nat} {xs ys : Array Value} {a b : Value} {Q : Option Value → Shared → Prop} (hh : A.handled = none) (D : ZipApart z TI TO i1 i2 l1 l2)
    (hz : IsZip s.heap z TI TO .none) (hTI : IsPair s.heap TI (.ref i1) (.ref i2)) (hTO : IsPair s.heap TO a b)
    (h1 : s.heap.IsListIter i1 l1 k1) (h2 : s.heap.IsTupleIter i2 l2 k2) (hl1 : s.heap.IsList l1 xs) (hl2 : s.heap.IsTuple l2 ys) (hend : xs[k1]? = none ∨ ys[k2]? = none)
    (hQ : ∀ h', (∀ c o, c ≠ z → c ≠ TO → c ≠ i1 → c ≠ i2 → s.heap.get? c = some o → h'.get? c = some o) → Q none { s with heap := h' }) : wpAny (model prog w) A (pyNext (.ref z)) Q E s := by
  have hT : s.TypeIs (.ref z) "zip" := ⟨_, hz, rfl⟩
  unfold pyNext
  refine wpAny_bind (wpAny_attempt (wpAny_callSpecial?_slot (name := Str.ofString "__next__") hT F.slot_zip_next
    (wpAny_call_entry F.slot_zip_next hT F.entry_zip_next (zipM_next_end hh D hz hTI hTO h1 h2 hl1 hl2 hend fun h' e hk he => ?_) (F.args_zip_next_1 _))))
  obtain ⟨o, ho, hc⟩ := he
  refine wpAny_bind (wpAny_isInstance (T := "StopIteration") (b := true) ⟨o, ho, hc⟩ isSubtype_stop ?_)
  exact wpAny_pure (hQ _ hk)
end

abbrev zipMH1 (h : Heap) (l1 : Addr) : Heap := h.push { cls := .type "list_iterator", data := .fields #[.ref l1, .int 0 0] }
abbrev zipMH2 (h : Heap) (l1 l2 : Addr) : Heap := (zipMH1 h l1).push { cls := .type "tuple_iterator", data := .fields #[.ref l2, .int 0 0] }
abbrev zipMH3 (h : Heap) (l1 l2 : Addr) : Heap := (zipMH2 h l1 l2).push { cls := .type "tuple", data := .seq #[.ref h.objs.size, .ref (zipMH1 h l1).objs.size] }
abbrev zipMH4 (h : Heap) (l1 l2 : Addr) : Heap := (zipMH3 h l1 l2).push { cls := .type "tuple", data := .seq #[.none, .none] }
abbrev zipMH5 (h : Heap) (l1 l2 : Addr) : Heap := (zipMH4 h l1 l2).push { cls := .type "zip", data := .fields #[.none, .bool false, .bool false, .ref (zipMH2 h l1 l2).objs.size, .ref (zipMH3 h l1 l2).objs.size] }

theorem meets_zipM_new (l1 l2 : Addr) (xs ys : Array Value) :
    Meets (Builtin.«zip.__new__» ⟨[.type "zip", .ref l1, .ref l2], []⟩) (fun _ R s => s.heap.IsList l1 xs ∧ s.heap.IsTuple l2 ys ∧
      R (.ok (.ret (.ref (zipMH4 s.heap l1 l2).objs.size))) { s with heap := zipMH5 s.heap l1 l2 }) :=
  .of_wp fun prog w A R s h => by
    obtain ⟨hp, g, d, tk, os⟩ := s; obtain ⟨hl1, hl2, h⟩ := h
    have hsub := sub_zip
    have hL1 : Heap.IsList (Shared.heap ⟨hp, g, d, tk, os⟩) l1 xs := hl1
    have hL2 : Heap.IsTuple (Shared.heap ⟨hp.push { cls := .type "list_iterator", data := .fields #[.ref l1, .int 0 0] }, g, d, tk, os⟩) l2 ys := Heap.IsTuple.push hl2 _
    wp_walk using wpAny_pyIter_list hL1, wpAny_pyIter_tuple hL2
    exact ⟨_, rfl, h⟩

section
variable {prog : Program} {w : World} {A : Around} {E : Value → Shared → Prop} {s : Shared}

theorem call_zipM {l1 l2 : Addr} {xs ys : Array Value} {Q : Value → Shared → Prop} (hl1 : s.heap.IsList l1 xs) (hl2 : s.heap.IsTuple l2 ys)
    (h : ∀ h', IsZip h' (s.heap.objs.size + 4) (s.heap.objs.size + 2) (s.heap.objs.size + 3) .none → IsPair h' (s.heap.objs.size + 2) (.ref s.heap.objs.size) (.ref (s.heap.objs.size + 1)) →
      IsPair h' (s.heap.objs.size + 3) .none .none → h'.IsListIter s.heap.objs.size l1 0 → h'.IsTupleIter (s.heap.objs.size + 1) l2 0 → h'.objs.size = s.heap.objs.size + 5 →
      (∀ c o, s.heap.get? c = some o → h'.get? c = some o) → Q (.ref (s.heap.objs.size + 4)) { s with heap := h' }) :
    wpAny (model prog w) A (call (.type "zip") [.ref l1, .ref l2]) Q E s := by
  refine callType_new F.called_zip (by decide) (F.typeCall_zip_2 _ _) (F.newCall_zip_2 _ _) (fun obj => F.args_object_init_3 obj _ _) F.entry_zip_new
    (meets_zipM_new l1 l2 xs ys) ⟨hl1, hl2, ?_⟩
  have z1 : (zipMH1 s.heap l1).objs.size = s.heap.objs.size + 1 := Heap.size_push ..
  have z2 : (zipMH2 s.heap l1 l2).objs.size = s.heap.objs.size + 2 := by rw [Heap.size_push, z1]
  have z3 : (zipMH3 s.heap l1 l2).objs.size = s.heap.objs.size + 3 := by rw [Heap.size_push, z2]
  have z4 : (zipMH4 s.heap l1 l2).objs.size = s.heap.objs.size + 4 := by rw [Heap.size_push, z3]
  have z5 : (zipMH5 s.heap l1 l2).objs.size = s.heap.objs.size + 5 := by rw [Heap.size_push, z4]
  have g5 : (zipMH5 s.heap l1 l2).get? (zipMH4 s.heap l1 l2).objs.size = some _ := Heap.get?_push_size _ rfl
  have g4 : (zipMH5 s.heap l1 l2).get? (zipMH3 s.heap l1 l2).objs.size = some _ := Heap.get?_push_of_some _ (Heap.get?_push_size _ rfl)
  have g3 : (zipMH5 s.heap l1 l2).get? (zipMH2 s.heap l1 l2).objs.size = some _ := Heap.get?_push_of_some _ (Heap.get?_push_of_some _ (Heap.get?_push_size _ rfl))
  have g2 : (zipMH5 s.heap l1 l2).get? (zipMH1 s.heap l1).objs.size = some _ := Heap.get?_push_of_some _ (Heap.get?_push_of_some _ (Heap.get?_push_of_some _ (Heap.get?_push_size _ rfl)))
  have g1 : (zipMH5 s.heap l1 l2).get? s.heap.objs.size = some _ := Heap.get?_push_of_some _ (Heap.get?_push_of_some _ (Heap.get?_push_of_some _ (Heap.get?_push_of_some _ (Heap.get?_push_size _ rfl))))
  show _ ∧ _
  rw [z2, z3, z4] at g5
  rw [z1, z2] at g3
  rw [z3] at g4
  rw [z1] at g2
  rw [z4]
  exact ⟨⟨_, g5, rfl⟩, h _ g5 g3 g4 ⟨_, g1, rfl, rfl⟩ ⟨_, g2, rfl, rfl⟩ z5 fun c o x =>
    Heap.get?_push_of_some _ (Heap.get?_push_of_some _ (Heap.get?_push_of_some _ (Heap.get?_push_of_some _ (Heap.get?_push_of_some _ x))))⟩
end
end ZM
namespace ZM
open PySem PySem.Spec PyProof.Rows L2
def ItzM (K : PySem.W.Frag) (a b : Addr) : It :=
  ⟨fun i H => ∃ (xs ys : List V) (x y : V), SqL K H a xs ∧ SqT K H b ys ∧ xs[i]? = some x ∧ ys[i]? = some y,
    fun i H v H' => ∃ T x y, v = .ref T ∧ H T = none ∧ H' = upd H T (.tup [x, y]) ∧ (∀ xs, SqL K H a xs → xs[i]? = some x) ∧ ∀ ys, SqT K H b ys → ys[i]? = some y,
    fun i H => ∃ xs ys : List V, SqL K H a xs ∧ SqT K H b ys ∧ (xs.length ≤ i ∨ ys.length ≤ i)⟩
theorem turn_zipM {P : Program} {w : World} {K : PySem.W.Frag} {elts : List Expr} {kk : Nat} {tpos : Pos} {a b z TI TO i1 i2 : Addr} (D : ZipApart z TI TO i1 i2 a b) :
    Turn P w K (.Tuple elts kk tpos) (ItzM K a b) [z, TI, TO, i1, i2] z (fun i h => IsZip h z TI TO .none ∧ IsPair h TI (.ref i1) (.ref i2) ∧ (∃ x y, IsPair h TO x y) ∧ h.IsListIter i1 a i ∧ h.IsTupleIter i2 b i) where
  mem := by simp
  obj := fun i h st c hc => by
    obtain ⟨hz, hTI, ⟨x, y, hTO⟩, ⟨o1, e1, _, d1⟩, ⟨o2, e2, _, d2⟩⟩ := st
    have e' : c = z ∨ c = TI ∨ c = TO ∨ c = i1 ∨ c = i2 := by simpa using hc
    rcases e' with q | q | q | q | q
    · rw [q]; exact ⟨_, hz, fun v q => nomatch q⟩
    · rw [q]; exact ⟨_, hTI, fun v q => nomatch q⟩
    · rw [q]; exact ⟨_, hTO, fun v q => nomatch q⟩
    · rw [q]; exact ⟨o1, e1, fun v q => by rw [d1] at q; cases q⟩
    · rw [q]; exact ⟨o2, e2, fun v q => by rw [d2] at q; cases q⟩
  keep := fun i h h' st k => by
    obtain ⟨hz, hTI, ⟨x, y, hTO⟩, h1, h2⟩ := st
    exact ⟨k z (by simp) _ hz, k TI (by simp) _ hTI, ⟨x, y, k TO (by simp) _ hTO⟩, h1.at fun o q => k i1 (by simp) o q, h2.at fun o q => k i2 (by simp) o q⟩
  item := by
    intro X hP hw hK hc i pins s σ H E I hf st hg
    subst hP hw hK
    obtain ⟨hz, hTI, ⟨x0, y0, hTO⟩, h1, h2⟩ := st
    obtain ⟨xs, ys, x, y, hqx, hqy, hx, hy⟩ := hg
    obtain ⟨its, rv, p, _⟩ := I.list hqx
    obtain ⟨its2, rv2, p2, _⟩ := I.tuple hqy
    obtain ⟨u, hu, ru⟩ := rv.get hx
    obtain ⟨u2, hu2, ru2⟩ := rv2.get hy
    have hzl : z < s.heap.objs.size := Heap.lt_size hz
    refine pyNext_zipM_item D hz hTI hTO h1 h2 p.isList p2 (x := u) (y := u2) (by simpa using hu) (by simpa using hu2) fun h' z' TO' h1' h2' hT hsz hk => ?_
    refine ⟨_, rfl, wpAny_letOwnedTupleGo_zip (s := { s with heap := h' }) z' fun h'' z'' sb => ?_⟩
    have hT2 : h''.get? s.heap.objs.size = some { cls := .type "tuple", data := .seq #[u, u2] } := (sb.2 _ (Nat.ne_of_gt hzl)).trans hT
    have new : ObjOk X.prog X.w (upd H s.heap.objs.size (.tup [x, y])) h'' s.heap.objs.size (.tup [x, y]) :=
      ⟨by show 2 ≤ sizeLine; decide, [u, u2], .cons ru (.cons ru2 .nil), ⟨_, hT2, rfl, _, rfl⟩⟩
    have I1 : Inv X pins σ (upd H s.heap.objs.size (.tup [x, y])) { s with heap := h'' } :=
      I.turnedNew (t' := s.toks) (ch := [z, TI, TO, i1, i2]) (fun c o hb q => (sb.2 c (fun q' => hb (by simp [q']))).trans (hk c o (fun q' => hb (by simp [q'])) (fun q' => hb (by simp [q'])) (fun q' => hb (by simp [q'])) (fun q' => hb (by simp [q'])) q)) hf (Nat.le_refl _) new
    refine ⟨.ref s.heap.objs.size, _, I1, rfl, ⟨_, x, y, rfl, I.hok.fresh (Nat.le_refl _), rfl, fun l hl => by rw [I.list_inj hl hqx]; exact hx, fun l hl => by rw [I.tuple_inj hl hqy]; exact hy⟩, ⟨z'', ?_, ⟨u, u2, ?_⟩, ?_, ?_⟩, fun c hcm => ?_⟩
    · exact (sb.2 _ D.TIz).trans (hk _ _ D.TIz D.TITO D.TIi1 D.TIi2 hTI)
    · exact (sb.2 _ D.TOz).trans TO'
    · exact h1'.at fun o q => (sb.2 _ D.i1z).trans q
    · exact h2'.at fun o q => (sb.2 _ D.i2z).trans q
    · have hlt : c < s.heap.objs.size := by
        have e' : c = z ∨ c = TI ∨ c = TO ∨ c = i1 ∨ c = i2 := by simpa using hcm
        rcases e' with q | q | q | q | q
        · rw [q]; exact hzl
        · rw [q]; exact Heap.lt_size hTI
        · rw [q]; exact Heap.lt_size hTO
        · rw [q]; obtain ⟨_, e1, _⟩ := h1; exact Heap.lt_size e1
        · rw [q]; obtain ⟨_, e2, _⟩ := h2; exact Heap.lt_size e2
      rw [upd_ne (Nat.ne_of_lt hlt)]
      exact (hf c hcm).1
  done := by
    intro X hP hw hK hc i pins s σ H E I hf st hg
    subst hP hw hK
    obtain ⟨hz, hTI, ⟨x0, y0, hTO⟩, h1, h2⟩ := st
    obtain ⟨xs, ys, hqx, hqy, hend⟩ := hg
    obtain ⟨its, rv, p, _⟩ := I.list hqx
    obtain ⟨its2, rv2, p2, _⟩ := I.tuple hqy
    have l1 := rv.length
    have l2 := rv2.length
    have he : its.toArray[i]? = none ∨ its2.toArray[i]? = none := by
      rcases hend with q | q
      · exact .inl (by simp; omega)
      · exact .inr (by simp; omega)
    exact pyNext_zipM_end (I.ok.hd hc) D hz hTI hTO h1 h2 p.isList p2 he fun h' hk => ⟨rfl, I.turnedL (t' := s.toks) (ch := [z, TI, TO, i1, i2]) (fun c o hb q =>
      hk c o (fun q' => hb (by simp [q'])) (fun q' => hb (by simp [q'])) (fun q' => hb (by simp [q'])) (fun q' => hb (by simp [q'])) q) hf⟩
  self := fun A i s Q E st h => wpAny_pyIter_zip st.1 h

def iZipM (K : PySem.W.Frag) (ta : TA) : TI := fun σ H R => ta σ H fun vs H1 => ∃ a b xs ys, vs = [.ref a, .ref b] ∧ SqL K H1 a xs ∧ SqT K H1 b ys ∧ R (ItzM K a b) H1
theorem pi_zipM {X : Cx} {e e2 : Expr} {ta : TA} {p pos tpos : Pos} {elts : List Expr} {kk : Nat} (hg : Gl X "zip") (hm : X.mg "zip" = none) (ha : PA X [e, e2] ta)
    (hs : starEach [e, e2] X.env = (false, eval e X.env) :: starEach [e2] X.env := by rfl) (hpl : (backTo pos (starEach [e2] X.env)).any (·.1) = false := by rfl) :
    PI X (.Tuple elts kk tpos) (.Call (.Name "zip" p) [e, e2] [] pos) (iZipM X.K ta) := by
  refine ⟨fun pins s σ H R I h => ?_⟩
  refine Call_ (ld_blt I hg hm PyProof.Rows.boot_zip (PyProof.Rows.callWith_type1 (thn (ha.run pos pins s σ H _ I h) fun us s1 ⟨vs, H1, I1, r1, q1⟩ => ?_) hs hpl))
  obtain ⟨a, b, xs, ys, ex, hqx, hqy, q⟩ := q1
  subst ex
  cases r1 with
  | cons r rr =>
    cases rr with
    | cons r' rr =>
      cases rr
      cases r
      cases r'
      have fresh5 : ∀ c, c ∈ [s1.heap.objs.size + 4, s1.heap.objs.size + 2, s1.heap.objs.size + 3, s1.heap.objs.size, s1.heap.objs.size + 1] → FpOk X pins H1 c := fun c hcm => by
        have hle : s1.heap.objs.size ≤ c := by
          have e' : c = s1.heap.objs.size + 4 ∨ c = s1.heap.objs.size + 2 ∨ c = s1.heap.objs.size + 3 ∨ c = s1.heap.objs.size ∨ c = s1.heap.objs.size + 1 := by simpa using hcm
          omega
        exact I1.fpOk hle (I1.hok.fresh hle)
      obtain ⟨its, rv, p1, _⟩ := I1.list hqx
      obtain ⟨its2, rv2, p2, _⟩ := I1.tuple hqy
      obtain ⟨o2, ho2, _⟩ := id p2
      refine call_zipM (show s1.heap.IsList a its.toArray from p1.isList) (show s1.heap.IsTuple b its2.toArray from p2) fun h' hz hTI hTO h1 h2 hsz hk => wpAny_pyIter_zip hz ?_
      have I2 : Inv X pins σ H1 { s1 with heap := h' } := I1.kept (t' := s1.toks) hk
      exact ⟨s1.heap.objs.size + 4, [s1.heap.objs.size + 4, s1.heap.objs.size + 2, s1.heap.objs.size + 3, s1.heap.objs.size, s1.heap.objs.size + 1], _, _, H1, rfl, I2, turn_zipM (PySem.W.ktu_apart s1.heap.objs.size a b p1.lt (Heap.lt_size ho2)), ⟨hz, hTI, ⟨_, _, hTO⟩, h1, h2⟩, fresh5, q⟩
theorem walk_zipM {K : PySem.W.Frag} {a b : Addr} {xs ys : List V} {n : Nat} (hn : n = min xs.length ys.length) : Walk (ItzM K a b) n (fun H => SqL K H a xs ∧ SqT K H b ys) (YPair (fun i => xs[i]?) (fun i => ys[i]?)) := by
  subst hn
  refine ⟨fun i _ hi q => ?_, fun _ q => ⟨xs, ys, q.1, q.2, by omega⟩, fun i H v H' _ q y => ?_⟩
  · have h1 : i < xs.length := by omega
    have h2 : i < ys.length := by omega
    exact ⟨xs, ys, xs[i], ys[i], q.1, q.2, by simp [h1], by simp [h2]⟩
  · obtain ⟨T, x, z, h1, h2, h3, h4, h5⟩ := y
    exact ⟨T, x, z, h1, h2, h3, h4 xs q.1, h5 ys q.2⟩
end ZM

namespace Dn
open Dn.Rep (rep)
open PySem L2
section
variable {X : Cx} {α β γ A : Type} [Rep α] [Rep β] [Rep γ] [Args A] {e a b c tg : Expr} {es : List Expr} {σ : L2.St} {G G' : Hp} {pos pos' p2 p apos : Pos}
/-- for x in (a, b, ..) -/
theorem di_tup {x : Tup A} {m : List α} (h : DE X e σ G x) (hr : ∀ (G : Hp) (vs : List V), Args.rel x.val G vs → Reps G vs m) (hm : m.length ≤ 1000) : DI X tg e σ G m := fun G1 H1 e1 e2 R k =>
  ⟨_, pi_tup WE.pe, h G1 H1 e1 e2 _ fun v G2 H2 g r => by
    obtain ⟨p, vs, rfl, hp, r⟩ := r
    have r := hr _ _ r
    refine ⟨p, rfl, ⟨vs, .inl (.inl (g.gh _ _ hp))⟩, ?_⟩
    refine k (Itt X.K p) (fun H => SqT X.K H p vs) _ G2 H2 g (by rw [← r.len]; exact walk_tup (xs := vs)) (fun H3 e3 => .inl (.inl (e3 _ _ hp))) (fun i G3 H3 x H' hi e3 e4 y => ?_) (by rw [sizeLine_eq]; omega)
    obtain ⟨rfl, hy⟩ := y
    obtain ⟨q, h1, h2⟩ := r.get hy
    exact ⟨q, G3, h1, Gr.refl e4, Rep.mono e3 h2⟩⟩
theorem di_pair {x : α × α} (h : DE X e σ G x) : DI X tg e σ G [x.1, x.2] := fun G1 H1 e1 e2 R k =>
  ⟨_, pi_tup WE.pe, h G1 H1 e1 e2 _ fun v G2 H2 g r => by
    obtain ⟨p, v1, v2, rfl, hp, r1, r2⟩ := r
    have r : Reps G2 [v1, v2] [x.1, x.2] := .cons r1 (.cons r2 .nil)
    refine ⟨p, rfl, ⟨[v1, v2], .inl (.inl (g.gh _ _ hp))⟩, ?_⟩
    refine k (Itt X.K p) (fun H => SqT X.K H p [v1, v2]) _ G2 H2 g (by exact walk_tup (xs := [v1, v2])) (fun H3 e3 => .inl (.inl (e3 _ _ hp))) (fun i G3 H3 x H' hi e3 e4 y => ?_) (by rw [sizeLine_eq]; simp)
    obtain ⟨rfl, hy⟩ := y
    obtain ⟨q, h1, h2⟩ := r.get hy
    exact ⟨q, G3, h1, Gr.refl e4, Rep.mono e3 h2⟩⟩
/-- zip(xs, (a, b, ..)) -/
theorem di_zipM {l : List α} {x : Tup A} {m : List β} {elts : List Expr} {kk : Nat} {tpos : Pos} (hm : X.mg ("zip" : Str) = none) (h : DE X a σ G l) (h2 : DE X b σ G x) (hr : ∀ (G : Hp) (vs : List V), Args.rel x.val G vs → Reps G vs m) (hg : Gl X "zip" := by rfl) (he : starEach [a, b] X.env = (false, eval a X.env) :: starEach [b] X.env := by rfl) (he2 : starEach [b] X.env = (false, eval b X.env) :: starEach [] X.env := by rfl) (hpl : (backTo pos (starEach [b] X.env)).any (·.1) = false := by rfl) :
    DI X (.Tuple elts kk tpos) (.Call (.Name "zip" p) [a, b] [] pos) σ G (l.zip m) := fun G1 H1 e1 e2 R k =>
  ⟨_, ZM.pi_zipM hg hm (pa_cons WE.pe (pa_cons WE.pe pa_nil he2) he) he hpl, h G1 H1 e1 e2 _ fun v G2 H2 g r => h2 G2 H2 (e1.trans g.gg) g.gh _ fun w G3 H3 g3 r3 => by
    obtain ⟨p, vs, rfl, hp, hz, r⟩ := Rep.mono g3.gg r
    obtain ⟨q, ws, rfl, hq, r2⟩ := r3
    have r2 := hr _ _ r2
    refine ⟨p, q, vs, ws, rfl, .inl (.inl (g3.gh _ _ hp)), .inl (.inl (g3.gh _ _ hq)), ?_⟩
    have hl : (l.zip m).length = min vs.length ws.length := by rw [List.length_zip, r.len, r2.len]
    refine k (ZM.ItzM X.K p q) (fun H => SqL X.K H p vs ∧ SqT X.K H q ws) _ G3 H3 (g.and g3) (ZM.walk_zipM hl) (fun H4 e4 => ⟨.inl (.inl (e4 _ _ hp)), .inl (.inl (e4 _ _ hq))⟩) (fun i G4 H4 x H' hi e4 e5 y => ?_) (by rw [hl]; omega)
    obtain ⟨T, x1, x2, rfl, hT, rfl, q1, q2⟩ := y
    obtain ⟨z1, c1, c2⟩ := r.get q1
    obtain ⟨z2, d1, d2⟩ := r2.get q2
    exact ⟨(z1, z2), _, List.getElem?_zip_eq_some.mpr ⟨c1, d1⟩, Gr.new e5 hT, T, _, _, rfl, upd_same, Rep.mono (e4.trans (Ex.new (Ex.fresh e5 hT))) c2, Rep.mono (e4.trans (Ex.new (Ex.fresh e5 hT))) d2⟩⟩
theorem any_eqv [Dat α] [DecidableEq α] (x : α) (l : List α) : ((l.map Dat.dat).any fun z => PyData.eqv z (Dat.dat x)) = decide (x ∈ l) := by
  rw [List.any_map, Bool.eq_iff_iff, decide_eq_true_iff, List.any_eq_true]
  constructor
  · rintro ⟨y, hy, e⟩
    have := Dat.inj.mp e
    exact this ▸ hy
  · intro h
    exact ⟨x, h, Dat.inj.mpr rfl⟩
/-- nested data in a list of the like -/
theorem dc_inD [Dat α] [DecidableEq α] {x : α} {l : List α} {k : Nat} (hr : Room k X.A) (ha : DE X a σ G x) (hb : DE X b σ G l) (hd : Dat.dep α ≤ 60 := by decide) (hm : behindInMarks .In b = false := by rfl) : DC X .In a b σ G (decide (x ∈ l)) :=
  dc_cmp (op_inD (by have := hr.un; omega)) (fun G H u v e r1 r2 Q k => by
    have f1 := Rep.mono e r1
    have f2 := Rep.mono e r2
    have hd2 : Dat.dep (List α) = Dat.dep α + 1 := rfl
    refine ⟨Dat.dat x, l.map Dat.dat, Dat.dp X.K f1, Dat.dp X.K f2, shaped_of f1 (by omega), shaped_of f2 (by omega), k _ G H (Gr.refl e) ?_⟩
    rw [any_eqv]; rfl) ha hb hm
theorem dc_ninD [Dat α] [DecidableEq α] {x : α} {l : List α} {k : Nat} (hr : Room k X.A) (ha : DE X a σ G x) (hb : DE X b σ G l) (hd : Dat.dep α ≤ 60 := by decide) (hm : behindInMarks .NotIn b = false := by rfl) : DC X .NotIn a b σ G (!decide (x ∈ l)) :=
  dc_cmp (op_notInD (by have := hr.un; omega)) (fun G H u v e r1 r2 Q k => by
    have f1 := Rep.mono e r1
    have f2 := Rep.mono e r2
    have hd2 : Dat.dep (List α) = Dat.dep α + 1 := rfl
    refine ⟨Dat.dat x, l.map Dat.dat, Dat.dp X.K f1, Dat.dp X.K f2, shaped_of f1 (by omega), shaped_of f2 (by omega), k _ G H (Gr.refl e) ?_⟩
    rw [any_eqv]; rfl) ha hb hm
end
end Dn


namespace Pf
open Dn.Rep (rep)
open PySem PySem.Spec PyProof.Rows L2 Dn
def top (i : Nat) : Stmt := PySem.Challenge.pw_panelfairs_k52_whole_joint.main.body.getD i (.Pass ⟨0, 0, 0, 0⟩)
abbrev s_is_name : Stmt := top 12
abbrev s_is_whole : Stmt := top 13
abbrev s_is_count : Stmt := top 14
abbrev s_are_names : Stmt := top 15
abbrev s_are_entries : Stmt := top 16
abbrev s_is_ascending : Stmt := top 17
abbrev s_is_lot : Stmt := top 18
abbrev s_is_field : Stmt := top 19
abbrev s_is_entry : Stmt := top 20
abbrev s_check_count : Stmt := top 21
abbrev s_check_entries : Stmt := top 22
abbrev s_check_field : Stmt := top 23
abbrev s_check_entry : Stmt := top 24
abbrev s_Panel___init__ : Stmt := inClass (top 26) 0
abbrev s_Panel_entries : Stmt := inClass (top 26) 1
abbrev s_Panel_rows : Stmt := inClass (top 26) 2
abbrev s_Panel___len__ : Stmt := inClass (top 26) 3
abbrev s_Panel_with_row : Stmt := inClass (top 26) 4
abbrev s_Panel_without_row : Stmt := inClass (top 26) 5
abbrev s_Panel_struck : Stmt := inClass (top 26) 6
abbrev s_Panel_renamed : Stmt := inClass (top 26) 7
abbrev s_Panel___eq__ : Stmt := inClass (top 26) 8
abbrev s_spots_of : Stmt := top 27
abbrev s_is_row : Stmt := top 28
abbrev s_are_rows : Stmt := top 29
abbrev s_check_panel : Stmt := top 30
abbrev s_check_steward : Stmt := top 31
abbrev s_first_of : Stmt := top 32
abbrev s_cards_on : Stmt := top 33
abbrev s_named : Stmt := top 34
abbrev s_cards : Stmt := top 35
abbrev s_who : Stmt := top 36
abbrev s_ahead : Stmt := top 37
abbrev s_places : Stmt := top 38
abbrev s_check_both : Stmt := top 40
abbrev s_joint : Stmt := top 41
abbrev s__law_purse : Stmt := top 43
abbrev s__law_mixed : Stmt := top 44
abbrev s__law_draw : Stmt := top 45
abbrev s__law_purses : Stmt := top 46
abbrev s__law_one_of : Stmt := top 47
abbrev s__law_shuffled : Stmt := top 48
abbrev s__law_word : Stmt := top 49
abbrev s__law_names : Stmt := top 50
abbrev s__law_rows_of : Stmt := top 51
abbrev s__law_cards : Stmt := top 52
abbrev s__law_fields : Stmt := top 53
abbrev s__law_panel_is : Stmt := top 54
abbrev s__law_pair_right : Stmt := top 55
abbrev s__law_right : Stmt := top 56
abbrev s_law : Stmt := top 57
abbrev R : PySem.W.OpenRow := PySem.W.OpenLaw.row PySem.Challenge.rw_panelfairs_k52_whole_joint
def fn : List He.DefD := (([⟨("is_name", none), "is_name", "is_name", defArgs (top 12), defBody (top 12), defScope (top 12), [], []⟩, ⟨("is_whole", none), "is_whole", "is_whole", defArgs (top 13), defBody (top 13), defScope (top 13), [], []⟩, ⟨("is_count", none), "is_count", "is_count", defArgs (top 14), defBody (top 14), defScope (top 14), [], []⟩, ⟨("are_names", none), "are_names", "are_names", defArgs (top 15), defBody (top 15), defScope (top 15), [], []⟩, ⟨("are_entries", none), "are_entries", "are_entries", defArgs (top 16), defBody (top 16), defScope (top 16), [], []⟩, ⟨("is_ascending", none), "is_ascending", "is_ascending", defArgs (top 17), defBody (top 17), defScope (top 17), [], []⟩, ⟨("is_lot", none), "is_lot", "is_lot", defArgs (top 18), defBody (top 18), defScope (top 18), [], []⟩, ⟨("is_field", none), "is_field", "is_field", defArgs (top 19), defBody (top 19), defScope (top 19), [], []⟩, ⟨("is_entry", none), "is_entry", "is_entry", defArgs (top 20), defBody (top 20), defScope (top 20), [], []⟩, ⟨("check_count", none), "check_count", "check_count", defArgs (top 21), defBody (top 21), defScope (top 21), [(.int 0), .non], []⟩, ⟨("check_entries", none), "check_entries", "check_entries", defArgs (top 22), defBody (top 22), defScope (top 22), [], []⟩, ⟨("check_field", none), "check_field", "check_field", defArgs (top 23), defBody (top 23), defScope (top 23), [], []⟩, ⟨("check_entry", none), "check_entry", "check_entry", defArgs (top 24), defBody (top 24), defScope (top 24), [], []⟩, ⟨("Panel", (some "__init__")), "__init__", "Panel.__init__", defArgs (inClass (top 26) 0), defBody (inClass (top 26) 0), defScope (inClass (top 26) 0), [], []⟩, ⟨("Panel", (some "entries")), "entries", "Panel.entries", defArgs (inClass (top 26) 1), defBody (inClass (top 26) 1), defScope (inClass (top 26) 1), [], []⟩, ⟨("Panel", (some "rows")), "rows", "Panel.rows", defArgs (inClass (top 26) 2), defBody (inClass (top 26) 2), defScope (inClass (top 26) 2), [], []⟩, ⟨("Panel", (some "__len__")), "__len__", "Panel.__len__", defArgs (inClass (top 26) 3), defBody (inClass (top 26) 3), defScope (inClass (top 26) 3), [], []⟩, ⟨("Panel", (some "with_row")), "with_row", "Panel.with_row", defArgs (inClass (top 26) 4), defBody (inClass (top 26) 4), defScope (inClass (top 26) 4), [], []⟩, ⟨("Panel", (some "without_row")), "without_row", "Panel.without_row", defArgs (inClass (top 26) 5), defBody (inClass (top 26) 5), defScope (inClass (top 26) 5), [], []⟩, ⟨("Panel", (some "struck")), "struck", "Panel.struck", defArgs (inClass (top 26) 6), defBody (inClass (top 26) 6), defScope (inClass (top 26) 6), [], []⟩, ⟨("Panel", (some "renamed")), "renamed", "Panel.renamed", defArgs (inClass (top 26) 7), defBody (inClass (top 26) 7), defScope (inClass (top 26) 7), [], []⟩, ⟨("Panel", (some "__eq__")), "__eq__", "Panel.__eq__", defArgs (inClass (top 26) 8), defBody (inClass (top 26) 8), defScope (inClass (top 26) 8), [], []⟩, ⟨("spots_of", none), "spots_of", "spots_of", defArgs (top 27), defBody (top 27), defScope (top 27), [], []⟩, ⟨("is_row", none), "is_row", "is_row", defArgs (top 28), defBody (top 28), defScope (top 28), [], []⟩, ⟨("are_rows", none), "are_rows", "are_rows", defArgs (top 29), defBody (top 29), defScope (top 29), [], []⟩, ⟨("check_panel", none), "check_panel", "check_panel", defArgs (top 30), defBody (top 30), defScope (top 30), [], []⟩, ⟨("check_steward", none), "check_steward", "check_steward", defArgs (top 31), defBody (top 31), defScope (top 31), [], []⟩, ⟨("first_of", none), "first_of", "first_of", defArgs (top 32), defBody (top 32), defScope (top 32), [], []⟩, ⟨("cards_on", none), "cards_on", "cards_on", defArgs (top 33), defBody (top 33), defScope (top 33), [], []⟩, ⟨("named", none), "named", "named", defArgs (top 34), defBody (top 34), defScope (top 34), [], []⟩] : List He.DefD) ++ ([⟨("cards", none), "cards", "cards", defArgs (top 35), defBody (top 35), defScope (top 35), [], []⟩, ⟨("who", none), "who", "who", defArgs (top 36), defBody (top 36), defScope (top 36), [], []⟩, ⟨("ahead", none), "ahead", "ahead", defArgs (top 37), defBody (top 37), defScope (top 37), [], []⟩, ⟨("places", none), "places", "places", defArgs (top 38), defBody (top 38), defScope (top 38), [], []⟩, ⟨("check_both", none), "check_both", "check_both", defArgs (top 40), defBody (top 40), defScope (top 40), [], []⟩, ⟨("joint", none), "joint", "joint", defArgs (top 41), defBody (top 41), defScope (top 41), [], []⟩, ⟨("_law_purse", none), "_law_purse", "_law_purse", defArgs (top 43), defBody (top 43), defScope (top 43), [], []⟩, ⟨("_law_mixed", none), "_law_mixed", "_law_mixed", defArgs (top 44), defBody (top 44), defScope (top 44), [], []⟩, ⟨("_law_draw", none), "_law_draw", "_law_draw", defArgs (top 45), defBody (top 45), defScope (top 45), [], []⟩, ⟨("_law_purses", none), "_law_purses", "_law_purses", defArgs (top 46), defBody (top 46), defScope (top 46), [], []⟩, ⟨("_law_one_of", none), "_law_one_of", "_law_one_of", defArgs (top 47), defBody (top 47), defScope (top 47), [], []⟩, ⟨("_law_shuffled", none), "_law_shuffled", "_law_shuffled", defArgs (top 48), defBody (top 48), defScope (top 48), [], []⟩, ⟨("_law_word", none), "_law_word", "_law_word", defArgs (top 49), defBody (top 49), defScope (top 49), [], []⟩, ⟨("_law_names", none), "_law_names", "_law_names", defArgs (top 50), defBody (top 50), defScope (top 50), [], []⟩, ⟨("_law_rows_of", none), "_law_rows_of", "_law_rows_of", defArgs (top 51), defBody (top 51), defScope (top 51), [], []⟩, ⟨("_law_cards", none), "_law_cards", "_law_cards", defArgs (top 52), defBody (top 52), defScope (top 52), [], []⟩, ⟨("_law_fields", none), "_law_fields", "_law_fields", defArgs (top 53), defBody (top 53), defScope (top 53), [], []⟩, ⟨("_law_panel_is", none), "_law_panel_is", "_law_panel_is", defArgs (top 54), defBody (top 54), defScope (top 54), [], []⟩, ⟨("_law_pair_right", none), "_law_pair_right", "_law_pair_right", defArgs (top 55), defBody (top 55), defScope (top 55), [], []⟩, ⟨("_law_right", none), "_law_right", "_law_right", defArgs (top 56), defBody (top 56), defScope (top 56), [], []⟩, ⟨("law", none), "law", "law", defArgs (top 57), defBody (top 57), defScope (top 57), [], []⟩] : List He.DefD))
def fa : List He.Fa := (([.glo "is_name", .glo "is_whole", .glo "is_count", .glo "are_names", .glo "are_entries", .glo "is_ascending", .glo "is_lot", .glo "is_field", .glo "is_entry", .glo "check_count", .glo "check_entries", .glo "check_field", .glo "check_entry", .glo "spots_of", .glo "is_row", .glo "are_rows", .glo "check_panel", .glo "check_steward", .glo "first_of", .glo "cards_on", .glo "named", .glo "cards", .glo "who", .glo "ahead", .glo "places", .glo "check_both", .glo "joint", .glo "_law_purse", .glo "_law_mixed", .glo "_law_draw"] : List He.Fa) ++ ([.glo "_law_purses", .glo "_law_one_of", .glo "_law_shuffled", .glo "_law_word", .glo "_law_names", .glo "_law_rows_of", .glo "_law_cards", .glo "_law_fields", .glo "_law_panel_is", .glo "_law_pair_right", .glo "_law_right", .glo "law", .glo "Panel", .cls "Panel", .mkr "Panel", .noat "Panel" "names", .noat "Panel" "orders", .noat "Panel" "spots", .meth "Panel" "entries", .meth "Panel" "rows", .meth "Panel" "__len__", .meth "Panel" "with_row", .meth "Panel" "without_row", .meth "Panel" "struck", .meth "Panel" "renamed", .meth "Panel" "__eq__", .free "ValueError", .free "bool", .free "dict", .free "enumerate"] : List He.Fa) ++ ([.free "int", .free "isinstance", .free "len", .free "list", .free "max", .free "min", .free "range", .free "repr", .free "set", .free "sorted", .free "str", .free "sum", .free "super", .free "zip", .str "LETTERS" "abcdefghijklmnopqrstuvwxyz"] : List He.Fa))
def loose : List Str := ((["_wall", "ShowError", "InvalidEntries", "InvalidRows", "InvalidPanel", "InvalidField", "UnknownEntry", "InvalidCount", "Unlike", "LETTERS", "is_name", "is_whole", "is_count", "are_names", "are_entries", "is_ascending", "is_lot", "is_field", "is_entry", "check_count", "check_entries", "check_field", "check_entry", "Panel", "spots_of", "is_row", "are_rows", "check_panel", "check_steward", "first_of"] : List Str) ++ (["cards_on", "named", "cards", "who", "ahead", "places", "check_both", "joint", "_law_purse", "_law_mixed", "_law_draw", "_law_purses", "_law_one_of", "_law_shuffled", "_law_word", "_law_names", "_law_rows_of", "_law_cards", "_law_fields", "_law_panel_is", "_law_pair_right", "_law_right"] : List Str))
def exB (K : PySem.W.Frag) : Bool := (insB "Panel" K && neB "Panel" K)
abbrev hk : PySem.W.Hook := hookE 5 fa fn exB
def ob (s : PySem.W.SharedT) : AlE := obsE 5 fa fn exB (HandSHeadRun.getT s)
theorem ob_eq (s : PySem.W.SharedT) : ob s = hk.obs s.abs := obsE_eq (HandSHeadRun.getT_eq s)
theorem run (w : World) : HandSHeadRun.RunEq R (PySem.W.view R.prog [57]) hk ob 6000 loose w := by
  intro os
  kernel_rfl
structure Tx [PC] (K : PySem.W.Frag) (mg : Str → Option Value) : Prop where
  pc : ∀ x, PC.at_ x = He.ga K x
  pk : PC.K = K
  says : SaysE fa fn exB K
  glo : ∀ x, (He.Fa.glo x).ok K = true → mg x = some (.ref (He.ga K x))
  free : ∀ x, (He.Fa.free x).ok K = true → mg x = none
  txt : ∀ x z, (He.Fa.str x z).ok K = true → ∃ t, mg x = some (.str z t)
section
variable [PC] {K : PySem.W.Frag} {mg : Str → Option Value}
theorem d_is_name (T : Tx K mg) : ∃ fd, FunD K "is_name" "is_name" (defArgs s_is_name) (defBody s_is_name) (defScope s_is_name) [] [] (He.ga K "is_name") fd := T.says.d.def_ 0 rfl
theorem d_is_whole (T : Tx K mg) : ∃ fd, FunD K "is_whole" "is_whole" (defArgs s_is_whole) (defBody s_is_whole) (defScope s_is_whole) [] [] (He.ga K "is_whole") fd := T.says.d.def_ 1 rfl
theorem d_is_count (T : Tx K mg) : ∃ fd, FunD K "is_count" "is_count" (defArgs s_is_count) (defBody s_is_count) (defScope s_is_count) [] [] (He.ga K "is_count") fd := T.says.d.def_ 2 rfl
theorem d_are_names (T : Tx K mg) : ∃ fd, FunD K "are_names" "are_names" (defArgs s_are_names) (defBody s_are_names) (defScope s_are_names) [] [] (He.ga K "are_names") fd := T.says.d.def_ 3 rfl
theorem d_are_entries (T : Tx K mg) : ∃ fd, FunD K "are_entries" "are_entries" (defArgs s_are_entries) (defBody s_are_entries) (defScope s_are_entries) [] [] (He.ga K "are_entries") fd := T.says.d.def_ 4 rfl
theorem d_is_ascending (T : Tx K mg) : ∃ fd, FunD K "is_ascending" "is_ascending" (defArgs s_is_ascending) (defBody s_is_ascending) (defScope s_is_ascending) [] [] (He.ga K "is_ascending") fd := T.says.d.def_ 5 rfl
theorem d_is_lot (T : Tx K mg) : ∃ fd, FunD K "is_lot" "is_lot" (defArgs s_is_lot) (defBody s_is_lot) (defScope s_is_lot) [] [] (He.ga K "is_lot") fd := T.says.d.def_ 6 rfl
theorem d_is_field (T : Tx K mg) : ∃ fd, FunD K "is_field" "is_field" (defArgs s_is_field) (defBody s_is_field) (defScope s_is_field) [] [] (He.ga K "is_field") fd := T.says.d.def_ 7 rfl
theorem d_is_entry (T : Tx K mg) : ∃ fd, FunD K "is_entry" "is_entry" (defArgs s_is_entry) (defBody s_is_entry) (defScope s_is_entry) [] [] (He.ga K "is_entry") fd := T.says.d.def_ 8 rfl
theorem d_check_count (T : Tx K mg) : ∃ fd, FunD K "check_count" "check_count" (defArgs s_check_count) (defBody s_check_count) (defScope s_check_count) [(.int 0), .non] [] (He.ga K "check_count") fd := T.says.d.def_ 9 rfl
theorem d_check_entries (T : Tx K mg) : ∃ fd, FunD K "check_entries" "check_entries" (defArgs s_check_entries) (defBody s_check_entries) (defScope s_check_entries) [] [] (He.ga K "check_entries") fd := T.says.d.def_ 10 rfl
theorem d_check_field (T : Tx K mg) : ∃ fd, FunD K "check_field" "check_field" (defArgs s_check_field) (defBody s_check_field) (defScope s_check_field) [] [] (He.ga K "check_field") fd := T.says.d.def_ 11 rfl
theorem d_check_entry (T : Tx K mg) : ∃ fd, FunD K "check_entry" "check_entry" (defArgs s_check_entry) (defBody s_check_entry) (defScope s_check_entry) [] [] (He.ga K "check_entry") fd := T.says.d.def_ 12 rfl
theorem d_Panel___init__ (T : Tx K mg) : ∃ fd, FunD K "__init__" "Panel.__init__" (defArgs s_Panel___init__) (defBody s_Panel___init__) (defScope s_Panel___init__) [] [] (He.ma K (He.ga K "Panel") "__init__") fd := T.says.d.def_ 13 rfl
theorem d_Panel_entries (T : Tx K mg) : ∃ fd, FunD K "entries" "Panel.entries" (defArgs s_Panel_entries) (defBody s_Panel_entries) (defScope s_Panel_entries) [] [] (He.ma K (He.ga K "Panel") "entries") fd := T.says.d.def_ 14 rfl
theorem d_Panel_rows (T : Tx K mg) : ∃ fd, FunD K "rows" "Panel.rows" (defArgs s_Panel_rows) (defBody s_Panel_rows) (defScope s_Panel_rows) [] [] (He.ma K (He.ga K "Panel") "rows") fd := T.says.d.def_ 15 rfl
theorem d_Panel___len__ (T : Tx K mg) : ∃ fd, FunD K "__len__" "Panel.__len__" (defArgs s_Panel___len__) (defBody s_Panel___len__) (defScope s_Panel___len__) [] [] (He.ma K (He.ga K "Panel") "__len__") fd := T.says.d.def_ 16 rfl
theorem d_Panel_with_row (T : Tx K mg) : ∃ fd, FunD K "with_row" "Panel.with_row" (defArgs s_Panel_with_row) (defBody s_Panel_with_row) (defScope s_Panel_with_row) [] [] (He.ma K (He.ga K "Panel") "with_row") fd := T.says.d.def_ 17 rfl
theorem d_Panel_without_row (T : Tx K mg) : ∃ fd, FunD K "without_row" "Panel.without_row" (defArgs s_Panel_without_row) (defBody s_Panel_without_row) (defScope s_Panel_without_row) [] [] (He.ma K (He.ga K "Panel") "without_row") fd := T.says.d.def_ 18 rfl
theorem d_Panel_struck (T : Tx K mg) : ∃ fd, FunD K "struck" "Panel.struck" (defArgs s_Panel_struck) (defBody s_Panel_struck) (defScope s_Panel_struck) [] [] (He.ma K (He.ga K "Panel") "struck") fd := T.says.d.def_ 19 rfl
theorem d_Panel_renamed (T : Tx K mg) : ∃ fd, FunD K "renamed" "Panel.renamed" (defArgs s_Panel_renamed) (defBody s_Panel_renamed) (defScope s_Panel_renamed) [] [] (He.ma K (He.ga K "Panel") "renamed") fd := T.says.d.def_ 20 rfl
theorem d_Panel___eq__ (T : Tx K mg) : ∃ fd, FunD K "__eq__" "Panel.__eq__" (defArgs s_Panel___eq__) (defBody s_Panel___eq__) (defScope s_Panel___eq__) [] [] (He.ma K (He.ga K "Panel") "__eq__") fd := T.says.d.def_ 21 rfl
theorem d_spots_of (T : Tx K mg) : ∃ fd, FunD K "spots_of" "spots_of" (defArgs s_spots_of) (defBody s_spots_of) (defScope s_spots_of) [] [] (He.ga K "spots_of") fd := T.says.d.def_ 22 rfl
theorem d_is_row (T : Tx K mg) : ∃ fd, FunD K "is_row" "is_row" (defArgs s_is_row) (defBody s_is_row) (defScope s_is_row) [] [] (He.ga K "is_row") fd := T.says.d.def_ 23 rfl
theorem d_are_rows (T : Tx K mg) : ∃ fd, FunD K "are_rows" "are_rows" (defArgs s_are_rows) (defBody s_are_rows) (defScope s_are_rows) [] [] (He.ga K "are_rows") fd := T.says.d.def_ 24 rfl
theorem d_check_panel (T : Tx K mg) : ∃ fd, FunD K "check_panel" "check_panel" (defArgs s_check_panel) (defBody s_check_panel) (defScope s_check_panel) [] [] (He.ga K "check_panel") fd := T.says.d.def_ 25 rfl
theorem d_check_steward (T : Tx K mg) : ∃ fd, FunD K "check_steward" "check_steward" (defArgs s_check_steward) (defBody s_check_steward) (defScope s_check_steward) [] [] (He.ga K "check_steward") fd := T.says.d.def_ 26 rfl
theorem d_first_of (T : Tx K mg) : ∃ fd, FunD K "first_of" "first_of" (defArgs s_first_of) (defBody s_first_of) (defScope s_first_of) [] [] (He.ga K "first_of") fd := T.says.d.def_ 27 rfl
theorem d_cards_on (T : Tx K mg) : ∃ fd, FunD K "cards_on" "cards_on" (defArgs s_cards_on) (defBody s_cards_on) (defScope s_cards_on) [] [] (He.ga K "cards_on") fd := T.says.d.def_ 28 rfl
theorem d_named (T : Tx K mg) : ∃ fd, FunD K "named" "named" (defArgs s_named) (defBody s_named) (defScope s_named) [] [] (He.ga K "named") fd := T.says.d.def_ 29 rfl
theorem d_cards (T : Tx K mg) : ∃ fd, FunD K "cards" "cards" (defArgs s_cards) (defBody s_cards) (defScope s_cards) [] [] (He.ga K "cards") fd := T.says.d.def_ 30 rfl
theorem d_who (T : Tx K mg) : ∃ fd, FunD K "who" "who" (defArgs s_who) (defBody s_who) (defScope s_who) [] [] (He.ga K "who") fd := T.says.d.def_ 31 rfl
theorem d_ahead (T : Tx K mg) : ∃ fd, FunD K "ahead" "ahead" (defArgs s_ahead) (defBody s_ahead) (defScope s_ahead) [] [] (He.ga K "ahead") fd := T.says.d.def_ 32 rfl
theorem d_places (T : Tx K mg) : ∃ fd, FunD K "places" "places" (defArgs s_places) (defBody s_places) (defScope s_places) [] [] (He.ga K "places") fd := T.says.d.def_ 33 rfl
theorem d_check_both (T : Tx K mg) : ∃ fd, FunD K "check_both" "check_both" (defArgs s_check_both) (defBody s_check_both) (defScope s_check_both) [] [] (He.ga K "check_both") fd := T.says.d.def_ 34 rfl
theorem d_joint (T : Tx K mg) : ∃ fd, FunD K "joint" "joint" (defArgs s_joint) (defBody s_joint) (defScope s_joint) [] [] (He.ga K "joint") fd := T.says.d.def_ 35 rfl
theorem d__law_purse (T : Tx K mg) : ∃ fd, FunD K "_law_purse" "_law_purse" (defArgs s__law_purse) (defBody s__law_purse) (defScope s__law_purse) [] [] (He.ga K "_law_purse") fd := T.says.d.def_ 36 rfl
theorem d__law_mixed (T : Tx K mg) : ∃ fd, FunD K "_law_mixed" "_law_mixed" (defArgs s__law_mixed) (defBody s__law_mixed) (defScope s__law_mixed) [] [] (He.ga K "_law_mixed") fd := T.says.d.def_ 37 rfl
theorem d__law_draw (T : Tx K mg) : ∃ fd, FunD K "_law_draw" "_law_draw" (defArgs s__law_draw) (defBody s__law_draw) (defScope s__law_draw) [] [] (He.ga K "_law_draw") fd := T.says.d.def_ 38 rfl
theorem d__law_purses (T : Tx K mg) : ∃ fd, FunD K "_law_purses" "_law_purses" (defArgs s__law_purses) (defBody s__law_purses) (defScope s__law_purses) [] [] (He.ga K "_law_purses") fd := T.says.d.def_ 39 rfl
theorem d__law_one_of (T : Tx K mg) : ∃ fd, FunD K "_law_one_of" "_law_one_of" (defArgs s__law_one_of) (defBody s__law_one_of) (defScope s__law_one_of) [] [] (He.ga K "_law_one_of") fd := T.says.d.def_ 40 rfl
theorem d__law_shuffled (T : Tx K mg) : ∃ fd, FunD K "_law_shuffled" "_law_shuffled" (defArgs s__law_shuffled) (defBody s__law_shuffled) (defScope s__law_shuffled) [] [] (He.ga K "_law_shuffled") fd := T.says.d.def_ 41 rfl
theorem d__law_word (T : Tx K mg) : ∃ fd, FunD K "_law_word" "_law_word" (defArgs s__law_word) (defBody s__law_word) (defScope s__law_word) [] [] (He.ga K "_law_word") fd := T.says.d.def_ 42 rfl
theorem d__law_names (T : Tx K mg) : ∃ fd, FunD K "_law_names" "_law_names" (defArgs s__law_names) (defBody s__law_names) (defScope s__law_names) [] [] (He.ga K "_law_names") fd := T.says.d.def_ 43 rfl
theorem d__law_rows_of (T : Tx K mg) : ∃ fd, FunD K "_law_rows_of" "_law_rows_of" (defArgs s__law_rows_of) (defBody s__law_rows_of) (defScope s__law_rows_of) [] [] (He.ga K "_law_rows_of") fd := T.says.d.def_ 44 rfl
theorem d__law_cards (T : Tx K mg) : ∃ fd, FunD K "_law_cards" "_law_cards" (defArgs s__law_cards) (defBody s__law_cards) (defScope s__law_cards) [] [] (He.ga K "_law_cards") fd := T.says.d.def_ 45 rfl
theorem d__law_fields (T : Tx K mg) : ∃ fd, FunD K "_law_fields" "_law_fields" (defArgs s__law_fields) (defBody s__law_fields) (defScope s__law_fields) [] [] (He.ga K "_law_fields") fd := T.says.d.def_ 46 rfl
theorem d__law_panel_is (T : Tx K mg) : ∃ fd, FunD K "_law_panel_is" "_law_panel_is" (defArgs s__law_panel_is) (defBody s__law_panel_is) (defScope s__law_panel_is) [] [] (He.ga K "_law_panel_is") fd := T.says.d.def_ 47 rfl
theorem d__law_pair_right (T : Tx K mg) : ∃ fd, FunD K "_law_pair_right" "_law_pair_right" (defArgs s__law_pair_right) (defBody s__law_pair_right) (defScope s__law_pair_right) [] [] (He.ga K "_law_pair_right") fd := T.says.d.def_ 48 rfl
theorem d__law_right (T : Tx K mg) : ∃ fd, FunD K "_law_right" "_law_right" (defArgs s__law_right) (defBody s__law_right) (defScope s__law_right) [] [] (He.ga K "_law_right") fd := T.says.d.def_ 49 rfl
theorem d_law (T : Tx K mg) : ∃ fd, FunD K "law" "law" (defArgs s_law) (defBody s_law) (defScope s_law) [] [] (He.ga K "law") fd := T.says.d.def_ 50 rfl
theorem g_is_name (T : Tx K mg) : mg "is_name" = some (.ref (He.ga K "is_name")) := T.glo _ (T.says.d.fact 0 rfl)
theorem g_is_whole (T : Tx K mg) : mg "is_whole" = some (.ref (He.ga K "is_whole")) := T.glo _ (T.says.d.fact 1 rfl)
theorem g_is_count (T : Tx K mg) : mg "is_count" = some (.ref (He.ga K "is_count")) := T.glo _ (T.says.d.fact 2 rfl)
theorem g_are_names (T : Tx K mg) : mg "are_names" = some (.ref (He.ga K "are_names")) := T.glo _ (T.says.d.fact 3 rfl)
theorem g_are_entries (T : Tx K mg) : mg "are_entries" = some (.ref (He.ga K "are_entries")) := T.glo _ (T.says.d.fact 4 rfl)
theorem g_is_ascending (T : Tx K mg) : mg "is_ascending" = some (.ref (He.ga K "is_ascending")) := T.glo _ (T.says.d.fact 5 rfl)
theorem g_is_lot (T : Tx K mg) : mg "is_lot" = some (.ref (He.ga K "is_lot")) := T.glo _ (T.says.d.fact 6 rfl)
theorem g_is_field (T : Tx K mg) : mg "is_field" = some (.ref (He.ga K "is_field")) := T.glo _ (T.says.d.fact 7 rfl)
theorem g_is_entry (T : Tx K mg) : mg "is_entry" = some (.ref (He.ga K "is_entry")) := T.glo _ (T.says.d.fact 8 rfl)
theorem g_check_count (T : Tx K mg) : mg "check_count" = some (.ref (He.ga K "check_count")) := T.glo _ (T.says.d.fact 9 rfl)
theorem g_check_entries (T : Tx K mg) : mg "check_entries" = some (.ref (He.ga K "check_entries")) := T.glo _ (T.says.d.fact 10 rfl)
theorem g_check_field (T : Tx K mg) : mg "check_field" = some (.ref (He.ga K "check_field")) := T.glo _ (T.says.d.fact 11 rfl)
theorem g_check_entry (T : Tx K mg) : mg "check_entry" = some (.ref (He.ga K "check_entry")) := T.glo _ (T.says.d.fact 12 rfl)
theorem g_spots_of (T : Tx K mg) : mg "spots_of" = some (.ref (He.ga K "spots_of")) := T.glo _ (T.says.d.fact 13 rfl)
theorem g_is_row (T : Tx K mg) : mg "is_row" = some (.ref (He.ga K "is_row")) := T.glo _ (T.says.d.fact 14 rfl)
theorem g_are_rows (T : Tx K mg) : mg "are_rows" = some (.ref (He.ga K "are_rows")) := T.glo _ (T.says.d.fact 15 rfl)
theorem g_check_panel (T : Tx K mg) : mg "check_panel" = some (.ref (He.ga K "check_panel")) := T.glo _ (T.says.d.fact 16 rfl)
theorem g_check_steward (T : Tx K mg) : mg "check_steward" = some (.ref (He.ga K "check_steward")) := T.glo _ (T.says.d.fact 17 rfl)
theorem g_first_of (T : Tx K mg) : mg "first_of" = some (.ref (He.ga K "first_of")) := T.glo _ (T.says.d.fact 18 rfl)
theorem g_cards_on (T : Tx K mg) : mg "cards_on" = some (.ref (He.ga K "cards_on")) := T.glo _ (T.says.d.fact 19 rfl)
theorem g_named (T : Tx K mg) : mg "named" = some (.ref (He.ga K "named")) := T.glo _ (T.says.d.fact 20 rfl)
theorem g_cards (T : Tx K mg) : mg "cards" = some (.ref (He.ga K "cards")) := T.glo _ (T.says.d.fact 21 rfl)
theorem g_who (T : Tx K mg) : mg "who" = some (.ref (He.ga K "who")) := T.glo _ (T.says.d.fact 22 rfl)
theorem g_ahead (T : Tx K mg) : mg "ahead" = some (.ref (He.ga K "ahead")) := T.glo _ (T.says.d.fact 23 rfl)
theorem g_places (T : Tx K mg) : mg "places" = some (.ref (He.ga K "places")) := T.glo _ (T.says.d.fact 24 rfl)
theorem g_check_both (T : Tx K mg) : mg "check_both" = some (.ref (He.ga K "check_both")) := T.glo _ (T.says.d.fact 25 rfl)
theorem g_joint (T : Tx K mg) : mg "joint" = some (.ref (He.ga K "joint")) := T.glo _ (T.says.d.fact 26 rfl)
theorem g__law_purse (T : Tx K mg) : mg "_law_purse" = some (.ref (He.ga K "_law_purse")) := T.glo _ (T.says.d.fact 27 rfl)
theorem g__law_mixed (T : Tx K mg) : mg "_law_mixed" = some (.ref (He.ga K "_law_mixed")) := T.glo _ (T.says.d.fact 28 rfl)
theorem g__law_draw (T : Tx K mg) : mg "_law_draw" = some (.ref (He.ga K "_law_draw")) := T.glo _ (T.says.d.fact 29 rfl)
theorem g__law_purses (T : Tx K mg) : mg "_law_purses" = some (.ref (He.ga K "_law_purses")) := T.glo _ (T.says.d.fact 30 rfl)
theorem g__law_one_of (T : Tx K mg) : mg "_law_one_of" = some (.ref (He.ga K "_law_one_of")) := T.glo _ (T.says.d.fact 31 rfl)
theorem g__law_shuffled (T : Tx K mg) : mg "_law_shuffled" = some (.ref (He.ga K "_law_shuffled")) := T.glo _ (T.says.d.fact 32 rfl)
theorem g__law_word (T : Tx K mg) : mg "_law_word" = some (.ref (He.ga K "_law_word")) := T.glo _ (T.says.d.fact 33 rfl)
theorem g__law_names (T : Tx K mg) : mg "_law_names" = some (.ref (He.ga K "_law_names")) := T.glo _ (T.says.d.fact 34 rfl)
theorem g__law_rows_of (T : Tx K mg) : mg "_law_rows_of" = some (.ref (He.ga K "_law_rows_of")) := T.glo _ (T.says.d.fact 35 rfl)
theorem g__law_cards (T : Tx K mg) : mg "_law_cards" = some (.ref (He.ga K "_law_cards")) := T.glo _ (T.says.d.fact 36 rfl)
theorem g__law_fields (T : Tx K mg) : mg "_law_fields" = some (.ref (He.ga K "_law_fields")) := T.glo _ (T.says.d.fact 37 rfl)
theorem g__law_panel_is (T : Tx K mg) : mg "_law_panel_is" = some (.ref (He.ga K "_law_panel_is")) := T.glo _ (T.says.d.fact 38 rfl)
theorem g__law_pair_right (T : Tx K mg) : mg "_law_pair_right" = some (.ref (He.ga K "_law_pair_right")) := T.glo _ (T.says.d.fact 39 rfl)
theorem g__law_right (T : Tx K mg) : mg "_law_right" = some (.ref (He.ga K "_law_right")) := T.glo _ (T.says.d.fact 40 rfl)
theorem g_law (T : Tx K mg) : mg "law" = some (.ref (He.ga K "law")) := T.glo _ (T.says.d.fact 41 rfl)
theorem g_Panel (T : Tx K mg) : mg "Panel" = some (.ref (PC.at_ "Panel")) := by rw [T.pc]; exact T.glo _ (T.says.d.fact 42 rfl)
theorem c_Panel (T : Tx K mg) : Cls K (PC.at_ "Panel") := by rw [T.pc]; exact He.cls_ok (T.says.d.fact 43 rfl)
theorem i_Panel (T : Tx K mg) : C8.InsC K (PC.at_ "Panel") := by have c := c_Panel T; rw [T.pc] at c ⊢; exact insB_ok c (He.ba T.says.more).1
theorem ne_Panel (T : Tx K mg) : NeC K (PC.at_ "Panel") := by rw [T.pc]; exact neB_ok (He.ba T.says.more).2
theorem k_Panel (T : Tx K mg) : Mk K (PC.at_ "Panel") (He.ma K (He.ga K "Panel") "__init__") := by rw [T.pc]; exact He.mkr_ok (T.says.d.fact 44 rfl)
theorem n_Panel_names (T : Tx K mg) : NoAttr K (PC.at_ "Panel") "names" := by rw [T.pc]; exact He.noat_ok (T.says.d.fact 45 rfl)
theorem n_Panel_orders (T : Tx K mg) : NoAttr K (PC.at_ "Panel") "orders" := by rw [T.pc]; exact He.noat_ok (T.says.d.fact 46 rfl)
theorem n_Panel_spots (T : Tx K mg) : NoAttr K (PC.at_ "Panel") "spots" := by rw [T.pc]; exact He.noat_ok (T.says.d.fact 47 rfl)
theorem mt_Panel_entries (T : Tx K mg) : Meth K (PC.at_ "Panel") "entries" (He.ma K (He.ga K "Panel") "entries") := by rw [T.pc]; exact He.meth_ok (T.says.d.fact 48 rfl)
theorem mt_Panel_rows (T : Tx K mg) : Meth K (PC.at_ "Panel") "rows" (He.ma K (He.ga K "Panel") "rows") := by rw [T.pc]; exact He.meth_ok (T.says.d.fact 49 rfl)
theorem mt_Panel___len__ (T : Tx K mg) : Meth K (PC.at_ "Panel") "__len__" (He.ma K (He.ga K "Panel") "__len__") := by rw [T.pc]; exact He.meth_ok (T.says.d.fact 50 rfl)
theorem mt_Panel_with_row (T : Tx K mg) : Meth K (PC.at_ "Panel") "with_row" (He.ma K (He.ga K "Panel") "with_row") := by rw [T.pc]; exact He.meth_ok (T.says.d.fact 51 rfl)
theorem mt_Panel_without_row (T : Tx K mg) : Meth K (PC.at_ "Panel") "without_row" (He.ma K (He.ga K "Panel") "without_row") := by rw [T.pc]; exact He.meth_ok (T.says.d.fact 52 rfl)
theorem mt_Panel_struck (T : Tx K mg) : Meth K (PC.at_ "Panel") "struck" (He.ma K (He.ga K "Panel") "struck") := by rw [T.pc]; exact He.meth_ok (T.says.d.fact 53 rfl)
theorem mt_Panel_renamed (T : Tx K mg) : Meth K (PC.at_ "Panel") "renamed" (He.ma K (He.ga K "Panel") "renamed") := by rw [T.pc]; exact He.meth_ok (T.says.d.fact 54 rfl)
theorem mt_Panel___eq__ (T : Tx K mg) : Meth K (PC.at_ "Panel") "__eq__" (He.ma K (He.ga K "Panel") "__eq__") := by rw [T.pc]; exact He.meth_ok (T.says.d.fact 55 rfl)
theorem b_ValueError (T : Tx K mg) : mg "ValueError" = none := T.free _ (T.says.d.fact 56 rfl)
theorem b_bool (T : Tx K mg) : mg "bool" = none := T.free _ (T.says.d.fact 57 rfl)
theorem b_dict (T : Tx K mg) : mg "dict" = none := T.free _ (T.says.d.fact 58 rfl)
theorem b_enumerate (T : Tx K mg) : mg "enumerate" = none := T.free _ (T.says.d.fact 59 rfl)
theorem b_int (T : Tx K mg) : mg "int" = none := T.free _ (T.says.d.fact 60 rfl)
theorem b_isinstance (T : Tx K mg) : mg "isinstance" = none := T.free _ (T.says.d.fact 61 rfl)
theorem b_len (T : Tx K mg) : mg "len" = none := T.free _ (T.says.d.fact 62 rfl)
theorem b_list (T : Tx K mg) : mg "list" = none := T.free _ (T.says.d.fact 63 rfl)
theorem b_max (T : Tx K mg) : mg "max" = none := T.free _ (T.says.d.fact 64 rfl)
theorem b_min (T : Tx K mg) : mg "min" = none := T.free _ (T.says.d.fact 65 rfl)
theorem b_range (T : Tx K mg) : mg "range" = none := T.free _ (T.says.d.fact 66 rfl)
theorem b_repr (T : Tx K mg) : mg "repr" = none := T.free _ (T.says.d.fact 67 rfl)
theorem b_set (T : Tx K mg) : mg "set" = none := T.free _ (T.says.d.fact 68 rfl)
theorem b_sorted (T : Tx K mg) : mg "sorted" = none := T.free _ (T.says.d.fact 69 rfl)
theorem b_str (T : Tx K mg) : mg "str" = none := T.free _ (T.says.d.fact 70 rfl)
theorem b_sum (T : Tx K mg) : mg "sum" = none := T.free _ (T.says.d.fact 71 rfl)
theorem b_super (T : Tx K mg) : mg "super" = none := T.free _ (T.says.d.fact 72 rfl)
theorem b_zip (T : Tx K mg) : mg "zip" = none := T.free _ (T.says.d.fact 73 rfl)
theorem t_LETTERS (T : Tx K mg) : ∃ t, mg "LETTERS" = some (.str "abcdefghijklmnopqrstuvwxyz" t) := T.txt _ _ (T.says.d.fact 74 rfl)
end
end Pf

namespace Pf
open Dn.Rep (rep)
open PySem L2 Dn
section
variable [PC] {P : Program} {w : World} {K : PySem.W.Frag} {mg : Str → Option Value} {base : Heap}
abbrev N_is_name : List Str := ["value", "sign"]
def m_is_name_1 (x_value : Str) : Bool := false
def ok_is_name_1 (x_value : Str) : Prop := True
def m_is_name_2 (x_value : Str) : Bool := decide (((signs x_value).filter fun y4 => (!decide (y4.c ∈ ("abcdefghijklmnopqrstuvwxyz" : Str).cps.toList))) = ([] : List Sign))
def ok_is_name_2 (x_value : Str) : Prop := True
def m_is_name_0 (x_value : Str) : Bool := if ((!true) || (decide ((x_value.length : Int) < (1 : Int)) || decide ((8 : Int) < (x_value.length : Int)))) = true then m_is_name_1 x_value else m_is_name_2 x_value
def ok_is_name_0 (x_value : Str) : Prop := (((!true) || (decide ((x_value.length : Int) < (1 : Int)) || decide ((8 : Int) < (x_value.length : Int)))) = true → ok_is_name_1 x_value) ∧ (((!true) || (decide ((x_value.length : Int) < (1 : Int)) || decide ((8 : Int) < (x_value.length : Int)))) = false → ok_is_name_2 x_value)
def m_is_name (x_value : Str) : Bool := m_is_name_0 x_value
def ok_is_name (x_value : Str) : Prop := ok_is_name_0 x_value
theorem h_is_name (T : Tx K mg) : Has P w K mg base "is_name" (He.ga K "is_name") 1 ["value"] (SpN kD (fun (a : Str × Unit) => ok_is_name a.1) (fun a => m_is_name a.1)) := by
  have sc : FnScope N_is_name ["value"] (defScope s_is_name) := ⟨rfl, rfl, rfl, by decide +kernel, rfl, by decide +kernel, by decide +kernel⟩
  refine has_D (d_is_name T) (g_is_name T) sc (fun _ _ _ _ _ _ us hl => match us, hl with | [_], _ => rfl) (by rintro a G vs ⟨v_value, _, rfl, r_value, rfl⟩; rfl) ?_
  rintro X ⟨cdv, AA, outer, ss, HH, EE, rfl⟩ hr B vs ⟨x_value, ⟨⟩⟩ G0 hB ⟨v_value, _, rfl, r_value, rfl⟩ hok
  replace hok : ok_is_name_0 x_value := hok
  show SJ B _ _ [some v_value, none] G0 [] (JD B []) (m_is_name_0 x_value)
  obtain ⟨hokA, hokB⟩ := hok
  refine sj_whenX (DT.st (DW.dt (dw_or (dt_not (dt_val (de_isTy (b_isinstance T) (b_str T) (de_var 0 r_value) (ty_str _) (kit_same "str")))) fun h2 => dw_or (DC.dt (dc_lt (de_lenSI (b_len T) (de_var 0 r_value)) de_int)) fun h1 => dw_or1 (DC.dt (dc_gt (de_lenSI (b_len T) (de_var 0 r_value)) de_int))))) (fun h3 => ?_) (fun h3 => ?_)
  · have hok := hokA h3; clear hokA hokB
    show SJ B _ _ [some v_value, none] G0 [] (JX (JD B [])) (m_is_name_1 x_value)
    exact sb_ret 0 (DE.se de_bl)
  · have hok := hokB h3; clear hokA hokB
    show SJ B _ _ [some v_value, none] G0 [] (JD B []) (m_is_name_2 x_value)
    exact sb_ret 0 (DE.se (DC.de (dc_eq hr.units (DO.de (do_lc (lc_fil (fun y4 => (!decide (y4.c ∈ ("abcdefghijklmnopqrstuvwxyz" : Str).cps.toList))) sc.nd rfl (di_str (de_var 0 r_value)) (blkOk_by (own := [("sign", 1)]) (N := N_is_name) (sc := _) (by first | decide +kernel | rfl)) rfl (dg_name sc.nd) (by intro i_ y4 σ_ G_ hy_ eG_ hT_; obtain ⟨v_y4, q_y4, rfl⟩ := hT_; have r_value := Rep.mono eG_ r_value; intro Y_ hY_; have hr := InBlk.room hY_ hr; obtain ⟨⟨s_, H_, C_, cl_, fp_, rfl⟩⟩ := hY_; exact df_one (DC.dt (dc_ninSign (de_var 1 q_y4) (de_gstr (t_LETTERS T))))) (by intro i_ y4 σ_ G_ hy_ eG_ hT_ hf_; obtain ⟨v_y4, q_y4, rfl⟩ := hT_; have r_value := Rep.mono eG_ r_value; intro Y_ hY_; have hr := InBlk.room hY_ hr; obtain ⟨⟨s_, H_, C_, cl_, fp_, rfl⟩⟩ := hY_; exact de_var 1 q_y4)))) (DO.de (do_list (hl := (by decide : (0 : Nat) ≤ sizeLine)) (des_nil (α := Sign)))))))

abbrev N_is_whole : List Str := ["value"]
def m_is_whole_0 (x_value : Int) : Bool := (true && (!false))
def ok_is_whole_0 (x_value : Int) : Prop := True
def m_is_whole (x_value : Int) : Bool := m_is_whole_0 x_value
def ok_is_whole (x_value : Int) : Prop := ok_is_whole_0 x_value
theorem h_is_whole (T : Tx K mg) : Has P w K mg base "is_whole" (He.ga K "is_whole") 1 ["value"] (SpN kD (fun (a : Int × Unit) => ok_is_whole a.1) (fun a => m_is_whole a.1)) := by
  have sc : FnScope N_is_whole ["value"] (defScope s_is_whole) := ⟨rfl, rfl, rfl, by decide +kernel, rfl, by decide +kernel, by decide +kernel⟩
  refine has_D (d_is_whole T) (g_is_whole T) sc (fun _ _ _ _ _ _ us hl => match us, hl with | [_], _ => rfl) (by rintro a G vs ⟨v_value, _, rfl, r_value, rfl⟩; rfl) ?_
  rintro X ⟨cdv, AA, outer, ss, HH, EE, rfl⟩ hr B vs ⟨x_value, ⟨⟩⟩ G0 hB ⟨v_value, _, rfl, r_value, rfl⟩ hok
  replace hok : ok_is_whole_0 x_value := hok
  show SJ B _ _ [some v_value] G0 [] (JD B []) (m_is_whole_0 x_value)
  exact sb_ret 0 (DE.se (de_and (de_isTy (b_isinstance T) (b_int T) (de_var 0 r_value) (ty_int _) (kit_same "int")) fun h2 => de_one (de_not (de_isTy (b_isinstance T) (b_bool T) (de_var 0 r_value) (ty_int _) kit_int_bool))))

abbrev N_is_count : List Str := ["value"]
def m_is_count_0 (x_value : Int) : Bool := ((m_is_whole x_value) && decide ((0 : Int) ≤ x_value))
def ok_is_count_0 (x_value : Int) : Prop := (ok_is_whole x_value) ∧ True
def m_is_count (x_value : Int) : Bool := m_is_count_0 x_value
def ok_is_count (x_value : Int) : Prop := ok_is_count_0 x_value
theorem h_is_count (T : Tx K mg) : Has P w K mg base "is_count" (He.ga K "is_count") 2 ["value"] (SpN kD (fun (a : Int × Unit) => ok_is_count a.1) (fun a => m_is_count a.1)) := by
  have sc : FnScope N_is_count ["value"] (defScope s_is_count) := ⟨rfl, rfl, rfl, by decide +kernel, rfl, by decide +kernel, by decide +kernel⟩
  refine has_D (d_is_count T) (g_is_count T) sc (fun _ _ _ _ _ _ us hl => match us, hl with | [_], _ => rfl) (by rintro a G vs ⟨v_value, _, rfl, r_value, rfl⟩; rfl) ?_
  rintro X ⟨cdv, AA, outer, ss, HH, EE, rfl⟩ hr B vs ⟨x_value, ⟨⟩⟩ G0 hB ⟨v_value, _, rfl, r_value, rfl⟩ hok
  replace hok : ok_is_count_0 x_value := hok
  show SJ B _ _ [some v_value] G0 [] (JD B []) (m_is_count_0 x_value)
  obtain ⟨k1, hok⟩ := hok
  exact sb_ret 0 (DE.se (de_and (de_callZ (y := (x_value, ())) (z := (m_is_whole x_value)) (h_is_whole T) hr (da_cons (de_var 0 r_value) da_nil) k1) fun h2 => de_one (DC.de (dc_ge (de_var 0 r_value) de_int))))

abbrev N_are_names : List Str := ["value", "name"]
def m_are_names_1 (x_value : List Str) : Bool := false
def ok_are_names_1 (x_value : List Str) : Prop := True
def m_are_names_2 (x_value : List Str) : Bool := decide (((ddp x_value).length : Int) = (x_value.length : Int))
def ok_are_names_2 (x_value : List Str) : Prop := (x_value.length < 64) ∧ True
def m_are_names_0 (x_value : List Str) : Bool := if ((!true) || (!decide ((x_value.filter fun y1 => (!(m_is_name y1))) = ([] : List Str)))) = true then m_are_names_1 x_value else m_are_names_2 x_value
def ok_are_names_0 (x_value : List Str) : Prop := (((!true) = false) → (∀ y1 ∈ x_value, (ok_is_name y1))) ∧ (((!true) || (!decide ((x_value.filter fun y1 => (!(m_is_name y1))) = ([] : List Str)))) = true → ok_are_names_1 x_value) ∧ (((!true) || (!decide ((x_value.filter fun y1 => (!(m_is_name y1))) = ([] : List Str)))) = false → ok_are_names_2 x_value)
def m_are_names (x_value : List Str) : Bool := m_are_names_0 x_value
def ok_are_names (x_value : List Str) : Prop := ok_are_names_0 x_value
theorem h_are_names (T : Tx K mg) : Has P w K mg base "are_names" (He.ga K "are_names") 2 ["value"] (SpN kD (fun (a : (List Str) × Unit) => ok_are_names a.1) (fun a => m_are_names a.1)) := by
  have sc : FnScope N_are_names ["value"] (defScope s_are_names) := ⟨rfl, rfl, rfl, by decide +kernel, rfl, by decide +kernel, by decide +kernel⟩
  refine has_D (d_are_names T) (g_are_names T) sc (fun _ _ _ _ _ _ us hl => match us, hl with | [_], _ => rfl) (by rintro a G vs ⟨v_value, _, rfl, r_value, rfl⟩; rfl) ?_
  rintro X ⟨cdv, AA, outer, ss, HH, EE, rfl⟩ hr B vs ⟨x_value, ⟨⟩⟩ G0 hB ⟨v_value, _, rfl, r_value, rfl⟩ hok
  replace hok : ok_are_names_0 x_value := hok
  show SJ B _ _ [some v_value, none] G0 [] (JD B []) (m_are_names_0 x_value)
  obtain ⟨k3, hokA, hokB⟩ := hok
  refine sj_whenX (DT.st (DW.dt (dw_or (dt_not (dt_val (de_isTy (b_isinstance T) (b_list T) (de_var 0 r_value) (ty_list _) (kit_same "list")))) fun h2 => (by have k2 := k3 h2; exact dw_or1 (DC.dt (dc_ne hr.units (DO.de (do_lc (lc_fil (fun y1 => (!(m_is_name y1))) sc.nd rfl (di_list (de_var 0 r_value)) (blkOk_by (own := [("name", 1)]) (N := N_are_names) (sc := _) (by first | decide +kernel | rfl)) rfl (dg_name sc.nd) (by intro i_ y1 σ_ G_ hy_ eG_ hT_; obtain ⟨v_y1, q_y1, rfl⟩ := hT_; have r_value := Rep.mono eG_ r_value; have z_ := k2 y1 (List.mem_of_getElem? hy_); have k1 := z_; intro Y_ hY_; have hr := InBlk.room hY_ hr; obtain ⟨⟨s_, H_, C_, cl_, fp_, rfl⟩⟩ := hY_; exact df_one (dt_not (dt_val (de_callZ (y := (y1, ())) (z := (m_is_name y1)) (h_is_name T) hr (da_cons (de_var 1 q_y1) da_nil) k1)))) (by intro i_ y1 σ_ G_ hy_ eG_ hT_ hf_; obtain ⟨v_y1, q_y1, rfl⟩ := hT_; have r_value := Rep.mono eG_ r_value; have z_ := k2 y1 (List.mem_of_getElem? hy_); have k1 := z_; intro Y_ hY_; have hr := InBlk.room hY_ hr; obtain ⟨⟨s_, H_, C_, cl_, fp_, rfl⟩⟩ := hY_; exact de_var 1 q_y1)))) (DO.de (do_list (hl := (by decide : (0 : Nat) ≤ sizeLine)) (des_nil (α := Str)))))))))) (fun h3 => ?_) (fun h3 => ?_)
  · have hok := hokA h3; clear hokA hokB
    show SJ B _ _ [some v_value, none] G0 [] (JX (JD B [])) (m_are_names_1 x_value)
    exact sb_ret 0 (DE.se de_bl)
  · have hok := hokB h3; clear hokA hokB
    show SJ B _ _ [some v_value, none] G0 [] (JD B []) (m_are_names_2 x_value)
    obtain ⟨k4, hok⟩ := hok
    exact sb_ret 0 (DE.se (DC.de (dc_eqI (de_lenSetI (b_len T) (b_set T) (de_var 0 r_value) k4) (de_lenI (b_len T) (de_var 0 r_value)))))

abbrev N_are_entries : List Str := ["value"]
def m_are_entries_0 (x_value : List Str) : Bool := ((m_are_names x_value) && (!decide (x_value = ([] : List Str))))
def ok_are_entries_0 (x_value : List Str) : Prop := (ok_are_names x_value) ∧ True
def m_are_entries (x_value : List Str) : Bool := m_are_entries_0 x_value
def ok_are_entries (x_value : List Str) : Prop := ok_are_entries_0 x_value
theorem h_are_entries (T : Tx K mg) : Has P w K mg base "are_entries" (He.ga K "are_entries") 3 ["value"] (SpN kD (fun (a : (List Str) × Unit) => ok_are_entries a.1) (fun a => m_are_entries a.1)) := by
  have sc : FnScope N_are_entries ["value"] (defScope s_are_entries) := ⟨rfl, rfl, rfl, by decide +kernel, rfl, by decide +kernel, by decide +kernel⟩
  refine has_D (d_are_entries T) (g_are_entries T) sc (fun _ _ _ _ _ _ us hl => match us, hl with | [_], _ => rfl) (by rintro a G vs ⟨v_value, _, rfl, r_value, rfl⟩; rfl) ?_
  rintro X ⟨cdv, AA, outer, ss, HH, EE, rfl⟩ hr B vs ⟨x_value, ⟨⟩⟩ G0 hB ⟨v_value, _, rfl, r_value, rfl⟩ hok
  replace hok : ok_are_entries_0 x_value := hok
  show SJ B _ _ [some v_value] G0 [] (JD B []) (m_are_entries_0 x_value)
  obtain ⟨k1, hok⟩ := hok
  exact sb_ret 0 (DE.se (de_and (de_callZ (y := (x_value, ())) (z := (m_are_names x_value)) (h_are_names T) hr (da_cons (de_var 0 r_value) da_nil) k1) fun h2 => de_one (DC.de (dc_ne hr.units (de_var 0 r_value) (DO.de (do_list (hl := (by decide : (0 : Nat) ≤ sizeLine)) (des_nil (α := Str))))))))

abbrev N_is_ascending : List Str := ["value"]
def m_is_ascending_0 (x_value : List Str) : Bool := ((m_are_names x_value) && decide (x_value = (srt x_value)))
def ok_is_ascending_0 (x_value : List Str) : Prop := (ok_are_names x_value) ∧ (((m_are_names x_value) = true) → (x_value.length < 64)) ∧ True
def m_is_ascending (x_value : List Str) : Bool := m_is_ascending_0 x_value
def ok_is_ascending (x_value : List Str) : Prop := ok_is_ascending_0 x_value
theorem h_is_ascending (T : Tx K mg) : Has P w K mg base "is_ascending" (He.ga K "is_ascending") 3 ["value"] (SpN kD (fun (a : (List Str) × Unit) => ok_is_ascending a.1) (fun a => m_is_ascending a.1)) := by
  have sc : FnScope N_is_ascending ["value"] (defScope s_is_ascending) := ⟨rfl, rfl, rfl, by decide +kernel, rfl, by decide +kernel, by decide +kernel⟩
  refine has_D (d_is_ascending T) (g_is_ascending T) sc (fun _ _ _ _ _ _ us hl => match us, hl with | [_], _ => rfl) (by rintro a G vs ⟨v_value, _, rfl, r_value, rfl⟩; rfl) ?_
  rintro X ⟨cdv, AA, outer, ss, HH, EE, rfl⟩ hr B vs ⟨x_value, ⟨⟩⟩ G0 hB ⟨v_value, _, rfl, r_value, rfl⟩ hok
  replace hok : ok_is_ascending_0 x_value := hok
  show SJ B _ _ [some v_value] G0 [] (JD B []) (m_is_ascending_0 x_value)
  obtain ⟨k1, k3, hok⟩ := hok
  exact sb_ret 0 (DE.se (de_and (de_callZ (y := (x_value, ())) (z := (m_are_names x_value)) (h_are_names T) hr (da_cons (de_var 0 r_value) da_nil) k1) fun h2 => (by have k2 := k3 h2; exact de_one (DC.de (dc_eq hr.units (de_var 0 r_value) (DO.de (do_sorted (b_sorted T) (de_var 0 r_value) k2)))))))

abbrev N_is_lot : List Str := ["value", "entries", "name"]
def m_is_lot_0 (x_value : List Str) (x_entries : List Str) : Bool := ((m_is_ascending x_value) && decide ((x_value.filter fun y1 => (!decide (y1 ∈ x_entries))) = ([] : List Str)))
def ok_is_lot_0 (x_value : List Str) (x_entries : List Str) : Prop := (ok_is_ascending x_value) ∧ True
def m_is_lot (x_value : List Str) (x_entries : List Str) : Bool := m_is_lot_0 x_value x_entries
def ok_is_lot (x_value : List Str) (x_entries : List Str) : Prop := ok_is_lot_0 x_value x_entries
theorem h_is_lot (T : Tx K mg) : Has P w K mg base "is_lot" (He.ga K "is_lot") 4 ["value", "entries"] (SpN kD (fun (a : (List Str) × (List Str) × Unit) => ok_is_lot a.1 a.2.1) (fun a => m_is_lot a.1 a.2.1)) := by
  have sc : FnScope N_is_lot ["value", "entries"] (defScope s_is_lot) := ⟨rfl, rfl, rfl, by decide +kernel, rfl, by decide +kernel, by decide +kernel⟩
  refine has_D (d_is_lot T) (g_is_lot T) sc (fun _ _ _ _ _ _ us hl => match us, hl with | [_, _], _ => rfl) (by rintro a G vs ⟨v_value, _, rfl, r_value, ⟨v_entries, _, rfl, r_entries, rfl⟩⟩; rfl) ?_
  rintro X ⟨cdv, AA, outer, ss, HH, EE, rfl⟩ hr B vs ⟨x_value, x_entries, ⟨⟩⟩ G0 hB ⟨v_value, _, rfl, r_value, ⟨v_entries, _, rfl, r_entries, rfl⟩⟩ hok
  replace hok : ok_is_lot_0 x_value x_entries := hok
  show SJ B _ _ [some v_value, some v_entries, none] G0 [] (JD B []) (m_is_lot_0 x_value x_entries)
  obtain ⟨k1, hok⟩ := hok
  exact sb_ret 0 (DE.se (de_and (de_callZ (y := (x_value, ())) (z := (m_is_ascending x_value)) (h_is_ascending T) hr (da_cons (de_var 0 r_value) da_nil) k1) fun h3 => de_one (DC.de (dc_eq hr.units (DO.de (do_lc (lc_fil (fun y1 => (!decide (y1 ∈ x_entries))) sc.nd rfl (di_list (de_var 0 r_value)) (blkOk_by (own := [("name", 2)]) (N := N_is_lot) (sc := _) (by first | decide +kernel | rfl)) rfl (dg_name sc.nd) (by intro i_ y1 σ_ G_ hy_ eG_ hT_; obtain ⟨v_y1, q_y1, rfl⟩ := hT_; have r_value := Rep.mono eG_ r_value; have r_entries := Rep.mono eG_ r_entries; intro Y_ hY_; have hr := InBlk.room hY_ hr; obtain ⟨⟨s_, H_, C_, cl_, fp_, rfl⟩⟩ := hY_; exact df_one (DC.dt (dc_nin (de_var 2 q_y1) (de_var 1 r_entries)))) (by intro i_ y1 σ_ G_ hy_ eG_ hT_ hf_; obtain ⟨v_y1, q_y1, rfl⟩ := hT_; have r_value := Rep.mono eG_ r_value; have r_entries := Rep.mono eG_ r_entries; intro Y_ hY_; have hr := InBlk.room hY_ hr; obtain ⟨⟨s_, H_, C_, cl_, fp_, rfl⟩⟩ := hY_; exact de_var 2 q_y1)))) (DO.de (do_list (hl := (by decide : (0 : Nat) ≤ sizeLine)) (des_nil (α := Str))))))))

abbrev N_is_field : List Str := ["value", "entries"]
def m_is_field_0 (x_value : List Str) (x_entries : List Str) : Bool := ((m_is_lot x_value x_entries) && (!decide (x_value = ([] : List Str))))
def ok_is_field_0 (x_value : List Str) (x_entries : List Str) : Prop := (ok_is_lot x_value x_entries) ∧ True
def m_is_field (x_value : List Str) (x_entries : List Str) : Bool := m_is_field_0 x_value x_entries
def ok_is_field (x_value : List Str) (x_entries : List Str) : Prop := ok_is_field_0 x_value x_entries
theorem h_is_field (T : Tx K mg) : Has P w K mg base "is_field" (He.ga K "is_field") 5 ["value", "entries"] (SpN kD (fun (a : (List Str) × (List Str) × Unit) => ok_is_field a.1 a.2.1) (fun a => m_is_field a.1 a.2.1)) := by
  have sc : FnScope N_is_field ["value", "entries"] (defScope s_is_field) := ⟨rfl, rfl, rfl, by decide +kernel, rfl, by decide +kernel, by decide +kernel⟩
  refine has_D (d_is_field T) (g_is_field T) sc (fun _ _ _ _ _ _ us hl => match us, hl with | [_, _], _ => rfl) (by rintro a G vs ⟨v_value, _, rfl, r_value, ⟨v_entries, _, rfl, r_entries, rfl⟩⟩; rfl) ?_
  rintro X ⟨cdv, AA, outer, ss, HH, EE, rfl⟩ hr B vs ⟨x_value, x_entries, ⟨⟩⟩ G0 hB ⟨v_value, _, rfl, r_value, ⟨v_entries, _, rfl, r_entries, rfl⟩⟩ hok
  replace hok : ok_is_field_0 x_value x_entries := hok
  show SJ B _ _ [some v_value, some v_entries] G0 [] (JD B []) (m_is_field_0 x_value x_entries)
  obtain ⟨k1, hok⟩ := hok
  exact sb_ret 0 (DE.se (de_and (de_callZ (y := (x_value, x_entries, ())) (z := (m_is_lot x_value x_entries)) (h_is_lot T) hr (da_cons (de_var 0 r_value) (da_cons (de_var 1 r_entries) da_nil)) k1) fun h2 => de_one (DC.de (dc_ne hr.units (de_var 0 r_value) (DO.de (do_list (hl := (by decide : (0 : Nat) ≤ sizeLine)) (des_nil (α := Str))))))))

abbrev N_is_entry : List Str := ["value", "entries"]
def m_is_entry_0 (x_value : Str) (x_entries : List Str) : Bool := ((m_is_name x_value) && decide (x_value ∈ x_entries))
def ok_is_entry_0 (x_value : Str) (x_entries : List Str) : Prop := (ok_is_name x_value) ∧ True
def m_is_entry (x_value : Str) (x_entries : List Str) : Bool := m_is_entry_0 x_value x_entries
def ok_is_entry (x_value : Str) (x_entries : List Str) : Prop := ok_is_entry_0 x_value x_entries
theorem h_is_entry (T : Tx K mg) : Has P w K mg base "is_entry" (He.ga K "is_entry") 2 ["value", "entries"] (SpN kD (fun (a : Str × (List Str) × Unit) => ok_is_entry a.1 a.2.1) (fun a => m_is_entry a.1 a.2.1)) := by
  have sc : FnScope N_is_entry ["value", "entries"] (defScope s_is_entry) := ⟨rfl, rfl, rfl, by decide +kernel, rfl, by decide +kernel, by decide +kernel⟩
  refine has_D (d_is_entry T) (g_is_entry T) sc (fun _ _ _ _ _ _ us hl => match us, hl with | [_, _], _ => rfl) (by rintro a G vs ⟨v_value, _, rfl, r_value, ⟨v_entries, _, rfl, r_entries, rfl⟩⟩; rfl) ?_
  rintro X ⟨cdv, AA, outer, ss, HH, EE, rfl⟩ hr B vs ⟨x_value, x_entries, ⟨⟩⟩ G0 hB ⟨v_value, _, rfl, r_value, ⟨v_entries, _, rfl, r_entries, rfl⟩⟩ hok
  replace hok : ok_is_entry_0 x_value x_entries := hok
  show SJ B _ _ [some v_value, some v_entries] G0 [] (JD B []) (m_is_entry_0 x_value x_entries)
  obtain ⟨k1, hok⟩ := hok
  exact sb_ret 0 (DE.se (de_and (de_callZ (y := (x_value, ())) (z := (m_is_name x_value)) (h_is_name T) hr (da_cons (de_var 0 r_value) da_nil) k1) fun h2 => de_one (DC.de (dc_in (de_var 0 r_value) (de_var 1 r_entries)))))

abbrev N_check_entries : List Str := ["value"]
def m_check_entries_1 (x_value : List Str) : Unit := ()
def ok_check_entries_1 (x_value : List Str) : Prop := True
def m_check_entries_0 (x_value : List Str) : Unit := m_check_entries_1 x_value
def ok_check_entries_0 (x_value : List Str) : Prop := (ok_are_entries x_value) ∧ ((!(m_are_entries x_value)) = false) ∧ ok_check_entries_1 x_value
def m_check_entries (x_value : List Str) : Unit := m_check_entries_0 x_value
def ok_check_entries (x_value : List Str) : Prop := ok_check_entries_0 x_value
theorem h_check_entries (T : Tx K mg) : Has P w K mg base "check_entries" (He.ga K "check_entries") 4 ["value"] (SpN kD (fun (a : (List Str) × Unit) => ok_check_entries a.1) (fun a => m_check_entries a.1)) := by
  have sc : FnScope N_check_entries ["value"] (defScope s_check_entries) := ⟨rfl, rfl, rfl, by decide +kernel, rfl, by decide +kernel, by decide +kernel⟩
  refine has_N (d_check_entries T) (g_check_entries T) sc (fun _ _ _ _ _ _ us hl => match us, hl with | [_], _ => rfl) (by rintro a G vs ⟨v_value, _, rfl, r_value, rfl⟩; rfl) ?_
  rintro X ⟨cdv, AA, outer, ss, HH, EE, rfl⟩ hr B vs ⟨x_value, ⟨⟩⟩ G0 hB ⟨v_value, _, rfl, r_value, rfl⟩ hok
  replace hok : ok_check_entries_0 x_value := hok
  show SJ B _ _ [some v_value] G0 [] (JN B) (m_check_entries_0 x_value)
  obtain ⟨k1, k2, hok⟩ := hok
  refine sj_ward (DT.st (dt_not (dt_val (de_callZ (y := (x_value, ())) (z := (m_are_entries x_value)) (h_are_entries T) hr (da_cons (de_var 0 r_value) da_nil) k1)))) k2 ?_
  replace hok : ok_check_entries_1 x_value := hok
  show SJ B _ _ [some v_value] G0 [] (JN B) (m_check_entries_1 x_value)
  exact sb_nil fun _ _ => trivial

abbrev N_check_field : List Str := ["value", "entries"]
def m_check_field_1 (x_value : List Str) (x_entries : List Str) : Unit := ()
def ok_check_field_1 (x_value : List Str) (x_entries : List Str) : Prop := True
def m_check_field_0 (x_value : List Str) (x_entries : List Str) : Unit := m_check_field_1 x_value x_entries
def ok_check_field_0 (x_value : List Str) (x_entries : List Str) : Prop := (ok_is_field x_value x_entries) ∧ ((!(m_is_field x_value x_entries)) = false) ∧ ok_check_field_1 x_value x_entries
def m_check_field (x_value : List Str) (x_entries : List Str) : Unit := m_check_field_0 x_value x_entries
def ok_check_field (x_value : List Str) (x_entries : List Str) : Prop := ok_check_field_0 x_value x_entries
theorem h_check_field (T : Tx K mg) : Has P w K mg base "check_field" (He.ga K "check_field") 6 ["value", "entries"] (SpN kD (fun (a : (List Str) × (List Str) × Unit) => ok_check_field a.1 a.2.1) (fun a => m_check_field a.1 a.2.1)) := by
  have sc : FnScope N_check_field ["value", "entries"] (defScope s_check_field) := ⟨rfl, rfl, rfl, by decide +kernel, rfl, by decide +kernel, by decide +kernel⟩
  refine has_N (d_check_field T) (g_check_field T) sc (fun _ _ _ _ _ _ us hl => match us, hl with | [_, _], _ => rfl) (by rintro a G vs ⟨v_value, _, rfl, r_value, ⟨v_entries, _, rfl, r_entries, rfl⟩⟩; rfl) ?_
  rintro X ⟨cdv, AA, outer, ss, HH, EE, rfl⟩ hr B vs ⟨x_value, x_entries, ⟨⟩⟩ G0 hB ⟨v_value, _, rfl, r_value, ⟨v_entries, _, rfl, r_entries, rfl⟩⟩ hok
  replace hok : ok_check_field_0 x_value x_entries := hok
  show SJ B _ _ [some v_value, some v_entries] G0 [] (JN B) (m_check_field_0 x_value x_entries)
  obtain ⟨k1, k2, hok⟩ := hok
  refine sj_ward (DT.st (dt_not (dt_val (de_callZ (y := (x_value, x_entries, ())) (z := (m_is_field x_value x_entries)) (h_is_field T) hr (da_cons (de_var 0 r_value) (da_cons (de_var 1 r_entries) da_nil)) k1)))) k2 ?_
  replace hok : ok_check_field_1 x_value x_entries := hok
  show SJ B _ _ [some v_value, some v_entries] G0 [] (JN B) (m_check_field_1 x_value x_entries)
  exact sb_nil fun _ _ => trivial

abbrev N_check_entry : List Str := ["value", "entries"]
def m_check_entry_1 (x_value : Str) (x_entries : List Str) : Unit := ()
def ok_check_entry_1 (x_value : Str) (x_entries : List Str) : Prop := True
def m_check_entry_0 (x_value : Str) (x_entries : List Str) : Unit := m_check_entry_1 x_value x_entries
def ok_check_entry_0 (x_value : Str) (x_entries : List Str) : Prop := (ok_is_entry x_value x_entries) ∧ ((!(m_is_entry x_value x_entries)) = false) ∧ ok_check_entry_1 x_value x_entries
def m_check_entry (x_value : Str) (x_entries : List Str) : Unit := m_check_entry_0 x_value x_entries
def ok_check_entry (x_value : Str) (x_entries : List Str) : Prop := ok_check_entry_0 x_value x_entries
theorem h_check_entry (T : Tx K mg) : Has P w K mg base "check_entry" (He.ga K "check_entry") 3 ["value", "entries"] (SpN kD (fun (a : Str × (List Str) × Unit) => ok_check_entry a.1 a.2.1) (fun a => m_check_entry a.1 a.2.1)) := by
  have sc : FnScope N_check_entry ["value", "entries"] (defScope s_check_entry) := ⟨rfl, rfl, rfl, by decide +kernel, rfl, by decide +kernel, by decide +kernel⟩
  refine has_N (d_check_entry T) (g_check_entry T) sc (fun _ _ _ _ _ _ us hl => match us, hl with | [_, _], _ => rfl) (by rintro a G vs ⟨v_value, _, rfl, r_value, ⟨v_entries, _, rfl, r_entries, rfl⟩⟩; rfl) ?_
  rintro X ⟨cdv, AA, outer, ss, HH, EE, rfl⟩ hr B vs ⟨x_value, x_entries, ⟨⟩⟩ G0 hB ⟨v_value, _, rfl, r_value, ⟨v_entries, _, rfl, r_entries, rfl⟩⟩ hok
  replace hok : ok_check_entry_0 x_value x_entries := hok
  show SJ B _ _ [some v_value, some v_entries] G0 [] (JN B) (m_check_entry_0 x_value x_entries)
  obtain ⟨k1, k2, hok⟩ := hok
  refine sj_ward (DT.st (dt_not (dt_val (de_callZ (y := (x_value, x_entries, ())) (z := (m_is_entry x_value x_entries)) (h_is_entry T) hr (da_cons (de_var 0 r_value) (da_cons (de_var 1 r_entries) da_nil)) k1)))) k2 ?_
  replace hok : ok_check_entry_1 x_value x_entries := hok
  show SJ B _ _ [some v_value, some v_entries] G0 [] (JN B) (m_check_entry_1 x_value x_entries)
  exact sb_nil fun _ _ => trivial

abbrev N_check_count : List Str := ["value", "least", "most"]
def m_check_count_1 (x_value : Int) (x_least : Int) (x_most : Int) : Unit := ()
def ok_check_count_1 (x_value : Int) (x_least : Int) (x_most : Int) : Prop := True
def m_check_count_0 (x_value : Int) (x_least : Int) (x_most : Int) : Unit := m_check_count_1 x_value x_least x_most
def ok_check_count_0 (x_value : Int) (x_least : Int) (x_most : Int) : Prop := (ok_is_count x_value) ∧ (((!(m_is_count x_value)) || (decide (x_value < x_least) || (true && decide (x_most < x_value)))) = false) ∧ ok_check_count_1 x_value x_least x_most
def m_check_count (x_value : Int) (x_least : Int) (x_most : Int) : Unit := m_check_count_0 x_value x_least x_most
def ok_check_count (x_value : Int) (x_least : Int) (x_most : Int) : Prop := ok_check_count_0 x_value x_least x_most
theorem h_check_count (T : Tx K mg) : Has P w K mg base "check_count" (He.ga K "check_count") 3 ["value", "least", "most"] (SpN kD (fun (a : Int × Int × Int × Unit) => ok_check_count a.1 a.2.1 a.2.2.1) (fun a => m_check_count a.1 a.2.1 a.2.2.1)) := by
  have sc : FnScope N_check_count ["value", "least", "most"] (defScope s_check_count) := ⟨rfl, rfl, rfl, by decide +kernel, rfl, by decide +kernel, by decide +kernel⟩
  refine has_Nd (d_check_count T) (g_check_count T) sc (fun fd F => binds_all F (by decide) (fun T kV doc pm an cdv ct us its l1 l2 => match us, l1, its, l2 with | [_, _, _], _, [_, _], _ => ⟨_, rfl, rfl⟩)) (by rintro a G vs ⟨v_value, _, rfl, r_value, ⟨v_least, _, rfl, r_least, ⟨v_most, _, rfl, r_most, rfl⟩⟩⟩; rfl) ?_
  rintro X ⟨cdv, AA, outer, ss, HH, EE, rfl⟩ hr B vs ⟨x_value, x_least, x_most, ⟨⟩⟩ G0 hB ⟨v_value, _, rfl, r_value, ⟨v_least, _, rfl, r_least, ⟨v_most, _, rfl, r_most, rfl⟩⟩⟩ hok
  replace hok : ok_check_count_0 x_value x_least x_most := hok
  show SJ B _ _ [some v_value, some v_least, some v_most] G0 [] (JN B) (m_check_count_0 x_value x_least x_most)
  obtain ⟨k1, k2, hok⟩ := hok
  refine sj_ward (DT.st (DW.dt (dw_or (dt_not (dt_val (de_callZ (y := (x_value, ())) (z := (m_is_count x_value)) (h_is_count T) hr (da_cons (de_var 0 r_value) da_nil) k1))) fun h3 => dw_or (DC.dt (dc_lt (de_var 0 r_value) (de_var 1 r_least))) fun h2 => dw_or1 (DW.dt (dw_and (DC.dt (dc_notN (de_var 2 r_most) de_non (by intro G_ v_ r_; first | (cases r_; exact fun h => nomatch h) | (cases r_.1; exact fun h => nomatch h)))) fun h1 => dw_and1 (DC.dt (dc_gt (de_var 0 r_value) (de_var 2 r_most)))))))) k2 ?_
  replace hok : ok_check_count_1 x_value x_least x_most := hok
  show SJ B _ _ [some v_value, some v_least, some v_most] G0 [] (JN B) (m_check_count_1 x_value x_least x_most)
  exact sb_nil fun _ _ => trivial

abbrev N_spots_of : List Str := ["row", "spot", "name"]
def m_spots_of_0 (x_row : List Str) : Dict Int := (dmk ((enumI x_row).map fun y1 => (y1.2, y1.1)))
def ok_spots_of_0 (x_row : List Str) : Prop := True
def m_spots_of (x_row : List Str) : Dict Int := m_spots_of_0 x_row
def ok_spots_of (x_row : List Str) : Prop := ok_spots_of_0 x_row
theorem h_spots_of (T : Tx K mg) : Has P w K mg base "spots_of" (He.ga K "spots_of") 1 ["row"] (SpN kD (fun (a : (List Str) × Unit) => ok_spots_of a.1) (fun a => m_spots_of a.1)) := by
  have sc : FnScope N_spots_of ["row"] (defScope s_spots_of) := ⟨rfl, rfl, rfl, by decide +kernel, rfl, by decide +kernel, by decide +kernel⟩
  refine has_D (d_spots_of T) (g_spots_of T) sc (fun _ _ _ _ _ _ us hl => match us, hl with | [_], _ => rfl) (by rintro a G vs ⟨v_row, _, rfl, r_row, rfl⟩; rfl) ?_
  rintro X ⟨cdv, AA, outer, ss, HH, EE, rfl⟩ hr B vs ⟨x_row, ⟨⟩⟩ G0 hB ⟨v_row, _, rfl, r_row, rfl⟩ hok
  replace hok : ok_spots_of_0 x_row := hok
  show SJ B _ _ [some v_row, none, none] G0 [] (JD B []) (m_spots_of_0 x_row)
  exact sb_ret 0 (DE.se (de_dmk (b_dict T) (DO.de (do_lc (lc_map (fun y1 => (y1.2, y1.1)) sc.nd rfl (di_enumI (b_enumerate T) (de_var 0 r_row)) (blkOk_by (own := [("spot", 1), ("name", 2)]) (N := N_spots_of) (sc := _) (by first | decide +kernel | rfl)) rfl (dg_pair sc.nd rfl) (by intro i_ y1 σ_ G_ hy_ eG_ hT_; obtain ⟨v_y11, v_y12, q_y11, q_y12, rfl⟩ := hT_; have r_row := Rep.mono eG_ r_row; intro Y_ hY_; have hr := InBlk.room hY_ hr; obtain ⟨⟨s_, H_, C_, cl_, fp_, rfl⟩⟩ := hY_; exact de_tup (de_var 2 q_y12) (de_var 1 q_y11)))))))

abbrev N_is_row : List Str := ["value", "entries"]
def m_is_row_0 (x_value : List Str) (x_entries : List Str) : Bool := ((m_are_names x_value) && decide ((srt x_value) = (srt x_entries)))
def ok_is_row_0 (x_value : List Str) (x_entries : List Str) : Prop := (ok_are_names x_value) ∧ (((m_are_names x_value) = true) → (x_value.length < 64) ∧ (x_entries.length < 64)) ∧ True
def m_is_row (x_value : List Str) (x_entries : List Str) : Bool := m_is_row_0 x_value x_entries
def ok_is_row (x_value : List Str) (x_entries : List Str) : Prop := ok_is_row_0 x_value x_entries
theorem h_is_row (T : Tx K mg) : Has P w K mg base "is_row" (He.ga K "is_row") 3 ["value", "entries"] (SpN kD (fun (a : (List Str) × (List Str) × Unit) => ok_is_row a.1 a.2.1) (fun a => m_is_row a.1 a.2.1)) := by
  have sc : FnScope N_is_row ["value", "entries"] (defScope s_is_row) := ⟨rfl, rfl, rfl, by decide +kernel, rfl, by decide +kernel, by decide +kernel⟩
  refine has_D (d_is_row T) (g_is_row T) sc (fun _ _ _ _ _ _ us hl => match us, hl with | [_, _], _ => rfl) (by rintro a G vs ⟨v_value, _, rfl, r_value, ⟨v_entries, _, rfl, r_entries, rfl⟩⟩; rfl) ?_
  rintro X ⟨cdv, AA, outer, ss, HH, EE, rfl⟩ hr B vs ⟨x_value, x_entries, ⟨⟩⟩ G0 hB ⟨v_value, _, rfl, r_value, ⟨v_entries, _, rfl, r_entries, rfl⟩⟩ hok
  replace hok : ok_is_row_0 x_value x_entries := hok
  show SJ B _ _ [some v_value, some v_entries] G0 [] (JD B []) (m_is_row_0 x_value x_entries)
  obtain ⟨k1, k4, hok⟩ := hok
  exact sb_ret 0 (DE.se (de_and (de_callZ (y := (x_value, ())) (z := (m_are_names x_value)) (h_are_names T) hr (da_cons (de_var 0 r_value) da_nil) k1) fun h2 => (by obtain ⟨k2, k3⟩ := k4 h2; exact de_one (DC.de (dc_eq hr.units (DO.de (do_sorted (b_sorted T) (de_var 0 r_value) k2)) (DO.de (do_sorted (b_sorted T) (de_var 1 r_entries) k3)))))))

abbrev N_are_rows : List Str := ["value", "entries", "row"]
def m_are_rows_0 (x_value : List (List Str)) (x_entries : List Str) : Bool := (true && decide ((x_value.filter fun y1 => (!(m_is_row y1 x_entries))) = ([] : List (List Str))))
def ok_are_rows_0 (x_value : List (List Str)) (x_entries : List Str) : Prop := ((true = true) → (∀ y1 ∈ x_value, (ok_is_row y1 x_entries))) ∧ True
def m_are_rows (x_value : List (List Str)) (x_entries : List Str) : Bool := m_are_rows_0 x_value x_entries
def ok_are_rows (x_value : List (List Str)) (x_entries : List Str) : Prop := ok_are_rows_0 x_value x_entries
theorem h_are_rows (T : Tx K mg) : Has P w K mg base "are_rows" (He.ga K "are_rows") 4 ["value", "entries"] (SpN kD (fun (a : (List (List Str)) × (List Str) × Unit) => ok_are_rows a.1 a.2.1) (fun a => m_are_rows a.1 a.2.1)) := by
  have sc : FnScope N_are_rows ["value", "entries"] (defScope s_are_rows) := ⟨rfl, rfl, rfl, by decide +kernel, rfl, by decide +kernel, by decide +kernel⟩
  refine has_D (d_are_rows T) (g_are_rows T) sc (fun _ _ _ _ _ _ us hl => match us, hl with | [_, _], _ => rfl) (by rintro a G vs ⟨v_value, _, rfl, r_value, ⟨v_entries, _, rfl, r_entries, rfl⟩⟩; rfl) ?_
  rintro X ⟨cdv, AA, outer, ss, HH, EE, rfl⟩ hr B vs ⟨x_value, x_entries, ⟨⟩⟩ G0 hB ⟨v_value, _, rfl, r_value, ⟨v_entries, _, rfl, r_entries, rfl⟩⟩ hok
  replace hok : ok_are_rows_0 x_value x_entries := hok
  show SJ B _ _ [some v_value, some v_entries, none] G0 [] (JD B []) (m_are_rows_0 x_value x_entries)
  obtain ⟨k3, hok⟩ := hok
  exact sb_ret 0 (DE.se (de_and (de_isTy (b_isinstance T) (b_list T) (de_var 0 r_value) (ty_list _) (kit_same "list")) fun h3 => (by have k2 := k3 h3; exact de_one (DC.de (dc_eq hr.units (DO.de (do_lc (lc_fil (fun y1 => (!(m_is_row y1 x_entries))) sc.nd rfl (di_list (de_var 0 r_value)) (blkOk_by (own := [("row", 2)]) (N := N_are_rows) (sc := _) (by first | decide +kernel | rfl)) rfl (dg_name sc.nd) (by intro i_ y1 σ_ G_ hy_ eG_ hT_; obtain ⟨v_y1, q_y1, rfl⟩ := hT_; have r_value := Rep.mono eG_ r_value; have r_entries := Rep.mono eG_ r_entries; have z_ := k2 y1 (List.mem_of_getElem? hy_); have k1 := z_; intro Y_ hY_; have hr := InBlk.room hY_ hr; obtain ⟨⟨s_, H_, C_, cl_, fp_, rfl⟩⟩ := hY_; exact df_one (dt_not (dt_val (de_callZ (y := (y1, x_entries, ())) (z := (m_is_row y1 x_entries)) (h_is_row T) hr (da_cons (de_var 2 q_y1) (da_cons (de_var 1 r_entries) da_nil)) k1)))) (by intro i_ y1 σ_ G_ hy_ eG_ hT_ hf_; obtain ⟨v_y1, q_y1, rfl⟩ := hT_; have r_value := Rep.mono eG_ r_value; have r_entries := Rep.mono eG_ r_entries; have z_ := k2 y1 (List.mem_of_getElem? hy_); have k1 := z_; intro Y_ hY_; have hr := InBlk.room hY_ hr; obtain ⟨⟨s_, H_, C_, cl_, fp_, rfl⟩⟩ := hY_; exact de_var 2 q_y1)))) (DO.de (do_list (hl := (by decide : (0 : Nat) ≤ sizeLine)) (des_nil (α := List Str)))))))))

abbrev N_first_of : List Str := ["spots", "field", "found", "name"]
def m_first_of_5 (x_spots : Dict Int) (x_field : List Str) (x_found : Str) (x_name : Str) : Str := x_found
def ok_first_of_5 (x_spots : Dict Int) (x_field : List Str) (x_found : Str) (x_name : Str) : Prop := True
def m_first_of_4 (x_spots : Dict Int) (x_field : List Str) (x_found : Str) (x_name : Str) : Str := m_first_of_5 x_spots x_field x_found x_name
def ok_first_of_4 (x_spots : Dict Int) (x_field : List Str) (x_found : Str) (x_name : Str) : Prop := ok_first_of_5 x_spots x_field x_found x_name
def m_first_of_3 (x_spots : Dict Int) (x_field : List Str) (x_found : Str) (x_name : Str) : Str := m_first_of_4 x_spots x_field (id x_name) x_name
def ok_first_of_3 (x_spots : Dict Int) (x_field : List Str) (x_found : Str) (x_name : Str) : Prop := ok_first_of_4 x_spots x_field (id x_name) x_name
def m_first_of_7 (x_spots : Dict Int) (x_field : List Str) (x_found : Str) (x_name : Str) : Str := x_found
def ok_first_of_7 (x_spots : Dict Int) (x_field : List Str) (x_found : Str) (x_name : Str) : Prop := True
def m_first_of_6 (x_spots : Dict Int) (x_field : List Str) (x_found : Str) (x_name : Str) : Str := m_first_of_7 x_spots x_field x_found x_name
def ok_first_of_6 (x_spots : Dict Int) (x_field : List Str) (x_found : Str) (x_name : Str) : Prop := ok_first_of_7 x_spots x_field x_found x_name
def m_first_of_2 (x_spots : Dict Int) (x_field : List Str) (x_found : Str) (x_name : Str) : Str := if decide ((dgetD x_spots x_name) < (dgetD x_spots x_found)) = true then m_first_of_3 x_spots x_field x_found x_name else m_first_of_6 x_spots x_field x_found x_name
def ok_first_of_2 (x_spots : Dict Int) (x_field : List Str) (x_found : Str) (x_name : Str) : Prop := ((dget x_spots x_name).isSome = true) ∧ ((dget x_spots x_found).isSome = true) ∧ (decide ((dgetD x_spots x_name) < (dgetD x_spots x_found)) = true → ok_first_of_3 x_spots x_field x_found x_name) ∧ (decide ((dgetD x_spots x_name) < (dgetD x_spots x_found)) = false → ok_first_of_6 x_spots x_field x_found x_name)
def m_first_of_8 (x_spots : Dict Int) (x_field : List Str) (x_found : Str) : Str := x_found
def ok_first_of_8 (x_spots : Dict Int) (x_field : List Str) (x_found : Str) : Prop := True
def m_first_of_1 (x_spots : Dict Int) (x_field : List Str) (x_found : Str) : Str := m_first_of_8 x_spots x_field (List.foldl (fun (s : Str) (y : Str) => m_first_of_2 x_spots x_field s y) x_found x_field)
def ok_first_of_1 (x_spots : Dict Int) (x_field : List Str) (x_found : Str) : Prop := (foldOk (fun (s : Str) (y : Str) => m_first_of_2 x_spots x_field s y) (fun (s : Str) (y : Str) => ok_first_of_2 x_spots x_field s y) x_field x_found) ∧ ok_first_of_8 x_spots x_field (List.foldl (fun (s : Str) (y : Str) => m_first_of_2 x_spots x_field s y) x_found x_field)
def m_first_of_0 (x_spots : Dict Int) (x_field : List Str) : Str := m_first_of_1 x_spots x_field (getI x_field (0 : Int))
def ok_first_of_0 (x_spots : Dict Int) (x_field : List Str) : Prop := ((atI x_field (0 : Int)).isSome = true) ∧ ok_first_of_1 x_spots x_field (getI x_field (0 : Int))
def m_first_of (x_spots : Dict Int) (x_field : List Str) : Str := m_first_of_0 x_spots x_field
def ok_first_of (x_spots : Dict Int) (x_field : List Str) : Prop := ok_first_of_0 x_spots x_field
theorem h_first_of (T : Tx K mg) : Has P w K mg base "first_of" (He.ga K "first_of") 1 ["spots", "field"] (SpN kD (fun (a : (Dict Int) × (List Str) × Unit) => ok_first_of a.1 a.2.1) (fun a => m_first_of a.1 a.2.1)) := by
  have sc : FnScope N_first_of ["spots", "field"] (defScope s_first_of) := ⟨rfl, rfl, rfl, by decide +kernel, rfl, by decide +kernel, by decide +kernel⟩
  refine has_D (d_first_of T) (g_first_of T) sc (fun _ _ _ _ _ _ us hl => match us, hl with | [_, _], _ => rfl) (by rintro a G vs ⟨v_spots, _, rfl, r_spots, ⟨v_field, _, rfl, r_field, rfl⟩⟩; rfl) ?_
  rintro X ⟨cdv, AA, outer, ss, HH, EE, rfl⟩ hr B vs ⟨x_spots, x_field, ⟨⟩⟩ G0 hB ⟨v_spots, _, rfl, r_spots, ⟨v_field, _, rfl, r_field, rfl⟩⟩ hok
  replace hok : ok_first_of_0 x_spots x_field := hok
  show SJ B _ _ [some v_spots, some v_field, none, none] G0 [] (JD B []) (m_first_of_0 x_spots x_field)
  obtain ⟨k1, hok⟩ := hok
  refine sb_set 2 (DE.se (de_ixI (de_var 1 r_field) de_int k1)) (fun v_found G1 e1 r_found => ?_) sc.nd
  have r_spots := Rep.mono e1 r_spots
  have r_field := Rep.mono e1 r_field
  replace r_found : rep G1 v_found (getI x_field (0 : Int)) := r_found
  replace hok : ok_first_of_1 x_spots x_field (getI x_field (0 : Int)) := hok
  show SJ B _ _ [some v_spots, some v_field, some v_found, none] G1 [] (JD B []) (m_first_of_0 x_spots x_field)
  rw [show m_first_of_0 x_spots x_field = m_first_of_1 x_spots x_field (getI x_field (0 : Int)) from rfl]
  generalize (getI x_field (0 : Int)) = x_found at r_found hok ⊢
  obtain ⟨k4, hok⟩ := hok
  have hok2 : ∀ s : Str, s = (List.foldl (fun (s : Str) (y : Str) => m_first_of_2 x_spots x_field s y) x_found x_field) → ok_first_of_8 x_spots x_field s := fun s h => by subst h; exact hok
  refine sj_foldS (k := fun (s : Str) => m_first_of_8 x_spots x_field s) (fun (s : Str) (σ_ : L2.St) (G_ : Hp) (C_ : Cs) => ∃ (v_found : V) (t_name : Option V), (σ_ = [some v_spots, some v_field, some v_found, t_name] ∧ rep G_ v_found s ∧ C_ = ([] : Cs))) (fun (s : Str) (y : Str) => m_first_of_2 x_spots x_field s y) (fun (s : Str) (y : Str) => ok_first_of_2 x_spots x_field s y) x_found (di_list (de_var 1 r_field)) (sg_name 3 sc.nd) (fun G_ e_ => ⟨_, _, rfl, Rep.mono e_ r_found, rfl⟩) (by rintro x_found σ_ G_ G2_ C_ e_ ⟨v_found, t_name, rfl, r_found, rfl⟩; exact ⟨_, _, rfl, Rep.mono e_ r_found, rfl⟩) k4 ?_ ?_
  · rintro x_found x_name σ_ σ2_ G2 C_ hy_ e2 ⟨v_found, t_name, rfl, r_found, rfl⟩ ⟨v_name, r_name, rfl⟩ hok
    have r_spots := Rep.mono e2 r_spots
    have r_field := Rep.mono e2 r_field
    replace hok : ok_first_of_2 x_spots x_field x_found x_name := hok
    show SJ B _ _ [some v_spots, some v_field, some v_found, some v_name] G2 [] (JF (fun (s : Str) (σ_ : L2.St) (G_ : Hp) (C_ : Cs) => ∃ (v_found : V) (t_name : Option V), (σ_ = [some v_spots, some v_field, some v_found, t_name] ∧ rep G_ v_found s ∧ C_ = ([] : Cs)))) (m_first_of_2 x_spots x_field x_found x_name)
    obtain ⟨k2, k3, hokA, hokB⟩ := hok
    refine sj_ifR (DT.st (DC.dt (dc_lt (de_dget hr.units (de_var 0 r_spots) (de_var 3 r_name) k2) (de_dget hr.units (de_var 0 r_spots) (de_var 2 r_found) k3)))) (fun h1 => ?_) (fun h1 => ?_)
    · have hok := hokA h1; clear hokA hokB
      show SJ B _ _ [some v_spots, some v_field, some v_found, some v_name] G2 [] (JR B _ _ (JF (fun (s : Str) (σ_ : L2.St) (G_ : Hp) (C_ : Cs) => ∃ (v_found : V) (t_name : Option V), (σ_ = [some v_spots, some v_field, some v_found, t_name] ∧ rep G_ v_found s ∧ C_ = ([] : Cs))))) (m_first_of_3 x_spots x_field x_found x_name)
      refine sb_set 2 (DE.se (de_var 3 r_name)) (fun v_found G3 e3 r_found => ?_) sc.nd
      have r_spots := Rep.mono e3 r_spots
      have r_field := Rep.mono e3 r_field
      have r_name := Rep.mono e3 r_name
      replace r_found : rep G3 v_found (id x_name) := r_found
      replace hok : ok_first_of_4 x_spots x_field (id x_name) x_name := hok
      show SJ B _ _ [some v_spots, some v_field, some v_found, some v_name] G3 [] (JR B _ _ (JF (fun (s : Str) (σ_ : L2.St) (G_ : Hp) (C_ : Cs) => ∃ (v_found : V) (t_name : Option V), (σ_ = [some v_spots, some v_field, some v_found, t_name] ∧ rep G_ v_found s ∧ C_ = ([] : Cs))))) (m_first_of_3 x_spots x_field x_found x_name)
      rw [show m_first_of_3 x_spots x_field x_found x_name = m_first_of_4 x_spots x_field (id x_name) x_name from rfl]
      generalize (id x_name) = x_found at r_found hok ⊢
      refine sj_nilR fun G4 e4 => ?_
      have r_spots := Rep.mono e4 r_spots
      have r_field := Rep.mono e4 r_field
      have r_found := Rep.mono e4 r_found
      have r_name := Rep.mono e4 r_name
      replace hok : ok_first_of_5 x_spots x_field x_found x_name := hok
      show SJ B _ _ [some v_spots, some v_field, some v_found, some v_name] _ [] (JF (fun (s : Str) (σ_ : L2.St) (G_ : Hp) (C_ : Cs) => ∃ (v_found : V) (t_name : Option V), (σ_ = [some v_spots, some v_field, some v_found, t_name] ∧ rep G_ v_found s ∧ C_ = ([] : Cs)))) (m_first_of_5 x_spots x_field x_found x_name)
      exact sb_nilF fun G_ e_ => ⟨_, _, rfl, Rep.mono e_ r_found, rfl⟩
    · have hok := hokB h1; clear hokA hokB
      show SJ B _ _ [some v_spots, some v_field, some v_found, some v_name] G2 [] (JR B _ _ (JF (fun (s : Str) (σ_ : L2.St) (G_ : Hp) (C_ : Cs) => ∃ (v_found : V) (t_name : Option V), (σ_ = [some v_spots, some v_field, some v_found, t_name] ∧ rep G_ v_found s ∧ C_ = ([] : Cs))))) (m_first_of_6 x_spots x_field x_found x_name)
      refine sj_nilR fun G5 e5 => ?_
      have r_spots := Rep.mono e5 r_spots
      have r_field := Rep.mono e5 r_field
      have r_found := Rep.mono e5 r_found
      have r_name := Rep.mono e5 r_name
      replace hok : ok_first_of_7 x_spots x_field x_found x_name := hok
      show SJ B _ _ [some v_spots, some v_field, some v_found, some v_name] _ [] (JF (fun (s : Str) (σ_ : L2.St) (G_ : Hp) (C_ : Cs) => ∃ (v_found : V) (t_name : Option V), (σ_ = [some v_spots, some v_field, some v_found, t_name] ∧ rep G_ v_found s ∧ C_ = ([] : Cs)))) (m_first_of_7 x_spots x_field x_found x_name)
      exact sb_nilF fun G_ e_ => ⟨_, _, rfl, Rep.mono e_ r_found, rfl⟩
  · rintro x_found σ_ G6 C_ hl_ e6 ⟨v_found, t_name, rfl, r_found, rfl⟩
    replace hok := hok2 _ hl_
    have r_spots := Rep.mono e6 r_spots
    have r_field := Rep.mono e6 r_field
    replace hok : ok_first_of_8 x_spots x_field x_found := hok
    show SJ B _ _ [some v_spots, some v_field, some v_found, t_name] G6 [] (JD B []) (m_first_of_8 x_spots x_field x_found)
    exact sb_ret 0 (DE.se (de_var 2 r_found))

abbrev N__law_mixed : List Str := ["seed", "turn", "at", "mixed"]
def m__law_mixed_3 (x_seed : Int) (x_turn : Int) (x_at : Int) (x_mixed : Int) : Int := ((x_mixed * (48271 : Int)) % (2147483587 : Int))
def ok__law_mixed_3 (x_seed : Int) (x_turn : Int) (x_at : Int) (x_mixed : Int) : Prop := (CMul x_mixed (48271 : Int)) ∧ ((0 : Int) < (2147483587 : Int)) ∧ True
def m__law_mixed_2 (x_seed : Int) (x_turn : Int) (x_at : Int) (x_mixed : Int) : Int := m__law_mixed_3 x_seed x_turn x_at (((x_mixed * x_mixed) + (40503 : Int)) % (2147483629 : Int))
def ok__law_mixed_2 (x_seed : Int) (x_turn : Int) (x_at : Int) (x_mixed : Int) : Prop := (CMul x_mixed x_mixed) ∧ ((0 : Int) < (2147483629 : Int)) ∧ ok__law_mixed_3 x_seed x_turn x_at (((x_mixed * x_mixed) + (40503 : Int)) % (2147483629 : Int))
def m__law_mixed_1 (x_seed : Int) (x_turn : Int) (x_at : Int) (x_mixed : Int) : Int := m__law_mixed_2 x_seed x_turn x_at (((x_mixed + ((7919 : Int) * x_at)) + x_turn) % (2147483647 : Int))
def ok__law_mixed_1 (x_seed : Int) (x_turn : Int) (x_at : Int) (x_mixed : Int) : Prop := (CMul (7919 : Int) x_at) ∧ ((0 : Int) < (2147483647 : Int)) ∧ ok__law_mixed_2 x_seed x_turn x_at (((x_mixed + ((7919 : Int) * x_at)) + x_turn) % (2147483647 : Int))
def m__law_mixed_0 (x_seed : Int) (x_turn : Int) (x_at : Int) : Int := m__law_mixed_1 x_seed x_turn x_at ((x_seed * (69069 : Int)) + (((104729 : Int) * x_turn) * x_turn))
def ok__law_mixed_0 (x_seed : Int) (x_turn : Int) (x_at : Int) : Prop := (CMul x_seed (69069 : Int)) ∧ (CMul (104729 : Int) x_turn) ∧ (CMul ((104729 : Int) * x_turn) x_turn) ∧ ok__law_mixed_1 x_seed x_turn x_at ((x_seed * (69069 : Int)) + (((104729 : Int) * x_turn) * x_turn))
def m__law_mixed (x_seed : Int) (x_turn : Int) (x_at : Int) : Int := m__law_mixed_0 x_seed x_turn x_at
def ok__law_mixed (x_seed : Int) (x_turn : Int) (x_at : Int) : Prop := ok__law_mixed_0 x_seed x_turn x_at
theorem h__law_mixed (T : Tx K mg) : Has P w K mg base "_law_mixed" (He.ga K "_law_mixed") 1 ["seed", "turn", "at"] (SpN kD (fun (a : Int × Int × Int × Unit) => ok__law_mixed a.1 a.2.1 a.2.2.1) (fun a => m__law_mixed a.1 a.2.1 a.2.2.1)) := by
  have sc : FnScope N__law_mixed ["seed", "turn", "at"] (defScope s__law_mixed) := ⟨rfl, rfl, rfl, by decide +kernel, rfl, by decide +kernel, by decide +kernel⟩
  refine has_D (d__law_mixed T) (g__law_mixed T) sc (fun _ _ _ _ _ _ us hl => match us, hl with | [_, _, _], _ => rfl) (by rintro a G vs ⟨v_seed, _, rfl, r_seed, ⟨v_turn, _, rfl, r_turn, ⟨v_at, _, rfl, r_at, rfl⟩⟩⟩; rfl) ?_
  rintro X ⟨cdv, AA, outer, ss, HH, EE, rfl⟩ hr B vs ⟨x_seed, x_turn, x_at, ⟨⟩⟩ G0 hB ⟨v_seed, _, rfl, r_seed, ⟨v_turn, _, rfl, r_turn, ⟨v_at, _, rfl, r_at, rfl⟩⟩⟩ hok
  replace hok : ok__law_mixed_0 x_seed x_turn x_at := hok
  show SJ B _ _ [some v_seed, some v_turn, some v_at, none] G0 [] (JD B []) (m__law_mixed_0 x_seed x_turn x_at)
  obtain ⟨k1, k2, k3, hok⟩ := hok
  refine sb_set 3 (DE.se (de_add (de_mul (de_var 0 r_seed) de_int k1) (de_mul (de_mul de_int (de_var 1 r_turn) k2) (de_var 1 r_turn) k3))) (fun v_mixed G1 e1 r_mixed => ?_) sc.nd
  have r_seed := Rep.mono e1 r_seed
  have r_turn := Rep.mono e1 r_turn
  have r_at := Rep.mono e1 r_at
  replace r_mixed : rep G1 v_mixed ((x_seed * (69069 : Int)) + (((104729 : Int) * x_turn) * x_turn)) := r_mixed
  replace hok : ok__law_mixed_1 x_seed x_turn x_at ((x_seed * (69069 : Int)) + (((104729 : Int) * x_turn) * x_turn)) := hok
  show SJ B _ _ [some v_seed, some v_turn, some v_at, some v_mixed] G1 [] (JD B []) (m__law_mixed_0 x_seed x_turn x_at)
  rw [show m__law_mixed_0 x_seed x_turn x_at = m__law_mixed_1 x_seed x_turn x_at ((x_seed * (69069 : Int)) + (((104729 : Int) * x_turn) * x_turn)) from rfl]
  generalize ((x_seed * (69069 : Int)) + (((104729 : Int) * x_turn) * x_turn)) = x_mixed at r_mixed hok ⊢
  obtain ⟨k4, k5, hok⟩ := hok
  refine sb_set 3 (DE.se (de_mod (de_add (de_add (de_var 3 r_mixed) (de_mul de_int (de_var 2 r_at) k4)) (de_var 1 r_turn)) de_int k5)) (fun v_mixed G2 e2 r_mixed => ?_) sc.nd
  have r_seed := Rep.mono e2 r_seed
  have r_turn := Rep.mono e2 r_turn
  have r_at := Rep.mono e2 r_at
  replace r_mixed : rep G2 v_mixed (((x_mixed + ((7919 : Int) * x_at)) + x_turn) % (2147483647 : Int)) := r_mixed
  replace hok : ok__law_mixed_2 x_seed x_turn x_at (((x_mixed + ((7919 : Int) * x_at)) + x_turn) % (2147483647 : Int)) := hok
  show SJ B _ _ [some v_seed, some v_turn, some v_at, some v_mixed] G2 [] (JD B []) (m__law_mixed_1 x_seed x_turn x_at x_mixed)
  rw [show m__law_mixed_1 x_seed x_turn x_at x_mixed = m__law_mixed_2 x_seed x_turn x_at (((x_mixed + ((7919 : Int) * x_at)) + x_turn) % (2147483647 : Int)) from rfl]
  generalize (((x_mixed + ((7919 : Int) * x_at)) + x_turn) % (2147483647 : Int)) = x_mixed at r_mixed hok ⊢
  obtain ⟨k6, k7, hok⟩ := hok
  refine sb_set 3 (DE.se (de_mod (de_add (de_mul (de_var 3 r_mixed) (de_var 3 r_mixed) k6) de_int) de_int k7)) (fun v_mixed G3 e3 r_mixed => ?_) sc.nd
  have r_seed := Rep.mono e3 r_seed
  have r_turn := Rep.mono e3 r_turn
  have r_at := Rep.mono e3 r_at
  replace r_mixed : rep G3 v_mixed (((x_mixed * x_mixed) + (40503 : Int)) % (2147483629 : Int)) := r_mixed
  replace hok : ok__law_mixed_3 x_seed x_turn x_at (((x_mixed * x_mixed) + (40503 : Int)) % (2147483629 : Int)) := hok
  show SJ B _ _ [some v_seed, some v_turn, some v_at, some v_mixed] G3 [] (JD B []) (m__law_mixed_2 x_seed x_turn x_at x_mixed)
  rw [show m__law_mixed_2 x_seed x_turn x_at x_mixed = m__law_mixed_3 x_seed x_turn x_at (((x_mixed * x_mixed) + (40503 : Int)) % (2147483629 : Int)) from rfl]
  generalize (((x_mixed * x_mixed) + (40503 : Int)) % (2147483629 : Int)) = x_mixed at r_mixed hok ⊢
  obtain ⟨k8, k9, hok⟩ := hok
  exact sb_ret 0 (DE.se (de_mod (de_mul (de_var 3 r_mixed) de_int k8) de_int k9))

abbrev N__law_draw : List Str := ["purse", "many", "found", "piece", "drawn"]
def m__law_draw_3 (x_purse : List Int) (x_many : Int) (x_drawn : Int) : Int × (List Int) := (x_drawn, x_purse)
def ok__law_draw_3 (x_purse : List Int) (x_many : Int) (x_drawn : Int) : Prop := True
def m__law_draw_2 (x_purse : List Int) (x_many : Int) (x_drawn : Int) : Int × (List Int) := m__law_draw_3 (setI x_purse (0 : Int) ((getI x_purse (0 : Int)) / x_many)) x_many x_drawn
def ok__law_draw_2 (x_purse : List Int) (x_many : Int) (x_drawn : Int) : Prop := ((atI x_purse (0 : Int)).isSome = true) ∧ ((0 : Int) < x_many ∧ x_many < (1073741824 : Int)) ∧ ((ixN x_purse.length (0 : Int)).isSome = true) ∧ ok__law_draw_3 (setI x_purse (0 : Int) ((getI x_purse (0 : Int)) / x_many)) x_many x_drawn
def m__law_draw_1 (x_purse : List Int) (x_many : Int) : Int × (List Int) := m__law_draw_2 x_purse x_many ((getI x_purse (0 : Int)) % x_many)
def ok__law_draw_1 (x_purse : List Int) (x_many : Int) : Prop := ((atI x_purse (0 : Int)).isSome = true) ∧ ((0 : Int) < x_many) ∧ ok__law_draw_2 x_purse x_many ((getI x_purse (0 : Int)) % x_many)
def m__law_draw_8 (x_purse : List Int) (x_many : Int) (x_found : Int) (x_piece : Int) : (List Int) × Int := (x_purse, x_found)
def ok__law_draw_8 (x_purse : List Int) (x_many : Int) (x_found : Int) (x_piece : Int) : Prop := True
def m__law_draw_7 (x_purse : List Int) (x_many : Int) (x_found : Int) (x_piece : Int) : (List Int) × Int := m__law_draw_8 x_purse x_many ((x_found * (2147483587 : Int)) + (m__law_mixed (getI x_purse (1 : Int)) (getI x_purse (2 : Int)) (getI x_purse (3 : Int)))) x_piece
def ok__law_draw_7 (x_purse : List Int) (x_many : Int) (x_found : Int) (x_piece : Int) : Prop := (CMul x_found (2147483587 : Int)) ∧ ((atI x_purse (1 : Int)).isSome = true) ∧ ((atI x_purse (2 : Int)).isSome = true) ∧ ((atI x_purse (3 : Int)).isSome = true) ∧ (ok__law_mixed (getI x_purse (1 : Int)) (getI x_purse (2 : Int)) (getI x_purse (3 : Int))) ∧ ok__law_draw_8 x_purse x_many ((x_found * (2147483587 : Int)) + (m__law_mixed (getI x_purse (1 : Int)) (getI x_purse (2 : Int)) (getI x_purse (3 : Int)))) x_piece
def m__law_draw_6 (x_purse : List Int) (x_many : Int) (x_found : Int) (x_piece : Int) : (List Int) × Int := m__law_draw_7 (setI x_purse (2 : Int) ((getI x_purse (2 : Int)) + (1 : Int))) x_many x_found x_piece
def ok__law_draw_6 (x_purse : List Int) (x_many : Int) (x_found : Int) (x_piece : Int) : Prop := ((atI x_purse (2 : Int)).isSome = true) ∧ ((ixN x_purse.length (2 : Int)).isSome = true) ∧ ok__law_draw_7 (setI x_purse (2 : Int) ((getI x_purse (2 : Int)) + (1 : Int))) x_many x_found x_piece
def m__law_draw_9 (x_purse : List Int) (x_many : Int) (x_found : Int) : Int × (List Int) := ((x_found % x_many), x_purse)
def ok__law_draw_9 (x_purse : List Int) (x_many : Int) (x_found : Int) : Prop := ((0 : Int) < x_many) ∧ True
def m__law_draw_5 (x_purse : List Int) (x_many : Int) (x_found : Int) : Int × (List Int) := m__law_draw_9 ((List.foldl (fun (s : (List Int) × Int) (y : Int) => m__law_draw_6 s.1 x_many s.2 y) (x_purse, x_found) (irange ((1 : Int) + ((Builtin.Int.intBits x_many : Int) / (28 : Int))))).1) x_many ((List.foldl (fun (s : (List Int) × Int) (y : Int) => m__law_draw_6 s.1 x_many s.2 y) (x_purse, x_found) (irange ((1 : Int) + ((Builtin.Int.intBits x_many : Int) / (28 : Int))))).2)
def ok__law_draw_5 (x_purse : List Int) (x_many : Int) (x_found : Int) : Prop := ((0 : Int) < (28 : Int) ∧ (28 : Int) < (1073741824 : Int)) ∧ (-(2 ^ 24) ≤ ((1 : Int) + ((Builtin.Int.intBits x_many : Int) / (28 : Int))) ∧ ((1 : Int) + ((Builtin.Int.intBits x_many : Int) / (28 : Int))) ≤ 2 ^ 24) ∧ (foldOk (fun (s : (List Int) × Int) (y : Int) => m__law_draw_6 s.1 x_many s.2 y) (fun (s : (List Int) × Int) (y : Int) => ok__law_draw_6 s.1 x_many s.2 y) (irange ((1 : Int) + ((Builtin.Int.intBits x_many : Int) / (28 : Int)))) (x_purse, x_found)) ∧ ok__law_draw_9 ((List.foldl (fun (s : (List Int) × Int) (y : Int) => m__law_draw_6 s.1 x_many s.2 y) (x_purse, x_found) (irange ((1 : Int) + ((Builtin.Int.intBits x_many : Int) / (28 : Int))))).1) x_many ((List.foldl (fun (s : (List Int) × Int) (y : Int) => m__law_draw_6 s.1 x_many s.2 y) (x_purse, x_found) (irange ((1 : Int) + ((Builtin.Int.intBits x_many : Int) / (28 : Int))))).2)
def m__law_draw_4 (x_purse : List Int) (x_many : Int) : Int × (List Int) := m__law_draw_5 x_purse x_many (id (0 : Int))
def ok__law_draw_4 (x_purse : List Int) (x_many : Int) : Prop := ok__law_draw_5 x_purse x_many (id (0 : Int))
def m__law_draw_0 (x_purse : List Int) (x_many : Int) : Int × (List Int) := if decide ((0 : Int) < (getI x_purse (0 : Int))) = true then m__law_draw_1 x_purse x_many else m__law_draw_4 x_purse x_many
def ok__law_draw_0 (x_purse : List Int) (x_many : Int) : Prop := ((atI x_purse (0 : Int)).isSome = true) ∧ (decide ((0 : Int) < (getI x_purse (0 : Int))) = true → ok__law_draw_1 x_purse x_many) ∧ (decide ((0 : Int) < (getI x_purse (0 : Int))) = false → ok__law_draw_4 x_purse x_many)
def m__law_draw (x_purse : List Int) (x_many : Int) : Int × (List Int) := m__law_draw_0 x_purse x_many
def ok__law_draw (x_purse : List Int) (x_many : Int) : Prop := ok__law_draw_0 x_purse x_many
theorem h__law_draw (T : Tx K mg) : Has P w K mg base "_law_draw" (He.ga K "_law_draw") 2 ["purse", "many"] (SpU kD (fun p (a : Int × Unit) => ok__law_draw p a.1) (fun p a => m__law_draw p a.1)) := by
  have sc : FnScope N__law_draw ["purse", "many"] (defScope s__law_draw) := ⟨rfl, rfl, rfl, by decide +kernel, rfl, by decide +kernel, by decide +kernel⟩
  refine has_UD (d__law_draw T) (g__law_draw T) sc (fun _ _ _ _ _ _ us hl => match us, hl with | [_, _], _ => rfl) (by rintro a G vs ⟨v_many, _, rfl, r_many, rfl⟩; rfl) ?_
  rintro X ⟨cdv, AA, outer, ss, HH, EE, rfl⟩ hr B u_purse x_purse vs ⟨x_many, ⟨⟩⟩ G0 hB ⟨v_many, _, rfl, r_many, rfl⟩ hok
  replace hok : ok__law_draw_0 x_purse x_many := hok
  show SJ B _ _ [some (.ref u_purse), some v_many, none, none, none] G0 [(u_purse, cl x_purse)] (JUD B u_purse) (m__law_draw_0 x_purse x_many)
  obtain ⟨k1, hokA, hokB⟩ := hok
  refine sj_whenX (ST.cell 0 rfl (by intro G_ e_ r_purse; have r_many := Rep.mono e_ r_many; exact DC.dt (dc_gt (de_ixI (de_var 0 r_purse) de_int k1) de_int))) (fun h1 => ?_) (fun h1 => ?_)
  · have hok := hokA h1; clear hokA hokB
    show SJ B _ _ [some (.ref u_purse), some v_many, none, none, none] G0 [(u_purse, cl x_purse)] (JX (JUD B u_purse)) (m__law_draw_1 x_purse x_many)
    obtain ⟨k2, k3, hok⟩ := hok
    refine sb_set 4 (SE.cell 0 rfl (by intro G_ e_ r_purse; have r_many := Rep.mono e_ r_many; exact de_mod (de_ixI (de_var 0 r_purse) de_int k2) (de_var 1 r_many) k3)) (fun v_drawn G1 e1 r_drawn => ?_) sc.nd
    have r_many := Rep.mono e1 r_many
    replace r_drawn : rep G1 v_drawn ((getI x_purse (0 : Int)) % x_many) := r_drawn
    replace hok : ok__law_draw_2 x_purse x_many ((getI x_purse (0 : Int)) % x_many) := hok
    show SJ B _ _ [some (.ref u_purse), some v_many, none, none, some v_drawn] G1 [(u_purse, cl x_purse)] (JX (JUD B u_purse)) (m__law_draw_1 x_purse x_many)
    rw [show m__law_draw_1 x_purse x_many = m__law_draw_2 x_purse x_many ((getI x_purse (0 : Int)) % x_many) from rfl]
    generalize ((getI x_purse (0 : Int)) % x_many) = x_drawn at r_drawn hok ⊢
    obtain ⟨k4, k5, k6, hok⟩ := hok
    refine sb_setIxI 0 (at_var 0) (SE.cell 0 rfl (by intro G_ e_ r_purse; have r_many := Rep.mono e_ r_many; have r_drawn := Rep.mono e_ r_drawn; exact de_fdiv (de_ixI (de_var 0 r_purse) de_int k4) (de_var 1 r_many) k5.1 k5.2)) de_int rfl k6 fun G2 e2 => ?_
    have r_many := Rep.mono e2 r_many
    have r_drawn := Rep.mono e2 r_drawn
    replace hok : ok__law_draw_3 (setI x_purse (0 : Int) ((getI x_purse (0 : Int)) / x_many)) x_many x_drawn := hok
    show SJ B _ _ [some (.ref u_purse), some v_many, none, none, some v_drawn] G2 [(u_purse, cl (setI x_purse (0 : Int) ((getI x_purse (0 : Int)) / x_many)))] (JX (JUD B u_purse)) (m__law_draw_2 x_purse x_many x_drawn)
    rw [show m__law_draw_2 x_purse x_many x_drawn = m__law_draw_3 (setI x_purse (0 : Int) ((getI x_purse (0 : Int)) / x_many)) x_many x_drawn from rfl]
    generalize (setI x_purse (0 : Int) ((getI x_purse (0 : Int)) / x_many)) = x_purse at hok ⊢
    exact sb_ret 1 (DE.se (de_var 4 r_drawn))
  · have hok := hokB h1; clear hokA hokB
    show SJ B _ _ [some (.ref u_purse), some v_many, none, none, none] G0 [(u_purse, cl x_purse)] (JUD B u_purse) (m__law_draw_4 x_purse x_many)
    refine sb_set 2 (DE.se de_int) (fun v_found G3 e3 r_found => ?_) sc.nd
    have r_many := Rep.mono e3 r_many
    replace r_found : rep G3 v_found (id (0 : Int)) := r_found
    replace hok : ok__law_draw_5 x_purse x_many (id (0 : Int)) := hok
    show SJ B _ _ [some (.ref u_purse), some v_many, some v_found, none, none] G3 [(u_purse, cl x_purse)] (JUD B u_purse) (m__law_draw_4 x_purse x_many)
    rw [show m__law_draw_4 x_purse x_many = m__law_draw_5 x_purse x_many (id (0 : Int)) from rfl]
    generalize (id (0 : Int)) = x_found at r_found hok ⊢
    obtain ⟨k7, k8, k17, hok⟩ := hok
    have hok2 : ∀ s : (List Int) × Int, s = (List.foldl (fun (s : (List Int) × Int) (y : Int) => m__law_draw_6 s.1 x_many s.2 y) (x_purse, x_found) (irange ((1 : Int) + ((Builtin.Int.intBits x_many : Int) / (28 : Int))))) → ok__law_draw_9 s.1 x_many s.2 := fun s h => by subst h; exact hok
    refine sj_foldS (k := fun (s : (List Int) × Int) => m__law_draw_9 s.1 x_many s.2) (fun (s : (List Int) × Int) (σ_ : L2.St) (G_ : Hp) (C_ : Cs) => ∃ (v_found : V) (t_piece : Option V), (σ_ = [some (.ref u_purse), some v_many, some v_found, t_piece, none] ∧ rep G_ v_found s.2 ∧ C_ = ([(u_purse, cl s.1)] : Cs))) (fun (s : (List Int) × Int) (y : Int) => m__law_draw_6 s.1 x_many s.2 y) (fun (s : (List Int) × Int) (y : Int) => ok__law_draw_6 s.1 x_many s.2 y) (x_purse, x_found) (di_rangeI (b_range T) (de_add de_int (de_fdiv (de_bits (de_var 1 r_many)) de_int k7.1 k7.2)) k8) (sg_name 3 sc.nd) (fun G_ e_ => ⟨_, _, rfl, Rep.mono e_ r_found, rfl⟩) (by rintro ⟨x_purse, x_found⟩ σ_ G_ G2_ C_ e_ ⟨v_found, t_piece, rfl, r_found, rfl⟩; exact ⟨_, _, rfl, Rep.mono e_ r_found, rfl⟩) k17 ?_ ?_
    · rintro ⟨x_purse, x_found⟩ x_piece σ_ σ2_ G4 C_ hy_ e4 ⟨v_found, t_piece, rfl, r_found, rfl⟩ ⟨v_piece, r_piece, rfl⟩ hok
      have r_many := Rep.mono e4 r_many
      replace hok : ok__law_draw_6 x_purse x_many x_found x_piece := hok
      show SJ B _ _ [some (.ref u_purse), some v_many, some v_found, some v_piece, none] G4 [(u_purse, cl x_purse)] (JF (fun (s : (List Int) × Int) (σ_ : L2.St) (G_ : Hp) (C_ : Cs) => ∃ (v_found : V) (t_piece : Option V), (σ_ = [some (.ref u_purse), some v_many, some v_found, t_piece, none] ∧ rep G_ v_found s.2 ∧ C_ = ([(u_purse, cl s.1)] : Cs)))) (m__law_draw_6 x_purse x_many x_found x_piece)
      obtain ⟨k9, k10, hok⟩ := hok
      refine sb_setIxI 0 (at_var 0) (SE.cell 0 rfl (by intro G_ e_ r_purse; have r_many := Rep.mono e_ r_many; have r_found := Rep.mono e_ r_found; have r_piece := Rep.mono e_ r_piece; exact de_add (de_ixI (de_var 0 r_purse) de_int k9) de_int)) de_int rfl k10 fun G5 e5 => ?_
      have r_many := Rep.mono e5 r_many
      have r_found := Rep.mono e5 r_found
      have r_piece := Rep.mono e5 r_piece
      replace hok : ok__law_draw_7 (setI x_purse (2 : Int) ((getI x_purse (2 : Int)) + (1 : Int))) x_many x_found x_piece := hok
      show SJ B _ _ [some (.ref u_purse), some v_many, some v_found, some v_piece, none] G5 [(u_purse, cl (setI x_purse (2 : Int) ((getI x_purse (2 : Int)) + (1 : Int))))] (JF (fun (s : (List Int) × Int) (σ_ : L2.St) (G_ : Hp) (C_ : Cs) => ∃ (v_found : V) (t_piece : Option V), (σ_ = [some (.ref u_purse), some v_many, some v_found, t_piece, none] ∧ rep G_ v_found s.2 ∧ C_ = ([(u_purse, cl s.1)] : Cs)))) (m__law_draw_6 x_purse x_many x_found x_piece)
      rw [show m__law_draw_6 x_purse x_many x_found x_piece = m__law_draw_7 (setI x_purse (2 : Int) ((getI x_purse (2 : Int)) + (1 : Int))) x_many x_found x_piece from rfl]
      generalize (setI x_purse (2 : Int) ((getI x_purse (2 : Int)) + (1 : Int))) = x_purse at hok ⊢
      obtain ⟨k11, k12, k13, k14, k15, hok⟩ := hok
      refine sb_set 2 (SE.cell 0 rfl (by intro G_ e_ r_purse; have r_many := Rep.mono e_ r_many; have r_found := Rep.mono e_ r_found; have r_piece := Rep.mono e_ r_piece; exact de_add (de_mul (de_var 2 r_found) de_int k11) (de_callZ (y := ((getI x_purse (1 : Int)), (getI x_purse (2 : Int)), (getI x_purse (3 : Int)), ())) (z := (m__law_mixed (getI x_purse (1 : Int)) (getI x_purse (2 : Int)) (getI x_purse (3 : Int)))) (h__law_mixed T) hr (da_cons (de_ixI (de_var 0 r_purse) de_int k12) (da_cons (de_ixI (de_var 0 r_purse) de_int k13) (da_cons (de_ixI (de_var 0 r_purse) de_int k14) da_nil))) k15))) (fun v_found G6 e6 r_found => ?_) sc.nd
      have r_many := Rep.mono e6 r_many
      have r_piece := Rep.mono e6 r_piece
      replace r_found : rep G6 v_found ((x_found * (2147483587 : Int)) + (m__law_mixed (getI x_purse (1 : Int)) (getI x_purse (2 : Int)) (getI x_purse (3 : Int)))) := r_found
      replace hok : ok__law_draw_8 x_purse x_many ((x_found * (2147483587 : Int)) + (m__law_mixed (getI x_purse (1 : Int)) (getI x_purse (2 : Int)) (getI x_purse (3 : Int)))) x_piece := hok
      show SJ B _ _ [some (.ref u_purse), some v_many, some v_found, some v_piece, none] G6 [(u_purse, cl x_purse)] (JF (fun (s : (List Int) × Int) (σ_ : L2.St) (G_ : Hp) (C_ : Cs) => ∃ (v_found : V) (t_piece : Option V), (σ_ = [some (.ref u_purse), some v_many, some v_found, t_piece, none] ∧ rep G_ v_found s.2 ∧ C_ = ([(u_purse, cl s.1)] : Cs)))) (m__law_draw_7 x_purse x_many x_found x_piece)
      rw [show m__law_draw_7 x_purse x_many x_found x_piece = m__law_draw_8 x_purse x_many ((x_found * (2147483587 : Int)) + (m__law_mixed (getI x_purse (1 : Int)) (getI x_purse (2 : Int)) (getI x_purse (3 : Int)))) x_piece from rfl]
      generalize ((x_found * (2147483587 : Int)) + (m__law_mixed (getI x_purse (1 : Int)) (getI x_purse (2 : Int)) (getI x_purse (3 : Int)))) = x_found at r_found hok ⊢
      exact sb_nilF fun G_ e_ => ⟨_, _, rfl, Rep.mono e_ r_found, rfl⟩
    · rintro ⟨x_purse, x_found⟩ σ_ G7 C_ hl_ e7 ⟨v_found, t_piece, rfl, r_found, rfl⟩
      replace hok := hok2 _ hl_
      have r_many := Rep.mono e7 r_many
      replace hok : ok__law_draw_9 x_purse x_many x_found := hok
      show SJ B _ _ [some (.ref u_purse), some v_many, some v_found, t_piece, none] G7 [(u_purse, cl x_purse)] (JUD B u_purse) (m__law_draw_9 x_purse x_many x_found)
      obtain ⟨k16, hok⟩ := hok
      exact sb_ret 1 (DE.se (de_mod (de_var 2 r_found) (de_var 1 r_many) k16))

abbrev N__law_purse : List Str := ["script", "at", "seed"]
def m__law_purse_1 (x_script : Scr) (x_at : Int) (x_seed : Int) : List Int := ([((if (0 : Int) > (x_seed - ((10 : Int) ^ ((18 : Int)).toNat)) then (0 : Int) else (x_seed - ((10 : Int) ^ ((18 : Int)).toNat))) % (((10 : Int) ^ ((60 : Int)).toNat) ^ ((8 : Int)).toNat)), (x_seed % (2147483629 : Int)), (0 : Int), x_at] : List Int)
def ok__law_purse_1 (x_script : Scr) (x_at : Int) (x_seed : Int) : Prop := (CPowW (10 : Int) (18 : Int)) ∧ (CPowW (10 : Int) (60 : Int)) ∧ (CPowW ((10 : Int) ^ ((60 : Int)).toNat) (8 : Int)) ∧ ((0 : Int) < (((10 : Int) ^ ((60 : Int)).toNat) ^ ((8 : Int)).toNat)) ∧ ((0 : Int) < (2147483629 : Int)) ∧ True
def m__law_purse_0 (x_script : Scr) (x_at : Int) : List Int := m__law_purse_1 x_script x_at (List.sum (cut x_script.ns (some x_at) (some (x_at + (1 : Int)))))
def ok__law_purse_0 (x_script : Scr) (x_at : Int) : Prop := ok__law_purse_1 x_script x_at (List.sum (cut x_script.ns (some x_at) (some (x_at + (1 : Int)))))
def m__law_purse (x_script : Scr) (x_at : Int) : List Int := m__law_purse_0 x_script x_at
def ok__law_purse (x_script : Scr) (x_at : Int) : Prop := ok__law_purse_0 x_script x_at
theorem h__law_purse (T : Tx K mg) : Has P w K mg base "_law_purse" (He.ga K "_law_purse") 1 ["script", "at"] (SpN kO (fun (a : Scr × Int × Unit) => ok__law_purse a.1 a.2.1) (fun a => m__law_purse a.1 a.2.1)) := by
  have sc : FnScope N__law_purse ["script", "at"] (defScope s__law_purse) := ⟨rfl, rfl, rfl, by decide +kernel, rfl, by decide +kernel, by decide +kernel⟩
  refine has_O (d__law_purse T) (g__law_purse T) sc (fun _ _ _ _ _ _ us hl => match us, hl with | [_, _], _ => rfl) (by rintro a G vs ⟨v_script, _, rfl, r_script, ⟨v_at, _, rfl, r_at, rfl⟩⟩; rfl) ?_
  rintro X ⟨cdv, AA, outer, ss, HH, EE, rfl⟩ hr B vs ⟨x_script, x_at, ⟨⟩⟩ G0 hB ⟨v_script, _, rfl, r_script, ⟨v_at, _, rfl, r_at, rfl⟩⟩ hok
  replace hok : ok__law_purse_0 x_script x_at := hok
  show SJ B _ _ [some v_script, some v_at, none] G0 [] (JO B []) (m__law_purse_0 x_script x_at)
  refine sb_set 2 (DE.se (de_sum (b_sum T) (DO.de (do_sliceScr T.pk (de_var 0 r_script) (dp_some (de_var 1 r_at)) (dp_some (de_add (de_var 1 r_at) de_int)))))) (fun v_seed G1 e1 r_seed => ?_) sc.nd
  have r_script := Rep.mono e1 r_script
  have r_at := Rep.mono e1 r_at
  replace r_seed : rep G1 v_seed (List.sum (cut x_script.ns (some x_at) (some (x_at + (1 : Int))))) := r_seed
  replace hok : ok__law_purse_1 x_script x_at (List.sum (cut x_script.ns (some x_at) (some (x_at + (1 : Int))))) := hok
  show SJ B _ _ [some v_script, some v_at, some v_seed] G1 [] (JO B []) (m__law_purse_0 x_script x_at)
  rw [show m__law_purse_0 x_script x_at = m__law_purse_1 x_script x_at (List.sum (cut x_script.ns (some x_at) (some (x_at + (1 : Int))))) from rfl]
  generalize (List.sum (cut x_script.ns (some x_at) (some (x_at + (1 : Int))))) = x_seed at r_seed hok ⊢
  obtain ⟨k1, k2, k3, k4, k5, hok⟩ := hok
  exact sb_retO 0 (DO.so (do_list (hl := (by decide : (4 : Nat) ≤ sizeLine)) (des_cons (de_mod (de_max (b_max T) (de_sub (de_var 2 r_seed) (de_pow de_int de_int k1)) de_int) (de_pow (de_pow de_int de_int k2) de_int k3) k4) (des_cons (de_mod (de_var 2 r_seed) de_int k5) (des_cons de_int (des_cons (de_var 1 r_at) des_nil)))))) (by first | exact Nat.zero_le _ | simp)

abbrev N__law_purses : List Str := ["script", "few", "at"]
def m__law_purses (x_script : Scr) (x_few : Int) : List (List Int) := ((irange (if (if (x_script.ns.length : Int) < x_few then (x_script.ns.length : Int) else x_few) > (1 : Int) then (if (x_script.ns.length : Int) < x_few then (x_script.ns.length : Int) else x_few) else (1 : Int))).map fun y1 => (m__law_purse x_script y1))
def ok__law_purses (x_script : Scr) (x_few : Int) : Prop := (-(2 ^ 24) ≤ (if (if (x_script.ns.length : Int) < x_few then (x_script.ns.length : Int) else x_few) > (1 : Int) then (if (x_script.ns.length : Int) < x_few then (x_script.ns.length : Int) else x_few) else (1 : Int)) ∧ (if (if (x_script.ns.length : Int) < x_few then (x_script.ns.length : Int) else x_few) > (1 : Int) then (if (x_script.ns.length : Int) < x_few then (x_script.ns.length : Int) else x_few) else (1 : Int)) ≤ 2 ^ 24) ∧ (∀ y1 ∈ (irange (if (if (x_script.ns.length : Int) < x_few then (x_script.ns.length : Int) else x_few) > (1 : Int) then (if (x_script.ns.length : Int) < x_few then (x_script.ns.length : Int) else x_few) else (1 : Int))), (ok__law_purse x_script y1)) ∧ True
theorem h__law_purses (T : Tx K mg) : Has P w K mg base "_law_purses" (He.ga K "_law_purses") 2 ["script", "few"] (SpN kP (fun (a : Scr × Int × Unit) => ok__law_purses a.1 a.2.1) (fun a => m__law_purses a.1 a.2.1)) := by
  have sc : FnScope N__law_purses ["script", "few"] (defScope s__law_purses) := ⟨rfl, rfl, rfl, by decide +kernel, rfl, by decide +kernel, by decide +kernel⟩
  refine has_P (d__law_purses T) (g__law_purses T) sc (fun _ _ _ _ _ _ us hl => match us, hl with | [_, _], _ => rfl) (by rintro a G vs ⟨v_script, _, rfl, r_script, ⟨v_few, _, rfl, r_few, rfl⟩⟩; rfl) ?_
  rintro X ⟨cdv, AA, outer, ss, HH, EE, rfl⟩ hr vs ⟨x_script, x_few, ⟨⟩⟩ G0 ⟨v_script, _, rfl, r_script, ⟨v_few, _, rfl, r_few, rfl⟩⟩ hok
  replace hok : ok__law_purses x_script x_few := hok
  obtain ⟨k1, k3, hok⟩ := hok
  show DPz _ _ [some v_script, some v_few, none] G0 ((irange (if (if (x_script.ns.length : Int) < x_few then (x_script.ns.length : Int) else x_few) > (1 : Int) then (if (x_script.ns.length : Int) < x_few then (x_script.ns.length : Int) else x_few) else (1 : Int))).map fun y1 => (m__law_purse x_script y1))
  exact dp_lc (fun y1 => (m__law_purse x_script y1)) sc.nd rfl (di_rangeI (b_range T) (de_max (b_max T) de_int (de_min (b_min T) (de_var 1 r_few) (de_lenScr T.pk (b_len T) (de_var 0 r_script)))) k1) (blkOk_by (own := [("at", 2)]) (N := N__law_purses) (sc := _) (by first | decide +kernel | rfl)) rfl (dg_name sc.nd) (by intro i_ y1 σ_ G_ hy_ eG_ hT_; obtain ⟨v_y1, q_y1, rfl⟩ := hT_; have r_script := Rep.mono eG_ r_script; have r_few := Rep.mono eG_ r_few; have z_ := k3 y1 (List.mem_of_getElem? hy_); have ze_ := z_; have k2 := ze_; intro Y_ hY_; have hr := InBlk.room hY_ hr; obtain ⟨⟨s_, H_, C_, cl_, fp_, rfl⟩⟩ := hY_; exact do_callZ (y := (x_script, y1, ())) (z := (m__law_purse x_script y1)) (h__law_purse T) hr (da_cons (de_var 0 r_script) (da_cons (de_var 2 q_y1) da_nil)) k2)

abbrev N__law_shuffled : List Str := ["purse", "some", "found", "item"]
def m__law_shuffled_3 {α : Type} [Inhabited α] (x_purse : List Int) (x_some : List α) (x_found : List α) (x_item : α) : (List Int) × (List α) := (x_purse, x_found)
def ok__law_shuffled_3 {α : Type} [Inhabited α] (x_purse : List Int) (x_some : List α) (x_found : List α) (x_item : α) : Prop := True
def m__law_shuffled_2 {α : Type} [Inhabited α] (x_purse : List Int) (x_some : List α) (x_found : List α) (x_item : α) : (List Int) × (List α) := m__law_shuffled_3 ((m__law_draw x_purse ((x_found.length : Int) + (1 : Int))).2) x_some (insI x_found ((m__law_draw x_purse ((x_found.length : Int) + (1 : Int))).1) x_item) x_item
def ok__law_shuffled_2 {α : Type} [Inhabited α] (x_purse : List Int) (x_some : List α) (x_found : List α) (x_item : α) : Prop := (ok__law_draw x_purse ((x_found.length : Int) + (1 : Int))) ∧ (x_found.length < sizeLine) ∧ (0 ≤ (m__law_draw x_purse ((x_found.length : Int) + (1 : Int))).1 ∧ (m__law_draw x_purse ((x_found.length : Int) + (1 : Int))).1 < 2 ^ 63) ∧ ok__law_shuffled_3 ((m__law_draw x_purse ((x_found.length : Int) + (1 : Int))).2) x_some (insI x_found ((m__law_draw x_purse ((x_found.length : Int) + (1 : Int))).1) x_item) x_item
def m__law_shuffled_4 {α : Type} [Inhabited α] (x_purse : List Int) (x_some : List α) (x_found : List α) : (List α) × (List Int) := (x_found, x_purse)
def ok__law_shuffled_4 {α : Type} [Inhabited α] (x_purse : List Int) (x_some : List α) (x_found : List α) : Prop := True
def m__law_shuffled_1 {α : Type} [Inhabited α] (x_purse : List Int) (x_some : List α) (x_found : List α) : (List α) × (List Int) := m__law_shuffled_4 ((List.foldl (fun (s : (List Int) × (List α)) (y : α) => m__law_shuffled_2 s.1 x_some s.2 y) (x_purse, x_found) x_some).1) x_some ((List.foldl (fun (s : (List Int) × (List α)) (y : α) => m__law_shuffled_2 s.1 x_some s.2 y) (x_purse, x_found) x_some).2)
def ok__law_shuffled_1 {α : Type} [Inhabited α] (x_purse : List Int) (x_some : List α) (x_found : List α) : Prop := (foldOk (fun (s : (List Int) × (List α)) (y : α) => m__law_shuffled_2 s.1 x_some s.2 y) (fun (s : (List Int) × (List α)) (y : α) => ok__law_shuffled_2 s.1 x_some s.2 y) x_some (x_purse, x_found)) ∧ ok__law_shuffled_4 ((List.foldl (fun (s : (List Int) × (List α)) (y : α) => m__law_shuffled_2 s.1 x_some s.2 y) (x_purse, x_found) x_some).1) x_some ((List.foldl (fun (s : (List Int) × (List α)) (y : α) => m__law_shuffled_2 s.1 x_some s.2 y) (x_purse, x_found) x_some).2)
def m__law_shuffled_0 {α : Type} [Inhabited α] (x_purse : List Int) (x_some : List α) : (List α) × (List Int) := m__law_shuffled_1 x_purse x_some (id ([] : List α))
def ok__law_shuffled_0 {α : Type} [Inhabited α] (x_purse : List Int) (x_some : List α) : Prop := ok__law_shuffled_1 x_purse x_some (id ([] : List α))
def m__law_shuffled {α : Type} [Inhabited α] (x_purse : List Int) (x_some : List α) : (List α) × (List Int) := m__law_shuffled_0 x_purse x_some
def ok__law_shuffled {α : Type} [Inhabited α] (x_purse : List Int) (x_some : List α) : Prop := ok__law_shuffled_0 x_purse x_some
theorem h__law_shuffled {α : Type} [Inhabited α] [Rep α] (T : Tx K mg) : Has P w K mg base "_law_shuffled" (He.ga K "_law_shuffled") 3 ["purse", "some"] (SpU kO (fun p (a : (List α) × Unit) => ok__law_shuffled p a.1) (fun p a => m__law_shuffled p a.1)) := by
  have sc : FnScope N__law_shuffled ["purse", "some"] (defScope s__law_shuffled) := ⟨rfl, rfl, rfl, by decide +kernel, rfl, by decide +kernel, by decide +kernel⟩
  refine has_UO (d__law_shuffled T) (g__law_shuffled T) sc (fun _ _ _ _ _ _ us hl => match us, hl with | [_, _], _ => rfl) (by rintro a G vs ⟨v_some, _, rfl, r_some, rfl⟩; rfl) ?_
  rintro X ⟨cdv, AA, outer, ss, HH, EE, rfl⟩ hr B u_purse x_purse vs ⟨x_some, ⟨⟩⟩ G0 hB ⟨v_some, _, rfl, r_some, rfl⟩ hok
  replace hok : ok__law_shuffled_0 x_purse x_some := hok
  show SJ B _ _ [some (.ref u_purse), some v_some, none, none] G0 [(u_purse, cl x_purse)] (JUO B u_purse) (m__law_shuffled_0 x_purse x_some)
  refine sb_setO 2 (DO.so (do_list (hl := (by decide : (0 : Nat) ≤ sizeLine)) (des_nil (α := α)))) (fun u_found G1 e1 hB_found => ?_) sc.nd
  have r_some := Rep.mono e1 r_some
  replace hok : ok__law_shuffled_1 x_purse x_some (id ([] : List α)) := hok
  show SJ B _ _ [some (.ref u_purse), some v_some, some (.ref u_found), none] G1 [(u_purse, cl x_purse), (u_found, cl (id ([] : List α)))] (JUO B u_purse) (m__law_shuffled_0 x_purse x_some)
  rw [show m__law_shuffled_0 x_purse x_some = m__law_shuffled_1 x_purse x_some (id ([] : List α)) from rfl]
  generalize (id ([] : List α)) = x_found at hok ⊢
  obtain ⟨k4, hok⟩ := hok
  have hok2 : ∀ s : (List Int) × (List α), s = (List.foldl (fun (s : (List Int) × (List α)) (y : α) => m__law_shuffled_2 s.1 x_some s.2 y) (x_purse, x_found) x_some) → ok__law_shuffled_4 s.1 x_some s.2 := fun s h => by subst h; exact hok
  refine sj_foldS (k := fun (s : (List Int) × (List α)) => m__law_shuffled_4 s.1 x_some s.2) (fun (s : (List Int) × (List α)) (σ_ : L2.St) (G_ : Hp) (C_ : Cs) => ∃ (t_item : Option V), (σ_ = [some (.ref u_purse), some v_some, some (.ref u_found), t_item] ∧ C_ = ([(u_purse, cl s.1), (u_found, cl s.2)] : Cs))) (fun (s : (List Int) × (List α)) (y : α) => m__law_shuffled_2 s.1 x_some s.2 y) (fun (s : (List Int) × (List α)) (y : α) => ok__law_shuffled_2 s.1 x_some s.2 y) (x_purse, x_found) (di_list (de_var 1 r_some)) (sg_name 3 sc.nd) (fun G_ e_ => ⟨_, rfl, rfl⟩) (by rintro ⟨x_purse, x_found⟩ σ_ G_ G2_ C_ e_ ⟨t_item, rfl, rfl⟩; exact ⟨_, rfl, rfl⟩) k4 ?_ ?_
  · rintro ⟨x_purse, x_found⟩ x_item σ_ σ2_ G2 C_ hy_ e2 ⟨t_item, rfl, rfl⟩ ⟨v_item, r_item, rfl⟩ hok
    have r_some := Rep.mono e2 r_some
    replace hok : ok__law_shuffled_2 x_purse x_some x_found x_item := hok
    show SJ B _ _ [some (.ref u_purse), some v_some, some (.ref u_found), some v_item] G2 [(u_purse, cl x_purse), (u_found, cl x_found)] (JF (fun (s : (List Int) × (List α)) (σ_ : L2.St) (G_ : Hp) (C_ : Cs) => ∃ (t_item : Option V), (σ_ = [some (.ref u_purse), some v_some, some (.ref u_found), t_item] ∧ C_ = ([(u_purse, cl s.1), (u_found, cl s.2)] : Cs)))) (m__law_shuffled_2 x_purse x_some x_found x_item)
    obtain ⟨k1, k2, k3, hok⟩ := hok
    refine sb_insert 1 (at_var 2) (se_callUZ (z := (m__law_draw x_purse ((x_found.length : Int) + (1 : Int))).1) (l' := (m__law_draw x_purse ((x_found.length : Int) + (1 : Int))).2) 0 (h__law_draw T) hr (at_var 0) (sa_cons (SE.cell 1 rfl (by intro G_ e_ r_found; have r_some := Rep.mono e_ r_some; have r_item := Rep.mono e_ r_item; exact de_add (de_lenI (b_len T) (de_var 2 r_found)) de_int)) sa_nil) rfl k1) (DE.se (de_var 3 r_item)) rfl rfl k2 k3 fun G3 e3 => ?_
    have r_some := Rep.mono e3 r_some
    have r_item := Rep.mono e3 r_item
    replace hok : ok__law_shuffled_3 ((m__law_draw x_purse ((x_found.length : Int) + (1 : Int))).2) x_some (insI x_found ((m__law_draw x_purse ((x_found.length : Int) + (1 : Int))).1) x_item) x_item := hok
    show SJ B _ _ [some (.ref u_purse), some v_some, some (.ref u_found), some v_item] G3 [(u_purse, cl ((m__law_draw x_purse ((x_found.length : Int) + (1 : Int))).2)), (u_found, cl (insI x_found ((m__law_draw x_purse ((x_found.length : Int) + (1 : Int))).1) x_item))] (JF (fun (s : (List Int) × (List α)) (σ_ : L2.St) (G_ : Hp) (C_ : Cs) => ∃ (t_item : Option V), (σ_ = [some (.ref u_purse), some v_some, some (.ref u_found), t_item] ∧ C_ = ([(u_purse, cl s.1), (u_found, cl s.2)] : Cs)))) (m__law_shuffled_2 x_purse x_some x_found x_item)
    rw [show m__law_shuffled_2 x_purse x_some x_found x_item = m__law_shuffled_3 ((m__law_draw x_purse ((x_found.length : Int) + (1 : Int))).2) x_some (insI x_found ((m__law_draw x_purse ((x_found.length : Int) + (1 : Int))).1) x_item) x_item from rfl]
    generalize (m__law_draw x_purse ((x_found.length : Int) + (1 : Int))).2 = x_purse, (insI x_found ((m__law_draw x_purse ((x_found.length : Int) + (1 : Int))).1) x_item) = x_found at hok ⊢
    exact sb_nilF fun G_ e_ => ⟨_, rfl, rfl⟩
  · rintro ⟨x_purse, x_found⟩ σ_ G4 C_ hl_ e4 ⟨t_item, rfl, rfl⟩
    replace hok := hok2 _ hl_
    have r_some := Rep.mono e4 r_some
    replace hok : ok__law_shuffled_4 x_purse x_some x_found := hok
    show SJ B _ _ [some (.ref u_purse), some v_some, some (.ref u_found), t_item] G4 [(u_purse, cl x_purse), (u_found, cl x_found)] (JUO B u_purse) (m__law_shuffled_4 x_purse x_some x_found)
    exact sb_retCell 1 1 (at_var 2) rfl (by first | exact Nat.zero_le _ | decide) hB_found

abbrev N__law_word : List Str := ["purse", "found", "turn"]
def m__law_word_3 (x_purse : List Int) (x_found : Str) (x_turn : Int) : (List Int) × Str := (x_purse, x_found)
def ok__law_word_3 (x_purse : List Int) (x_found : Str) (x_turn : Int) : Prop := True
def m__law_word_2 (x_purse : List Int) (x_found : Str) (x_turn : Int) : (List Int) × Str := m__law_word_3 ((m__law_draw x_purse (26 : Int)).2) (x_found ++ (signAt ("abcdefghijklmnopqrstuvwxyz" : Str) ((m__law_draw x_purse (26 : Int)).1))) x_turn
def ok__law_word_2 (x_purse : List Int) (x_found : Str) (x_turn : Int) : Prop := (ok__law_draw x_purse (26 : Int)) ∧ ((atI ("abcdefghijklmnopqrstuvwxyz" : Str).cps.toList ((m__law_draw x_purse (26 : Int)).1)).isSome = true) ∧ (x_found.length + (signAt ("abcdefghijklmnopqrstuvwxyz" : Str) ((m__law_draw x_purse (26 : Int)).1)).length ≤ sizeLine) ∧ ok__law_word_3 ((m__law_draw x_purse (26 : Int)).2) (x_found ++ (signAt ("abcdefghijklmnopqrstuvwxyz" : Str) ((m__law_draw x_purse (26 : Int)).1))) x_turn
def m__law_word_4 (x_purse : List Int) (x_found : Str) : Str × (List Int) := (x_found, x_purse)
def ok__law_word_4 (x_purse : List Int) (x_found : Str) : Prop := True
def m__law_word_1 (x_purse : List Int) (x_found : Str) : Str × (List Int) := m__law_word_4 ((List.foldl (fun (s : (List Int) × Str) (y : Int) => m__law_word_2 s.1 s.2 y) ((m__law_draw x_purse (8 : Int)).2, x_found) (irange ((1 : Int) + (m__law_draw x_purse (8 : Int)).1))).1) ((List.foldl (fun (s : (List Int) × Str) (y : Int) => m__law_word_2 s.1 s.2 y) ((m__law_draw x_purse (8 : Int)).2, x_found) (irange ((1 : Int) + (m__law_draw x_purse (8 : Int)).1))).2)
def ok__law_word_1 (x_purse : List Int) (x_found : Str) : Prop := (ok__law_draw x_purse (8 : Int)) ∧ (-(2 ^ 24) ≤ ((1 : Int) + (m__law_draw x_purse (8 : Int)).1) ∧ ((1 : Int) + (m__law_draw x_purse (8 : Int)).1) ≤ 2 ^ 24) ∧ (foldOk (fun (s : (List Int) × Str) (y : Int) => m__law_word_2 s.1 s.2 y) (fun (s : (List Int) × Str) (y : Int) => ok__law_word_2 s.1 s.2 y) (irange ((1 : Int) + (m__law_draw x_purse (8 : Int)).1)) ((m__law_draw x_purse (8 : Int)).2, x_found)) ∧ ok__law_word_4 ((List.foldl (fun (s : (List Int) × Str) (y : Int) => m__law_word_2 s.1 s.2 y) ((m__law_draw x_purse (8 : Int)).2, x_found) (irange ((1 : Int) + (m__law_draw x_purse (8 : Int)).1))).1) ((List.foldl (fun (s : (List Int) × Str) (y : Int) => m__law_word_2 s.1 s.2 y) ((m__law_draw x_purse (8 : Int)).2, x_found) (irange ((1 : Int) + (m__law_draw x_purse (8 : Int)).1))).2)
def m__law_word_0 (x_purse : List Int) : Str × (List Int) := m__law_word_1 x_purse (id ("" : Str))
def ok__law_word_0 (x_purse : List Int) : Prop := ok__law_word_1 x_purse (id ("" : Str))
def m__law_word (x_purse : List Int) : Str × (List Int) := m__law_word_0 x_purse
def ok__law_word (x_purse : List Int) : Prop := ok__law_word_0 x_purse
theorem h__law_word (T : Tx K mg) : Has P w K mg base "_law_word" (He.ga K "_law_word") 3 ["purse"] (SpU kD (fun p (a : Unit) => ok__law_word p) (fun p a => m__law_word p)) := by
  have sc : FnScope N__law_word ["purse"] (defScope s__law_word) := ⟨rfl, rfl, rfl, by decide +kernel, rfl, by decide +kernel, by decide +kernel⟩
  refine has_UD (d__law_word T) (g__law_word T) sc (fun _ _ _ _ _ _ us hl => match us, hl with | [_], _ => rfl) (by rintro a G vs rfl; rfl) ?_
  rintro X ⟨cdv, AA, outer, ss, HH, EE, rfl⟩ hr B u_purse x_purse vs ⟨⟩ G0 hB rfl hok
  replace hok : ok__law_word_0 x_purse := hok
  show SJ B _ _ [some (.ref u_purse), none, none] G0 [(u_purse, cl x_purse)] (JUD B u_purse) (m__law_word_0 x_purse)
  refine sb_set 1 (DE.se de_str) (fun v_found G1 e1 r_found => ?_) sc.nd
  replace r_found : rep G1 v_found (id ("" : Str)) := r_found
  replace hok : ok__law_word_1 x_purse (id ("" : Str)) := hok
  show SJ B _ _ [some (.ref u_purse), some v_found, none] G1 [(u_purse, cl x_purse)] (JUD B u_purse) (m__law_word_0 x_purse)
  rw [show m__law_word_0 x_purse = m__law_word_1 x_purse (id ("" : Str)) from rfl]
  generalize (id ("" : Str)) = x_found at r_found hok ⊢
  obtain ⟨k1, k2, k6, hok⟩ := hok
  have hok2 : ∀ s : (List Int) × Str, s = (List.foldl (fun (s : (List Int) × Str) (y : Int) => m__law_word_2 s.1 s.2 y) ((m__law_draw x_purse (8 : Int)).2, x_found) (irange ((1 : Int) + (m__law_draw x_purse (8 : Int)).1))) → ok__law_word_4 s.1 s.2 := fun s h => by subst h; exact hok
  refine sj_foldSS (k := fun (s : (List Int) × Str) => m__law_word_4 s.1 s.2) (fun (s : (List Int) × Str) (σ_ : L2.St) (G_ : Hp) (C_ : Cs) => ∃ (v_found : V) (t_turn : Option V), (σ_ = [some (.ref u_purse), some v_found, t_turn] ∧ rep G_ v_found s.2 ∧ C_ = ([(u_purse, cl s.1)] : Cs))) (fun (s : (List Int) × Str) (y : Int) => m__law_word_2 s.1 s.2 y) (fun (s : (List Int) × Str) (y : Int) => ok__law_word_2 s.1 s.2 y) ((m__law_draw x_purse (8 : Int)).2, x_found) (si_rangeI (b_range T) (se_add (DE.se de_int) (se_callUZ (z := (m__law_draw x_purse (8 : Int)).1) (l' := (m__law_draw x_purse (8 : Int)).2) 0 (h__law_draw T) hr (at_var 0) (DA.sa (da_cons de_int da_nil)) rfl k1)) k2) (sg_name 2 sc.nd) (fun G_ e_ => ⟨_, _, rfl, Rep.mono e_ r_found, rfl⟩) (by rintro ⟨x_purse, x_found⟩ σ_ G_ G2_ C_ e_ ⟨v_found, t_turn, rfl, r_found, rfl⟩; exact ⟨_, _, rfl, Rep.mono e_ r_found, rfl⟩) k6 ?_ ?_
  · rintro ⟨x_purse, x_found⟩ x_turn σ_ σ2_ G2 C_ hy_ e2 ⟨v_found, t_turn, rfl, r_found, rfl⟩ ⟨v_turn, r_turn, rfl⟩ hok
    replace hok : ok__law_word_2 x_purse x_found x_turn := hok
    show SJ B _ _ [some (.ref u_purse), some v_found, some v_turn] G2 [(u_purse, cl x_purse)] (JF (fun (s : (List Int) × Str) (σ_ : L2.St) (G_ : Hp) (C_ : Cs) => ∃ (v_found : V) (t_turn : Option V), (σ_ = [some (.ref u_purse), some v_found, t_turn] ∧ rep G_ v_found s.2 ∧ C_ = ([(u_purse, cl s.1)] : Cs)))) (m__law_word_2 x_purse x_found x_turn)
    obtain ⟨k3, k4, k5, hok⟩ := hok
    refine sb_set 1 (se_op op_add_str (r2_addS k5) (DE.se (de_var 1 r_found)) (se_signI (DE.se de_str) (se_callUZ (z := (m__law_draw x_purse (26 : Int)).1) (l' := (m__law_draw x_purse (26 : Int)).2) 0 (h__law_draw T) hr (at_var 0) (DA.sa (da_cons de_int da_nil)) rfl k3) k4)) (fun v_found G3 e3 r_found => ?_) sc.nd
    have r_turn := Rep.mono e3 r_turn
    replace r_found : rep G3 v_found (x_found ++ (signAt ("abcdefghijklmnopqrstuvwxyz" : Str) ((m__law_draw x_purse (26 : Int)).1))) := r_found
    replace hok : ok__law_word_3 ((m__law_draw x_purse (26 : Int)).2) (x_found ++ (signAt ("abcdefghijklmnopqrstuvwxyz" : Str) ((m__law_draw x_purse (26 : Int)).1))) x_turn := hok
    show SJ B _ _ [some (.ref u_purse), some v_found, some v_turn] G3 [(u_purse, cl ((m__law_draw x_purse (26 : Int)).2))] (JF (fun (s : (List Int) × Str) (σ_ : L2.St) (G_ : Hp) (C_ : Cs) => ∃ (v_found : V) (t_turn : Option V), (σ_ = [some (.ref u_purse), some v_found, t_turn] ∧ rep G_ v_found s.2 ∧ C_ = ([(u_purse, cl s.1)] : Cs)))) (m__law_word_2 x_purse x_found x_turn)
    rw [show m__law_word_2 x_purse x_found x_turn = m__law_word_3 ((m__law_draw x_purse (26 : Int)).2) (x_found ++ (signAt ("abcdefghijklmnopqrstuvwxyz" : Str) ((m__law_draw x_purse (26 : Int)).1))) x_turn from rfl]
    generalize (m__law_draw x_purse (26 : Int)).2 = x_purse, (x_found ++ (signAt ("abcdefghijklmnopqrstuvwxyz" : Str) ((m__law_draw x_purse (26 : Int)).1))) = x_found at r_found hok ⊢
    exact sb_nilF fun G_ e_ => ⟨_, _, rfl, Rep.mono e_ r_found, rfl⟩
  · rintro ⟨x_purse, x_found⟩ σ_ G4 C_ hl_ e4 ⟨v_found, t_turn, rfl, r_found, rfl⟩
    replace hok := hok2 _ hl_
    replace hok : ok__law_word_4 x_purse x_found := hok
    show SJ B _ _ [some (.ref u_purse), some v_found, t_turn] G4 [(u_purse, cl x_purse)] (JUD B u_purse) (m__law_word_4 x_purse x_found)
    exact sb_ret 1 (DE.se (de_var 1 r_found))

abbrev N__law_names : List Str := ["purse", "many", "some", "fresh", "word"]
def m__law_names_1 (x_purse : List Int) (x_many : Int) (x_some : List Str) (x_fresh : Str) : (List Str) × (List Int) := ((srt (cut ((m__law_shuffled x_purse (x_some ++ (([x_fresh] : List Str).filter fun y1 => (!decide (y1 ∈ x_some))))).1) none (some x_many))), (m__law_shuffled x_purse (x_some ++ (([x_fresh] : List Str).filter fun y1 => (!decide (y1 ∈ x_some))))).2)
def ok__law_names_1 (x_purse : List Int) (x_many : Int) (x_some : List Str) (x_fresh : Str) : Prop := (x_some.length + (([x_fresh] : List Str).filter fun y1 => (!decide (y1 ∈ x_some))).length ≤ sizeLine) ∧ (ok__law_shuffled x_purse (x_some ++ (([x_fresh] : List Str).filter fun y1 => (!decide (y1 ∈ x_some))))) ∧ ((cut ((m__law_shuffled x_purse (x_some ++ (([x_fresh] : List Str).filter fun y1 => (!decide (y1 ∈ x_some))))).1) none (some x_many)).length < 64) ∧ True
def m__law_names_0 (x_purse : List Int) (x_many : Int) : (List Str) × (List Int) := m__law_names_1 ((m__law_word x_purse ).2) x_many ([("ale" : Str), ("bun" : Str), ("cob" : Str), ("a" : Str), ("zz" : Str), ("egg" : Str), ("marrows" : Str), ("jam" : Str)] : List Str) ((m__law_word x_purse ).1)
def ok__law_names_0 (x_purse : List Int) (x_many : Int) : Prop := (ok__law_word x_purse ) ∧ ok__law_names_1 ((m__law_word x_purse ).2) x_many ([("ale" : Str), ("bun" : Str), ("cob" : Str), ("a" : Str), ("zz" : Str), ("egg" : Str), ("marrows" : Str), ("jam" : Str)] : List Str) ((m__law_word x_purse ).1)
def m__law_names (x_purse : List Int) (x_many : Int) : (List Str) × (List Int) := m__law_names_0 x_purse x_many
def ok__law_names (x_purse : List Int) (x_many : Int) : Prop := ok__law_names_0 x_purse x_many
theorem h__law_names (T : Tx K mg) : Has P w K mg base "_law_names" (He.ga K "_law_names") 4 ["purse", "many"] (SpU kO (fun p (a : Int × Unit) => ok__law_names p a.1) (fun p a => m__law_names p a.1)) := by
  have sc : FnScope N__law_names ["purse", "many"] (defScope s__law_names) := ⟨rfl, rfl, rfl, by decide +kernel, rfl, by decide +kernel, by decide +kernel⟩
  refine has_UO (d__law_names T) (g__law_names T) sc (fun _ _ _ _ _ _ us hl => match us, hl with | [_, _], _ => rfl) (by rintro a G vs ⟨v_many, _, rfl, r_many, rfl⟩; rfl) ?_
  rintro X ⟨cdv, AA, outer, ss, HH, EE, rfl⟩ hr B u_purse x_purse vs ⟨x_many, ⟨⟩⟩ G0 hB ⟨v_many, _, rfl, r_many, rfl⟩ hok
  replace hok : ok__law_names_0 x_purse x_many := hok
  show SJ B _ _ [some (.ref u_purse), some v_many, none, none, none] G0 [(u_purse, cl x_purse)] (JUO B u_purse) (m__law_names_0 x_purse x_many)
  obtain ⟨k1, hok⟩ := hok
  refine sb_parT 2 3 (DE.se (DO.de (do_list (hl := (by decide : (8 : Nat) ≤ sizeLine)) (des_cons de_str (des_cons de_str (des_cons de_str (des_cons de_str (des_cons de_str (des_cons de_str (des_cons de_str (des_cons de_str des_nil))))))))))) (se_callUZ (z := (m__law_word x_purse ).1) (l' := (m__law_word x_purse ).2) 0 (h__law_word T) hr (at_var 0) (DA.sa da_nil) rfl k1) (fun v_some v_fresh G1 e1 r_some r_fresh => ?_) sc.nd
  have r_many := Rep.mono e1 r_many
  replace r_some : rep G1 v_some ([("ale" : Str), ("bun" : Str), ("cob" : Str), ("a" : Str), ("zz" : Str), ("egg" : Str), ("marrows" : Str), ("jam" : Str)] : List Str) := r_some
  replace r_fresh : rep G1 v_fresh ((m__law_word x_purse ).1) := r_fresh
  replace hok : ok__law_names_1 ((m__law_word x_purse ).2) x_many ([("ale" : Str), ("bun" : Str), ("cob" : Str), ("a" : Str), ("zz" : Str), ("egg" : Str), ("marrows" : Str), ("jam" : Str)] : List Str) ((m__law_word x_purse ).1) := hok
  show SJ B _ _ [some (.ref u_purse), some v_many, some v_some, some v_fresh, none] G1 [(u_purse, cl ((m__law_word x_purse ).2))] (JUO B u_purse) (m__law_names_0 x_purse x_many)
  rw [show m__law_names_0 x_purse x_many = m__law_names_1 ((m__law_word x_purse ).2) x_many ([("ale" : Str), ("bun" : Str), ("cob" : Str), ("a" : Str), ("zz" : Str), ("egg" : Str), ("marrows" : Str), ("jam" : Str)] : List Str) ((m__law_word x_purse ).1) from rfl]
  generalize (m__law_word x_purse ).2 = x_purse, ([("ale" : Str), ("bun" : Str), ("cob" : Str), ("a" : Str), ("zz" : Str), ("egg" : Str), ("marrows" : Str), ("jam" : Str)] : List Str) = x_some, (m__law_word x_purse ).1 = x_fresh at r_some r_fresh hok ⊢
  obtain ⟨k2, k3, k4, hok⟩ := hok
  exact sb_retO 1 (so_sorted (b_sorted T) (SO.se (so_slice (SO.se (so_callUZ (z := (m__law_shuffled x_purse (x_some ++ (([x_fresh] : List Str).filter fun y1 => (!decide (y1 ∈ x_some))))).1) (l' := (m__law_shuffled x_purse (x_some ++ (([x_fresh] : List Str).filter fun y1 => (!decide (y1 ∈ x_some))))).2) 0 (h__law_shuffled T) hr (at_var 0) (DA.sa (da_cons (DO.de (do_cat (de_var 2 r_some) (DO.de (do_lc (lc_fil (fun y1 => (!decide (y1 ∈ x_some))) sc.nd rfl (di_list (DO.de (do_list (hl := (by decide : (1 : Nat) ≤ sizeLine)) (des_cons (de_var 3 r_fresh) des_nil)))) (blkOk_by (own := [("word", 4)]) (N := N__law_names) (sc := _) (by first | decide +kernel | rfl)) rfl (dg_name sc.nd) (by intro i_ y1 σ_ G_ hy_ eG_ hT_; obtain ⟨v_y1, q_y1, rfl⟩ := hT_; have r_many := Rep.mono eG_ r_many; have r_some := Rep.mono eG_ r_some; have r_fresh := Rep.mono eG_ r_fresh; intro Y_ hY_; have hr := InBlk.room hY_ hr; obtain ⟨⟨s_, H_, C_, cl_, fp_, rfl⟩⟩ := hY_; exact df_one (DC.dt (dc_nin (de_var 4 q_y1) (de_var 2 r_some)))) (by intro i_ y1 σ_ G_ hy_ eG_ hT_ hf_; obtain ⟨v_y1, q_y1, rfl⟩ := hT_; have r_many := Rep.mono eG_ r_many; have r_some := Rep.mono eG_ r_some; have r_fresh := Rep.mono eG_ r_fresh; intro Y_ hY_; have hr := InBlk.room hY_ hr; obtain ⟨⟨s_, H_, C_, cl_, fp_, rfl⟩⟩ := hY_; exact de_var 4 q_y1)))) k2)) da_nil)) rfl k3)) sp_none (sp_some (DE.se (de_var 1 r_many))))) k4) (by first | exact Nat.zero_le _ | simp)

abbrev N__law_rows_of : List Str := ["purse", "names", "many", "way", "turn", "base", "found", "row", "cut", "head", "name"]
def m__law_rows_of_10 (x_purse : List Int) (x_names : List Str) (x_many : Int) (x_way : Int) (x_turn : Int) (x_base : List Str) (x_found : List (List Str)) (x_row : List Str) (x_cut : Int) (x_head : List Str) : (List Int) × (List (List Str)) := (x_purse, x_found)
def ok__law_rows_of_10 (x_purse : List Int) (x_names : List Str) (x_many : Int) (x_way : Int) (x_turn : Int) (x_base : List Str) (x_found : List (List Str)) (x_row : List Str) (x_cut : Int) (x_head : List Str) : Prop := True
def m__law_rows_of_9 (x_purse : List Int) (x_names : List Str) (x_many : Int) (x_way : Int) (x_turn : Int) (x_base : List Str) (x_found : List (List Str)) (x_row : List Str) (x_cut : Int) (x_head : List Str) : (List Int) × (List (List Str)) := m__law_rows_of_10 x_purse x_names x_many x_way x_turn x_base (x_found ++ [x_row]) x_row x_cut x_head
def ok__law_rows_of_9 (x_purse : List Int) (x_names : List Str) (x_many : Int) (x_way : Int) (x_turn : Int) (x_base : List Str) (x_found : List (List Str)) (x_row : List Str) (x_cut : Int) (x_head : List Str) : Prop := (x_found.length < sizeLine) ∧ ok__law_rows_of_10 x_purse x_names x_many x_way x_turn x_base (x_found ++ [x_row]) x_row x_cut x_head
def m__law_rows_of_8 (x_purse : List Int) (x_names : List Str) (x_many : Int) (x_way : Int) (x_turn : Int) (x_base : List Str) (x_found : List (List Str)) (x_row : List Str) (x_cut : Int) (x_head : List Str) : (List Int) × (List (List Str)) := m__law_rows_of_9 x_purse x_names x_many x_way x_turn x_base x_found x_row x_cut x_head
def ok__law_rows_of_8 (x_purse : List Int) (x_names : List Str) (x_many : Int) (x_way : Int) (x_turn : Int) (x_base : List Str) (x_found : List (List Str)) (x_row : List Str) (x_cut : Int) (x_head : List Str) : Prop := ok__law_rows_of_9 x_purse x_names x_many x_way x_turn x_base x_found x_row x_cut x_head
def m__law_rows_of_7 (x_purse : List Int) (x_names : List Str) (x_many : Int) (x_way : Int) (x_turn : Int) (x_base : List Str) (x_found : List (List Str)) (x_row : List Str) (x_cut : Int) (x_head : List Str) : (List Int) × (List (List Str)) := m__law_rows_of_8 x_purse x_names x_many x_way x_turn x_base x_found (if decide ((0 : Int) < x_cut) = true then x_row else x_row.reverse) x_cut x_head
def ok__law_rows_of_7 (x_purse : List Int) (x_names : List Str) (x_many : Int) (x_way : Int) (x_turn : Int) (x_base : List Str) (x_found : List (List Str)) (x_row : List Str) (x_cut : Int) (x_head : List Str) : Prop := ok__law_rows_of_8 x_purse x_names x_many x_way x_turn x_base x_found (if decide ((0 : Int) < x_cut) = true then x_row else x_row.reverse) x_cut x_head
def m__law_rows_of_6 (x_purse : List Int) (x_names : List Str) (x_many : Int) (x_way : Int) (x_turn : Int) (x_base : List Str) (x_found : List (List Str)) (x_row : List Str) (x_cut : Int) (x_head : List Str) : (List Int) × (List (List Str)) := m__law_rows_of_7 x_purse x_names x_many x_way x_turn x_base x_found (x_head ++ (x_base.filter fun y2 => (!decide (y2 ∈ x_head)))) x_cut x_head
def ok__law_rows_of_6 (x_purse : List Int) (x_names : List Str) (x_many : Int) (x_way : Int) (x_turn : Int) (x_base : List Str) (x_found : List (List Str)) (x_row : List Str) (x_cut : Int) (x_head : List Str) : Prop := (x_head.length + (x_base.filter fun y2 => (!decide (y2 ∈ x_head))).length ≤ sizeLine) ∧ ok__law_rows_of_7 x_purse x_names x_many x_way x_turn x_base x_found (x_head ++ (x_base.filter fun y2 => (!decide (y2 ∈ x_head)))) x_cut x_head
def m__law_rows_of_5 (x_purse : List Int) (x_names : List Str) (x_many : Int) (x_way : Int) (x_turn : Int) (x_base : List Str) (x_found : List (List Str)) (x_row : List Str) : (List Int) × (List (List Str)) := m__law_rows_of_6 ((m__law_draw ((m__law_draw x_purse (x_names.length : Int)).2) (3 : Int)).2) x_names x_many x_way x_turn x_base x_found x_row ((m__law_draw x_purse (x_names.length : Int)).1) (cut x_row none (some (((m__law_draw ((m__law_draw x_purse (x_names.length : Int)).2) (3 : Int)).1 + x_way) - (1 : Int))))
def ok__law_rows_of_5 (x_purse : List Int) (x_names : List Str) (x_many : Int) (x_way : Int) (x_turn : Int) (x_base : List Str) (x_found : List (List Str)) (x_row : List Str) : Prop := (ok__law_draw x_purse (x_names.length : Int)) ∧ (ok__law_draw ((m__law_draw x_purse (x_names.length : Int)).2) (3 : Int)) ∧ ok__law_rows_of_6 ((m__law_draw ((m__law_draw x_purse (x_names.length : Int)).2) (3 : Int)).2) x_names x_many x_way x_turn x_base x_found x_row ((m__law_draw x_purse (x_names.length : Int)).1) (cut x_row none (some (((m__law_draw ((m__law_draw x_purse (x_names.length : Int)).2) (3 : Int)).1 + x_way) - (1 : Int))))
def m__law_rows_of_13 (x_purse : List Int) (x_names : List Str) (x_many : Int) (x_way : Int) (x_turn : Int) (x_base : List Str) (x_found : List (List Str)) (x_row : List Str) : (List Int) × (List (List Str)) := (x_purse, x_found)
def ok__law_rows_of_13 (x_purse : List Int) (x_names : List Str) (x_many : Int) (x_way : Int) (x_turn : Int) (x_base : List Str) (x_found : List (List Str)) (x_row : List Str) : Prop := True
def m__law_rows_of_12 (x_purse : List Int) (x_names : List Str) (x_many : Int) (x_way : Int) (x_turn : Int) (x_base : List Str) (x_found : List (List Str)) (x_row : List Str) : (List Int) × (List (List Str)) := m__law_rows_of_13 x_purse x_names x_many x_way x_turn x_base (x_found ++ [x_row]) x_row
def ok__law_rows_of_12 (x_purse : List Int) (x_names : List Str) (x_many : Int) (x_way : Int) (x_turn : Int) (x_base : List Str) (x_found : List (List Str)) (x_row : List Str) : Prop := (x_found.length < sizeLine) ∧ ok__law_rows_of_13 x_purse x_names x_many x_way x_turn x_base (x_found ++ [x_row]) x_row
def m__law_rows_of_11 (x_purse : List Int) (x_names : List Str) (x_many : Int) (x_way : Int) (x_turn : Int) (x_base : List Str) (x_found : List (List Str)) (x_row : List Str) : (List Int) × (List (List Str)) := m__law_rows_of_12 x_purse x_names x_many x_way x_turn x_base x_found x_row
def ok__law_rows_of_11 (x_purse : List Int) (x_names : List Str) (x_many : Int) (x_way : Int) (x_turn : Int) (x_base : List Str) (x_found : List (List Str)) (x_row : List Str) : Prop := ok__law_rows_of_12 x_purse x_names x_many x_way x_turn x_base x_found x_row
def m__law_rows_of_4 (x_purse : List Int) (x_names : List Str) (x_many : Int) (x_way : Int) (x_turn : Int) (x_base : List Str) (x_found : List (List Str)) (x_row : List Str) : (List Int) × (List (List Str)) := if decide ((0 : Int) < x_way) = true then m__law_rows_of_5 x_purse x_names x_many x_way x_turn x_base x_found x_row else m__law_rows_of_11 x_purse x_names x_many x_way x_turn x_base x_found x_row
def ok__law_rows_of_4 (x_purse : List Int) (x_names : List Str) (x_many : Int) (x_way : Int) (x_turn : Int) (x_base : List Str) (x_found : List (List Str)) (x_row : List Str) : Prop := (decide ((0 : Int) < x_way) = true → ok__law_rows_of_5 x_purse x_names x_many x_way x_turn x_base x_found x_row) ∧ (decide ((0 : Int) < x_way) = false → ok__law_rows_of_11 x_purse x_names x_many x_way x_turn x_base x_found x_row)
def m__law_rows_of_3 (x_purse : List Int) (x_names : List Str) (x_many : Int) (x_way : Int) (x_turn : Int) (x_base : List Str) (x_found : List (List Str)) : (List Int) × (List (List Str)) := m__law_rows_of_4 ((m__law_shuffled x_purse x_names).2) x_names x_many x_way x_turn x_base x_found ((m__law_shuffled x_purse x_names).1)
def ok__law_rows_of_3 (x_purse : List Int) (x_names : List Str) (x_many : Int) (x_way : Int) (x_turn : Int) (x_base : List Str) (x_found : List (List Str)) : Prop := (ok__law_shuffled x_purse x_names) ∧ ok__law_rows_of_4 ((m__law_shuffled x_purse x_names).2) x_names x_many x_way x_turn x_base x_found ((m__law_shuffled x_purse x_names).1)
def m__law_rows_of_14 (x_purse : List Int) (x_names : List Str) (x_many : Int) (x_way : Int) (x_base : List Str) (x_found : List (List Str)) : (List (List Str)) × (List Int) := (x_found, x_purse)
def ok__law_rows_of_14 (x_purse : List Int) (x_names : List Str) (x_many : Int) (x_way : Int) (x_base : List Str) (x_found : List (List Str)) : Prop := True
def m__law_rows_of_2 (x_purse : List Int) (x_names : List Str) (x_many : Int) (x_way : Int) (x_base : List Str) (x_found : List (List Str)) : (List (List Str)) × (List Int) := m__law_rows_of_14 ((List.foldl (fun (s : (List Int) × (List (List Str))) (y : Int) => m__law_rows_of_3 s.1 x_names x_many x_way y x_base s.2) (x_purse, x_found) (irange x_many)).1) x_names x_many x_way x_base ((List.foldl (fun (s : (List Int) × (List (List Str))) (y : Int) => m__law_rows_of_3 s.1 x_names x_many x_way y x_base s.2) (x_purse, x_found) (irange x_many)).2)
def ok__law_rows_of_2 (x_purse : List Int) (x_names : List Str) (x_many : Int) (x_way : Int) (x_base : List Str) (x_found : List (List Str)) : Prop := (-(2 ^ 24) ≤ x_many ∧ x_many ≤ 2 ^ 24) ∧ (foldOk (fun (s : (List Int) × (List (List Str))) (y : Int) => m__law_rows_of_3 s.1 x_names x_many x_way y x_base s.2) (fun (s : (List Int) × (List (List Str))) (y : Int) => ok__law_rows_of_3 s.1 x_names x_many x_way y x_base s.2) (irange x_many) (x_purse, x_found)) ∧ ok__law_rows_of_14 ((List.foldl (fun (s : (List Int) × (List (List Str))) (y : Int) => m__law_rows_of_3 s.1 x_names x_many x_way y x_base s.2) (x_purse, x_found) (irange x_many)).1) x_names x_many x_way x_base ((List.foldl (fun (s : (List Int) × (List (List Str))) (y : Int) => m__law_rows_of_3 s.1 x_names x_many x_way y x_base s.2) (x_purse, x_found) (irange x_many)).2)
def m__law_rows_of_1 (x_purse : List Int) (x_names : List Str) (x_many : Int) (x_base : List Str) (x_found : List (List Str)) : (List (List Str)) × (List Int) := m__law_rows_of_2 ((m__law_draw x_purse (3 : Int)).2) x_names x_many ((m__law_draw x_purse (3 : Int)).1) x_base x_found
def ok__law_rows_of_1 (x_purse : List Int) (x_names : List Str) (x_many : Int) (x_base : List Str) (x_found : List (List Str)) : Prop := (ok__law_draw x_purse (3 : Int)) ∧ ok__law_rows_of_2 ((m__law_draw x_purse (3 : Int)).2) x_names x_many ((m__law_draw x_purse (3 : Int)).1) x_base x_found
def m__law_rows_of_0 (x_purse : List Int) (x_names : List Str) (x_many : Int) : (List (List Str)) × (List Int) := m__law_rows_of_1 ((m__law_shuffled x_purse x_names).2) x_names x_many ((m__law_shuffled x_purse x_names).1) ([] : List (List Str))
def ok__law_rows_of_0 (x_purse : List Int) (x_names : List Str) (x_many : Int) : Prop := (ok__law_shuffled x_purse x_names) ∧ ok__law_rows_of_1 ((m__law_shuffled x_purse x_names).2) x_names x_many ((m__law_shuffled x_purse x_names).1) ([] : List (List Str))
def m__law_rows_of (x_purse : List Int) (x_names : List Str) (x_many : Int) : (List (List Str)) × (List Int) := m__law_rows_of_0 x_purse x_names x_many
def ok__law_rows_of (x_purse : List Int) (x_names : List Str) (x_many : Int) : Prop := ok__law_rows_of_0 x_purse x_names x_many
theorem h__law_rows_of (T : Tx K mg) : Has P w K mg base "_law_rows_of" (He.ga K "_law_rows_of") 4 ["purse", "names", "many"] (SpU kO (fun p (a : (List Str) × Int × Unit) => ok__law_rows_of p a.1 a.2.1) (fun p a => m__law_rows_of p a.1 a.2.1)) := by
  have sc : FnScope N__law_rows_of ["purse", "names", "many"] (defScope s__law_rows_of) := ⟨rfl, rfl, rfl, by decide +kernel, rfl, by decide +kernel, by decide +kernel⟩
  refine has_UO (d__law_rows_of T) (g__law_rows_of T) sc (fun _ _ _ _ _ _ us hl => match us, hl with | [_, _, _], _ => rfl) (by rintro a G vs ⟨v_names, _, rfl, r_names, ⟨v_many, _, rfl, r_many, rfl⟩⟩; rfl) ?_
  rintro X ⟨cdv, AA, outer, ss, HH, EE, rfl⟩ hr B u_purse x_purse vs ⟨x_names, x_many, ⟨⟩⟩ G0 hB ⟨v_names, _, rfl, r_names, ⟨v_many, _, rfl, r_many, rfl⟩⟩ hok
  replace hok : ok__law_rows_of_0 x_purse x_names x_many := hok
  show SJ B _ _ [some (.ref u_purse), some v_names, some v_many, none, none, none, none, none, none, none, none] G0 [(u_purse, cl x_purse)] (JUO B u_purse) (m__law_rows_of_0 x_purse x_names x_many)
  obtain ⟨k1, hok⟩ := hok
  refine sb_parO 5 6 (SO.se (so_callUZ (z := (m__law_shuffled x_purse x_names).1) (l' := (m__law_shuffled x_purse x_names).2) 0 (h__law_shuffled T) hr (at_var 0) (DA.sa (da_cons (de_var 1 r_names) da_nil)) rfl k1)) (DO.so (do_list (hl := (by decide : (0 : Nat) ≤ sizeLine)) (des_nil (α := List Str)))) (fun v_base u_found G1 e1 r_base hB_found => ?_) sc.nd
  have r_names := Rep.mono e1 r_names
  have r_many := Rep.mono e1 r_many
  replace r_base : rep G1 v_base ((m__law_shuffled x_purse x_names).1) := r_base
  replace hok : ok__law_rows_of_1 ((m__law_shuffled x_purse x_names).2) x_names x_many ((m__law_shuffled x_purse x_names).1) ([] : List (List Str)) := hok
  show SJ B _ _ [some (.ref u_purse), some v_names, some v_many, none, none, some v_base, some (.ref u_found), none, none, none, none] G1 [(u_purse, cl ((m__law_shuffled x_purse x_names).2)), (u_found, cl ([] : List (List Str)))] (JUO B u_purse) (m__law_rows_of_0 x_purse x_names x_many)
  rw [show m__law_rows_of_0 x_purse x_names x_many = m__law_rows_of_1 ((m__law_shuffled x_purse x_names).2) x_names x_many ((m__law_shuffled x_purse x_names).1) ([] : List (List Str)) from rfl]
  generalize (m__law_shuffled x_purse x_names).2 = x_purse, (m__law_shuffled x_purse x_names).1 = x_base, ([] : List (List Str)) = x_found at r_base hok ⊢
  obtain ⟨k2, hok⟩ := hok
  refine sb_set 3 (se_callUZ (z := (m__law_draw x_purse (3 : Int)).1) (l' := (m__law_draw x_purse (3 : Int)).2) 0 (h__law_draw T) hr (at_var 0) (DA.sa (da_cons de_int da_nil)) rfl k2) (fun v_way G2 e2 r_way => ?_) sc.nd
  have r_names := Rep.mono e2 r_names
  have r_many := Rep.mono e2 r_many
  have r_base := Rep.mono e2 r_base
  replace r_way : rep G2 v_way ((m__law_draw x_purse (3 : Int)).1) := r_way
  replace hok : ok__law_rows_of_2 ((m__law_draw x_purse (3 : Int)).2) x_names x_many ((m__law_draw x_purse (3 : Int)).1) x_base x_found := hok
  show SJ B _ _ [some (.ref u_purse), some v_names, some v_many, some v_way, none, some v_base, some (.ref u_found), none, none, none, none] G2 [(u_purse, cl ((m__law_draw x_purse (3 : Int)).2)), (u_found, cl x_found)] (JUO B u_purse) (m__law_rows_of_1 x_purse x_names x_many x_base x_found)
  rw [show m__law_rows_of_1 x_purse x_names x_many x_base x_found = m__law_rows_of_2 ((m__law_draw x_purse (3 : Int)).2) x_names x_many ((m__law_draw x_purse (3 : Int)).1) x_base x_found from rfl]
  generalize (m__law_draw x_purse (3 : Int)).2 = x_purse, (m__law_draw x_purse (3 : Int)).1 = x_way at r_way hok ⊢
  obtain ⟨k3, k10, hok⟩ := hok
  have hok2 : ∀ s : (List Int) × (List (List Str)), s = (List.foldl (fun (s : (List Int) × (List (List Str))) (y : Int) => m__law_rows_of_3 s.1 x_names x_many x_way y x_base s.2) (x_purse, x_found) (irange x_many)) → ok__law_rows_of_14 s.1 x_names x_many x_way x_base s.2 := fun s h => by subst h; exact hok
  refine sj_foldS (k := fun (s : (List Int) × (List (List Str))) => m__law_rows_of_14 s.1 x_names x_many x_way x_base s.2) (fun (s : (List Int) × (List (List Str))) (σ_ : L2.St) (G_ : Hp) (C_ : Cs) => ∃ (t_turn : Option V) (t_row : Option V) (t_cut : Option V) (t_head : Option V), (σ_ = [some (.ref u_purse), some v_names, some v_many, some v_way, t_turn, some v_base, some (.ref u_found), t_row, t_cut, t_head, none] ∧ C_ = ([(u_purse, cl s.1), (u_found, cl s.2)] : Cs))) (fun (s : (List Int) × (List (List Str))) (y : Int) => m__law_rows_of_3 s.1 x_names x_many x_way y x_base s.2) (fun (s : (List Int) × (List (List Str))) (y : Int) => ok__law_rows_of_3 s.1 x_names x_many x_way y x_base s.2) (x_purse, x_found) (di_rangeI (b_range T) (de_var 2 r_many) k3) (sg_name 4 sc.nd) (fun G_ e_ => ⟨_, _, _, _, rfl, rfl⟩) (by rintro ⟨x_purse, x_found⟩ σ_ G_ G2_ C_ e_ ⟨t_turn, t_row, t_cut, t_head, rfl, rfl⟩; exact ⟨_, _, _, _, rfl, rfl⟩) k10 ?_ ?_
  · rintro ⟨x_purse, x_found⟩ x_turn σ_ σ2_ G3 C_ hy_ e3 ⟨t_turn, t_row, t_cut, t_head, rfl, rfl⟩ ⟨v_turn, r_turn, rfl⟩ hok
    have r_names := Rep.mono e3 r_names
    have r_many := Rep.mono e3 r_many
    have r_base := Rep.mono e3 r_base
    have r_way := Rep.mono e3 r_way
    replace hok : ok__law_rows_of_3 x_purse x_names x_many x_way x_turn x_base x_found := hok
    show SJ B _ _ [some (.ref u_purse), some v_names, some v_many, some v_way, some v_turn, some v_base, some (.ref u_found), t_row, t_cut, t_head, none] G3 [(u_purse, cl x_purse), (u_found, cl x_found)] (JF (fun (s : (List Int) × (List (List Str))) (σ_ : L2.St) (G_ : Hp) (C_ : Cs) => ∃ (t_turn : Option V) (t_row : Option V) (t_cut : Option V) (t_head : Option V), (σ_ = [some (.ref u_purse), some v_names, some v_many, some v_way, t_turn, some v_base, some (.ref u_found), t_row, t_cut, t_head, none] ∧ C_ = ([(u_purse, cl s.1), (u_found, cl s.2)] : Cs)))) (m__law_rows_of_3 x_purse x_names x_many x_way x_turn x_base x_found)
    obtain ⟨k4, hok⟩ := hok
    refine sb_set 7 (SO.se (so_callUZ (z := (m__law_shuffled x_purse x_names).1) (l' := (m__law_shuffled x_purse x_names).2) 0 (h__law_shuffled T) hr (at_var 0) (DA.sa (da_cons (de_var 1 r_names) da_nil)) rfl k4)) (fun v_row G4 e4 r_row => ?_) sc.nd
    have r_names := Rep.mono e4 r_names
    have r_many := Rep.mono e4 r_many
    have r_base := Rep.mono e4 r_base
    have r_way := Rep.mono e4 r_way
    have r_turn := Rep.mono e4 r_turn
    replace r_row : rep G4 v_row ((m__law_shuffled x_purse x_names).1) := r_row
    replace hok : ok__law_rows_of_4 ((m__law_shuffled x_purse x_names).2) x_names x_many x_way x_turn x_base x_found ((m__law_shuffled x_purse x_names).1) := hok
    show SJ B _ _ [some (.ref u_purse), some v_names, some v_many, some v_way, some v_turn, some v_base, some (.ref u_found), some v_row, t_cut, t_head, none] G4 [(u_purse, cl ((m__law_shuffled x_purse x_names).2)), (u_found, cl x_found)] (JF (fun (s : (List Int) × (List (List Str))) (σ_ : L2.St) (G_ : Hp) (C_ : Cs) => ∃ (t_turn : Option V) (t_row : Option V) (t_cut : Option V) (t_head : Option V), (σ_ = [some (.ref u_purse), some v_names, some v_many, some v_way, t_turn, some v_base, some (.ref u_found), t_row, t_cut, t_head, none] ∧ C_ = ([(u_purse, cl s.1), (u_found, cl s.2)] : Cs)))) (m__law_rows_of_3 x_purse x_names x_many x_way x_turn x_base x_found)
    rw [show m__law_rows_of_3 x_purse x_names x_many x_way x_turn x_base x_found = m__law_rows_of_4 ((m__law_shuffled x_purse x_names).2) x_names x_many x_way x_turn x_base x_found ((m__law_shuffled x_purse x_names).1) from rfl]
    generalize (m__law_shuffled x_purse x_names).2 = x_purse, (m__law_shuffled x_purse x_names).1 = x_row at r_row hok ⊢
    obtain ⟨hokA, hokB⟩ := hok
    refine sj_ifR (DT.st (DC.dt (dc_gt (de_var 3 r_way) de_int))) (fun h1 => ?_) (fun h1 => ?_)
    · have hok := hokA h1; clear hokA hokB
      show SJ B _ _ [some (.ref u_purse), some v_names, some v_many, some v_way, some v_turn, some v_base, some (.ref u_found), some v_row, t_cut, t_head, none] G4 [(u_purse, cl x_purse), (u_found, cl x_found)] (JR B _ _ (JF (fun (s : (List Int) × (List (List Str))) (σ_ : L2.St) (G_ : Hp) (C_ : Cs) => ∃ (t_turn : Option V) (t_row : Option V) (t_cut : Option V) (t_head : Option V), (σ_ = [some (.ref u_purse), some v_names, some v_many, some v_way, t_turn, some v_base, some (.ref u_found), t_row, t_cut, t_head, none] ∧ C_ = ([(u_purse, cl s.1), (u_found, cl s.2)] : Cs))))) (m__law_rows_of_5 x_purse x_names x_many x_way x_turn x_base x_found x_row)
      obtain ⟨k5, k6, hok⟩ := hok
      refine sb_parT 8 9 (se_callUZ (z := (m__law_draw x_purse (x_names.length : Int)).1) (l' := (m__law_draw x_purse (x_names.length : Int)).2) 0 (h__law_draw T) hr (at_var 0) (DA.sa (da_cons (de_lenI (b_len T) (de_var 1 r_names)) da_nil)) rfl k5) (SO.se (so_slice (DE.se (de_var 7 r_row)) sp_none (sp_some (se_sub (se_add (se_callUZ (z := (m__law_draw ((m__law_draw x_purse (x_names.length : Int)).2) (3 : Int)).1) (l' := (m__law_draw ((m__law_draw x_purse (x_names.length : Int)).2) (3 : Int)).2) 0 (h__law_draw T) hr (at_var 0) (DA.sa (da_cons de_int da_nil)) rfl k6) (DE.se (de_var 3 r_way))) (DE.se de_int))))) (fun v_cut v_head G5 e5 r_cut r_head => ?_) sc.nd
      have r_names := Rep.mono e5 r_names
      have r_many := Rep.mono e5 r_many
      have r_base := Rep.mono e5 r_base
      have r_way := Rep.mono e5 r_way
      have r_turn := Rep.mono e5 r_turn
      have r_row := Rep.mono e5 r_row
      replace r_cut : rep G5 v_cut ((m__law_draw x_purse (x_names.length : Int)).1) := r_cut
      replace r_head : rep G5 v_head (cut x_row none (some (((m__law_draw ((m__law_draw x_purse (x_names.length : Int)).2) (3 : Int)).1 + x_way) - (1 : Int)))) := r_head
      replace hok : ok__law_rows_of_6 ((m__law_draw ((m__law_draw x_purse (x_names.length : Int)).2) (3 : Int)).2) x_names x_many x_way x_turn x_base x_found x_row ((m__law_draw x_purse (x_names.length : Int)).1) (cut x_row none (some (((m__law_draw ((m__law_draw x_purse (x_names.length : Int)).2) (3 : Int)).1 + x_way) - (1 : Int)))) := hok
      show SJ B _ _ [some (.ref u_purse), some v_names, some v_many, some v_way, some v_turn, some v_base, some (.ref u_found), some v_row, some v_cut, some v_head, none] G5 [(u_purse, cl ((m__law_draw ((m__law_draw x_purse (x_names.length : Int)).2) (3 : Int)).2)), (u_found, cl x_found)] (JR B _ _ (JF (fun (s : (List Int) × (List (List Str))) (σ_ : L2.St) (G_ : Hp) (C_ : Cs) => ∃ (t_turn : Option V) (t_row : Option V) (t_cut : Option V) (t_head : Option V), (σ_ = [some (.ref u_purse), some v_names, some v_many, some v_way, t_turn, some v_base, some (.ref u_found), t_row, t_cut, t_head, none] ∧ C_ = ([(u_purse, cl s.1), (u_found, cl s.2)] : Cs))))) (m__law_rows_of_5 x_purse x_names x_many x_way x_turn x_base x_found x_row)
      rw [show m__law_rows_of_5 x_purse x_names x_many x_way x_turn x_base x_found x_row = m__law_rows_of_6 ((m__law_draw ((m__law_draw x_purse (x_names.length : Int)).2) (3 : Int)).2) x_names x_many x_way x_turn x_base x_found x_row ((m__law_draw x_purse (x_names.length : Int)).1) (cut x_row none (some (((m__law_draw ((m__law_draw x_purse (x_names.length : Int)).2) (3 : Int)).1 + x_way) - (1 : Int)))) from rfl]
      generalize (m__law_draw ((m__law_draw x_purse (x_names.length : Int)).2) (3 : Int)).2 = x_purse, (m__law_draw x_purse (x_names.length : Int)).1 = x_cut, (cut x_row none (some (((m__law_draw ((m__law_draw x_purse (x_names.length : Int)).2) (3 : Int)).1 + x_way) - (1 : Int)))) = x_head at r_cut r_head hok ⊢
      obtain ⟨k7, hok⟩ := hok
      refine sb_set 7 (DE.se (DO.de (do_cat (de_var 9 r_head) (DO.de (do_lc (lc_fil (fun y2 => (!decide (y2 ∈ x_head))) sc.nd rfl (di_list (de_var 5 r_base)) (blkOk_by (own := [("name", 10)]) (N := N__law_rows_of) (sc := _) (by first | decide +kernel | rfl)) rfl (dg_name sc.nd) (by intro i_ y2 σ_ G_ hy_ eG_ hT_; obtain ⟨v_y2, q_y2, rfl⟩ := hT_; have r_names := Rep.mono eG_ r_names; have r_many := Rep.mono eG_ r_many; have r_base := Rep.mono eG_ r_base; have r_way := Rep.mono eG_ r_way; have r_turn := Rep.mono eG_ r_turn; have r_row := Rep.mono eG_ r_row; have r_cut := Rep.mono eG_ r_cut; have r_head := Rep.mono eG_ r_head; intro Y_ hY_; have hr := InBlk.room hY_ hr; obtain ⟨⟨s_, H_, C_, cl_, fp_, rfl⟩⟩ := hY_; exact df_one (DC.dt (dc_nin (de_var 10 q_y2) (de_var 9 r_head)))) (by intro i_ y2 σ_ G_ hy_ eG_ hT_ hf_; obtain ⟨v_y2, q_y2, rfl⟩ := hT_; have r_names := Rep.mono eG_ r_names; have r_many := Rep.mono eG_ r_many; have r_base := Rep.mono eG_ r_base; have r_way := Rep.mono eG_ r_way; have r_turn := Rep.mono eG_ r_turn; have r_row := Rep.mono eG_ r_row; have r_cut := Rep.mono eG_ r_cut; have r_head := Rep.mono eG_ r_head; intro Y_ hY_; have hr := InBlk.room hY_ hr; obtain ⟨⟨s_, H_, C_, cl_, fp_, rfl⟩⟩ := hY_; exact de_var 10 q_y2)))) k7))) (fun v_row G6 e6 r_row => ?_) sc.nd
      have r_names := Rep.mono e6 r_names
      have r_many := Rep.mono e6 r_many
      have r_base := Rep.mono e6 r_base
      have r_way := Rep.mono e6 r_way
      have r_turn := Rep.mono e6 r_turn
      have r_cut := Rep.mono e6 r_cut
      have r_head := Rep.mono e6 r_head
      replace r_row : rep G6 v_row (x_head ++ (x_base.filter fun y2 => (!decide (y2 ∈ x_head)))) := r_row
      replace hok : ok__law_rows_of_7 x_purse x_names x_many x_way x_turn x_base x_found (x_head ++ (x_base.filter fun y2 => (!decide (y2 ∈ x_head)))) x_cut x_head := hok
      show SJ B _ _ [some (.ref u_purse), some v_names, some v_many, some v_way, some v_turn, some v_base, some (.ref u_found), some v_row, some v_cut, some v_head, none] G6 [(u_purse, cl x_purse), (u_found, cl x_found)] (JR B _ _ (JF (fun (s : (List Int) × (List (List Str))) (σ_ : L2.St) (G_ : Hp) (C_ : Cs) => ∃ (t_turn : Option V) (t_row : Option V) (t_cut : Option V) (t_head : Option V), (σ_ = [some (.ref u_purse), some v_names, some v_many, some v_way, t_turn, some v_base, some (.ref u_found), t_row, t_cut, t_head, none] ∧ C_ = ([(u_purse, cl s.1), (u_found, cl s.2)] : Cs))))) (m__law_rows_of_6 x_purse x_names x_many x_way x_turn x_base x_found x_row x_cut x_head)
      rw [show m__law_rows_of_6 x_purse x_names x_many x_way x_turn x_base x_found x_row x_cut x_head = m__law_rows_of_7 x_purse x_names x_many x_way x_turn x_base x_found (x_head ++ (x_base.filter fun y2 => (!decide (y2 ∈ x_head)))) x_cut x_head from rfl]
      generalize (x_head ++ (x_base.filter fun y2 => (!decide (y2 ∈ x_head)))) = x_row at r_row hok ⊢
      refine sb_set 7 (DE.se (de_if (DC.dt (dc_gt (de_var 8 r_cut) de_int)) (fun h3 => de_var 7 r_row) (fun h3 => DO.de (do_rev (de_var 7 r_row))))) (fun v_row G7 e7 r_row => ?_) sc.nd
      have r_names := Rep.mono e7 r_names
      have r_many := Rep.mono e7 r_many
      have r_base := Rep.mono e7 r_base
      have r_way := Rep.mono e7 r_way
      have r_turn := Rep.mono e7 r_turn
      have r_cut := Rep.mono e7 r_cut
      have r_head := Rep.mono e7 r_head
      replace r_row : rep G7 v_row (if decide ((0 : Int) < x_cut) = true then x_row else x_row.reverse) := r_row
      replace hok : ok__law_rows_of_8 x_purse x_names x_many x_way x_turn x_base x_found (if decide ((0 : Int) < x_cut) = true then x_row else x_row.reverse) x_cut x_head := hok
      show SJ B _ _ [some (.ref u_purse), some v_names, some v_many, some v_way, some v_turn, some v_base, some (.ref u_found), some v_row, some v_cut, some v_head, none] G7 [(u_purse, cl x_purse), (u_found, cl x_found)] (JR B _ _ (JF (fun (s : (List Int) × (List (List Str))) (σ_ : L2.St) (G_ : Hp) (C_ : Cs) => ∃ (t_turn : Option V) (t_row : Option V) (t_cut : Option V) (t_head : Option V), (σ_ = [some (.ref u_purse), some v_names, some v_many, some v_way, t_turn, some v_base, some (.ref u_found), t_row, t_cut, t_head, none] ∧ C_ = ([(u_purse, cl s.1), (u_found, cl s.2)] : Cs))))) (m__law_rows_of_7 x_purse x_names x_many x_way x_turn x_base x_found x_row x_cut x_head)
      rw [show m__law_rows_of_7 x_purse x_names x_many x_way x_turn x_base x_found x_row x_cut x_head = m__law_rows_of_8 x_purse x_names x_many x_way x_turn x_base x_found (if decide ((0 : Int) < x_cut) = true then x_row else x_row.reverse) x_cut x_head from rfl]
      generalize (if decide ((0 : Int) < x_cut) = true then x_row else x_row.reverse) = x_row at r_row hok ⊢
      refine sj_nilR fun G9 e9 => ?_
      have r_names := Rep.mono e9 r_names
      have r_many := Rep.mono e9 r_many
      have r_base := Rep.mono e9 r_base
      have r_way := Rep.mono e9 r_way
      have r_turn := Rep.mono e9 r_turn
      have r_row := Rep.mono e9 r_row
      have r_cut := Rep.mono e9 r_cut
      have r_head := Rep.mono e9 r_head
      replace hok : ok__law_rows_of_9 x_purse x_names x_many x_way x_turn x_base x_found x_row x_cut x_head := hok
      show SJ B _ _ [some (.ref u_purse), some v_names, some v_many, some v_way, some v_turn, some v_base, some (.ref u_found), some v_row, some v_cut, some v_head, none] _ [(u_purse, cl x_purse), (u_found, cl x_found)] (JF (fun (s : (List Int) × (List (List Str))) (σ_ : L2.St) (G_ : Hp) (C_ : Cs) => ∃ (t_turn : Option V) (t_row : Option V) (t_cut : Option V) (t_head : Option V), (σ_ = [some (.ref u_purse), some v_names, some v_many, some v_way, t_turn, some v_base, some (.ref u_found), t_row, t_cut, t_head, none] ∧ C_ = ([(u_purse, cl s.1), (u_found, cl s.2)] : Cs)))) (m__law_rows_of_9 x_purse x_names x_many x_way x_turn x_base x_found x_row x_cut x_head)
      obtain ⟨k8, hok⟩ := hok
      refine sb_append 1 (at_var 6) (DE.se (de_var 7 r_row)) rfl rfl k8 fun G8 e8 => ?_
      have r_names := Rep.mono e8 r_names
      have r_many := Rep.mono e8 r_many
      have r_base := Rep.mono e8 r_base
      have r_way := Rep.mono e8 r_way
      have r_turn := Rep.mono e8 r_turn
      have r_row := Rep.mono e8 r_row
      have r_cut := Rep.mono e8 r_cut
      have r_head := Rep.mono e8 r_head
      replace hok : ok__law_rows_of_10 x_purse x_names x_many x_way x_turn x_base (x_found ++ [x_row]) x_row x_cut x_head := hok
      show SJ B _ _ [some (.ref u_purse), some v_names, some v_many, some v_way, some v_turn, some v_base, some (.ref u_found), some v_row, some v_cut, some v_head, none] G8 [(u_purse, cl x_purse), (u_found, cl (x_found ++ [x_row]))] (JF (fun (s : (List Int) × (List (List Str))) (σ_ : L2.St) (G_ : Hp) (C_ : Cs) => ∃ (t_turn : Option V) (t_row : Option V) (t_cut : Option V) (t_head : Option V), (σ_ = [some (.ref u_purse), some v_names, some v_many, some v_way, t_turn, some v_base, some (.ref u_found), t_row, t_cut, t_head, none] ∧ C_ = ([(u_purse, cl s.1), (u_found, cl s.2)] : Cs)))) (m__law_rows_of_9 x_purse x_names x_many x_way x_turn x_base x_found x_row x_cut x_head)
      rw [show m__law_rows_of_9 x_purse x_names x_many x_way x_turn x_base x_found x_row x_cut x_head = m__law_rows_of_10 x_purse x_names x_many x_way x_turn x_base (x_found ++ [x_row]) x_row x_cut x_head from rfl]
      generalize (x_found ++ [x_row]) = x_found at hok ⊢
      exact sb_nilF fun G_ e_ => ⟨_, _, _, _, rfl, rfl⟩
    · have hok := hokB h1; clear hokA hokB
      show SJ B _ _ [some (.ref u_purse), some v_names, some v_many, some v_way, some v_turn, some v_base, some (.ref u_found), some v_row, t_cut, t_head, none] G4 [(u_purse, cl x_purse), (u_found, cl x_found)] (JR B _ _ (JF (fun (s : (List Int) × (List (List Str))) (σ_ : L2.St) (G_ : Hp) (C_ : Cs) => ∃ (t_turn : Option V) (t_row : Option V) (t_cut : Option V) (t_head : Option V), (σ_ = [some (.ref u_purse), some v_names, some v_many, some v_way, t_turn, some v_base, some (.ref u_found), t_row, t_cut, t_head, none] ∧ C_ = ([(u_purse, cl s.1), (u_found, cl s.2)] : Cs))))) (m__law_rows_of_11 x_purse x_names x_many x_way x_turn x_base x_found x_row)
      refine sj_nilR fun G11 e11 => ?_
      have r_names := Rep.mono e11 r_names
      have r_many := Rep.mono e11 r_many
      have r_base := Rep.mono e11 r_base
      have r_way := Rep.mono e11 r_way
      have r_turn := Rep.mono e11 r_turn
      have r_row := Rep.mono e11 r_row
      replace hok : ok__law_rows_of_12 x_purse x_names x_many x_way x_turn x_base x_found x_row := hok
      show SJ B _ _ [some (.ref u_purse), some v_names, some v_many, some v_way, some v_turn, some v_base, some (.ref u_found), some v_row, t_cut, t_head, none] _ [(u_purse, cl x_purse), (u_found, cl x_found)] (JF (fun (s : (List Int) × (List (List Str))) (σ_ : L2.St) (G_ : Hp) (C_ : Cs) => ∃ (t_turn : Option V) (t_row : Option V) (t_cut : Option V) (t_head : Option V), (σ_ = [some (.ref u_purse), some v_names, some v_many, some v_way, t_turn, some v_base, some (.ref u_found), t_row, t_cut, t_head, none] ∧ C_ = ([(u_purse, cl s.1), (u_found, cl s.2)] : Cs)))) (m__law_rows_of_12 x_purse x_names x_many x_way x_turn x_base x_found x_row)
      obtain ⟨k9, hok⟩ := hok
      refine sb_append 1 (at_var 6) (DE.se (de_var 7 r_row)) rfl rfl k9 fun G10 e10 => ?_
      have r_names := Rep.mono e10 r_names
      have r_many := Rep.mono e10 r_many
      have r_base := Rep.mono e10 r_base
      have r_way := Rep.mono e10 r_way
      have r_turn := Rep.mono e10 r_turn
      have r_row := Rep.mono e10 r_row
      replace hok : ok__law_rows_of_13 x_purse x_names x_many x_way x_turn x_base (x_found ++ [x_row]) x_row := hok
      show SJ B _ _ [some (.ref u_purse), some v_names, some v_many, some v_way, some v_turn, some v_base, some (.ref u_found), some v_row, t_cut, t_head, none] G10 [(u_purse, cl x_purse), (u_found, cl (x_found ++ [x_row]))] (JF (fun (s : (List Int) × (List (List Str))) (σ_ : L2.St) (G_ : Hp) (C_ : Cs) => ∃ (t_turn : Option V) (t_row : Option V) (t_cut : Option V) (t_head : Option V), (σ_ = [some (.ref u_purse), some v_names, some v_many, some v_way, t_turn, some v_base, some (.ref u_found), t_row, t_cut, t_head, none] ∧ C_ = ([(u_purse, cl s.1), (u_found, cl s.2)] : Cs)))) (m__law_rows_of_12 x_purse x_names x_many x_way x_turn x_base x_found x_row)
      rw [show m__law_rows_of_12 x_purse x_names x_many x_way x_turn x_base x_found x_row = m__law_rows_of_13 x_purse x_names x_many x_way x_turn x_base (x_found ++ [x_row]) x_row from rfl]
      generalize (x_found ++ [x_row]) = x_found at hok ⊢
      exact sb_nilF fun G_ e_ => ⟨_, _, _, _, rfl, rfl⟩
  · rintro ⟨x_purse, x_found⟩ σ_ G12 C_ hl_ e12 ⟨t_turn, t_row, t_cut, t_head, rfl, rfl⟩
    replace hok := hok2 _ hl_
    have r_names := Rep.mono e12 r_names
    have r_many := Rep.mono e12 r_many
    have r_base := Rep.mono e12 r_base
    have r_way := Rep.mono e12 r_way
    replace hok : ok__law_rows_of_14 x_purse x_names x_many x_way x_base x_found := hok
    show SJ B _ _ [some (.ref u_purse), some v_names, some v_many, some v_way, t_turn, some v_base, some (.ref u_found), t_row, t_cut, t_head, none] G12 [(u_purse, cl x_purse), (u_found, cl x_found)] (JUO B u_purse) (m__law_rows_of_14 x_purse x_names x_many x_way x_base x_found)
    exact sb_retCell 1 1 (at_var 6) rfl (by first | exact Nat.zero_le _ | decide) hB_found

abbrev N__law_cards : List Str := ["rows", "field", "found", "row", "name"]
def m__law_cards_3 (x_rows : List (List Str)) (x_field : List Str) (x_found : List Str) (x_row : List Str) : List Str := x_found
def ok__law_cards_3 (x_rows : List (List Str)) (x_field : List Str) (x_found : List Str) (x_row : List Str) : Prop := True
def m__law_cards_2 (x_rows : List (List Str)) (x_field : List Str) (x_found : List Str) (x_row : List Str) : List Str := m__law_cards_3 x_rows x_field (x_found ++ (cut (x_row.filter fun y1 => decide (y1 ∈ x_field)) none (some (1 : Int)))) x_row
def ok__law_cards_2 (x_rows : List (List Str)) (x_field : List Str) (x_found : List Str) (x_row : List Str) : Prop := (x_found.length + (cut (x_row.filter fun y1 => decide (y1 ∈ x_field)) none (some (1 : Int))).length ≤ sizeLine) ∧ ok__law_cards_3 x_rows x_field (x_found ++ (cut (x_row.filter fun y1 => decide (y1 ∈ x_field)) none (some (1 : Int)))) x_row
def m__law_cards_4 (x_rows : List (List Str)) (x_field : List Str) (x_found : List Str) : List Str := (srt (ddp x_found))
def ok__law_cards_4 (x_rows : List (List Str)) (x_field : List Str) (x_found : List Str) : Prop := (x_found.length < 64) ∧ True
def m__law_cards_1 (x_rows : List (List Str)) (x_field : List Str) (x_found : List Str) : List Str := m__law_cards_4 x_rows x_field (List.foldl (fun (s : List Str) (y : List Str) => m__law_cards_2 x_rows x_field s y) x_found x_rows)
def ok__law_cards_1 (x_rows : List (List Str)) (x_field : List Str) (x_found : List Str) : Prop := (foldOk (fun (s : List Str) (y : List Str) => m__law_cards_2 x_rows x_field s y) (fun (s : List Str) (y : List Str) => ok__law_cards_2 x_rows x_field s y) x_rows x_found) ∧ ok__law_cards_4 x_rows x_field (List.foldl (fun (s : List Str) (y : List Str) => m__law_cards_2 x_rows x_field s y) x_found x_rows)
def m__law_cards_0 (x_rows : List (List Str)) (x_field : List Str) : List Str := m__law_cards_1 x_rows x_field (id ([] : List Str))
def ok__law_cards_0 (x_rows : List (List Str)) (x_field : List Str) : Prop := ok__law_cards_1 x_rows x_field (id ([] : List Str))
def m__law_cards (x_rows : List (List Str)) (x_field : List Str) : List Str := m__law_cards_0 x_rows x_field
def ok__law_cards (x_rows : List (List Str)) (x_field : List Str) : Prop := ok__law_cards_0 x_rows x_field
theorem h__law_cards (T : Tx K mg) : Has P w K mg base "_law_cards" (He.ga K "_law_cards") 1 ["rows", "field"] (SpN kO (fun (a : (List (List Str)) × (List Str) × Unit) => ok__law_cards a.1 a.2.1) (fun a => m__law_cards a.1 a.2.1)) := by
  have sc : FnScope N__law_cards ["rows", "field"] (defScope s__law_cards) := ⟨rfl, rfl, rfl, by decide +kernel, rfl, by decide +kernel, by decide +kernel⟩
  refine has_O (d__law_cards T) (g__law_cards T) sc (fun _ _ _ _ _ _ us hl => match us, hl with | [_, _], _ => rfl) (by rintro a G vs ⟨v_rows, _, rfl, r_rows, ⟨v_field, _, rfl, r_field, rfl⟩⟩; rfl) ?_
  rintro X ⟨cdv, AA, outer, ss, HH, EE, rfl⟩ hr B vs ⟨x_rows, x_field, ⟨⟩⟩ G0 hB ⟨v_rows, _, rfl, r_rows, ⟨v_field, _, rfl, r_field, rfl⟩⟩ hok
  replace hok : ok__law_cards_0 x_rows x_field := hok
  show SJ B _ _ [some v_rows, some v_field, none, none, none] G0 [] (JO B []) (m__law_cards_0 x_rows x_field)
  refine sb_set 2 (DE.se (DO.de (do_list (hl := (by decide : (0 : Nat) ≤ sizeLine)) (des_nil (α := Str))))) (fun v_found G1 e1 r_found => ?_) sc.nd
  have r_rows := Rep.mono e1 r_rows
  have r_field := Rep.mono e1 r_field
  replace r_found : rep G1 v_found (id ([] : List Str)) := r_found
  replace hok : ok__law_cards_1 x_rows x_field (id ([] : List Str)) := hok
  show SJ B _ _ [some v_rows, some v_field, some v_found, none, none] G1 [] (JO B []) (m__law_cards_0 x_rows x_field)
  rw [show m__law_cards_0 x_rows x_field = m__law_cards_1 x_rows x_field (id ([] : List Str)) from rfl]
  generalize (id ([] : List Str)) = x_found at r_found hok ⊢
  obtain ⟨k3, hok⟩ := hok
  have hok2 : ∀ s : List Str, s = (List.foldl (fun (s : List Str) (y : List Str) => m__law_cards_2 x_rows x_field s y) x_found x_rows) → ok__law_cards_4 x_rows x_field s := fun s h => by subst h; exact hok
  refine sj_foldS (k := fun (s : List Str) => m__law_cards_4 x_rows x_field s) (fun (s : List Str) (σ_ : L2.St) (G_ : Hp) (C_ : Cs) => ∃ (v_found : V) (t_row : Option V), (σ_ = [some v_rows, some v_field, some v_found, t_row, none] ∧ rep G_ v_found s ∧ C_ = ([] : Cs))) (fun (s : List Str) (y : List Str) => m__law_cards_2 x_rows x_field s y) (fun (s : List Str) (y : List Str) => ok__law_cards_2 x_rows x_field s y) x_found (di_list (de_var 0 r_rows)) (sg_name 3 sc.nd) (fun G_ e_ => ⟨_, _, rfl, Rep.mono e_ r_found, rfl⟩) (by rintro x_found σ_ G_ G2_ C_ e_ ⟨v_found, t_row, rfl, r_found, rfl⟩; exact ⟨_, _, rfl, Rep.mono e_ r_found, rfl⟩) k3 ?_ ?_
  · rintro x_found x_row σ_ σ2_ G2 C_ hy_ e2 ⟨v_found, t_row, rfl, r_found, rfl⟩ ⟨v_row, r_row, rfl⟩ hok
    have r_rows := Rep.mono e2 r_rows
    have r_field := Rep.mono e2 r_field
    replace hok : ok__law_cards_2 x_rows x_field x_found x_row := hok
    show SJ B _ _ [some v_rows, some v_field, some v_found, some v_row, none] G2 [] (JF (fun (s : List Str) (σ_ : L2.St) (G_ : Hp) (C_ : Cs) => ∃ (v_found : V) (t_row : Option V), (σ_ = [some v_rows, some v_field, some v_found, t_row, none] ∧ rep G_ v_found s ∧ C_ = ([] : Cs)))) (m__law_cards_2 x_rows x_field x_found x_row)
    obtain ⟨k1, hok⟩ := hok
    refine sb_set 2 (DE.se (DO.de (do_cat (de_var 2 r_found) (DO.de (do_slice (DO.de (do_lc (lc_fil (fun y1 => decide (y1 ∈ x_field)) sc.nd rfl (di_list (de_var 3 r_row)) (blkOk_by (own := [("name", 4)]) (N := N__law_cards) (sc := _) (by first | decide +kernel | rfl)) rfl (dg_name sc.nd) (by intro i_ y1 σ_ G_ hy_ eG_ hT_; obtain ⟨v_y1, q_y1, rfl⟩ := hT_; have r_rows := Rep.mono eG_ r_rows; have r_field := Rep.mono eG_ r_field; have r_found := Rep.mono eG_ r_found; have r_row := Rep.mono eG_ r_row; intro Y_ hY_; have hr := InBlk.room hY_ hr; obtain ⟨⟨s_, H_, C_, cl_, fp_, rfl⟩⟩ := hY_; exact df_one (DC.dt (dc_in (de_var 4 q_y1) (de_var 1 r_field)))) (by intro i_ y1 σ_ G_ hy_ eG_ hT_ hf_; obtain ⟨v_y1, q_y1, rfl⟩ := hT_; have r_rows := Rep.mono eG_ r_rows; have r_field := Rep.mono eG_ r_field; have r_found := Rep.mono eG_ r_found; have r_row := Rep.mono eG_ r_row; intro Y_ hY_; have hr := InBlk.room hY_ hr; obtain ⟨⟨s_, H_, C_, cl_, fp_, rfl⟩⟩ := hY_; exact de_var 4 q_y1)))) dp_none (dp_some de_int))) k1))) (fun v_found G3 e3 r_found => ?_) sc.nd
    have r_rows := Rep.mono e3 r_rows
    have r_field := Rep.mono e3 r_field
    have r_row := Rep.mono e3 r_row
    replace r_found : rep G3 v_found (x_found ++ (cut (x_row.filter fun y1 => decide (y1 ∈ x_field)) none (some (1 : Int)))) := r_found
    replace hok : ok__law_cards_3 x_rows x_field (x_found ++ (cut (x_row.filter fun y1 => decide (y1 ∈ x_field)) none (some (1 : Int)))) x_row := hok
    show SJ B _ _ [some v_rows, some v_field, some v_found, some v_row, none] G3 [] (JF (fun (s : List Str) (σ_ : L2.St) (G_ : Hp) (C_ : Cs) => ∃ (v_found : V) (t_row : Option V), (σ_ = [some v_rows, some v_field, some v_found, t_row, none] ∧ rep G_ v_found s ∧ C_ = ([] : Cs)))) (m__law_cards_2 x_rows x_field x_found x_row)
    rw [show m__law_cards_2 x_rows x_field x_found x_row = m__law_cards_3 x_rows x_field (x_found ++ (cut (x_row.filter fun y1 => decide (y1 ∈ x_field)) none (some (1 : Int)))) x_row from rfl]
    generalize (x_found ++ (cut (x_row.filter fun y1 => decide (y1 ∈ x_field)) none (some (1 : Int)))) = x_found at r_found hok ⊢
    exact sb_nilF fun G_ e_ => ⟨_, _, rfl, Rep.mono e_ r_found, rfl⟩
  · rintro x_found σ_ G4 C_ hl_ e4 ⟨v_found, t_row, rfl, r_found, rfl⟩
    replace hok := hok2 _ hl_
    have r_rows := Rep.mono e4 r_rows
    have r_field := Rep.mono e4 r_field
    replace hok : ok__law_cards_4 x_rows x_field x_found := hok
    show SJ B _ _ [some v_rows, some v_field, some v_found, t_row, none] G4 [] (JO B []) (m__law_cards_4 x_rows x_field x_found)
    obtain ⟨k2, hok⟩ := hok
    exact sb_retO 0 (DO.so (do_sortSet (p4 := default) (b_sorted T) (b_set T) rfl (de_var 2 r_found) k2)) (by first | exact Nat.zero_le _ | simp)

abbrev N__law_fields : List Str := ["names", "found", "name", "some"]
def m__law_fields_3 (x_names : List Str) (x_found : List (List Str)) (x_name : Str) : List (List Str) := x_found
def ok__law_fields_3 (x_names : List Str) (x_found : List (List Str)) (x_name : Str) : Prop := True
def m__law_fields_2 (x_names : List Str) (x_found : List (List Str)) (x_name : Str) : List (List Str) := m__law_fields_3 x_names (x_found ++ (x_found.map fun y1 => (y1 ++ ([x_name] : List Str)))) x_name
def ok__law_fields_2 (x_names : List Str) (x_found : List (List Str)) (x_name : Str) : Prop := (∀ y1 ∈ x_found, (y1.length + ([x_name] : List Str).length ≤ sizeLine)) ∧ (x_found.length + (x_found.map fun y1 => (y1 ++ ([x_name] : List Str))).length ≤ sizeLine) ∧ ok__law_fields_3 x_names (x_found ++ (x_found.map fun y1 => (y1 ++ ([x_name] : List Str)))) x_name
def m__law_fields_4 (x_names : List Str) (x_found : List (List Str)) : List (List Str) := (cut x_found (some (1 : Int)) none)
def ok__law_fields_4 (x_names : List Str) (x_found : List (List Str)) : Prop := True
def m__law_fields_1 (x_names : List Str) (x_found : List (List Str)) : List (List Str) := m__law_fields_4 x_names (List.foldl (fun (s : List (List Str)) (y : Str) => m__law_fields_2 x_names s y) x_found x_names)
def ok__law_fields_1 (x_names : List Str) (x_found : List (List Str)) : Prop := (foldOk (fun (s : List (List Str)) (y : Str) => m__law_fields_2 x_names s y) (fun (s : List (List Str)) (y : Str) => ok__law_fields_2 x_names s y) x_names x_found) ∧ ok__law_fields_4 x_names (List.foldl (fun (s : List (List Str)) (y : Str) => m__law_fields_2 x_names s y) x_found x_names)
def m__law_fields_0 (x_names : List Str) : List (List Str) := m__law_fields_1 x_names ([([] : List Str)] : List (List Str))
def ok__law_fields_0 (x_names : List Str) : Prop := ok__law_fields_1 x_names ([([] : List Str)] : List (List Str))
def m__law_fields (x_names : List Str) : List (List Str) := m__law_fields_0 x_names
def ok__law_fields (x_names : List Str) : Prop := ok__law_fields_0 x_names
theorem h__law_fields (T : Tx K mg) : Has P w K mg base "_law_fields" (He.ga K "_law_fields") 1 ["names"] (SpN kO (fun (a : (List Str) × Unit) => ok__law_fields a.1) (fun a => m__law_fields a.1)) := by
  have sc : FnScope N__law_fields ["names"] (defScope s__law_fields) := ⟨rfl, rfl, rfl, by decide +kernel, rfl, by decide +kernel, by decide +kernel⟩
  refine has_O (d__law_fields T) (g__law_fields T) sc (fun _ _ _ _ _ _ us hl => match us, hl with | [_], _ => rfl) (by rintro a G vs ⟨v_names, _, rfl, r_names, rfl⟩; rfl) ?_
  rintro X ⟨cdv, AA, outer, ss, HH, EE, rfl⟩ hr B vs ⟨x_names, ⟨⟩⟩ G0 hB ⟨v_names, _, rfl, r_names, rfl⟩ hok
  replace hok : ok__law_fields_0 x_names := hok
  show SJ B _ _ [some v_names, none, none, none] G0 [] (JO B []) (m__law_fields_0 x_names)
  refine sb_set 1 (DE.se (DO.de (do_list (hl := (by decide : (1 : Nat) ≤ sizeLine)) (des_cons (DO.de (do_list (hl := (by decide : (0 : Nat) ≤ sizeLine)) (des_nil (α := Str)))) des_nil)))) (fun v_found G1 e1 r_found => ?_) sc.nd
  have r_names := Rep.mono e1 r_names
  replace r_found : rep G1 v_found ([([] : List Str)] : List (List Str)) := r_found
  replace hok : ok__law_fields_1 x_names ([([] : List Str)] : List (List Str)) := hok
  show SJ B _ _ [some v_names, some v_found, none, none] G1 [] (JO B []) (m__law_fields_0 x_names)
  rw [show m__law_fields_0 x_names = m__law_fields_1 x_names ([([] : List Str)] : List (List Str)) from rfl]
  generalize ([([] : List Str)] : List (List Str)) = x_found at r_found hok ⊢
  obtain ⟨k4, hok⟩ := hok
  have hok2 : ∀ s : List (List Str), s = (List.foldl (fun (s : List (List Str)) (y : Str) => m__law_fields_2 x_names s y) x_found x_names) → ok__law_fields_4 x_names s := fun s h => by subst h; exact hok
  refine sj_foldS (k := fun (s : List (List Str)) => m__law_fields_4 x_names s) (fun (s : List (List Str)) (σ_ : L2.St) (G_ : Hp) (C_ : Cs) => ∃ (v_found : V) (t_name : Option V), (σ_ = [some v_names, some v_found, t_name, none] ∧ rep G_ v_found s ∧ C_ = ([] : Cs))) (fun (s : List (List Str)) (y : Str) => m__law_fields_2 x_names s y) (fun (s : List (List Str)) (y : Str) => ok__law_fields_2 x_names s y) x_found (di_list (de_var 0 r_names)) (sg_name 2 sc.nd) (fun G_ e_ => ⟨_, _, rfl, Rep.mono e_ r_found, rfl⟩) (by rintro x_found σ_ G_ G2_ C_ e_ ⟨v_found, t_name, rfl, r_found, rfl⟩; exact ⟨_, _, rfl, Rep.mono e_ r_found, rfl⟩) k4 ?_ ?_
  · rintro x_found x_name σ_ σ2_ G2 C_ hy_ e2 ⟨v_found, t_name, rfl, r_found, rfl⟩ ⟨v_name, r_name, rfl⟩ hok
    have r_names := Rep.mono e2 r_names
    replace hok : ok__law_fields_2 x_names x_found x_name := hok
    show SJ B _ _ [some v_names, some v_found, some v_name, none] G2 [] (JF (fun (s : List (List Str)) (σ_ : L2.St) (G_ : Hp) (C_ : Cs) => ∃ (v_found : V) (t_name : Option V), (σ_ = [some v_names, some v_found, t_name, none] ∧ rep G_ v_found s ∧ C_ = ([] : Cs)))) (m__law_fields_2 x_names x_found x_name)
    obtain ⟨k2, k3, hok⟩ := hok
    refine sb_set 1 (DE.se (DO.de (do_cat (de_var 1 r_found) (DO.de (do_lc (lc_map (fun y1 => (y1 ++ ([x_name] : List Str))) sc.nd rfl (di_list (de_var 1 r_found)) (blkOk_by (own := [("some", 3)]) (N := N__law_fields) (sc := _) (by first | decide +kernel | rfl)) rfl (dg_name sc.nd) (by intro i_ y1 σ_ G_ hy_ eG_ hT_; obtain ⟨v_y1, q_y1, rfl⟩ := hT_; have r_names := Rep.mono eG_ r_names; have r_found := Rep.mono eG_ r_found; have r_name := Rep.mono eG_ r_name; have z_ := k2 y1 (List.mem_of_getElem? hy_); have ze_ := z_; have k1 := ze_; intro Y_ hY_; have hr := InBlk.room hY_ hr; obtain ⟨⟨s_, H_, C_, cl_, fp_, rfl⟩⟩ := hY_; exact DO.de (do_cat (de_var 3 q_y1) (DO.de (do_list (hl := (by decide : (1 : Nat) ≤ sizeLine)) (des_cons (de_var 2 r_name) des_nil))) k1))))) k3))) (fun v_found G3 e3 r_found => ?_) sc.nd
    have r_names := Rep.mono e3 r_names
    have r_name := Rep.mono e3 r_name
    replace r_found : rep G3 v_found (x_found ++ (x_found.map fun y1 => (y1 ++ ([x_name] : List Str)))) := r_found
    replace hok : ok__law_fields_3 x_names (x_found ++ (x_found.map fun y1 => (y1 ++ ([x_name] : List Str)))) x_name := hok
    show SJ B _ _ [some v_names, some v_found, some v_name, none] G3 [] (JF (fun (s : List (List Str)) (σ_ : L2.St) (G_ : Hp) (C_ : Cs) => ∃ (v_found : V) (t_name : Option V), (σ_ = [some v_names, some v_found, t_name, none] ∧ rep G_ v_found s ∧ C_ = ([] : Cs)))) (m__law_fields_2 x_names x_found x_name)
    rw [show m__law_fields_2 x_names x_found x_name = m__law_fields_3 x_names (x_found ++ (x_found.map fun y1 => (y1 ++ ([x_name] : List Str)))) x_name from rfl]
    generalize (x_found ++ (x_found.map fun y1 => (y1 ++ ([x_name] : List Str)))) = x_found at r_found hok ⊢
    exact sb_nilF fun G_ e_ => ⟨_, _, rfl, Rep.mono e_ r_found, rfl⟩
  · rintro x_found σ_ G4 C_ hl_ e4 ⟨v_found, t_name, rfl, r_found, rfl⟩
    replace hok := hok2 _ hl_
    have r_names := Rep.mono e4 r_names
    replace hok : ok__law_fields_4 x_names x_found := hok
    show SJ B _ _ [some v_names, some v_found, t_name, none] G4 [] (JO B []) (m__law_fields_4 x_names x_found)
    exact sb_retO 0 (DO.so (do_slice (de_var 1 r_found) (dp_some de_int) dp_none)) (by first | exact Nat.zero_le _ | simp)

abbrev N_Panel___init__ : List Str := ["self", "entries", "rows", "row"]
def m_Panel___init___5 (x_entries : List Str) (x_rows : List (List Str)) (x_f_names : List Str) (x_f_orders : List (List Str)) (x_f_spots : List (Dict Int)) : PanelD := PanelD.mk x_f_names x_f_orders x_f_spots
def ok_Panel___init___5 (x_entries : List Str) (x_rows : List (List Str)) (x_f_names : List Str) (x_f_orders : List (List Str)) (x_f_spots : List (Dict Int)) : Prop := True
def m_Panel___init___4 (x_entries : List Str) (x_rows : List (List Str)) (x_f_names : List Str) (x_f_orders : List (List Str)) : PanelD := m_Panel___init___5 x_entries x_rows x_f_names x_f_orders (x_rows.map fun y3 => (m_spots_of y3))
def ok_Panel___init___4 (x_entries : List Str) (x_rows : List (List Str)) (x_f_names : List Str) (x_f_orders : List (List Str)) : Prop := (∀ y3 ∈ x_rows, (ok_spots_of y3)) ∧ ok_Panel___init___5 x_entries x_rows x_f_names x_f_orders (x_rows.map fun y3 => (m_spots_of y3))
def m_Panel___init___3 (x_entries : List Str) (x_rows : List (List Str)) (x_f_names : List Str) : PanelD := m_Panel___init___4 x_entries x_rows x_f_names (x_rows.map fun y2 => y2)
def ok_Panel___init___3 (x_entries : List Str) (x_rows : List (List Str)) (x_f_names : List Str) : Prop := ok_Panel___init___4 x_entries x_rows x_f_names (x_rows.map fun y2 => y2)
def m_Panel___init___2 (x_entries : List Str) (x_rows : List (List Str)) : PanelD := m_Panel___init___3 x_entries x_rows (srt x_entries)
def ok_Panel___init___2 (x_entries : List Str) (x_rows : List (List Str)) : Prop := (x_entries.length < 64) ∧ ok_Panel___init___3 x_entries x_rows (srt x_entries)
def m_Panel___init___1 (x_entries : List Str) (x_rows : List (List Str)) : PanelD := m_Panel___init___2 x_entries x_rows
def ok_Panel___init___1 (x_entries : List Str) (x_rows : List (List Str)) : Prop := (ok_are_rows x_rows x_entries) ∧ (((!(m_are_rows x_rows x_entries)) || decide (x_rows = ([] : List (List Str)))) = false) ∧ ok_Panel___init___2 x_entries x_rows
def m_Panel___init___0 (x_entries : List Str) (x_rows : List (List Str)) : PanelD := m_Panel___init___1 x_entries x_rows
def ok_Panel___init___0 (x_entries : List Str) (x_rows : List (List Str)) : Prop := (ok_check_entries x_entries) ∧ ok_Panel___init___1 x_entries x_rows
def m_Panel___init__ (x_entries : List Str) (x_rows : List (List Str)) : PanelD := m_Panel___init___0 x_entries x_rows
def ok_Panel___init__ (x_entries : List Str) (x_rows : List (List Str)) : Prop := ok_Panel___init___0 x_entries x_rows
theorem h_Panel___init__ (T : Tx K mg) : HasF P w K mg base (He.ma K (He.ga K "Panel") "__init__") 5 ["self", "entries", "rows"] (SpI (PC.at_ "Panel") icP (fun (a : (List Str) × (List (List Str)) × Unit) => ok_Panel___init__ a.1 a.2.1) (fun a => m_Panel___init__ a.1 a.2.1)) := by
  have sc : FnScope N_Panel___init__ ["self", "entries", "rows"] (defScope s_Panel___init__) := ⟨rfl, rfl, rfl, by decide +kernel, rfl, by decide +kernel, by decide +kernel⟩
  refine hasF_I (d_Panel___init__ T) sc (fun _ _ _ _ _ _ us hl => match us, hl with | [_, _, _], _ => rfl) (by rintro a G vs ⟨v_entries, _, rfl, r_entries, ⟨v_rows, _, rfl, r_rows, rfl⟩⟩; rfl) ?_
  rintro X ⟨cdv, AA, outer, ss, HH, EE, rfl⟩ hr B u_self dx_self vs ⟨x_entries, x_rows, ⟨⟩⟩ G0 hB ⟨v_entries, _, rfl, r_entries, ⟨v_rows, _, rfl, r_rows, rfl⟩⟩ hok
  replace hok : ok_Panel___init___0 x_entries x_rows := hok
  show SJ B _ _ [some (.ref u_self), some v_entries, some v_rows, none] G0 [(u_self, eqc (.ins (PC.at_ "Panel") dx_self []))] (JI icP u_self) (m_Panel___init___0 x_entries x_rows)
  obtain ⟨k1, hok⟩ := hok
  refine sb_expr (DE.se (de_callZ (y := (x_entries, ())) (z := (m_check_entries x_entries)) (h_check_entries T) hr (da_cons (de_var 1 r_entries) da_nil) k1)) fun G1 e1 => ?_
  have r_entries := Rep.mono e1 r_entries
  have r_rows := Rep.mono e1 r_rows
  replace hok : ok_Panel___init___1 x_entries x_rows := hok
  show SJ B _ _ [some (.ref u_self), some v_entries, some v_rows, none] G1 [(u_self, eqc (.ins (PC.at_ "Panel") dx_self []))] (JI icP u_self) (m_Panel___init___0 x_entries x_rows)
  rw [show m_Panel___init___0 x_entries x_rows = m_Panel___init___1 x_entries x_rows from rfl]
  obtain ⟨k2, k3, hok⟩ := hok
  refine sj_ward (DT.st (DW.dt (dw_or (dt_not (dt_val (de_callZ (y := (x_rows, x_entries, ())) (z := (m_are_rows x_rows x_entries)) (h_are_rows T) hr (da_cons (de_var 2 r_rows) (da_cons (de_var 1 r_entries) da_nil)) k2))) fun h1 => dw_or1 (DC.dt (dc_eq hr.units (de_var 2 r_rows) (DO.de (do_list (hl := (by decide : (0 : Nat) ≤ sizeLine)) (des_nil (α := List Str))))))))) k3 ?_
  replace hok : ok_Panel___init___2 x_entries x_rows := hok
  show SJ B _ _ [some (.ref u_self), some v_entries, some v_rows, none] G1 [(u_self, eqc (.ins (PC.at_ "Panel") dx_self []))] (JI icP u_self) (m_Panel___init___2 x_entries x_rows)
  obtain ⟨k4, hok⟩ := hok
  refine sb_fld 0 (at_var 0) (c_Panel T) (n_Panel_names T) (DE.se (DO.de (do_sorted (b_sorted T) (de_var 1 r_entries) k4))) rfl (by show _ < _; simp [putF]) fun v_f_names G2 e2 r_f_names => ?_
  have r_entries := Rep.mono e2 r_entries
  have r_rows := Rep.mono e2 r_rows
  replace r_f_names : rep G2 v_f_names (srt x_entries) := r_f_names
  replace hok : ok_Panel___init___3 x_entries x_rows (srt x_entries) := hok
  show SJ B _ _ [some (.ref u_self), some v_entries, some v_rows, none] G2 [(u_self, eqc (.ins (PC.at_ "Panel") dx_self [("names", v_f_names)]))] (JI icP u_self) (m_Panel___init___2 x_entries x_rows)
  rw [show m_Panel___init___2 x_entries x_rows = m_Panel___init___3 x_entries x_rows (srt x_entries) from rfl]
  generalize (srt x_entries) = x_f_names at r_f_names hok ⊢
  refine sb_fld 0 (at_var 0) (c_Panel T) (n_Panel_orders T) (DE.se (DO.de (do_lc (lc_map (fun y2 => y2) sc.nd rfl (di_list (de_var 2 r_rows)) (blkOk_by (own := [("row", 3)]) (N := N_Panel___init__) (sc := _) (by first | decide +kernel | rfl)) rfl (dg_name sc.nd) (by intro i_ y2 σ_ G_ hy_ eG_ hT_; obtain ⟨v_y2, q_y2, rfl⟩ := hT_; have r_entries := Rep.mono eG_ r_entries; have r_rows := Rep.mono eG_ r_rows; have r_f_names := Rep.mono eG_ r_f_names; intro Y_ hY_; have hr := InBlk.room hY_ hr; obtain ⟨⟨s_, H_, C_, cl_, fp_, rfl⟩⟩ := hY_; exact DO.de (do_listOf (b_list T) (de_var 3 q_y2))))))) rfl (by show _ < _; simp [putF]) fun v_f_orders G3 e3 r_f_orders => ?_
  have r_entries := Rep.mono e3 r_entries
  have r_rows := Rep.mono e3 r_rows
  have r_f_names := Rep.mono e3 r_f_names
  replace r_f_orders : rep G3 v_f_orders (x_rows.map fun y2 => y2) := r_f_orders
  replace hok : ok_Panel___init___4 x_entries x_rows x_f_names (x_rows.map fun y2 => y2) := hok
  show SJ B _ _ [some (.ref u_self), some v_entries, some v_rows, none] G3 [(u_self, eqc (.ins (PC.at_ "Panel") dx_self [("names", v_f_names), ("orders", v_f_orders)]))] (JI icP u_self) (m_Panel___init___3 x_entries x_rows x_f_names)
  rw [show m_Panel___init___3 x_entries x_rows x_f_names = m_Panel___init___4 x_entries x_rows x_f_names (x_rows.map fun y2 => y2) from rfl]
  generalize (x_rows.map fun y2 => y2) = x_f_orders at r_f_orders hok ⊢
  obtain ⟨k6, hok⟩ := hok
  refine sb_fld 0 (at_var 0) (c_Panel T) (n_Panel_spots T) (DE.se (DO.de (do_lc (lc_map (fun y3 => (m_spots_of y3)) sc.nd rfl (di_list (de_var 2 r_rows)) (blkOk_by (own := [("row", 3)]) (N := N_Panel___init__) (sc := _) (by first | decide +kernel | rfl)) rfl (dg_name sc.nd) (by intro i_ y3 σ_ G_ hy_ eG_ hT_; obtain ⟨v_y3, q_y3, rfl⟩ := hT_; have r_entries := Rep.mono eG_ r_entries; have r_rows := Rep.mono eG_ r_rows; have r_f_names := Rep.mono eG_ r_f_names; have r_f_orders := Rep.mono eG_ r_f_orders; have z_ := k6 y3 (List.mem_of_getElem? hy_); have ze_ := z_; have k5 := ze_; intro Y_ hY_; have hr := InBlk.room hY_ hr; obtain ⟨⟨s_, H_, C_, cl_, fp_, rfl⟩⟩ := hY_; exact de_callZ (y := (y3, ())) (z := (m_spots_of y3)) (h_spots_of T) hr (da_cons (de_var 3 q_y3) da_nil) k5))))) rfl (by show _ < _; simp [putF]) fun v_f_spots G4 e4 r_f_spots => ?_
  have r_entries := Rep.mono e4 r_entries
  have r_rows := Rep.mono e4 r_rows
  have r_f_names := Rep.mono e4 r_f_names
  have r_f_orders := Rep.mono e4 r_f_orders
  replace r_f_spots : rep G4 v_f_spots (x_rows.map fun y3 => (m_spots_of y3)) := r_f_spots
  replace hok : ok_Panel___init___5 x_entries x_rows x_f_names x_f_orders (x_rows.map fun y3 => (m_spots_of y3)) := hok
  show SJ B _ _ [some (.ref u_self), some v_entries, some v_rows, none] G4 [(u_self, eqc (.ins (PC.at_ "Panel") dx_self [("names", v_f_names), ("orders", v_f_orders), ("spots", v_f_spots)]))] (JI icP u_self) (m_Panel___init___4 x_entries x_rows x_f_names x_f_orders)
  rw [show m_Panel___init___4 x_entries x_rows x_f_names x_f_orders = m_Panel___init___5 x_entries x_rows x_f_names x_f_orders (x_rows.map fun y3 => (m_spots_of y3)) from rfl]
  generalize (x_rows.map fun y3 => (m_spots_of y3)) = x_f_spots at r_f_spots hok ⊢
  exact sb_nil fun G_ e_ => ⟨_, rfl, _, _, _, _, rfl, Rep.mono e_ r_f_names, Rep.mono e_ r_f_orders, Rep.mono e_ r_f_spots⟩

abbrev N_Panel___eq__ : List Str := ["self", "other"]
def m_Panel___eq___0 (x_self : PanelD) (x_other : PanelD) : Bool := (true && decide ((x_self.names, x_self.orders) = (x_other.names, x_other.orders)))
def ok_Panel___eq___0 (x_self : PanelD) (x_other : PanelD) : Prop := True
def m_Panel___eq__ (x_self : PanelD) (x_other : PanelD) : Bool := m_Panel___eq___0 x_self x_other
def ok_Panel___eq__ (x_self : PanelD) (x_other : PanelD) : Prop := ok_Panel___eq___0 x_self x_other
theorem h_Panel___eq__ (T : Tx K mg) : HasE P w K mg base (He.ma K (He.ga K "Panel") "__eq__") 1 ["self", "other"] (SpN kD (fun (a : PanelD × PanelD × Unit) => ok_Panel___eq__ a.1 a.2.1) (fun a => m_Panel___eq__ a.1 a.2.1)) := by
  have sc : FnScope N_Panel___eq__ ["self", "other"] (defScope s_Panel___eq__) := ⟨rfl, rfl, rfl, by decide +kernel, rfl, by decide +kernel, by decide +kernel⟩
  refine hasE_D (d_Panel___eq__ T) sc (fun _ _ _ _ _ _ us hl => match us, hl with | [_, _], _ => rfl) (by rintro a G vs ⟨v_self, _, rfl, r_self, ⟨v_other, _, rfl, r_other, rfl⟩⟩; rfl) ?_
  rintro X ⟨cdv, AA, outer, ss, HH, EE, rfl⟩ hr B vs ⟨x_self, x_other, ⟨⟩⟩ G0 hB ⟨v_self, _, rfl, r_self, ⟨v_other, _, rfl, r_other, rfl⟩⟩ hok
  replace hok : ok_Panel___eq___0 x_self x_other := hok
  show SJ B _ _ [some v_self, some v_other] G0 [] (JD B []) (m_Panel___eq___0 x_self x_other)
  exact sb_ret 0 (DE.se (de_and (de_isPanel (i_Panel T) (b_isinstance T) (g_Panel T) (de_var 1 r_other)) fun h2 => de_one (DC.de (dc_eq hr.units (de_tup (de_panel_names (c_Panel T) (n_Panel_names T) (de_var 0 r_self)) (de_panel_orders (c_Panel T) (n_Panel_orders T) (de_var 0 r_self))) (de_tup (de_panel_names (c_Panel T) (n_Panel_names T) (de_var 1 r_other)) (de_panel_orders (c_Panel T) (n_Panel_orders T) (de_var 1 r_other)))))))

abbrev N__law_one_of : List Str := ["purse", "some"]
def m__law_one_of_0 {α : Type} [Inhabited α] (x_purse : List Int) (x_some : List α) : α × (List Int) := ((getI x_some ((m__law_draw x_purse (x_some.length : Int)).1)), (m__law_draw x_purse (x_some.length : Int)).2)
def ok__law_one_of_0 {α : Type} [Inhabited α] (x_purse : List Int) (x_some : List α) : Prop := (ok__law_draw x_purse (x_some.length : Int)) ∧ ((atI x_some ((m__law_draw x_purse (x_some.length : Int)).1)).isSome = true) ∧ True
def m__law_one_of {α : Type} [Inhabited α] (x_purse : List Int) (x_some : List α) : α × (List Int) := m__law_one_of_0 x_purse x_some
def ok__law_one_of {α : Type} [Inhabited α] (x_purse : List Int) (x_some : List α) : Prop := ok__law_one_of_0 x_purse x_some
theorem h__law_one_of {α : Type} [Inhabited α] [Rep α] (T : Tx K mg) : Has P w K mg base "_law_one_of" (He.ga K "_law_one_of") 3 ["purse", "some"] (SpU kD (fun p (a : (List α) × Unit) => ok__law_one_of p a.1) (fun p a => m__law_one_of p a.1)) := by
  have sc : FnScope N__law_one_of ["purse", "some"] (defScope s__law_one_of) := ⟨rfl, rfl, rfl, by decide +kernel, rfl, by decide +kernel, by decide +kernel⟩
  refine has_UD (d__law_one_of T) (g__law_one_of T) sc (fun _ _ _ _ _ _ us hl => match us, hl with | [_, _], _ => rfl) (by rintro a G vs ⟨v_some, _, rfl, r_some, rfl⟩; rfl) ?_
  rintro X ⟨cdv, AA, outer, ss, HH, EE, rfl⟩ hr B u_purse x_purse vs ⟨x_some, ⟨⟩⟩ G0 hB ⟨v_some, _, rfl, r_some, rfl⟩ hok
  replace hok : ok__law_one_of_0 x_purse x_some := hok
  show SJ B _ _ [some (.ref u_purse), some v_some] G0 [(u_purse, cl x_purse)] (JUD B u_purse) (m__law_one_of_0 x_purse x_some)
  obtain ⟨k1, k2, hok⟩ := hok
  exact sb_ret 1 (se_ixI (DE.se (de_var 1 r_some)) (se_callUZ (z := (m__law_draw x_purse (x_some.length : Int)).1) (l' := (m__law_draw x_purse (x_some.length : Int)).2) 0 (h__law_draw T) hr (at_var 0) (DA.sa (da_cons (de_lenI (b_len T) (de_var 1 r_some)) da_nil)) rfl k1) k2)

abbrev N_check_panel : List Str := ["value"]
def m_check_panel_1 (x_value : PanelD) : Unit := ()
def ok_check_panel_1 (x_value : PanelD) : Prop := True
def m_check_panel_0 (x_value : PanelD) : Unit := m_check_panel_1 x_value
def ok_check_panel_0 (x_value : PanelD) : Prop := ((!true) = false) ∧ ok_check_panel_1 x_value
def m_check_panel (x_value : PanelD) : Unit := m_check_panel_0 x_value
def ok_check_panel (x_value : PanelD) : Prop := ok_check_panel_0 x_value
theorem h_check_panel (T : Tx K mg) : Has P w K mg base "check_panel" (He.ga K "check_panel") 1 ["value"] (SpN kD (fun (a : PanelD × Unit) => ok_check_panel a.1) (fun a => m_check_panel a.1)) := by
  have sc : FnScope N_check_panel ["value"] (defScope s_check_panel) := ⟨rfl, rfl, rfl, by decide +kernel, rfl, by decide +kernel, by decide +kernel⟩
  refine has_N (d_check_panel T) (g_check_panel T) sc (fun _ _ _ _ _ _ us hl => match us, hl with | [_], _ => rfl) (by rintro a G vs ⟨v_value, _, rfl, r_value, rfl⟩; rfl) ?_
  rintro X ⟨cdv, AA, outer, ss, HH, EE, rfl⟩ hr B vs ⟨x_value, ⟨⟩⟩ G0 hB ⟨v_value, _, rfl, r_value, rfl⟩ hok
  replace hok : ok_check_panel_0 x_value := hok
  show SJ B _ _ [some v_value] G0 [] (JN B) (m_check_panel_0 x_value)
  obtain ⟨k1, hok⟩ := hok
  refine sj_ward (DT.st (dt_not (dt_val (de_isPanel (i_Panel T) (b_isinstance T) (g_Panel T) (de_var 0 r_value))))) k1 ?_
  replace hok : ok_check_panel_1 x_value := hok
  show SJ B _ _ [some v_value] G0 [] (JN B) (m_check_panel_1 x_value)
  exact sb_nil fun _ _ => trivial

abbrev N_check_both : List Str := ["one", "other"]
def m_check_both_3 (x_one : PanelD) (x_other : PanelD) : Unit := ()
def ok_check_both_3 (x_one : PanelD) (x_other : PanelD) : Prop := True
def m_check_both_2 (x_one : PanelD) (x_other : PanelD) : Unit := m_check_both_3 x_one x_other
def ok_check_both_2 (x_one : PanelD) (x_other : PanelD) : Prop := ((!decide (x_one.names = x_other.names)) = false) ∧ ok_check_both_3 x_one x_other
def m_check_both_1 (x_one : PanelD) (x_other : PanelD) : Unit := m_check_both_2 x_one x_other
def ok_check_both_1 (x_one : PanelD) (x_other : PanelD) : Prop := (ok_check_panel x_other) ∧ ok_check_both_2 x_one x_other
def m_check_both_0 (x_one : PanelD) (x_other : PanelD) : Unit := m_check_both_1 x_one x_other
def ok_check_both_0 (x_one : PanelD) (x_other : PanelD) : Prop := (ok_check_panel x_one) ∧ ok_check_both_1 x_one x_other
def m_check_both (x_one : PanelD) (x_other : PanelD) : Unit := m_check_both_0 x_one x_other
def ok_check_both (x_one : PanelD) (x_other : PanelD) : Prop := ok_check_both_0 x_one x_other
theorem h_check_both (T : Tx K mg) : Has P w K mg base "check_both" (He.ga K "check_both") 2 ["one", "other"] (SpN kD (fun (a : PanelD × PanelD × Unit) => ok_check_both a.1 a.2.1) (fun a => m_check_both a.1 a.2.1)) := by
  have sc : FnScope N_check_both ["one", "other"] (defScope s_check_both) := ⟨rfl, rfl, rfl, by decide +kernel, rfl, by decide +kernel, by decide +kernel⟩
  refine has_N (d_check_both T) (g_check_both T) sc (fun _ _ _ _ _ _ us hl => match us, hl with | [_, _], _ => rfl) (by rintro a G vs ⟨v_one, _, rfl, r_one, ⟨v_other, _, rfl, r_other, rfl⟩⟩; rfl) ?_
  rintro X ⟨cdv, AA, outer, ss, HH, EE, rfl⟩ hr B vs ⟨x_one, x_other, ⟨⟩⟩ G0 hB ⟨v_one, _, rfl, r_one, ⟨v_other, _, rfl, r_other, rfl⟩⟩ hok
  replace hok : ok_check_both_0 x_one x_other := hok
  show SJ B _ _ [some v_one, some v_other] G0 [] (JN B) (m_check_both_0 x_one x_other)
  obtain ⟨k1, hok⟩ := hok
  refine sb_expr (DE.se (de_callZ (y := (x_one, ())) (z := (m_check_panel x_one)) (h_check_panel T) hr (da_cons (de_var 0 r_one) da_nil) k1)) fun G1 e1 => ?_
  have r_one := Rep.mono e1 r_one
  have r_other := Rep.mono e1 r_other
  replace hok : ok_check_both_1 x_one x_other := hok
  show SJ B _ _ [some v_one, some v_other] G1 [] (JN B) (m_check_both_0 x_one x_other)
  rw [show m_check_both_0 x_one x_other = m_check_both_1 x_one x_other from rfl]
  obtain ⟨k2, hok⟩ := hok
  refine sb_expr (DE.se (de_callZ (y := (x_other, ())) (z := (m_check_panel x_other)) (h_check_panel T) hr (da_cons (de_var 1 r_other) da_nil) k2)) fun G2 e2 => ?_
  have r_one := Rep.mono e2 r_one
  have r_other := Rep.mono e2 r_other
  replace hok : ok_check_both_2 x_one x_other := hok
  show SJ B _ _ [some v_one, some v_other] G2 [] (JN B) (m_check_both_1 x_one x_other)
  rw [show m_check_both_1 x_one x_other = m_check_both_2 x_one x_other from rfl]
  obtain ⟨k3, hok⟩ := hok
  refine sj_ward (DT.st (DC.dt (dc_ne hr.units (de_panel_names (c_Panel T) (n_Panel_names T) (de_var 0 r_one)) (de_panel_names (c_Panel T) (n_Panel_names T) (de_var 1 r_other))))) k3 ?_
  replace hok : ok_check_both_3 x_one x_other := hok
  show SJ B _ _ [some v_one, some v_other] G2 [] (JN B) (m_check_both_3 x_one x_other)
  exact sb_nil fun _ _ => trivial

abbrev N_joint : List Str := ["one", "other"]
def m_joint_1 (x_one : PanelD) (x_other : PanelD) : PanelD := (m_Panel___init__ x_one.names (x_one.orders ++ x_other.orders))
def ok_joint_1 (x_one : PanelD) (x_other : PanelD) : Prop := (x_one.orders.length + x_other.orders.length ≤ sizeLine) ∧ (ok_Panel___init__ x_one.names (x_one.orders ++ x_other.orders)) ∧ True
def m_joint_0 (x_one : PanelD) (x_other : PanelD) : PanelD := m_joint_1 x_one x_other
def ok_joint_0 (x_one : PanelD) (x_other : PanelD) : Prop := (ok_check_both x_one x_other) ∧ ok_joint_1 x_one x_other
def m_joint (x_one : PanelD) (x_other : PanelD) : PanelD := m_joint_0 x_one x_other
def ok_joint (x_one : PanelD) (x_other : PanelD) : Prop := ok_joint_0 x_one x_other
theorem h_joint (T : Tx K mg) : Has P w K mg base "joint" (He.ga K "joint") 7 ["one", "other"] (SpN kD (fun (a : PanelD × PanelD × Unit) => ok_joint a.1 a.2.1) (fun a => m_joint a.1 a.2.1)) := by
  have sc : FnScope N_joint ["one", "other"] (defScope s_joint) := ⟨rfl, rfl, rfl, by decide +kernel, rfl, by decide +kernel, by decide +kernel⟩
  refine has_D (d_joint T) (g_joint T) sc (fun _ _ _ _ _ _ us hl => match us, hl with | [_, _], _ => rfl) (by rintro a G vs ⟨v_one, _, rfl, r_one, ⟨v_other, _, rfl, r_other, rfl⟩⟩; rfl) ?_
  rintro X ⟨cdv, AA, outer, ss, HH, EE, rfl⟩ hr B vs ⟨x_one, x_other, ⟨⟩⟩ G0 hB ⟨v_one, _, rfl, r_one, ⟨v_other, _, rfl, r_other, rfl⟩⟩ hok
  replace hok : ok_joint_0 x_one x_other := hok
  show SJ B _ _ [some v_one, some v_other] G0 [] (JD B []) (m_joint_0 x_one x_other)
  obtain ⟨k1, hok⟩ := hok
  refine sb_expr (DE.se (de_callZ (y := (x_one, x_other, ())) (z := (m_check_both x_one x_other)) (h_check_both T) hr (da_cons (de_var 0 r_one) (da_cons (de_var 1 r_other) da_nil)) k1)) fun G1 e1 => ?_
  have r_one := Rep.mono e1 r_one
  have r_other := Rep.mono e1 r_other
  replace hok : ok_joint_1 x_one x_other := hok
  show SJ B _ _ [some v_one, some v_other] G1 [] (JD B []) (m_joint_0 x_one x_other)
  rw [show m_joint_0 x_one x_other = m_joint_1 x_one x_other from rfl]
  obtain ⟨k2, k3, hok⟩ := hok
  exact sb_ret 0 (DE.se (de_Panel (y := (x_one.names, (x_one.orders ++ x_other.orders), ())) (z := (m_Panel___init__ x_one.names (x_one.orders ++ x_other.orders))) (h_Panel___init__ T) (k_Panel T) (g_Panel T) hr (da_cons (de_panel_names (c_Panel T) (n_Panel_names T) (de_var 0 r_one)) (da_cons (DO.de (do_cat (de_panel_orders (c_Panel T) (n_Panel_orders T) (de_var 0 r_one)) (de_panel_orders (c_Panel T) (n_Panel_orders T) (de_var 1 r_other)) k2)) da_nil)) k3))

abbrev N_Panel_entries : List Str := ["self"]
def m_Panel_entries_0 (x_self : PanelD) : List Str := x_self.names
def ok_Panel_entries_0 (x_self : PanelD) : Prop := True
def m_Panel_entries (x_self : PanelD) : List Str := m_Panel_entries_0 x_self
def ok_Panel_entries (x_self : PanelD) : Prop := ok_Panel_entries_0 x_self
theorem h_Panel_entries (T : Tx K mg) : HasF P w K mg base (He.ma K (He.ga K "Panel") "entries") 1 ["self"] (SpN kO (fun (a : PanelD × Unit) => ok_Panel_entries a.1) (fun a => m_Panel_entries a.1)) := by
  have sc : FnScope N_Panel_entries ["self"] (defScope s_Panel_entries) := ⟨rfl, rfl, rfl, by decide +kernel, rfl, by decide +kernel, by decide +kernel⟩
  refine hasF_O (d_Panel_entries T) sc (fun _ _ _ _ _ _ us hl => match us, hl with | [_], _ => rfl) (by rintro a G vs ⟨v_self, _, rfl, r_self, rfl⟩; rfl) ?_
  rintro X ⟨cdv, AA, outer, ss, HH, EE, rfl⟩ hr B vs ⟨x_self, ⟨⟩⟩ G0 hB ⟨v_self, _, rfl, r_self, rfl⟩ hok
  replace hok : ok_Panel_entries_0 x_self := hok
  show SJ B _ _ [some v_self] G0 [] (JO B []) (m_Panel_entries_0 x_self)
  exact sb_retO 0 (DO.so (do_listOf (b_list T) (de_panel_names (c_Panel T) (n_Panel_names T) (de_var 0 r_self)))) (by first | exact Nat.zero_le _ | simp)

abbrev N_Panel_rows : List Str := ["self", "row"]
def m_Panel_rows_0 (x_self : PanelD) : List (List Str) := (x_self.orders.map fun y1 => y1)
def ok_Panel_rows_0 (x_self : PanelD) : Prop := True
def m_Panel_rows (x_self : PanelD) : List (List Str) := m_Panel_rows_0 x_self
def ok_Panel_rows (x_self : PanelD) : Prop := ok_Panel_rows_0 x_self
theorem h_Panel_rows (T : Tx K mg) : HasF P w K mg base (He.ma K (He.ga K "Panel") "rows") 1 ["self"] (SpN kO (fun (a : PanelD × Unit) => ok_Panel_rows a.1) (fun a => m_Panel_rows a.1)) := by
  have sc : FnScope N_Panel_rows ["self"] (defScope s_Panel_rows) := ⟨rfl, rfl, rfl, by decide +kernel, rfl, by decide +kernel, by decide +kernel⟩
  refine hasF_O (d_Panel_rows T) sc (fun _ _ _ _ _ _ us hl => match us, hl with | [_], _ => rfl) (by rintro a G vs ⟨v_self, _, rfl, r_self, rfl⟩; rfl) ?_
  rintro X ⟨cdv, AA, outer, ss, HH, EE, rfl⟩ hr B vs ⟨x_self, ⟨⟩⟩ G0 hB ⟨v_self, _, rfl, r_self, rfl⟩ hok
  replace hok : ok_Panel_rows_0 x_self := hok
  show SJ B _ _ [some v_self, none] G0 [] (JO B []) (m_Panel_rows_0 x_self)
  exact sb_retO 0 (DO.so (do_lc (lc_map (fun y1 => y1) sc.nd rfl (di_list (de_panel_orders (c_Panel T) (n_Panel_orders T) (de_var 0 r_self))) (blkOk_by (own := [("row", 1)]) (N := N_Panel_rows) (sc := _) (by first | decide +kernel | rfl)) rfl (dg_name sc.nd) (by intro i_ y1 σ_ G_ hy_ eG_ hT_; obtain ⟨v_y1, q_y1, rfl⟩ := hT_; have r_self := Rep.mono eG_ r_self; intro Y_ hY_; have hr := InBlk.room hY_ hr; obtain ⟨⟨s_, H_, C_, cl_, fp_, rfl⟩⟩ := hY_; exact DO.de (do_listOf (b_list T) (de_var 1 q_y1)))))) (by first | exact Nat.zero_le _ | simp)

abbrev N_Panel___len__ : List Str := ["self"]
def m_Panel___len___0 (x_self : PanelD) : Int := (x_self.orders.length : Int)
def ok_Panel___len___0 (x_self : PanelD) : Prop := True
def m_Panel___len__ (x_self : PanelD) : Int := m_Panel___len___0 x_self
def ok_Panel___len__ (x_self : PanelD) : Prop := ok_Panel___len___0 x_self
theorem h_Panel___len__ (T : Tx K mg) : HasE P w K mg base (He.ma K (He.ga K "Panel") "__len__") 1 ["self"] (SpN kD (fun (a : PanelD × Unit) => ok_Panel___len__ a.1) (fun a => m_Panel___len__ a.1)) := by
  have sc : FnScope N_Panel___len__ ["self"] (defScope s_Panel___len__) := ⟨rfl, rfl, rfl, by decide +kernel, rfl, by decide +kernel, by decide +kernel⟩
  refine hasE_D (d_Panel___len__ T) sc (fun _ _ _ _ _ _ us hl => match us, hl with | [_], _ => rfl) (by rintro a G vs ⟨v_self, _, rfl, r_self, rfl⟩; rfl) ?_
  rintro X ⟨cdv, AA, outer, ss, HH, EE, rfl⟩ hr B vs ⟨x_self, ⟨⟩⟩ G0 hB ⟨v_self, _, rfl, r_self, rfl⟩ hok
  replace hok : ok_Panel___len___0 x_self := hok
  show SJ B _ _ [some v_self] G0 [] (JD B []) (m_Panel___len___0 x_self)
  exact sb_ret 0 (DE.se (de_lenI (b_len T) (de_panel_orders (c_Panel T) (n_Panel_orders T) (de_var 0 r_self))))

abbrev N_places : List Str := ["panel", "entry", "spots"]
def m_places_2 (x_panel : PanelD) (x_entry : Str) : List Int := (x_panel.spots.map fun y1 => (dgetD y1 x_entry))
def ok_places_2 (x_panel : PanelD) (x_entry : Str) : Prop := (∀ y1 ∈ x_panel.spots, ((dget y1 x_entry).isSome = true)) ∧ True
def m_places_1 (x_panel : PanelD) (x_entry : Str) : List Int := m_places_2 x_panel x_entry
def ok_places_1 (x_panel : PanelD) (x_entry : Str) : Prop := (ok_check_entry x_entry x_panel.names) ∧ ok_places_2 x_panel x_entry
def m_places_0 (x_panel : PanelD) (x_entry : Str) : List Int := m_places_1 x_panel x_entry
def ok_places_0 (x_panel : PanelD) (x_entry : Str) : Prop := (ok_check_panel x_panel) ∧ ok_places_1 x_panel x_entry
def m_places (x_panel : PanelD) (x_entry : Str) : List Int := m_places_0 x_panel x_entry
def ok_places (x_panel : PanelD) (x_entry : Str) : Prop := ok_places_0 x_panel x_entry
theorem h_places (T : Tx K mg) : Has P w K mg base "places" (He.ga K "places") 4 ["panel", "entry"] (SpN kO (fun (a : PanelD × Str × Unit) => ok_places a.1 a.2.1) (fun a => m_places a.1 a.2.1)) := by
  have sc : FnScope N_places ["panel", "entry"] (defScope s_places) := ⟨rfl, rfl, rfl, by decide +kernel, rfl, by decide +kernel, by decide +kernel⟩
  refine has_O (d_places T) (g_places T) sc (fun _ _ _ _ _ _ us hl => match us, hl with | [_, _], _ => rfl) (by rintro a G vs ⟨v_panel, _, rfl, r_panel, ⟨v_entry, _, rfl, r_entry, rfl⟩⟩; rfl) ?_
  rintro X ⟨cdv, AA, outer, ss, HH, EE, rfl⟩ hr B vs ⟨x_panel, x_entry, ⟨⟩⟩ G0 hB ⟨v_panel, _, rfl, r_panel, ⟨v_entry, _, rfl, r_entry, rfl⟩⟩ hok
  replace hok : ok_places_0 x_panel x_entry := hok
  show SJ B _ _ [some v_panel, some v_entry, none] G0 [] (JO B []) (m_places_0 x_panel x_entry)
  obtain ⟨k1, hok⟩ := hok
  refine sb_expr (DE.se (de_callZ (y := (x_panel, ())) (z := (m_check_panel x_panel)) (h_check_panel T) hr (da_cons (de_var 0 r_panel) da_nil) k1)) fun G1 e1 => ?_
  have r_panel := Rep.mono e1 r_panel
  have r_entry := Rep.mono e1 r_entry
  replace hok : ok_places_1 x_panel x_entry := hok
  show SJ B _ _ [some v_panel, some v_entry, none] G1 [] (JO B []) (m_places_0 x_panel x_entry)
  rw [show m_places_0 x_panel x_entry = m_places_1 x_panel x_entry from rfl]
  obtain ⟨k2, hok⟩ := hok
  refine sb_expr (DE.se (de_callZ (y := (x_entry, x_panel.names, ())) (z := (m_check_entry x_entry x_panel.names)) (h_check_entry T) hr (da_cons (de_var 1 r_entry) (da_cons (de_panel_names (c_Panel T) (n_Panel_names T) (de_var 0 r_panel)) da_nil)) k2)) fun G2 e2 => ?_
  have r_panel := Rep.mono e2 r_panel
  have r_entry := Rep.mono e2 r_entry
  replace hok : ok_places_2 x_panel x_entry := hok
  show SJ B _ _ [some v_panel, some v_entry, none] G2 [] (JO B []) (m_places_1 x_panel x_entry)
  rw [show m_places_1 x_panel x_entry = m_places_2 x_panel x_entry from rfl]
  obtain ⟨k4, hok⟩ := hok
  exact sb_retO 0 (DO.so (do_lc (lc_map (fun y1 => (dgetD y1 x_entry)) sc.nd rfl (di_list (de_panel_spots (c_Panel T) (n_Panel_spots T) (de_var 0 r_panel))) (blkOk_by (own := [("spots", 2)]) (N := N_places) (sc := _) (by first | decide +kernel | rfl)) rfl (dg_name sc.nd) (by intro i_ y1 σ_ G_ hy_ eG_ hT_; obtain ⟨v_y1, q_y1, rfl⟩ := hT_; have r_panel := Rep.mono eG_ r_panel; have r_entry := Rep.mono eG_ r_entry; have z_ := k4 y1 (List.mem_of_getElem? hy_); have ze_ := z_; have k3 := ze_; intro Y_ hY_; have hr := InBlk.room hY_ hr; obtain ⟨⟨s_, H_, C_, cl_, fp_, rfl⟩⟩ := hY_; exact de_dget hr.units (de_var 2 q_y1) (de_var 1 r_entry) k3)))) (by first | exact Nat.zero_le _ | simp)

abbrev N_check_steward : List Str := ["value", "panel"]
def m_check_steward_1 (x_value : Int) (x_panel : PanelD) : Unit := ()
def ok_check_steward_1 (x_value : Int) (x_panel : PanelD) : Prop := True
def m_check_steward_0 (x_value : Int) (x_panel : PanelD) : Unit := m_check_steward_1 x_value x_panel
def ok_check_steward_0 (x_value : Int) (x_panel : PanelD) : Prop := (ok_check_count x_value (0 : Int) ((x_panel.orders.length : Int) - (1 : Int))) ∧ ok_check_steward_1 x_value x_panel
def m_check_steward (x_value : Int) (x_panel : PanelD) : Unit := m_check_steward_0 x_value x_panel
def ok_check_steward (x_value : Int) (x_panel : PanelD) : Prop := ok_check_steward_0 x_value x_panel
theorem h_check_steward (T : Tx K mg) : Has P w K mg base "check_steward" (He.ga K "check_steward") 4 ["value", "panel"] (SpN kD (fun (a : Int × PanelD × Unit) => ok_check_steward a.1 a.2.1) (fun a => m_check_steward a.1 a.2.1)) := by
  have sc : FnScope N_check_steward ["value", "panel"] (defScope s_check_steward) := ⟨rfl, rfl, rfl, by decide +kernel, rfl, by decide +kernel, by decide +kernel⟩
  refine has_N (d_check_steward T) (g_check_steward T) sc (fun _ _ _ _ _ _ us hl => match us, hl with | [_, _], _ => rfl) (by rintro a G vs ⟨v_value, _, rfl, r_value, ⟨v_panel, _, rfl, r_panel, rfl⟩⟩; rfl) ?_
  rintro X ⟨cdv, AA, outer, ss, HH, EE, rfl⟩ hr B vs ⟨x_value, x_panel, ⟨⟩⟩ G0 hB ⟨v_value, _, rfl, r_value, ⟨v_panel, _, rfl, r_panel, rfl⟩⟩ hok
  replace hok : ok_check_steward_0 x_value x_panel := hok
  show SJ B _ _ [some v_value, some v_panel] G0 [] (JN B) (m_check_steward_0 x_value x_panel)
  obtain ⟨k1, hok⟩ := hok
  refine sb_expr (DE.se (de_callZ (y := (x_value, (0 : Int), ((x_panel.orders.length : Int) - (1 : Int)), ())) (z := (m_check_count x_value (0 : Int) ((x_panel.orders.length : Int) - (1 : Int)))) (h_check_count T) hr (da_cons (de_var 0 r_value) (da_cons de_int (da_cons (de_sub (de_lenI (b_len T) (de_panel_orders (c_Panel T) (n_Panel_orders T) (de_var 1 r_panel))) de_int) da_nil))) k1)) fun G1 e1 => ?_
  have r_value := Rep.mono e1 r_value
  have r_panel := Rep.mono e1 r_panel
  replace hok : ok_check_steward_1 x_value x_panel := hok
  show SJ B _ _ [some v_value, some v_panel] G1 [] (JN B) (m_check_steward_0 x_value x_panel)
  rw [show m_check_steward_0 x_value x_panel = m_check_steward_1 x_value x_panel from rfl]
  exact sb_nil fun _ _ => trivial

abbrev N_ahead : List Str := ["panel", "at", "entry"]
def m_ahead_3 (x_panel : PanelD) (x_at : Int) (x_entry : Str) : List Str := (srt (cut (getI x_panel.orders x_at) none (some (dgetD (getI x_panel.spots x_at) x_entry))))
def ok_ahead_3 (x_panel : PanelD) (x_at : Int) (x_entry : Str) : Prop := ((atI x_panel.orders x_at).isSome = true) ∧ ((atI x_panel.spots x_at).isSome = true) ∧ ((dget (getI x_panel.spots x_at) x_entry).isSome = true) ∧ ((cut (getI x_panel.orders x_at) none (some (dgetD (getI x_panel.spots x_at) x_entry))).length < 64) ∧ True
def m_ahead_2 (x_panel : PanelD) (x_at : Int) (x_entry : Str) : List Str := m_ahead_3 x_panel x_at x_entry
def ok_ahead_2 (x_panel : PanelD) (x_at : Int) (x_entry : Str) : Prop := (ok_check_entry x_entry x_panel.names) ∧ ok_ahead_3 x_panel x_at x_entry
def m_ahead_1 (x_panel : PanelD) (x_at : Int) (x_entry : Str) : List Str := m_ahead_2 x_panel x_at x_entry
def ok_ahead_1 (x_panel : PanelD) (x_at : Int) (x_entry : Str) : Prop := (ok_check_steward x_at x_panel) ∧ ok_ahead_2 x_panel x_at x_entry
def m_ahead_0 (x_panel : PanelD) (x_at : Int) (x_entry : Str) : List Str := m_ahead_1 x_panel x_at x_entry
def ok_ahead_0 (x_panel : PanelD) (x_at : Int) (x_entry : Str) : Prop := (ok_check_panel x_panel) ∧ ok_ahead_1 x_panel x_at x_entry
def m_ahead (x_panel : PanelD) (x_at : Int) (x_entry : Str) : List Str := m_ahead_0 x_panel x_at x_entry
def ok_ahead (x_panel : PanelD) (x_at : Int) (x_entry : Str) : Prop := ok_ahead_0 x_panel x_at x_entry
theorem h_ahead (T : Tx K mg) : Has P w K mg base "ahead" (He.ga K "ahead") 5 ["panel", "at", "entry"] (SpN kO (fun (a : PanelD × Int × Str × Unit) => ok_ahead a.1 a.2.1 a.2.2.1) (fun a => m_ahead a.1 a.2.1 a.2.2.1)) := by
  have sc : FnScope N_ahead ["panel", "at", "entry"] (defScope s_ahead) := ⟨rfl, rfl, rfl, by decide +kernel, rfl, by decide +kernel, by decide +kernel⟩
  refine has_O (d_ahead T) (g_ahead T) sc (fun _ _ _ _ _ _ us hl => match us, hl with | [_, _, _], _ => rfl) (by rintro a G vs ⟨v_panel, _, rfl, r_panel, ⟨v_at, _, rfl, r_at, ⟨v_entry, _, rfl, r_entry, rfl⟩⟩⟩; rfl) ?_
  rintro X ⟨cdv, AA, outer, ss, HH, EE, rfl⟩ hr B vs ⟨x_panel, x_at, x_entry, ⟨⟩⟩ G0 hB ⟨v_panel, _, rfl, r_panel, ⟨v_at, _, rfl, r_at, ⟨v_entry, _, rfl, r_entry, rfl⟩⟩⟩ hok
  replace hok : ok_ahead_0 x_panel x_at x_entry := hok
  show SJ B _ _ [some v_panel, some v_at, some v_entry] G0 [] (JO B []) (m_ahead_0 x_panel x_at x_entry)
  obtain ⟨k1, hok⟩ := hok
  refine sb_expr (DE.se (de_callZ (y := (x_panel, ())) (z := (m_check_panel x_panel)) (h_check_panel T) hr (da_cons (de_var 0 r_panel) da_nil) k1)) fun G1 e1 => ?_
  have r_panel := Rep.mono e1 r_panel
  have r_at := Rep.mono e1 r_at
  have r_entry := Rep.mono e1 r_entry
  replace hok : ok_ahead_1 x_panel x_at x_entry := hok
  show SJ B _ _ [some v_panel, some v_at, some v_entry] G1 [] (JO B []) (m_ahead_0 x_panel x_at x_entry)
  rw [show m_ahead_0 x_panel x_at x_entry = m_ahead_1 x_panel x_at x_entry from rfl]
  obtain ⟨k2, hok⟩ := hok
  refine sb_expr (DE.se (de_callZ (y := (x_at, x_panel, ())) (z := (m_check_steward x_at x_panel)) (h_check_steward T) hr (da_cons (de_var 1 r_at) (da_cons (de_var 0 r_panel) da_nil)) k2)) fun G2 e2 => ?_
  have r_panel := Rep.mono e2 r_panel
  have r_at := Rep.mono e2 r_at
  have r_entry := Rep.mono e2 r_entry
  replace hok : ok_ahead_2 x_panel x_at x_entry := hok
  show SJ B _ _ [some v_panel, some v_at, some v_entry] G2 [] (JO B []) (m_ahead_1 x_panel x_at x_entry)
  rw [show m_ahead_1 x_panel x_at x_entry = m_ahead_2 x_panel x_at x_entry from rfl]
  obtain ⟨k3, hok⟩ := hok
  refine sb_expr (DE.se (de_callZ (y := (x_entry, x_panel.names, ())) (z := (m_check_entry x_entry x_panel.names)) (h_check_entry T) hr (da_cons (de_var 2 r_entry) (da_cons (de_panel_names (c_Panel T) (n_Panel_names T) (de_var 0 r_panel)) da_nil)) k3)) fun G3 e3 => ?_
  have r_panel := Rep.mono e3 r_panel
  have r_at := Rep.mono e3 r_at
  have r_entry := Rep.mono e3 r_entry
  replace hok : ok_ahead_3 x_panel x_at x_entry := hok
  show SJ B _ _ [some v_panel, some v_at, some v_entry] G3 [] (JO B []) (m_ahead_2 x_panel x_at x_entry)
  rw [show m_ahead_2 x_panel x_at x_entry = m_ahead_3 x_panel x_at x_entry from rfl]
  obtain ⟨k4, k5, k6, k7, hok⟩ := hok
  exact sb_retO 0 (DO.so (do_sorted (b_sorted T) (DO.de (do_slice (de_ixI (de_panel_orders (c_Panel T) (n_Panel_orders T) (de_var 0 r_panel)) (de_var 1 r_at) k4) dp_none (dp_some (de_dget hr.units (de_ixI (de_panel_spots (c_Panel T) (n_Panel_spots T) (de_var 0 r_panel)) (de_var 1 r_at) k5) (de_var 2 r_entry) k6)))) k7)) (by first | exact Nat.zero_le _ | simp)

abbrev N_named : List Str := ["panel", "at", "field"]
def m_named_3 (x_panel : PanelD) (x_at : Int) (x_field : List Str) : Str := (m_first_of (getI x_panel.spots x_at) x_field)
def ok_named_3 (x_panel : PanelD) (x_at : Int) (x_field : List Str) : Prop := ((atI x_panel.spots x_at).isSome = true) ∧ (ok_first_of (getI x_panel.spots x_at) x_field) ∧ True
def m_named_2 (x_panel : PanelD) (x_at : Int) (x_field : List Str) : Str := m_named_3 x_panel x_at x_field
def ok_named_2 (x_panel : PanelD) (x_at : Int) (x_field : List Str) : Prop := (ok_check_field x_field x_panel.names) ∧ ok_named_3 x_panel x_at x_field
def m_named_1 (x_panel : PanelD) (x_at : Int) (x_field : List Str) : Str := m_named_2 x_panel x_at x_field
def ok_named_1 (x_panel : PanelD) (x_at : Int) (x_field : List Str) : Prop := (ok_check_steward x_at x_panel) ∧ ok_named_2 x_panel x_at x_field
def m_named_0 (x_panel : PanelD) (x_at : Int) (x_field : List Str) : Str := m_named_1 x_panel x_at x_field
def ok_named_0 (x_panel : PanelD) (x_at : Int) (x_field : List Str) : Prop := (ok_check_panel x_panel) ∧ ok_named_1 x_panel x_at x_field
def m_named (x_panel : PanelD) (x_at : Int) (x_field : List Str) : Str := m_named_0 x_panel x_at x_field
def ok_named (x_panel : PanelD) (x_at : Int) (x_field : List Str) : Prop := ok_named_0 x_panel x_at x_field
theorem h_named (T : Tx K mg) : Has P w K mg base "named" (He.ga K "named") 7 ["panel", "at", "field"] (SpN kD (fun (a : PanelD × Int × (List Str) × Unit) => ok_named a.1 a.2.1 a.2.2.1) (fun a => m_named a.1 a.2.1 a.2.2.1)) := by
  have sc : FnScope N_named ["panel", "at", "field"] (defScope s_named) := ⟨rfl, rfl, rfl, by decide +kernel, rfl, by decide +kernel, by decide +kernel⟩
  refine has_D (d_named T) (g_named T) sc (fun _ _ _ _ _ _ us hl => match us, hl with | [_, _, _], _ => rfl) (by rintro a G vs ⟨v_panel, _, rfl, r_panel, ⟨v_at, _, rfl, r_at, ⟨v_field, _, rfl, r_field, rfl⟩⟩⟩; rfl) ?_
  rintro X ⟨cdv, AA, outer, ss, HH, EE, rfl⟩ hr B vs ⟨x_panel, x_at, x_field, ⟨⟩⟩ G0 hB ⟨v_panel, _, rfl, r_panel, ⟨v_at, _, rfl, r_at, ⟨v_field, _, rfl, r_field, rfl⟩⟩⟩ hok
  replace hok : ok_named_0 x_panel x_at x_field := hok
  show SJ B _ _ [some v_panel, some v_at, some v_field] G0 [] (JD B []) (m_named_0 x_panel x_at x_field)
  obtain ⟨k1, hok⟩ := hok
  refine sb_expr (DE.se (de_callZ (y := (x_panel, ())) (z := (m_check_panel x_panel)) (h_check_panel T) hr (da_cons (de_var 0 r_panel) da_nil) k1)) fun G1 e1 => ?_
  have r_panel := Rep.mono e1 r_panel
  have r_at := Rep.mono e1 r_at
  have r_field := Rep.mono e1 r_field
  replace hok : ok_named_1 x_panel x_at x_field := hok
  show SJ B _ _ [some v_panel, some v_at, some v_field] G1 [] (JD B []) (m_named_0 x_panel x_at x_field)
  rw [show m_named_0 x_panel x_at x_field = m_named_1 x_panel x_at x_field from rfl]
  obtain ⟨k2, hok⟩ := hok
  refine sb_expr (DE.se (de_callZ (y := (x_at, x_panel, ())) (z := (m_check_steward x_at x_panel)) (h_check_steward T) hr (da_cons (de_var 1 r_at) (da_cons (de_var 0 r_panel) da_nil)) k2)) fun G2 e2 => ?_
  have r_panel := Rep.mono e2 r_panel
  have r_at := Rep.mono e2 r_at
  have r_field := Rep.mono e2 r_field
  replace hok : ok_named_2 x_panel x_at x_field := hok
  show SJ B _ _ [some v_panel, some v_at, some v_field] G2 [] (JD B []) (m_named_1 x_panel x_at x_field)
  rw [show m_named_1 x_panel x_at x_field = m_named_2 x_panel x_at x_field from rfl]
  obtain ⟨k3, hok⟩ := hok
  refine sb_expr (DE.se (de_callZ (y := (x_field, x_panel.names, ())) (z := (m_check_field x_field x_panel.names)) (h_check_field T) hr (da_cons (de_var 2 r_field) (da_cons (de_panel_names (c_Panel T) (n_Panel_names T) (de_var 0 r_panel)) da_nil)) k3)) fun G3 e3 => ?_
  have r_panel := Rep.mono e3 r_panel
  have r_at := Rep.mono e3 r_at
  have r_field := Rep.mono e3 r_field
  replace hok : ok_named_3 x_panel x_at x_field := hok
  show SJ B _ _ [some v_panel, some v_at, some v_field] G3 [] (JD B []) (m_named_2 x_panel x_at x_field)
  rw [show m_named_2 x_panel x_at x_field = m_named_3 x_panel x_at x_field from rfl]
  obtain ⟨k4, k5, hok⟩ := hok
  exact sb_ret 0 (DE.se (de_callZ (y := ((getI x_panel.spots x_at), x_field, ())) (z := (m_first_of (getI x_panel.spots x_at) x_field)) (h_first_of T) hr (da_cons (de_ixI (de_panel_spots (c_Panel T) (n_Panel_spots T) (de_var 0 r_panel)) (de_var 1 r_at) k4) (da_cons (de_var 2 r_field) da_nil)) k5))

abbrev N_who : List Str := ["panel", "field", "entry", "at", "spots"]
def m_who_3 (x_panel : PanelD) (x_field : List Str) (x_entry : Str) : List Int := (((enumI x_panel.spots).filter fun y1 => decide ((m_first_of y1.2 x_field) = x_entry)).map fun y1 => y1.1)
def ok_who_3 (x_panel : PanelD) (x_field : List Str) (x_entry : Str) : Prop := (∀ y1 ∈ (enumI x_panel.spots), (ok_first_of y1.2 x_field)) ∧ True
def m_who_2 (x_panel : PanelD) (x_field : List Str) (x_entry : Str) : List Int := m_who_3 x_panel x_field x_entry
def ok_who_2 (x_panel : PanelD) (x_field : List Str) (x_entry : Str) : Prop := (ok_check_entry x_entry x_panel.names) ∧ ok_who_3 x_panel x_field x_entry
def m_who_1 (x_panel : PanelD) (x_field : List Str) (x_entry : Str) : List Int := m_who_2 x_panel x_field x_entry
def ok_who_1 (x_panel : PanelD) (x_field : List Str) (x_entry : Str) : Prop := (ok_check_field x_field x_panel.names) ∧ ok_who_2 x_panel x_field x_entry
def m_who_0 (x_panel : PanelD) (x_field : List Str) (x_entry : Str) : List Int := m_who_1 x_panel x_field x_entry
def ok_who_0 (x_panel : PanelD) (x_field : List Str) (x_entry : Str) : Prop := (ok_check_panel x_panel) ∧ ok_who_1 x_panel x_field x_entry
def m_who (x_panel : PanelD) (x_field : List Str) (x_entry : Str) : List Int := m_who_0 x_panel x_field x_entry
def ok_who (x_panel : PanelD) (x_field : List Str) (x_entry : Str) : Prop := ok_who_0 x_panel x_field x_entry
theorem h_who (T : Tx K mg) : Has P w K mg base "who" (He.ga K "who") 7 ["panel", "field", "entry"] (SpN kO (fun (a : PanelD × (List Str) × Str × Unit) => ok_who a.1 a.2.1 a.2.2.1) (fun a => m_who a.1 a.2.1 a.2.2.1)) := by
  have sc : FnScope N_who ["panel", "field", "entry"] (defScope s_who) := ⟨rfl, rfl, rfl, by decide +kernel, rfl, by decide +kernel, by decide +kernel⟩
  refine has_O (d_who T) (g_who T) sc (fun _ _ _ _ _ _ us hl => match us, hl with | [_, _, _], _ => rfl) (by rintro a G vs ⟨v_panel, _, rfl, r_panel, ⟨v_field, _, rfl, r_field, ⟨v_entry, _, rfl, r_entry, rfl⟩⟩⟩; rfl) ?_
  rintro X ⟨cdv, AA, outer, ss, HH, EE, rfl⟩ hr B vs ⟨x_panel, x_field, x_entry, ⟨⟩⟩ G0 hB ⟨v_panel, _, rfl, r_panel, ⟨v_field, _, rfl, r_field, ⟨v_entry, _, rfl, r_entry, rfl⟩⟩⟩ hok
  replace hok : ok_who_0 x_panel x_field x_entry := hok
  show SJ B _ _ [some v_panel, some v_field, some v_entry, none, none] G0 [] (JO B []) (m_who_0 x_panel x_field x_entry)
  obtain ⟨k1, hok⟩ := hok
  refine sb_expr (DE.se (de_callZ (y := (x_panel, ())) (z := (m_check_panel x_panel)) (h_check_panel T) hr (da_cons (de_var 0 r_panel) da_nil) k1)) fun G1 e1 => ?_
  have r_panel := Rep.mono e1 r_panel
  have r_field := Rep.mono e1 r_field
  have r_entry := Rep.mono e1 r_entry
  replace hok : ok_who_1 x_panel x_field x_entry := hok
  show SJ B _ _ [some v_panel, some v_field, some v_entry, none, none] G1 [] (JO B []) (m_who_0 x_panel x_field x_entry)
  rw [show m_who_0 x_panel x_field x_entry = m_who_1 x_panel x_field x_entry from rfl]
  obtain ⟨k2, hok⟩ := hok
  refine sb_expr (DE.se (de_callZ (y := (x_field, x_panel.names, ())) (z := (m_check_field x_field x_panel.names)) (h_check_field T) hr (da_cons (de_var 1 r_field) (da_cons (de_panel_names (c_Panel T) (n_Panel_names T) (de_var 0 r_panel)) da_nil)) k2)) fun G2 e2 => ?_
  have r_panel := Rep.mono e2 r_panel
  have r_field := Rep.mono e2 r_field
  have r_entry := Rep.mono e2 r_entry
  replace hok : ok_who_2 x_panel x_field x_entry := hok
  show SJ B _ _ [some v_panel, some v_field, some v_entry, none, none] G2 [] (JO B []) (m_who_1 x_panel x_field x_entry)
  rw [show m_who_1 x_panel x_field x_entry = m_who_2 x_panel x_field x_entry from rfl]
  obtain ⟨k3, hok⟩ := hok
  refine sb_expr (DE.se (de_callZ (y := (x_entry, x_panel.names, ())) (z := (m_check_entry x_entry x_panel.names)) (h_check_entry T) hr (da_cons (de_var 2 r_entry) (da_cons (de_panel_names (c_Panel T) (n_Panel_names T) (de_var 0 r_panel)) da_nil)) k3)) fun G3 e3 => ?_
  have r_panel := Rep.mono e3 r_panel
  have r_field := Rep.mono e3 r_field
  have r_entry := Rep.mono e3 r_entry
  replace hok : ok_who_3 x_panel x_field x_entry := hok
  show SJ B _ _ [some v_panel, some v_field, some v_entry, none, none] G3 [] (JO B []) (m_who_2 x_panel x_field x_entry)
  rw [show m_who_2 x_panel x_field x_entry = m_who_3 x_panel x_field x_entry from rfl]
  obtain ⟨k5, hok⟩ := hok
  exact sb_retO 0 (DO.so (do_lc (lc_mk (fun y1 => decide ((m_first_of y1.2 x_field) = x_entry)) (fun y1 => y1.1) sc.nd rfl (di_enumI (b_enumerate T) (de_panel_spots (c_Panel T) (n_Panel_spots T) (de_var 0 r_panel))) (blkOk_by (own := [("at", 3), ("spots", 4)]) (N := N_who) (sc := _) (by first | decide +kernel | rfl)) rfl (dg_pair sc.nd rfl) (by intro i_ y1 σ_ G_ hy_ eG_ hT_; obtain ⟨v_y11, v_y12, q_y11, q_y12, rfl⟩ := hT_; have r_panel := Rep.mono eG_ r_panel; have r_field := Rep.mono eG_ r_field; have r_entry := Rep.mono eG_ r_entry; have z_ := k5 y1 (List.mem_of_getElem? hy_); have k4 := z_; intro Y_ hY_; have hr := InBlk.room hY_ hr; obtain ⟨⟨s_, H_, C_, cl_, fp_, rfl⟩⟩ := hY_; exact df_one (DC.dt (dc_eq hr.units (de_callZ (y := (y1.2, x_field, ())) (z := (m_first_of y1.2 x_field)) (h_first_of T) hr (da_cons (de_var 4 q_y12) (da_cons (de_var 1 r_field) da_nil)) k4) (de_var 2 r_entry)))) (by intro i_ y1 σ_ G_ hy_ eG_ hT_ hf_; obtain ⟨v_y11, v_y12, q_y11, q_y12, rfl⟩ := hT_; have r_panel := Rep.mono eG_ r_panel; have r_field := Rep.mono eG_ r_field; have r_entry := Rep.mono eG_ r_entry; have z_ := k5 y1 (List.mem_of_getElem? hy_); have k4 := z_; intro Y_ hY_; have hr := InBlk.room hY_ hr; obtain ⟨⟨s_, H_, C_, cl_, fp_, rfl⟩⟩ := hY_; exact de_var 3 q_y11)))) (by first | exact Nat.zero_le _ | simp)

abbrev N__law_panel_is : List Str := ["panel", "names", "rows", "name", "field", "firsts", "row", "spot"]
def m__law_panel_is_1 (x_panel : PanelD) (x_names : List Str) (x_rows : List (List Str)) : Bool := false
def ok__law_panel_is_1 (x_panel : PanelD) (x_names : List Str) (x_rows : List (List Str)) : Prop := True
def m__law_panel_is_4 (x_panel : PanelD) (x_names : List Str) (x_rows : List (List Str)) (x_name : Str) : (Bool) ⊕ (Unit) := .inl (false)
def ok__law_panel_is_4 (x_panel : PanelD) (x_names : List Str) (x_rows : List (List Str)) (x_name : Str) : Prop := True
def m__law_panel_is_6 (x_panel : PanelD) (x_names : List Str) (x_rows : List (List Str)) (x_name : Str) : (Bool) ⊕ (Unit) := .inl (false)
def ok__law_panel_is_6 (x_panel : PanelD) (x_names : List Str) (x_rows : List (List Str)) (x_name : Str) : Prop := True
def m__law_panel_is_7 (x_panel : PanelD) (x_names : List Str) (x_rows : List (List Str)) (x_name : Str) : (Bool) ⊕ (Unit) := .inr ()
def ok__law_panel_is_7 (x_panel : PanelD) (x_names : List Str) (x_rows : List (List Str)) (x_name : Str) : Prop := True
def m__law_panel_is_5 (x_panel : PanelD) (x_names : List Str) (x_rows : List (List Str)) (x_name : Str) : (Bool) ⊕ (Unit) := if (!decide ((x_rows.map fun y4 => (srt (cut y4 none (some (lidx y4 x_name))))) = ((irange (x_rows.length : Int)).map fun y5 => (m_ahead x_panel y5 x_name)))) = true then m__law_panel_is_6 x_panel x_names x_rows x_name else m__law_panel_is_7 x_panel x_names x_rows x_name
def ok__law_panel_is_5 (x_panel : PanelD) (x_names : List Str) (x_rows : List (List Str)) (x_name : Str) : Prop := (∀ y4 ∈ x_rows, ((x_name ∈ y4) ∧ ((cut y4 none (some (lidx y4 x_name))).length < 64))) ∧ (-(2 ^ 24) ≤ (x_rows.length : Int) ∧ (x_rows.length : Int) ≤ 2 ^ 24) ∧ (∀ y5 ∈ (irange (x_rows.length : Int)), (ok_ahead x_panel y5 x_name)) ∧ ((!decide ((x_rows.map fun y4 => (srt (cut y4 none (some (lidx y4 x_name))))) = ((irange (x_rows.length : Int)).map fun y5 => (m_ahead x_panel y5 x_name)))) = true → ok__law_panel_is_6 x_panel x_names x_rows x_name) ∧ ((!decide ((x_rows.map fun y4 => (srt (cut y4 none (some (lidx y4 x_name))))) = ((irange (x_rows.length : Int)).map fun y5 => (m_ahead x_panel y5 x_name)))) = false → ok__law_panel_is_7 x_panel x_names x_rows x_name)
def m__law_panel_is_3 (x_panel : PanelD) (x_names : List Str) (x_rows : List (List Str)) (x_name : Str) : (Bool) ⊕ (Unit) := if (!decide ((reprD (x_rows.map fun y2 => (lidx y2 x_name))) = (reprD (m_places x_panel x_name)))) = true then m__law_panel_is_4 x_panel x_names x_rows x_name else m__law_panel_is_5 x_panel x_names x_rows x_name
def ok__law_panel_is_3 (x_panel : PanelD) (x_names : List Str) (x_rows : List (List Str)) (x_name : Str) : Prop := (∀ y2 ∈ x_rows, (x_name ∈ y2)) ∧ (RepOk (x_rows.map fun y2 => (lidx y2 x_name))) ∧ (ok_places x_panel x_name) ∧ (RepOk (m_places x_panel x_name)) ∧ ((!decide ((reprD (x_rows.map fun y2 => (lidx y2 x_name))) = (reprD (m_places x_panel x_name)))) = true → ok__law_panel_is_4 x_panel x_names x_rows x_name) ∧ ((!decide ((reprD (x_rows.map fun y2 => (lidx y2 x_name))) = (reprD (m_places x_panel x_name)))) = false → ok__law_panel_is_5 x_panel x_names x_rows x_name)
def m__law_panel_is_11 (x_panel : PanelD) (x_names : List Str) (x_rows : List (List Str)) (x_field : List Str) (x_firsts : List Str) : (Bool) ⊕ (Unit) := .inl (false)
def ok__law_panel_is_11 (x_panel : PanelD) (x_names : List Str) (x_rows : List (List Str)) (x_field : List Str) (x_firsts : List Str) : Prop := True
def m__law_panel_is_13 (x_panel : PanelD) (x_names : List Str) (x_rows : List (List Str)) (x_field : List Str) (x_firsts : List Str) : (Bool) ⊕ (Unit) := .inl (false)
def ok__law_panel_is_13 (x_panel : PanelD) (x_names : List Str) (x_rows : List (List Str)) (x_field : List Str) (x_firsts : List Str) : Prop := True
def m__law_panel_is_14 (x_panel : PanelD) (x_names : List Str) (x_rows : List (List Str)) (x_field : List Str) (x_firsts : List Str) : (Bool) ⊕ (Unit) := .inr ()
def ok__law_panel_is_14 (x_panel : PanelD) (x_names : List Str) (x_rows : List (List Str)) (x_field : List Str) (x_firsts : List Str) : Prop := True
def m__law_panel_is_12 (x_panel : PanelD) (x_names : List Str) (x_rows : List (List Str)) (x_field : List Str) (x_firsts : List Str) : (Bool) ⊕ (Unit) := if (!decide (((irange (x_rows.length : Int)).filter fun y11 => decide ((getI x_firsts y11) = (getI x_field (-(1 : Int))))) = (m_who x_panel x_field (getI x_field (-(1 : Int)))))) = true then m__law_panel_is_13 x_panel x_names x_rows x_field x_firsts else m__law_panel_is_14 x_panel x_names x_rows x_field x_firsts
def ok__law_panel_is_12 (x_panel : PanelD) (x_names : List Str) (x_rows : List (List Str)) (x_field : List Str) (x_firsts : List Str) : Prop := (-(2 ^ 24) ≤ (x_rows.length : Int) ∧ (x_rows.length : Int) ≤ 2 ^ 24) ∧ (∀ y11 ∈ (irange (x_rows.length : Int)), ((atI x_firsts y11).isSome = true) ∧ ((atI x_field (-(1 : Int))).isSome = true)) ∧ ((atI x_field (-(1 : Int))).isSome = true) ∧ (ok_who x_panel x_field (getI x_field (-(1 : Int)))) ∧ ((!decide (((irange (x_rows.length : Int)).filter fun y11 => decide ((getI x_firsts y11) = (getI x_field (-(1 : Int))))) = (m_who x_panel x_field (getI x_field (-(1 : Int)))))) = true → ok__law_panel_is_13 x_panel x_names x_rows x_field x_firsts) ∧ ((!decide (((irange (x_rows.length : Int)).filter fun y11 => decide ((getI x_firsts y11) = (getI x_field (-(1 : Int))))) = (m_who x_panel x_field (getI x_field (-(1 : Int)))))) = false → ok__law_panel_is_14 x_panel x_names x_rows x_field x_firsts)
def m__law_panel_is_10 (x_panel : PanelD) (x_names : List Str) (x_rows : List (List Str)) (x_field : List Str) (x_firsts : List Str) : (Bool) ⊕ (Unit) := if (!decide (((irange (x_rows.length : Int)).map fun y9 => (m_named x_panel y9 x_field)) = x_firsts)) = true then m__law_panel_is_11 x_panel x_names x_rows x_field x_firsts else m__law_panel_is_12 x_panel x_names x_rows x_field x_firsts
def ok__law_panel_is_10 (x_panel : PanelD) (x_names : List Str) (x_rows : List (List Str)) (x_field : List Str) (x_firsts : List Str) : Prop := (-(2 ^ 24) ≤ (x_rows.length : Int) ∧ (x_rows.length : Int) ≤ 2 ^ 24) ∧ (∀ y9 ∈ (irange (x_rows.length : Int)), (ok_named x_panel y9 x_field)) ∧ ((!decide (((irange (x_rows.length : Int)).map fun y9 => (m_named x_panel y9 x_field)) = x_firsts)) = true → ok__law_panel_is_11 x_panel x_names x_rows x_field x_firsts) ∧ ((!decide (((irange (x_rows.length : Int)).map fun y9 => (m_named x_panel y9 x_field)) = x_firsts)) = false → ok__law_panel_is_12 x_panel x_names x_rows x_field x_firsts)
def m__law_panel_is_9 (x_panel : PanelD) (x_names : List Str) (x_rows : List (List Str)) (x_field : List Str) : (Bool) ⊕ (Unit) := m__law_panel_is_10 x_panel x_names x_rows x_field (x_rows.map fun y7 => (getI (y7.filter fun y8 => decide (y8 ∈ x_field)) (0 : Int)))
def ok__law_panel_is_9 (x_panel : PanelD) (x_names : List Str) (x_rows : List (List Str)) (x_field : List Str) : Prop := (∀ y7 ∈ x_rows, ((atI (y7.filter fun y8 => decide (y8 ∈ x_field)) (0 : Int)).isSome = true)) ∧ ok__law_panel_is_10 x_panel x_names x_rows x_field (x_rows.map fun y7 => (getI (y7.filter fun y8 => decide (y8 ∈ x_field)) (0 : Int)))
def m__law_panel_is_15 (x_panel : PanelD) (x_names : List Str) (x_rows : List (List Str)) : Bool := true
def ok__law_panel_is_15 (x_panel : PanelD) (x_names : List Str) (x_rows : List (List Str)) : Prop := True
def m__law_panel_is_8 (x_panel : PanelD) (x_names : List Str) (x_rows : List (List Str)) : Bool := elimR (loopR (fun (s : Unit) (y : List Str) => m__law_panel_is_9 x_panel x_names x_rows y) ([(srt x_names), (cut (srt x_names) none (some (2 : Int))), (cut (srt x_names) (some (-(1 : Int))) none)] : List (List Str)) ()) (fun (r : Bool) => (id r : Bool)) (fun (s : Unit) => m__law_panel_is_15 x_panel x_names x_rows)
def ok__law_panel_is_8 (x_panel : PanelD) (x_names : List Str) (x_rows : List (List Str)) : Prop := (x_names.length < 64) ∧ (x_names.length < 64) ∧ (x_names.length < 64) ∧ (loopOk (fun (s : Unit) (y : List Str) => m__law_panel_is_9 x_panel x_names x_rows y) (fun (s : Unit) (y : List Str) => ok__law_panel_is_9 x_panel x_names x_rows y) ([(srt x_names), (cut (srt x_names) none (some (2 : Int))), (cut (srt x_names) (some (-(1 : Int))) none)] : List (List Str)) ()) ∧ ∀ s : Unit, loopR (fun (s : Unit) (y : List Str) => m__law_panel_is_9 x_panel x_names x_rows y) ([(srt x_names), (cut (srt x_names) none (some (2 : Int))), (cut (srt x_names) (some (-(1 : Int))) none)] : List (List Str)) () = .inr s → ok__law_panel_is_15 x_panel x_names x_rows
def m__law_panel_is_2 (x_panel : PanelD) (x_names : List Str) (x_rows : List (List Str)) : Bool := elimR (loopR (fun (s : Unit) (y : Str) => m__law_panel_is_3 x_panel x_names x_rows y) x_names ()) (fun (r : Bool) => (id r : Bool)) (fun (s : Unit) => m__law_panel_is_8 x_panel x_names x_rows)
def ok__law_panel_is_2 (x_panel : PanelD) (x_names : List Str) (x_rows : List (List Str)) : Prop := (loopOk (fun (s : Unit) (y : Str) => m__law_panel_is_3 x_panel x_names x_rows y) (fun (s : Unit) (y : Str) => ok__law_panel_is_3 x_panel x_names x_rows y) x_names ()) ∧ ∀ s : Unit, loopR (fun (s : Unit) (y : Str) => m__law_panel_is_3 x_panel x_names x_rows y) x_names () = .inr s → ok__law_panel_is_8 x_panel x_names x_rows
def m__law_panel_is_0 (x_panel : PanelD) (x_names : List Str) (x_rows : List (List Str)) : Bool := if (!decide ((reprD (Het.mk ((m_Panel_entries x_panel), (m_Panel_rows x_panel), (m_Panel___len__ x_panel), ()))) = (reprD (Het.mk ((srt x_names), x_rows, (x_rows.length : Int), ()))))) = true then m__law_panel_is_1 x_panel x_names x_rows else m__law_panel_is_2 x_panel x_names x_rows
def ok__law_panel_is_0 (x_panel : PanelD) (x_names : List Str) (x_rows : List (List Str)) : Prop := (ok_Panel_entries x_panel) ∧ (ok_Panel_rows x_panel) ∧ (ok_Panel___len__ x_panel ∧ (0 : Int) ≤ (m_Panel___len__ x_panel) ∧ (m_Panel___len__ x_panel) < 2 ^ 63) ∧ (RepOk (Het.mk ((m_Panel_entries x_panel), (m_Panel_rows x_panel), (m_Panel___len__ x_panel), ()))) ∧ (x_names.length < 64) ∧ (RepOk (Het.mk ((srt x_names), x_rows, (x_rows.length : Int), ()))) ∧ ((!decide ((reprD (Het.mk ((m_Panel_entries x_panel), (m_Panel_rows x_panel), (m_Panel___len__ x_panel), ()))) = (reprD (Het.mk ((srt x_names), x_rows, (x_rows.length : Int), ()))))) = true → ok__law_panel_is_1 x_panel x_names x_rows) ∧ ((!decide ((reprD (Het.mk ((m_Panel_entries x_panel), (m_Panel_rows x_panel), (m_Panel___len__ x_panel), ()))) = (reprD (Het.mk ((srt x_names), x_rows, (x_rows.length : Int), ()))))) = false → ok__law_panel_is_2 x_panel x_names x_rows)
def m__law_panel_is (x_panel : PanelD) (x_names : List Str) (x_rows : List (List Str)) : Bool := m__law_panel_is_0 x_panel x_names x_rows
def ok__law_panel_is (x_panel : PanelD) (x_names : List Str) (x_rows : List (List Str)) : Prop := ok__law_panel_is_0 x_panel x_names x_rows
theorem h__law_panel_is (T : Tx K mg) : Has P w K mg base "_law_panel_is" (He.ga K "_law_panel_is") 8 ["panel", "names", "rows"] (SpN kD (fun (a : PanelD × (List Str) × (List (List Str)) × Unit) => ok__law_panel_is a.1 a.2.1 a.2.2.1) (fun a => m__law_panel_is a.1 a.2.1 a.2.2.1)) := by
  have sc : FnScope N__law_panel_is ["panel", "names", "rows"] (defScope s__law_panel_is) := ⟨rfl, rfl, rfl, by decide +kernel, rfl, by decide +kernel, by decide +kernel⟩
  refine has_D (d__law_panel_is T) (g__law_panel_is T) sc (fun _ _ _ _ _ _ us hl => match us, hl with | [_, _, _], _ => rfl) (by rintro a G vs ⟨v_panel, _, rfl, r_panel, ⟨v_names, _, rfl, r_names, ⟨v_rows, _, rfl, r_rows, rfl⟩⟩⟩; rfl) ?_
  rintro X ⟨cdv, AA, outer, ss, HH, EE, rfl⟩ hr B vs ⟨x_panel, x_names, x_rows, ⟨⟩⟩ G0 hB ⟨v_panel, _, rfl, r_panel, ⟨v_names, _, rfl, r_names, ⟨v_rows, _, rfl, r_rows, rfl⟩⟩⟩ hok
  replace hok : ok__law_panel_is_0 x_panel x_names x_rows := hok
  show SJ B _ _ [some v_panel, some v_names, some v_rows, none, none, none, none, none] G0 [] (JD B []) (m__law_panel_is_0 x_panel x_names x_rows)
  obtain ⟨k1, k2, k3, k4, k5, k6, hokA, hokB⟩ := hok
  refine sj_whenX (DT.st (DC.dt (dc_neR (de_reprG (b_repr T) hr (de_het (A := (List Str) × (List (List Str)) × Int × Unit) (da_cons (DO.de (do_methP0 (z := (m_Panel_entries x_panel)) (h_Panel_entries T) (c_Panel T) (mt_Panel_entries T) hr (de_var 0 r_panel) k1)) (da_cons (DO.de (do_methP0 (z := (m_Panel_rows x_panel)) (h_Panel_rows T) (c_Panel T) (mt_Panel_rows T) hr (de_var 0 r_panel) k2)) (da_cons (de_lenP (h_Panel___len__ T) (mt_Panel___len__ T) (b_len T) hr (de_var 0 r_panel) k3) da_nil)))) k4 ref_het) (de_reprG (b_repr T) hr (de_het (A := (List Str) × (List (List Str)) × Int × Unit) (da_cons (DO.de (do_sorted (b_sorted T) (de_var 1 r_names) k5)) (da_cons (de_var 2 r_rows) (da_cons (de_lenI (b_len T) (de_var 2 r_rows)) da_nil)))) k6 ref_het)))) (fun h1 => ?_) (fun h1 => ?_)
  · have hok := hokA h1; clear hokA hokB
    show SJ B _ _ [some v_panel, some v_names, some v_rows, none, none, none, none, none] G0 [] (JX (JD B [])) (m__law_panel_is_1 x_panel x_names x_rows)
    exact sb_ret 0 (DE.se de_bl)
  · have hok := hokB h1; clear hokA hokB
    show SJ B _ _ [some v_panel, some v_names, some v_rows, none, none, none, none, none] G0 [] (JD B []) (m__law_panel_is_2 x_panel x_names x_rows)
    obtain ⟨k33, hok⟩ := hok
    refine sj_for (inj := (fun (r : Bool) => (id r : Bool))) (Rg := fun r => ((JD B []) ((fun (r : Bool) => (id r : Bool)) r)).1) (k := fun (s : Unit) => m__law_panel_is_8 x_panel x_names x_rows) (fun (s : Unit) (σ_ : L2.St) (G_ : Hp) (C_ : Cs) => ∃ (t_name : Option V), (σ_ = [some v_panel, some v_names, some v_rows, t_name, none, none, none, none] ∧ C_ = ([] : Cs))) (fun (s : Unit) (y : Str) => m__law_panel_is_3 x_panel x_names x_rows y) (fun (s : Unit) (y : Str) => ok__law_panel_is_3 x_panel x_names x_rows y) () (di_list (de_var 1 r_names)) (sg_name 3 sc.nd) (fun G_ e_ => ⟨_, rfl, rfl⟩) (by rintro ⟨⟩ σ_ G_ G2_ C_ e_ ⟨t_name, rfl, rfl⟩; exact ⟨_, rfl, rfl⟩) k33 ?_ (fun _ _ h => h) ?_
    · rintro ⟨⟩ x_name σ_ σ2_ G1 C_ hy_ e1 ⟨t_name, rfl, rfl⟩ ⟨v_name, r_name, rfl⟩ hok
      have r_panel := Rep.mono e1 r_panel
      have r_names := Rep.mono e1 r_names
      have r_rows := Rep.mono e1 r_rows
      replace hok : ok__law_panel_is_3 x_panel x_names x_rows x_name := hok
      show SJ B _ _ [some v_panel, some v_names, some v_rows, some v_name, none, none, none, none] G1 [] (JL (fun (r : Bool) => ((JD B []) ((fun (r : Bool) => (id r : Bool)) r)).1) (fun (s : Unit) (σ_ : L2.St) (G_ : Hp) (C_ : Cs) => ∃ (t_name : Option V), (σ_ = [some v_panel, some v_names, some v_rows, t_name, none, none, none, none] ∧ C_ = ([] : Cs)))) (m__law_panel_is_3 x_panel x_names x_rows x_name)
      obtain ⟨k8, k9, k10, k11, hokA, hokB⟩ := hok
      refine sj_whenX (DT.st (DC.dt (dc_neR (de_repr (b_repr T) hr (DO.de (do_lc (lc_map (fun y2 => (lidx y2 x_name)) sc.nd rfl (di_list (de_var 2 r_rows)) (blkOk_by (own := [("row", 6)]) (N := N__law_panel_is) (sc := _) (by first | decide +kernel | rfl)) rfl (dg_name sc.nd) (by intro i_ y2 σ_ G_ hy_ eG_ hT_; obtain ⟨v_y2, q_y2, rfl⟩ := hT_; have r_panel := Rep.mono eG_ r_panel; have r_names := Rep.mono eG_ r_names; have r_rows := Rep.mono eG_ r_rows; have r_name := Rep.mono eG_ r_name; have z_ := k8 y2 (List.mem_of_getElem? hy_); have ze_ := z_; have k7 := ze_; intro Y_ hY_; have hr := InBlk.room hY_ hr; obtain ⟨⟨s_, H_, C_, cl_, fp_, rfl⟩⟩ := hY_; exact de_index (de_var 6 q_y2) (de_var 3 r_name) k7)))) k9) (de_repr (b_repr T) hr (DO.de (do_callZ (y := (x_panel, x_name, ())) (z := (m_places x_panel x_name)) (h_places T) hr (da_cons (de_var 0 r_panel) (da_cons (de_var 3 r_name) da_nil)) k10)) k11)))) (fun h3 => ?_) (fun h3 => ?_)
      · have hok := hokA h3; clear hokA hokB
        show SJ B _ _ [some v_panel, some v_names, some v_rows, some v_name, none, none, none, none] G1 [] (JX (JL (fun (r : Bool) => ((JD B []) ((fun (r : Bool) => (id r : Bool)) r)).1) (fun (s : Unit) (σ_ : L2.St) (G_ : Hp) (C_ : Cs) => ∃ (t_name : Option V), (σ_ = [some v_panel, some v_names, some v_rows, t_name, none, none, none, none] ∧ C_ = ([] : Cs))))) (m__law_panel_is_4 x_panel x_names x_rows x_name)
        exact sb_retLg (sb_ret 0 (DE.se de_bl))
      · have hok := hokB h3; clear hokA hokB
        show SJ B _ _ [some v_panel, some v_names, some v_rows, some v_name, none, none, none, none] G1 [] (JL (fun (r : Bool) => ((JD B []) ((fun (r : Bool) => (id r : Bool)) r)).1) (fun (s : Unit) (σ_ : L2.St) (G_ : Hp) (C_ : Cs) => ∃ (t_name : Option V), (σ_ = [some v_panel, some v_names, some v_rows, t_name, none, none, none, none] ∧ C_ = ([] : Cs)))) (m__law_panel_is_5 x_panel x_names x_rows x_name)
        obtain ⟨k14, k15, k17, hokA, hokB⟩ := hok
        refine sj_whenX (DT.st (DC.dt (dc_ne hr.units (DO.de (do_lc (lc_map (fun y4 => (srt (cut y4 none (some (lidx y4 x_name))))) sc.nd rfl (di_list (de_var 2 r_rows)) (blkOk_by (own := [("row", 6)]) (N := N__law_panel_is) (sc := _) (by first | decide +kernel | rfl)) rfl (dg_name sc.nd) (by intro i_ y4 σ_ G_ hy_ eG_ hT_; obtain ⟨v_y4, q_y4, rfl⟩ := hT_; have r_panel := Rep.mono eG_ r_panel; have r_names := Rep.mono eG_ r_names; have r_rows := Rep.mono eG_ r_rows; have r_name := Rep.mono eG_ r_name; have z_ := k14 y4 (List.mem_of_getElem? hy_); have ze_ := z_; obtain ⟨k12, k13⟩ := ze_; intro Y_ hY_; have hr := InBlk.room hY_ hr; obtain ⟨⟨s_, H_, C_, cl_, fp_, rfl⟩⟩ := hY_; exact DO.de (do_sorted (b_sorted T) (DO.de (do_slice (de_var 6 q_y4) dp_none (dp_some (de_index (de_var 6 q_y4) (de_var 3 r_name) k12)))) k13))))) (DO.de (do_lc (lc_map (fun y5 => (m_ahead x_panel y5 x_name)) sc.nd rfl (di_rangeI (b_range T) (de_lenI (b_len T) (de_var 2 r_rows)) k15) (blkOk_by (own := [("spot", 7)]) (N := N__law_panel_is) (sc := _) (by first | decide +kernel | rfl)) rfl (dg_name sc.nd) (by intro i_ y5 σ_ G_ hy_ eG_ hT_; obtain ⟨v_y5, q_y5, rfl⟩ := hT_; have r_panel := Rep.mono eG_ r_panel; have r_names := Rep.mono eG_ r_names; have r_rows := Rep.mono eG_ r_rows; have r_name := Rep.mono eG_ r_name; have z_ := k17 y5 (List.mem_of_getElem? hy_); have ze_ := z_; have k16 := ze_; intro Y_ hY_; have hr := InBlk.room hY_ hr; obtain ⟨⟨s_, H_, C_, cl_, fp_, rfl⟩⟩ := hY_; exact DO.de (do_callZ (y := (x_panel, y5, x_name, ())) (z := (m_ahead x_panel y5 x_name)) (h_ahead T) hr (da_cons (de_var 0 r_panel) (da_cons (de_var 7 q_y5) (da_cons (de_var 3 r_name) da_nil))) k16)))))))) (fun h6 => ?_) (fun h6 => ?_)
        · have hok := hokA h6; clear hokA hokB
          show SJ B _ _ [some v_panel, some v_names, some v_rows, some v_name, none, none, none, none] G1 [] (JX (JL (fun (r : Bool) => ((JD B []) ((fun (r : Bool) => (id r : Bool)) r)).1) (fun (s : Unit) (σ_ : L2.St) (G_ : Hp) (C_ : Cs) => ∃ (t_name : Option V), (σ_ = [some v_panel, some v_names, some v_rows, t_name, none, none, none, none] ∧ C_ = ([] : Cs))))) (m__law_panel_is_6 x_panel x_names x_rows x_name)
          exact sb_retLg (sb_ret 0 (DE.se de_bl))
        · have hok := hokB h6; clear hokA hokB
          show SJ B _ _ [some v_panel, some v_names, some v_rows, some v_name, none, none, none, none] G1 [] (JL (fun (r : Bool) => ((JD B []) ((fun (r : Bool) => (id r : Bool)) r)).1) (fun (s : Unit) (σ_ : L2.St) (G_ : Hp) (C_ : Cs) => ∃ (t_name : Option V), (σ_ = [some v_panel, some v_names, some v_rows, t_name, none, none, none, none] ∧ C_ = ([] : Cs)))) (m__law_panel_is_7 x_panel x_names x_rows x_name)
          exact sb_nilL fun G_ e_ => ⟨_, rfl, rfl⟩
    · rintro ⟨⟩ σ_ G2 C_ hl_ e2 ⟨t_name, rfl, rfl⟩
      replace hok := hok _ hl_
      have r_panel := Rep.mono e2 r_panel
      have r_names := Rep.mono e2 r_names
      have r_rows := Rep.mono e2 r_rows
      replace hok : ok__law_panel_is_8 x_panel x_names x_rows := hok
      show SJ B _ _ [some v_panel, some v_names, some v_rows, t_name, none, none, none, none] G2 [] (JD B []) (m__law_panel_is_8 x_panel x_names x_rows)
      obtain ⟨k18, k19, k20, k32, hok⟩ := hok
      refine sj_for (inj := (fun (r : Bool) => (id r : Bool))) (Rg := fun r => ((JD B []) ((fun (r : Bool) => (id r : Bool)) r)).1) (k := fun (s : Unit) => m__law_panel_is_15 x_panel x_names x_rows) (fun (s : Unit) (σ_ : L2.St) (G_ : Hp) (C_ : Cs) => ∃ (t_field : Option V) (t_firsts : Option V), (σ_ = [some v_panel, some v_names, some v_rows, t_name, t_field, t_firsts, none, none] ∧ C_ = ([] : Cs))) (fun (s : Unit) (y : List Str) => m__law_panel_is_9 x_panel x_names x_rows y) (fun (s : Unit) (y : List Str) => ok__law_panel_is_9 x_panel x_names x_rows y) () (di_list (DO.de (do_list (hl := (by decide : (3 : Nat) ≤ sizeLine)) (des_cons (DO.de (do_sorted (b_sorted T) (de_var 1 r_names) k18)) (des_cons (DO.de (do_slice (DO.de (do_sorted (b_sorted T) (de_var 1 r_names) k19)) dp_none (dp_some de_int))) (des_cons (DO.de (do_slice (DO.de (do_sorted (b_sorted T) (de_var 1 r_names) k20)) (dp_some (de_neg de_int)) dp_none)) des_nil)))))) (sg_name 4 sc.nd) (fun G_ e_ => ⟨_, _, rfl, rfl⟩) (by rintro ⟨⟩ σ_ G_ G2_ C_ e_ ⟨t_field, t_firsts, rfl, rfl⟩; exact ⟨_, _, rfl, rfl⟩) k32 ?_ (fun _ _ h => h) ?_
      · rintro ⟨⟩ x_field σ_ σ2_ G3 C_ hy_ e3 ⟨t_field, t_firsts, rfl, rfl⟩ ⟨v_field, r_field, rfl⟩ hok
        have r_panel := Rep.mono e3 r_panel
        have r_names := Rep.mono e3 r_names
        have r_rows := Rep.mono e3 r_rows
        replace hok : ok__law_panel_is_9 x_panel x_names x_rows x_field := hok
        show SJ B _ _ [some v_panel, some v_names, some v_rows, t_name, some v_field, t_firsts, none, none] G3 [] (JL (fun (r : Bool) => ((JD B []) ((fun (r : Bool) => (id r : Bool)) r)).1) (fun (s : Unit) (σ_ : L2.St) (G_ : Hp) (C_ : Cs) => ∃ (t_field : Option V) (t_firsts : Option V), (σ_ = [some v_panel, some v_names, some v_rows, t_name, t_field, t_firsts, none, none] ∧ C_ = ([] : Cs)))) (m__law_panel_is_9 x_panel x_names x_rows x_field)
        obtain ⟨k22, hok⟩ := hok
        refine sb_set 5 (DE.se (DO.de (do_lc (lc_map (fun y7 => (getI (y7.filter fun y8 => decide (y8 ∈ x_field)) (0 : Int))) sc.nd rfl (di_list (de_var 2 r_rows)) (blkOk_by (own := [("row", 6)]) (N := N__law_panel_is) (sc := _) (by first | decide +kernel | rfl)) rfl (dg_name sc.nd) (by intro i_ y7 σ_ G_ hy_ eG_ hT_; obtain ⟨v_y7, q_y7, rfl⟩ := hT_; have r_panel := Rep.mono eG_ r_panel; have r_names := Rep.mono eG_ r_names; have r_rows := Rep.mono eG_ r_rows; have r_field := Rep.mono eG_ r_field; have z_ := k22 y7 (List.mem_of_getElem? hy_); have ze_ := z_; have k21 := ze_; intro Y_ hY_; have hr := InBlk.room hY_ hr; obtain ⟨⟨s_, H_, C_, cl_, fp_, rfl⟩⟩ := hY_; exact de_ixI (DO.de (do_lc (lc_fil (fun y8 => decide (y8 ∈ x_field)) sc.nd rfl (di_list (de_var 6 q_y7)) (blkOk_by (own := [("name", 3)]) (N := N__law_panel_is) (sc := _) (by first | decide +kernel | rfl)) rfl (dg_name sc.nd) (by intro i_ y8 σ_ G_ hy_ eG_ hT_; obtain ⟨v_y8, q_y8, rfl⟩ := hT_; have r_panel := Rep.mono eG_ r_panel; have r_names := Rep.mono eG_ r_names; have r_rows := Rep.mono eG_ r_rows; have r_field := Rep.mono eG_ r_field; have q_y7 := Rep.mono eG_ q_y7; intro Y_ hY_; have hr := InBlk.room hY_ hr; obtain ⟨⟨s_, H_, C_, cl_, fp_, rfl⟩⟩ := hY_; exact df_one (DC.dt (dc_in (de_var 3 q_y8) (de_var 4 r_field)))) (by intro i_ y8 σ_ G_ hy_ eG_ hT_ hf_; obtain ⟨v_y8, q_y8, rfl⟩ := hT_; have r_panel := Rep.mono eG_ r_panel; have r_names := Rep.mono eG_ r_names; have r_rows := Rep.mono eG_ r_rows; have r_field := Rep.mono eG_ r_field; have q_y7 := Rep.mono eG_ q_y7; intro Y_ hY_; have hr := InBlk.room hY_ hr; obtain ⟨⟨s_, H_, C_, cl_, fp_, rfl⟩⟩ := hY_; exact de_var 3 q_y8)))) de_int k21))))) (fun v_firsts G4 e4 r_firsts => ?_) sc.nd
        have r_panel := Rep.mono e4 r_panel
        have r_names := Rep.mono e4 r_names
        have r_rows := Rep.mono e4 r_rows
        have r_field := Rep.mono e4 r_field
        replace r_firsts : rep G4 v_firsts (x_rows.map fun y7 => (getI (y7.filter fun y8 => decide (y8 ∈ x_field)) (0 : Int))) := r_firsts
        replace hok : ok__law_panel_is_10 x_panel x_names x_rows x_field (x_rows.map fun y7 => (getI (y7.filter fun y8 => decide (y8 ∈ x_field)) (0 : Int))) := hok
        show SJ B _ _ [some v_panel, some v_names, some v_rows, t_name, some v_field, some v_firsts, none, none] G4 [] (JL (fun (r : Bool) => ((JD B []) ((fun (r : Bool) => (id r : Bool)) r)).1) (fun (s : Unit) (σ_ : L2.St) (G_ : Hp) (C_ : Cs) => ∃ (t_field : Option V) (t_firsts : Option V), (σ_ = [some v_panel, some v_names, some v_rows, t_name, t_field, t_firsts, none, none] ∧ C_ = ([] : Cs)))) (m__law_panel_is_9 x_panel x_names x_rows x_field)
        rw [show m__law_panel_is_9 x_panel x_names x_rows x_field = m__law_panel_is_10 x_panel x_names x_rows x_field (x_rows.map fun y7 => (getI (y7.filter fun y8 => decide (y8 ∈ x_field)) (0 : Int))) from rfl]
        generalize (x_rows.map fun y7 => (getI (y7.filter fun y8 => decide (y8 ∈ x_field)) (0 : Int))) = x_firsts at r_firsts hok ⊢
        obtain ⟨k23, k25, hokA, hokB⟩ := hok
        refine sj_whenX (DT.st (DC.dt (dc_ne hr.units (DO.de (do_lc (lc_map (fun y9 => (m_named x_panel y9 x_field)) sc.nd rfl (di_rangeI (b_range T) (de_lenI (b_len T) (de_var 2 r_rows)) k23) (blkOk_by (own := [("spot", 7)]) (N := N__law_panel_is) (sc := _) (by first | decide +kernel | rfl)) rfl (dg_name sc.nd) (by intro i_ y9 σ_ G_ hy_ eG_ hT_; obtain ⟨v_y9, q_y9, rfl⟩ := hT_; have r_panel := Rep.mono eG_ r_panel; have r_names := Rep.mono eG_ r_names; have r_rows := Rep.mono eG_ r_rows; have r_field := Rep.mono eG_ r_field; have r_firsts := Rep.mono eG_ r_firsts; have z_ := k25 y9 (List.mem_of_getElem? hy_); have ze_ := z_; have k24 := ze_; intro Y_ hY_; have hr := InBlk.room hY_ hr; obtain ⟨⟨s_, H_, C_, cl_, fp_, rfl⟩⟩ := hY_; exact de_callZ (y := (x_panel, y9, x_field, ())) (z := (m_named x_panel y9 x_field)) (h_named T) hr (da_cons (de_var 0 r_panel) (da_cons (de_var 7 q_y9) (da_cons (de_var 4 r_field) da_nil))) k24)))) (de_var 5 r_firsts)))) (fun h10 => ?_) (fun h10 => ?_)
        · have hok := hokA h10; clear hokA hokB
          show SJ B _ _ [some v_panel, some v_names, some v_rows, t_name, some v_field, some v_firsts, none, none] G4 [] (JX (JL (fun (r : Bool) => ((JD B []) ((fun (r : Bool) => (id r : Bool)) r)).1) (fun (s : Unit) (σ_ : L2.St) (G_ : Hp) (C_ : Cs) => ∃ (t_field : Option V) (t_firsts : Option V), (σ_ = [some v_panel, some v_names, some v_rows, t_name, t_field, t_firsts, none, none] ∧ C_ = ([] : Cs))))) (m__law_panel_is_11 x_panel x_names x_rows x_field x_firsts)
          exact sb_retLg (sb_ret 0 (DE.se de_bl))
        · have hok := hokB h10; clear hokA hokB
          show SJ B _ _ [some v_panel, some v_names, some v_rows, t_name, some v_field, some v_firsts, none, none] G4 [] (JL (fun (r : Bool) => ((JD B []) ((fun (r : Bool) => (id r : Bool)) r)).1) (fun (s : Unit) (σ_ : L2.St) (G_ : Hp) (C_ : Cs) => ∃ (t_field : Option V) (t_firsts : Option V), (σ_ = [some v_panel, some v_names, some v_rows, t_name, t_field, t_firsts, none, none] ∧ C_ = ([] : Cs)))) (m__law_panel_is_12 x_panel x_names x_rows x_field x_firsts)
          obtain ⟨k26, k29, k30, k31, hokA, hokB⟩ := hok
          refine sj_whenX (DT.st (DC.dt (dc_ne hr.units (DO.de (do_lc (lc_fil (fun y11 => decide ((getI x_firsts y11) = (getI x_field (-(1 : Int))))) sc.nd rfl (di_rangeI (b_range T) (de_lenI (b_len T) (de_var 2 r_rows)) k26) (blkOk_by (own := [("spot", 7)]) (N := N__law_panel_is) (sc := _) (by first | decide +kernel | rfl)) rfl (dg_name sc.nd) (by intro i_ y11 σ_ G_ hy_ eG_ hT_; obtain ⟨v_y11, q_y11, rfl⟩ := hT_; have r_panel := Rep.mono eG_ r_panel; have r_names := Rep.mono eG_ r_names; have r_rows := Rep.mono eG_ r_rows; have r_field := Rep.mono eG_ r_field; have r_firsts := Rep.mono eG_ r_firsts; have z_ := k29 y11 (List.mem_of_getElem? hy_); obtain ⟨k27, k28⟩ := z_; intro Y_ hY_; have hr := InBlk.room hY_ hr; obtain ⟨⟨s_, H_, C_, cl_, fp_, rfl⟩⟩ := hY_; exact df_one (DC.dt (dc_eq hr.units (de_ixI (de_var 5 r_firsts) (de_var 7 q_y11) k27) (de_ixI (de_var 4 r_field) (de_neg de_int) k28)))) (by intro i_ y11 σ_ G_ hy_ eG_ hT_ hf_; obtain ⟨v_y11, q_y11, rfl⟩ := hT_; have r_panel := Rep.mono eG_ r_panel; have r_names := Rep.mono eG_ r_names; have r_rows := Rep.mono eG_ r_rows; have r_field := Rep.mono eG_ r_field; have r_firsts := Rep.mono eG_ r_firsts; have z_ := k29 y11 (List.mem_of_getElem? hy_); obtain ⟨k27, k28⟩ := z_; intro Y_ hY_; have hr := InBlk.room hY_ hr; obtain ⟨⟨s_, H_, C_, cl_, fp_, rfl⟩⟩ := hY_; exact de_var 7 q_y11)))) (DO.de (do_callZ (y := (x_panel, x_field, (getI x_field (-(1 : Int))), ())) (z := (m_who x_panel x_field (getI x_field (-(1 : Int))))) (h_who T) hr (da_cons (de_var 0 r_panel) (da_cons (de_var 4 r_field) (da_cons (de_ixI (de_var 4 r_field) (de_neg de_int) k30) da_nil))) k31))))) (fun h12 => ?_) (fun h12 => ?_)
          · have hok := hokA h12; clear hokA hokB
            show SJ B _ _ [some v_panel, some v_names, some v_rows, t_name, some v_field, some v_firsts, none, none] G4 [] (JX (JL (fun (r : Bool) => ((JD B []) ((fun (r : Bool) => (id r : Bool)) r)).1) (fun (s : Unit) (σ_ : L2.St) (G_ : Hp) (C_ : Cs) => ∃ (t_field : Option V) (t_firsts : Option V), (σ_ = [some v_panel, some v_names, some v_rows, t_name, t_field, t_firsts, none, none] ∧ C_ = ([] : Cs))))) (m__law_panel_is_13 x_panel x_names x_rows x_field x_firsts)
            exact sb_retLg (sb_ret 0 (DE.se de_bl))
          · have hok := hokB h12; clear hokA hokB
            show SJ B _ _ [some v_panel, some v_names, some v_rows, t_name, some v_field, some v_firsts, none, none] G4 [] (JL (fun (r : Bool) => ((JD B []) ((fun (r : Bool) => (id r : Bool)) r)).1) (fun (s : Unit) (σ_ : L2.St) (G_ : Hp) (C_ : Cs) => ∃ (t_field : Option V) (t_firsts : Option V), (σ_ = [some v_panel, some v_names, some v_rows, t_name, t_field, t_firsts, none, none] ∧ C_ = ([] : Cs)))) (m__law_panel_is_14 x_panel x_names x_rows x_field x_firsts)
            exact sb_nilL fun G_ e_ => ⟨_, _, rfl, rfl⟩
      · rintro ⟨⟩ σ_ G5 C_ hl_ e5 ⟨t_field, t_firsts, rfl, rfl⟩
        replace hok := hok _ hl_
        have r_panel := Rep.mono e5 r_panel
        have r_names := Rep.mono e5 r_names
        have r_rows := Rep.mono e5 r_rows
        replace hok : ok__law_panel_is_15 x_panel x_names x_rows := hok
        show SJ B _ _ [some v_panel, some v_names, some v_rows, t_name, t_field, t_firsts, none, none] G5 [] (JD B []) (m__law_panel_is_15 x_panel x_names x_rows)
        exact sb_ret 0 (DE.se de_bl)

abbrev N_cards_on : List Str := ["panel", "field", "spots"]
def m_cards_on_0 (x_panel : PanelD) (x_field : List Str) : List Str := (srt (ddp (x_panel.spots.map fun y1 => (m_first_of y1 x_field))))
def ok_cards_on_0 (x_panel : PanelD) (x_field : List Str) : Prop := (∀ y1 ∈ x_panel.spots, (ok_first_of y1 x_field)) ∧ ((x_panel.spots.map fun y1 => (m_first_of y1 x_field)).length < 64) ∧ True
def m_cards_on (x_panel : PanelD) (x_field : List Str) : List Str := m_cards_on_0 x_panel x_field
def ok_cards_on (x_panel : PanelD) (x_field : List Str) : Prop := ok_cards_on_0 x_panel x_field
theorem h_cards_on (T : Tx K mg) : Has P w K mg base "cards_on" (He.ga K "cards_on") 2 ["panel", "field"] (SpN kO (fun (a : PanelD × (List Str) × Unit) => ok_cards_on a.1 a.2.1) (fun a => m_cards_on a.1 a.2.1)) := by
  have sc : FnScope N_cards_on ["panel", "field"] (defScope s_cards_on) := ⟨rfl, rfl, rfl, by decide +kernel, rfl, by decide +kernel, by decide +kernel⟩
  refine has_O (d_cards_on T) (g_cards_on T) sc (fun _ _ _ _ _ _ us hl => match us, hl with | [_, _], _ => rfl) (by rintro a G vs ⟨v_panel, _, rfl, r_panel, ⟨v_field, _, rfl, r_field, rfl⟩⟩; rfl) ?_
  rintro X ⟨cdv, AA, outer, ss, HH, EE, rfl⟩ hr B vs ⟨x_panel, x_field, ⟨⟩⟩ G0 hB ⟨v_panel, _, rfl, r_panel, ⟨v_field, _, rfl, r_field, rfl⟩⟩ hok
  replace hok : ok_cards_on_0 x_panel x_field := hok
  show SJ B _ _ [some v_panel, some v_field, none] G0 [] (JO B []) (m_cards_on_0 x_panel x_field)
  obtain ⟨k2, k3, hok⟩ := hok
  exact sb_retO 0 (DO.so (do_sortSet (p4 := default) (b_sorted T) (b_set T) rfl (DO.de (do_lc (lc_map (fun y1 => (m_first_of y1 x_field)) sc.nd rfl (di_list (de_panel_spots (c_Panel T) (n_Panel_spots T) (de_var 0 r_panel))) (blkOk_by (own := [("spots", 2)]) (N := N_cards_on) (sc := _) (by first | decide +kernel | rfl)) rfl (dg_name sc.nd) (by intro i_ y1 σ_ G_ hy_ eG_ hT_; obtain ⟨v_y1, q_y1, rfl⟩ := hT_; have r_panel := Rep.mono eG_ r_panel; have r_field := Rep.mono eG_ r_field; have z_ := k2 y1 (List.mem_of_getElem? hy_); have ze_ := z_; have k1 := ze_; intro Y_ hY_; have hr := InBlk.room hY_ hr; obtain ⟨⟨s_, H_, C_, cl_, fp_, rfl⟩⟩ := hY_; exact de_callZ (y := (y1, x_field, ())) (z := (m_first_of y1 x_field)) (h_first_of T) hr (da_cons (de_var 2 q_y1) (da_cons (de_var 1 r_field) da_nil)) k1)))) k3)) (by first | exact Nat.zero_le _ | simp)

abbrev N_cards : List Str := ["panel", "field"]
def m_cards_2 (x_panel : PanelD) (x_field : List Str) : List Str := (m_cards_on x_panel x_field)
def ok_cards_2 (x_panel : PanelD) (x_field : List Str) : Prop := (ok_cards_on x_panel x_field) ∧ True
def m_cards_1 (x_panel : PanelD) (x_field : List Str) : List Str := m_cards_2 x_panel x_field
def ok_cards_1 (x_panel : PanelD) (x_field : List Str) : Prop := (ok_check_field x_field x_panel.names) ∧ ok_cards_2 x_panel x_field
def m_cards_0 (x_panel : PanelD) (x_field : List Str) : List Str := m_cards_1 x_panel x_field
def ok_cards_0 (x_panel : PanelD) (x_field : List Str) : Prop := (ok_check_panel x_panel) ∧ ok_cards_1 x_panel x_field
def m_cards (x_panel : PanelD) (x_field : List Str) : List Str := m_cards_0 x_panel x_field
def ok_cards (x_panel : PanelD) (x_field : List Str) : Prop := ok_cards_0 x_panel x_field
theorem h_cards (T : Tx K mg) : Has P w K mg base "cards" (He.ga K "cards") 7 ["panel", "field"] (SpN kO (fun (a : PanelD × (List Str) × Unit) => ok_cards a.1 a.2.1) (fun a => m_cards a.1 a.2.1)) := by
  have sc : FnScope N_cards ["panel", "field"] (defScope s_cards) := ⟨rfl, rfl, rfl, by decide +kernel, rfl, by decide +kernel, by decide +kernel⟩
  refine has_O (d_cards T) (g_cards T) sc (fun _ _ _ _ _ _ us hl => match us, hl with | [_, _], _ => rfl) (by rintro a G vs ⟨v_panel, _, rfl, r_panel, ⟨v_field, _, rfl, r_field, rfl⟩⟩; rfl) ?_
  rintro X ⟨cdv, AA, outer, ss, HH, EE, rfl⟩ hr B vs ⟨x_panel, x_field, ⟨⟩⟩ G0 hB ⟨v_panel, _, rfl, r_panel, ⟨v_field, _, rfl, r_field, rfl⟩⟩ hok
  replace hok : ok_cards_0 x_panel x_field := hok
  show SJ B _ _ [some v_panel, some v_field] G0 [] (JO B []) (m_cards_0 x_panel x_field)
  obtain ⟨k1, hok⟩ := hok
  refine sb_expr (DE.se (de_callZ (y := (x_panel, ())) (z := (m_check_panel x_panel)) (h_check_panel T) hr (da_cons (de_var 0 r_panel) da_nil) k1)) fun G1 e1 => ?_
  have r_panel := Rep.mono e1 r_panel
  have r_field := Rep.mono e1 r_field
  replace hok : ok_cards_1 x_panel x_field := hok
  show SJ B _ _ [some v_panel, some v_field] G1 [] (JO B []) (m_cards_0 x_panel x_field)
  rw [show m_cards_0 x_panel x_field = m_cards_1 x_panel x_field from rfl]
  obtain ⟨k2, hok⟩ := hok
  refine sb_expr (DE.se (de_callZ (y := (x_field, x_panel.names, ())) (z := (m_check_field x_field x_panel.names)) (h_check_field T) hr (da_cons (de_var 1 r_field) (da_cons (de_panel_names (c_Panel T) (n_Panel_names T) (de_var 0 r_panel)) da_nil)) k2)) fun G2 e2 => ?_
  have r_panel := Rep.mono e2 r_panel
  have r_field := Rep.mono e2 r_field
  replace hok : ok_cards_2 x_panel x_field := hok
  show SJ B _ _ [some v_panel, some v_field] G2 [] (JO B []) (m_cards_1 x_panel x_field)
  rw [show m_cards_1 x_panel x_field = m_cards_2 x_panel x_field from rfl]
  obtain ⟨k3, hok⟩ := hok
  exact sb_retO 0 (DO.so (do_callZ (y := (x_panel, x_field, ())) (z := (m_cards_on x_panel x_field)) (h_cards_on T) hr (da_cons (de_var 0 r_panel) (da_cons (de_var 1 r_field) da_nil)) k3)) (by first | exact Nat.zero_le _ | simp)

abbrev N__law_pair_right : List Str := ["one", "other", "names", "rows", "others", "made", "field", "due"]
def m__law_pair_right_2 (x_one : PanelD) (x_other : PanelD) (x_names : List Str) (x_rows : List (List Str)) (x_others : List (List Str)) (x_made : PanelD) : Bool := false
def ok__law_pair_right_2 (x_one : PanelD) (x_other : PanelD) (x_names : List Str) (x_rows : List (List Str)) (x_others : List (List Str)) (x_made : PanelD) : Prop := True
def m__law_pair_right_6 (x_one : PanelD) (x_other : PanelD) (x_names : List Str) (x_rows : List (List Str)) (x_others : List (List Str)) (x_made : PanelD) (x_field : List Str) (x_due : List Str) : (Bool) ⊕ (Unit) := .inl (false)
def ok__law_pair_right_6 (x_one : PanelD) (x_other : PanelD) (x_names : List Str) (x_rows : List (List Str)) (x_others : List (List Str)) (x_made : PanelD) (x_field : List Str) (x_due : List Str) : Prop := True
def m__law_pair_right_8 (x_one : PanelD) (x_other : PanelD) (x_names : List Str) (x_rows : List (List Str)) (x_others : List (List Str)) (x_made : PanelD) (x_field : List Str) (x_due : List Str) : (Bool) ⊕ (Unit) := .inl (false)
def ok__law_pair_right_8 (x_one : PanelD) (x_other : PanelD) (x_names : List Str) (x_rows : List (List Str)) (x_others : List (List Str)) (x_made : PanelD) (x_field : List Str) (x_due : List Str) : Prop := True
def m__law_pair_right_9 (x_one : PanelD) (x_other : PanelD) (x_names : List Str) (x_rows : List (List Str)) (x_others : List (List Str)) (x_made : PanelD) (x_field : List Str) (x_due : List Str) : (Bool) ⊕ (Unit) := .inr ()
def ok__law_pair_right_9 (x_one : PanelD) (x_other : PanelD) (x_names : List Str) (x_rows : List (List Str)) (x_others : List (List Str)) (x_made : PanelD) (x_field : List Str) (x_due : List Str) : Prop := True
def m__law_pair_right_7 (x_one : PanelD) (x_other : PanelD) (x_names : List Str) (x_rows : List (List Str)) (x_others : List (List Str)) (x_made : PanelD) (x_field : List Str) (x_due : List Str) : (Bool) ⊕ (Unit) := if (!decide ((m_cards (m_joint x_made x_one) x_field) = x_due)) = true then m__law_pair_right_8 x_one x_other x_names x_rows x_others x_made x_field x_due else m__law_pair_right_9 x_one x_other x_names x_rows x_others x_made x_field x_due
def ok__law_pair_right_7 (x_one : PanelD) (x_other : PanelD) (x_names : List Str) (x_rows : List (List Str)) (x_others : List (List Str)) (x_made : PanelD) (x_field : List Str) (x_due : List Str) : Prop := (ok_joint x_made x_one) ∧ (ok_cards (m_joint x_made x_one) x_field) ∧ ((!decide ((m_cards (m_joint x_made x_one) x_field) = x_due)) = true → ok__law_pair_right_8 x_one x_other x_names x_rows x_others x_made x_field x_due) ∧ ((!decide ((m_cards (m_joint x_made x_one) x_field) = x_due)) = false → ok__law_pair_right_9 x_one x_other x_names x_rows x_others x_made x_field x_due)
def m__law_pair_right_5 (x_one : PanelD) (x_other : PanelD) (x_names : List Str) (x_rows : List (List Str)) (x_others : List (List Str)) (x_made : PanelD) (x_field : List Str) (x_due : List Str) : (Bool) ⊕ (Unit) := if ((!decide ((m_cards x_made x_field) = x_due)) || (!decide (x_due = (srt (ddp ((m_cards x_one x_field) ++ (m_cards x_other x_field))))))) = true then m__law_pair_right_6 x_one x_other x_names x_rows x_others x_made x_field x_due else m__law_pair_right_7 x_one x_other x_names x_rows x_others x_made x_field x_due
def ok__law_pair_right_5 (x_one : PanelD) (x_other : PanelD) (x_names : List Str) (x_rows : List (List Str)) (x_others : List (List Str)) (x_made : PanelD) (x_field : List Str) (x_due : List Str) : Prop := (ok_cards x_made x_field) ∧ (((!decide ((m_cards x_made x_field) = x_due)) = false) → (ok_cards x_one x_field) ∧ (ok_cards x_other x_field) ∧ ((m_cards x_one x_field).length + (m_cards x_other x_field).length ≤ sizeLine) ∧ (((m_cards x_one x_field) ++ (m_cards x_other x_field)).length < 64)) ∧ (((!decide ((m_cards x_made x_field) = x_due)) || (!decide (x_due = (srt (ddp ((m_cards x_one x_field) ++ (m_cards x_other x_field))))))) = true → ok__law_pair_right_6 x_one x_other x_names x_rows x_others x_made x_field x_due) ∧ (((!decide ((m_cards x_made x_field) = x_due)) || (!decide (x_due = (srt (ddp ((m_cards x_one x_field) ++ (m_cards x_other x_field))))))) = false → ok__law_pair_right_7 x_one x_other x_names x_rows x_others x_made x_field x_due)
def m__law_pair_right_4 (x_one : PanelD) (x_other : PanelD) (x_names : List Str) (x_rows : List (List Str)) (x_others : List (List Str)) (x_made : PanelD) (x_field : List Str) : (Bool) ⊕ (Unit) := m__law_pair_right_5 x_one x_other x_names x_rows x_others x_made x_field (m__law_cards (x_rows ++ x_others) x_field)
def ok__law_pair_right_4 (x_one : PanelD) (x_other : PanelD) (x_names : List Str) (x_rows : List (List Str)) (x_others : List (List Str)) (x_made : PanelD) (x_field : List Str) : Prop := (x_rows.length + x_others.length ≤ sizeLine) ∧ (ok__law_cards (x_rows ++ x_others) x_field) ∧ ok__law_pair_right_5 x_one x_other x_names x_rows x_others x_made x_field (m__law_cards (x_rows ++ x_others) x_field)
def m__law_pair_right_10 (x_one : PanelD) (x_other : PanelD) (x_names : List Str) (x_rows : List (List Str)) (x_others : List (List Str)) (x_made : PanelD) : Bool := true
def ok__law_pair_right_10 (x_one : PanelD) (x_other : PanelD) (x_names : List Str) (x_rows : List (List Str)) (x_others : List (List Str)) (x_made : PanelD) : Prop := True
def m__law_pair_right_3 (x_one : PanelD) (x_other : PanelD) (x_names : List Str) (x_rows : List (List Str)) (x_others : List (List Str)) (x_made : PanelD) : Bool := elimR (loopR (fun (s : Unit) (y : List Str) => m__law_pair_right_4 x_one x_other x_names x_rows x_others x_made y) (m__law_fields x_names) ()) (fun (r : Bool) => (id r : Bool)) (fun (s : Unit) => m__law_pair_right_10 x_one x_other x_names x_rows x_others x_made)
def ok__law_pair_right_3 (x_one : PanelD) (x_other : PanelD) (x_names : List Str) (x_rows : List (List Str)) (x_others : List (List Str)) (x_made : PanelD) : Prop := (ok__law_fields x_names) ∧ (loopOk (fun (s : Unit) (y : List Str) => m__law_pair_right_4 x_one x_other x_names x_rows x_others x_made y) (fun (s : Unit) (y : List Str) => ok__law_pair_right_4 x_one x_other x_names x_rows x_others x_made y) (m__law_fields x_names) ()) ∧ ∀ s : Unit, loopR (fun (s : Unit) (y : List Str) => m__law_pair_right_4 x_one x_other x_names x_rows x_others x_made y) (m__law_fields x_names) () = .inr s → ok__law_pair_right_10 x_one x_other x_names x_rows x_others x_made
def m__law_pair_right_1 (x_one : PanelD) (x_other : PanelD) (x_names : List Str) (x_rows : List (List Str)) (x_others : List (List Str)) (x_made : PanelD) : Bool := if (!(m__law_panel_is x_made x_names (x_rows ++ x_others))) = true then m__law_pair_right_2 x_one x_other x_names x_rows x_others x_made else m__law_pair_right_3 x_one x_other x_names x_rows x_others x_made
def ok__law_pair_right_1 (x_one : PanelD) (x_other : PanelD) (x_names : List Str) (x_rows : List (List Str)) (x_others : List (List Str)) (x_made : PanelD) : Prop := (x_rows.length + x_others.length ≤ sizeLine) ∧ (ok__law_panel_is x_made x_names (x_rows ++ x_others)) ∧ ((!(m__law_panel_is x_made x_names (x_rows ++ x_others))) = true → ok__law_pair_right_2 x_one x_other x_names x_rows x_others x_made) ∧ ((!(m__law_panel_is x_made x_names (x_rows ++ x_others))) = false → ok__law_pair_right_3 x_one x_other x_names x_rows x_others x_made)
def m__law_pair_right_0 (x_one : PanelD) (x_other : PanelD) (x_names : List Str) (x_rows : List (List Str)) (x_others : List (List Str)) : Bool := m__law_pair_right_1 x_one x_other x_names x_rows x_others (m_joint x_one x_other)
def ok__law_pair_right_0 (x_one : PanelD) (x_other : PanelD) (x_names : List Str) (x_rows : List (List Str)) (x_others : List (List Str)) : Prop := (ok_joint x_one x_other) ∧ ok__law_pair_right_1 x_one x_other x_names x_rows x_others (m_joint x_one x_other)
def m__law_pair_right (x_one : PanelD) (x_other : PanelD) (x_names : List Str) (x_rows : List (List Str)) (x_others : List (List Str)) : Bool := m__law_pair_right_0 x_one x_other x_names x_rows x_others
def ok__law_pair_right (x_one : PanelD) (x_other : PanelD) (x_names : List Str) (x_rows : List (List Str)) (x_others : List (List Str)) : Prop := ok__law_pair_right_0 x_one x_other x_names x_rows x_others
theorem h__law_pair_right (T : Tx K mg) : Has P w K mg base "_law_pair_right" (He.ga K "_law_pair_right") 9 ["one", "other", "names", "rows", "others"] (SpN kD (fun (a : PanelD × PanelD × (List Str) × (List (List Str)) × (List (List Str)) × Unit) => ok__law_pair_right a.1 a.2.1 a.2.2.1 a.2.2.2.1 a.2.2.2.2.1) (fun a => m__law_pair_right a.1 a.2.1 a.2.2.1 a.2.2.2.1 a.2.2.2.2.1)) := by
  have sc : FnScope N__law_pair_right ["one", "other", "names", "rows", "others"] (defScope s__law_pair_right) := ⟨rfl, rfl, rfl, by decide +kernel, rfl, by decide +kernel, by decide +kernel⟩
  refine has_D (d__law_pair_right T) (g__law_pair_right T) sc (fun _ _ _ _ _ _ us hl => match us, hl with | [_, _, _, _, _], _ => rfl) (by rintro a G vs ⟨v_one, _, rfl, r_one, ⟨v_other, _, rfl, r_other, ⟨v_names, _, rfl, r_names, ⟨v_rows, _, rfl, r_rows, ⟨v_others, _, rfl, r_others, rfl⟩⟩⟩⟩⟩; rfl) ?_
  rintro X ⟨cdv, AA, outer, ss, HH, EE, rfl⟩ hr B vs ⟨x_one, x_other, x_names, x_rows, x_others, ⟨⟩⟩ G0 hB ⟨v_one, _, rfl, r_one, ⟨v_other, _, rfl, r_other, ⟨v_names, _, rfl, r_names, ⟨v_rows, _, rfl, r_rows, ⟨v_others, _, rfl, r_others, rfl⟩⟩⟩⟩⟩ hok
  replace hok : ok__law_pair_right_0 x_one x_other x_names x_rows x_others := hok
  show SJ B _ _ [some v_one, some v_other, some v_names, some v_rows, some v_others, none, none, none] G0 [] (JD B []) (m__law_pair_right_0 x_one x_other x_names x_rows x_others)
  obtain ⟨k1, hok⟩ := hok
  refine sb_set 5 (DE.se (de_callZ (y := (x_one, x_other, ())) (z := (m_joint x_one x_other)) (h_joint T) hr (da_cons (de_var 0 r_one) (da_cons (de_var 1 r_other) da_nil)) k1)) (fun v_made G1 e1 r_made => ?_) sc.nd
  have r_one := Rep.mono e1 r_one
  have r_other := Rep.mono e1 r_other
  have r_names := Rep.mono e1 r_names
  have r_rows := Rep.mono e1 r_rows
  have r_others := Rep.mono e1 r_others
  replace r_made : rep G1 v_made (m_joint x_one x_other) := r_made
  replace hok : ok__law_pair_right_1 x_one x_other x_names x_rows x_others (m_joint x_one x_other) := hok
  show SJ B _ _ [some v_one, some v_other, some v_names, some v_rows, some v_others, some v_made, none, none] G1 [] (JD B []) (m__law_pair_right_0 x_one x_other x_names x_rows x_others)
  rw [show m__law_pair_right_0 x_one x_other x_names x_rows x_others = m__law_pair_right_1 x_one x_other x_names x_rows x_others (m_joint x_one x_other) from rfl]
  generalize (m_joint x_one x_other) = x_made at r_made hok ⊢
  obtain ⟨k2, k3, hokA, hokB⟩ := hok
  refine sj_whenX (DT.st (dt_not (dt_val (de_callZ (y := (x_made, x_names, (x_rows ++ x_others), ())) (z := (m__law_panel_is x_made x_names (x_rows ++ x_others))) (h__law_panel_is T) hr (da_cons (de_var 5 r_made) (da_cons (de_var 2 r_names) (da_cons (DO.de (do_cat (de_var 3 r_rows) (de_var 4 r_others) k2)) da_nil))) k3)))) (fun h1 => ?_) (fun h1 => ?_)
  · have hok := hokA h1; clear hokA hokB
    show SJ B _ _ [some v_one, some v_other, some v_names, some v_rows, some v_others, some v_made, none, none] G1 [] (JX (JD B [])) (m__law_pair_right_2 x_one x_other x_names x_rows x_others x_made)
    exact sb_ret 0 (DE.se de_bl)
  · have hok := hokB h1; clear hokA hokB
    show SJ B _ _ [some v_one, some v_other, some v_names, some v_rows, some v_others, some v_made, none, none] G1 [] (JD B []) (m__law_pair_right_3 x_one x_other x_names x_rows x_others x_made)
    obtain ⟨k4, k15, hok⟩ := hok
    refine sj_for (inj := (fun (r : Bool) => (id r : Bool))) (Rg := fun r => ((JD B []) ((fun (r : Bool) => (id r : Bool)) r)).1) (k := fun (s : Unit) => m__law_pair_right_10 x_one x_other x_names x_rows x_others x_made) (fun (s : Unit) (σ_ : L2.St) (G_ : Hp) (C_ : Cs) => ∃ (t_field : Option V) (t_due : Option V), (σ_ = [some v_one, some v_other, some v_names, some v_rows, some v_others, some v_made, t_field, t_due] ∧ C_ = ([] : Cs))) (fun (s : Unit) (y : List Str) => m__law_pair_right_4 x_one x_other x_names x_rows x_others x_made y) (fun (s : Unit) (y : List Str) => ok__law_pair_right_4 x_one x_other x_names x_rows x_others x_made y) () (di_list (DO.de (do_callZ (y := (x_names, ())) (z := (m__law_fields x_names)) (h__law_fields T) hr (da_cons (de_var 2 r_names) da_nil) k4))) (sg_name 6 sc.nd) (fun G_ e_ => ⟨_, _, rfl, rfl⟩) (by rintro ⟨⟩ σ_ G_ G2_ C_ e_ ⟨t_field, t_due, rfl, rfl⟩; exact ⟨_, _, rfl, rfl⟩) k15 ?_ (fun _ _ h => h) ?_
    · rintro ⟨⟩ x_field σ_ σ2_ G2 C_ hy_ e2 ⟨t_field, t_due, rfl, rfl⟩ ⟨v_field, r_field, rfl⟩ hok
      have r_one := Rep.mono e2 r_one
      have r_other := Rep.mono e2 r_other
      have r_names := Rep.mono e2 r_names
      have r_rows := Rep.mono e2 r_rows
      have r_others := Rep.mono e2 r_others
      have r_made := Rep.mono e2 r_made
      replace hok : ok__law_pair_right_4 x_one x_other x_names x_rows x_others x_made x_field := hok
      show SJ B _ _ [some v_one, some v_other, some v_names, some v_rows, some v_others, some v_made, some v_field, t_due] G2 [] (JL (fun (r : Bool) => ((JD B []) ((fun (r : Bool) => (id r : Bool)) r)).1) (fun (s : Unit) (σ_ : L2.St) (G_ : Hp) (C_ : Cs) => ∃ (t_field : Option V) (t_due : Option V), (σ_ = [some v_one, some v_other, some v_names, some v_rows, some v_others, some v_made, t_field, t_due] ∧ C_ = ([] : Cs)))) (m__law_pair_right_4 x_one x_other x_names x_rows x_others x_made x_field)
      obtain ⟨k5, k6, hok⟩ := hok
      refine sb_set 7 (DE.se (DO.de (do_callZ (y := ((x_rows ++ x_others), x_field, ())) (z := (m__law_cards (x_rows ++ x_others) x_field)) (h__law_cards T) hr (da_cons (DO.de (do_cat (de_var 3 r_rows) (de_var 4 r_others) k5)) (da_cons (de_var 6 r_field) da_nil)) k6))) (fun v_due G3 e3 r_due => ?_) sc.nd
      have r_one := Rep.mono e3 r_one
      have r_other := Rep.mono e3 r_other
      have r_names := Rep.mono e3 r_names
      have r_rows := Rep.mono e3 r_rows
      have r_others := Rep.mono e3 r_others
      have r_made := Rep.mono e3 r_made
      have r_field := Rep.mono e3 r_field
      replace r_due : rep G3 v_due (m__law_cards (x_rows ++ x_others) x_field) := r_due
      replace hok : ok__law_pair_right_5 x_one x_other x_names x_rows x_others x_made x_field (m__law_cards (x_rows ++ x_others) x_field) := hok
      show SJ B _ _ [some v_one, some v_other, some v_names, some v_rows, some v_others, some v_made, some v_field, some v_due] G3 [] (JL (fun (r : Bool) => ((JD B []) ((fun (r : Bool) => (id r : Bool)) r)).1) (fun (s : Unit) (σ_ : L2.St) (G_ : Hp) (C_ : Cs) => ∃ (t_field : Option V) (t_due : Option V), (σ_ = [some v_one, some v_other, some v_names, some v_rows, some v_others, some v_made, t_field, t_due] ∧ C_ = ([] : Cs)))) (m__law_pair_right_4 x_one x_other x_names x_rows x_others x_made x_field)
      rw [show m__law_pair_right_4 x_one x_other x_names x_rows x_others x_made x_field = m__law_pair_right_5 x_one x_other x_names x_rows x_others x_made x_field (m__law_cards (x_rows ++ x_others) x_field) from rfl]
      generalize (m__law_cards (x_rows ++ x_others) x_field) = x_due at r_due hok ⊢
      obtain ⟨k7, k12, hokA, hokB⟩ := hok
      refine sj_whenX (DT.st (DW.dt (dw_or (DC.dt (dc_ne hr.units (DO.de (do_callZ (y := (x_made, x_field, ())) (z := (m_cards x_made x_field)) (h_cards T) hr (da_cons (de_var 5 r_made) (da_cons (de_var 6 r_field) da_nil)) k7)) (de_var 7 r_due))) fun h2 => (by obtain ⟨k8, k9, k10, k11⟩ := k12 h2; exact dw_or1 (DC.dt (dc_ne hr.units (de_var 7 r_due) (DO.de (do_sortSet (p4 := default) (b_sorted T) (b_set T) rfl (DO.de (do_cat (DO.de (do_callZ (y := (x_one, x_field, ())) (z := (m_cards x_one x_field)) (h_cards T) hr (da_cons (de_var 0 r_one) (da_cons (de_var 6 r_field) da_nil)) k8)) (DO.de (do_callZ (y := (x_other, x_field, ())) (z := (m_cards x_other x_field)) (h_cards T) hr (da_cons (de_var 1 r_other) (da_cons (de_var 6 r_field) da_nil)) k9)) k10)) k11)))))))) (fun h3 => ?_) (fun h3 => ?_)
      · have hok := hokA h3; clear hokA hokB
        show SJ B _ _ [some v_one, some v_other, some v_names, some v_rows, some v_others, some v_made, some v_field, some v_due] G3 [] (JX (JL (fun (r : Bool) => ((JD B []) ((fun (r : Bool) => (id r : Bool)) r)).1) (fun (s : Unit) (σ_ : L2.St) (G_ : Hp) (C_ : Cs) => ∃ (t_field : Option V) (t_due : Option V), (σ_ = [some v_one, some v_other, some v_names, some v_rows, some v_others, some v_made, t_field, t_due] ∧ C_ = ([] : Cs))))) (m__law_pair_right_6 x_one x_other x_names x_rows x_others x_made x_field x_due)
        exact sb_retLg (sb_ret 0 (DE.se de_bl))
      · have hok := hokB h3; clear hokA hokB
        show SJ B _ _ [some v_one, some v_other, some v_names, some v_rows, some v_others, some v_made, some v_field, some v_due] G3 [] (JL (fun (r : Bool) => ((JD B []) ((fun (r : Bool) => (id r : Bool)) r)).1) (fun (s : Unit) (σ_ : L2.St) (G_ : Hp) (C_ : Cs) => ∃ (t_field : Option V) (t_due : Option V), (σ_ = [some v_one, some v_other, some v_names, some v_rows, some v_others, some v_made, t_field, t_due] ∧ C_ = ([] : Cs)))) (m__law_pair_right_7 x_one x_other x_names x_rows x_others x_made x_field x_due)
        obtain ⟨k13, k14, hokA, hokB⟩ := hok
        refine sj_whenX (DT.st (DC.dt (dc_ne hr.units (DO.de (do_callZ (y := ((m_joint x_made x_one), x_field, ())) (z := (m_cards (m_joint x_made x_one) x_field)) (h_cards T) hr (da_cons (de_callZ (y := (x_made, x_one, ())) (z := (m_joint x_made x_one)) (h_joint T) hr (da_cons (de_var 5 r_made) (da_cons (de_var 0 r_one) da_nil)) k13) (da_cons (de_var 6 r_field) da_nil)) k14)) (de_var 7 r_due)))) (fun h4 => ?_) (fun h4 => ?_)
        · have hok := hokA h4; clear hokA hokB
          show SJ B _ _ [some v_one, some v_other, some v_names, some v_rows, some v_others, some v_made, some v_field, some v_due] G3 [] (JX (JL (fun (r : Bool) => ((JD B []) ((fun (r : Bool) => (id r : Bool)) r)).1) (fun (s : Unit) (σ_ : L2.St) (G_ : Hp) (C_ : Cs) => ∃ (t_field : Option V) (t_due : Option V), (σ_ = [some v_one, some v_other, some v_names, some v_rows, some v_others, some v_made, t_field, t_due] ∧ C_ = ([] : Cs))))) (m__law_pair_right_8 x_one x_other x_names x_rows x_others x_made x_field x_due)
          exact sb_retLg (sb_ret 0 (DE.se de_bl))
        · have hok := hokB h4; clear hokA hokB
          show SJ B _ _ [some v_one, some v_other, some v_names, some v_rows, some v_others, some v_made, some v_field, some v_due] G3 [] (JL (fun (r : Bool) => ((JD B []) ((fun (r : Bool) => (id r : Bool)) r)).1) (fun (s : Unit) (σ_ : L2.St) (G_ : Hp) (C_ : Cs) => ∃ (t_field : Option V) (t_due : Option V), (σ_ = [some v_one, some v_other, some v_names, some v_rows, some v_others, some v_made, t_field, t_due] ∧ C_ = ([] : Cs)))) (m__law_pair_right_9 x_one x_other x_names x_rows x_others x_made x_field x_due)
          exact sb_nilL fun G_ e_ => ⟨_, _, rfl, rfl⟩
    · rintro ⟨⟩ σ_ G4 C_ hl_ e4 ⟨t_field, t_due, rfl, rfl⟩
      replace hok := hok _ hl_
      have r_one := Rep.mono e4 r_one
      have r_other := Rep.mono e4 r_other
      have r_names := Rep.mono e4 r_names
      have r_rows := Rep.mono e4 r_rows
      have r_others := Rep.mono e4 r_others
      have r_made := Rep.mono e4 r_made
      replace hok : ok__law_pair_right_10 x_one x_other x_names x_rows x_others x_made := hok
      show SJ B _ _ [some v_one, some v_other, some v_names, some v_rows, some v_others, some v_made, t_field, t_due] G4 [] (JD B []) (m__law_pair_right_10 x_one x_other x_names x_rows x_others x_made)
      exact sb_ret 0 (DE.se de_bl)

abbrev N__law_right : List Str := ["purse", "names", "rows", "others", "third", "panels", "panel", "some"]
def m__law_right_6 (x_purse : List Int) (x_names : List Str) (x_rows : List (List Str)) (x_others : List (List Str)) (x_third : List (List Str)) (x_panels : List PanelD) : Bool × (List Int) := (false, x_purse)
def ok__law_right_6 (x_purse : List Int) (x_names : List Str) (x_rows : List (List Str)) (x_others : List (List Str)) (x_third : List (List Str)) (x_panels : List PanelD) : Prop := True
def m__law_right_8 (x_purse : List Int) (x_names : List Str) (x_rows : List (List Str)) (x_others : List (List Str)) (x_third : List (List Str)) (x_panels : List PanelD) : Bool × (List Int) := (false, x_purse)
def ok__law_right_8 (x_purse : List Int) (x_names : List Str) (x_rows : List (List Str)) (x_others : List (List Str)) (x_third : List (List Str)) (x_panels : List PanelD) : Prop := True
def m__law_right_10 (x_purse : List Int) (x_names : List Str) (x_rows : List (List Str)) (x_others : List (List Str)) (x_third : List (List Str)) (x_panels : List PanelD) : Bool × (List Int) := (false, x_purse)
def ok__law_right_10 (x_purse : List Int) (x_names : List Str) (x_rows : List (List Str)) (x_others : List (List Str)) (x_third : List (List Str)) (x_panels : List PanelD) : Prop := True
def m__law_right_13 (x_purse : List Int) (x_names : List Str) (x_rows : List (List Str)) (x_others : List (List Str)) (x_third : List (List Str)) (x_panels : List PanelD) (x_panel : PanelD) (x_some : List (List Str)) : (Bool × (List Int)) ⊕ (Unit) := .inl ((false, x_purse))
def ok__law_right_13 (x_purse : List Int) (x_names : List Str) (x_rows : List (List Str)) (x_others : List (List Str)) (x_third : List (List Str)) (x_panels : List PanelD) (x_panel : PanelD) (x_some : List (List Str)) : Prop := True
def m__law_right_14 (x_purse : List Int) (x_names : List Str) (x_rows : List (List Str)) (x_others : List (List Str)) (x_third : List (List Str)) (x_panels : List PanelD) (x_panel : PanelD) (x_some : List (List Str)) : (Bool × (List Int)) ⊕ (Unit) := .inr ()
def ok__law_right_14 (x_purse : List Int) (x_names : List Str) (x_rows : List (List Str)) (x_others : List (List Str)) (x_third : List (List Str)) (x_panels : List PanelD) (x_panel : PanelD) (x_some : List (List Str)) : Prop := True
def m__law_right_12 (x_purse : List Int) (x_names : List Str) (x_rows : List (List Str)) (x_others : List (List Str)) (x_third : List (List Str)) (x_panels : List PanelD) (x_panel : PanelD) (x_some : List (List Str)) : (Bool × (List Int)) ⊕ (Unit) := if (!(m__law_panel_is x_panel x_names x_some)) = true then m__law_right_13 x_purse x_names x_rows x_others x_third x_panels x_panel x_some else m__law_right_14 x_purse x_names x_rows x_others x_third x_panels x_panel x_some
def ok__law_right_12 (x_purse : List Int) (x_names : List Str) (x_rows : List (List Str)) (x_others : List (List Str)) (x_third : List (List Str)) (x_panels : List PanelD) (x_panel : PanelD) (x_some : List (List Str)) : Prop := (ok__law_panel_is x_panel x_names x_some) ∧ ((!(m__law_panel_is x_panel x_names x_some)) = true → ok__law_right_13 x_purse x_names x_rows x_others x_third x_panels x_panel x_some) ∧ ((!(m__law_panel_is x_panel x_names x_some)) = false → ok__law_right_14 x_purse x_names x_rows x_others x_third x_panels x_panel x_some)
def m__law_right_15 (x_purse : List Int) (x_names : List Str) (x_rows : List (List Str)) (x_others : List (List Str)) (x_third : List (List Str)) (x_panels : List PanelD) : Bool × (List Int) := (true, x_purse)
def ok__law_right_15 (x_purse : List Int) (x_names : List Str) (x_rows : List (List Str)) (x_others : List (List Str)) (x_third : List (List Str)) (x_panels : List PanelD) : Prop := (∀ y6 ∈ ([x_rows, x_others, x_third] : List (List (List Str))), (ok_Panel___init__ x_names y6)) ∧ (x_panels.length = (([x_rows, x_others, x_third] : List (List (List Str))).map fun y6 => (m_Panel___init__ x_names y6)).length ∧ ∀ (i_ : Nat) (x_ y_ : PanelD), x_panels[i_]? = some x_ → (([x_rows, x_others, x_third] : List (List (List Str))).map fun y6 => (m_Panel___init__ x_names y6))[i_]? = some y_ → ok_Panel___eq__ x_ y_ ∧ m_Panel___eq__ x_ y_ = true) ∧ True
def m__law_right_11 (x_purse : List Int) (x_names : List Str) (x_rows : List (List Str)) (x_others : List (List Str)) (x_third : List (List Str)) (x_panels : List PanelD) : Bool × (List Int) := elimR (loopR (fun (s : Unit) (y : PanelD × (List (List Str))) => m__law_right_12 x_purse x_names x_rows x_others x_third x_panels y.1 y.2) (List.zip x_panels ([x_rows, x_others, x_third] : List (List (List Str)))) ()) (fun (r : Bool × (List Int)) => (id r : Bool × (List Int))) (fun (s : Unit) => m__law_right_15 x_purse x_names x_rows x_others x_third x_panels)
def ok__law_right_11 (x_purse : List Int) (x_names : List Str) (x_rows : List (List Str)) (x_others : List (List Str)) (x_third : List (List Str)) (x_panels : List PanelD) : Prop := (loopOk (fun (s : Unit) (y : PanelD × (List (List Str))) => m__law_right_12 x_purse x_names x_rows x_others x_third x_panels y.1 y.2) (fun (s : Unit) (y : PanelD × (List (List Str))) => ok__law_right_12 x_purse x_names x_rows x_others x_third x_panels y.1 y.2) (List.zip x_panels ([x_rows, x_others, x_third] : List (List (List Str)))) ()) ∧ ∀ s : Unit, loopR (fun (s : Unit) (y : PanelD × (List (List Str))) => m__law_right_12 x_purse x_names x_rows x_others x_third x_panels y.1 y.2) (List.zip x_panels ([x_rows, x_others, x_third] : List (List (List Str)))) () = .inr s → ok__law_right_15 x_purse x_names x_rows x_others x_third x_panels
def m__law_right_9 (x_purse : List Int) (x_names : List Str) (x_rows : List (List Str)) (x_others : List (List Str)) (x_third : List (List Str)) (x_panels : List PanelD) : Bool × (List Int) := if (!(m__law_pair_right (getI x_panels (1 : Int)) (getI x_panels (0 : Int)) x_names x_others x_rows)) = true then m__law_right_10 x_purse x_names x_rows x_others x_third x_panels else m__law_right_11 x_purse x_names x_rows x_others x_third x_panels
def ok__law_right_9 (x_purse : List Int) (x_names : List Str) (x_rows : List (List Str)) (x_others : List (List Str)) (x_third : List (List Str)) (x_panels : List PanelD) : Prop := ((atI x_panels (1 : Int)).isSome = true) ∧ ((atI x_panels (0 : Int)).isSome = true) ∧ (ok__law_pair_right (getI x_panels (1 : Int)) (getI x_panels (0 : Int)) x_names x_others x_rows) ∧ ((!(m__law_pair_right (getI x_panels (1 : Int)) (getI x_panels (0 : Int)) x_names x_others x_rows)) = true → ok__law_right_10 x_purse x_names x_rows x_others x_third x_panels) ∧ ((!(m__law_pair_right (getI x_panels (1 : Int)) (getI x_panels (0 : Int)) x_names x_others x_rows)) = false → ok__law_right_11 x_purse x_names x_rows x_others x_third x_panels)
def m__law_right_7 (x_purse : List Int) (x_names : List Str) (x_rows : List (List Str)) (x_others : List (List Str)) (x_third : List (List Str)) (x_panels : List PanelD) : Bool × (List Int) := if (!(m__law_pair_right (getI x_panels (0 : Int)) (getI x_panels (2 : Int)) x_names x_rows x_third)) = true then m__law_right_8 x_purse x_names x_rows x_others x_third x_panels else m__law_right_9 x_purse x_names x_rows x_others x_third x_panels
def ok__law_right_7 (x_purse : List Int) (x_names : List Str) (x_rows : List (List Str)) (x_others : List (List Str)) (x_third : List (List Str)) (x_panels : List PanelD) : Prop := ((atI x_panels (0 : Int)).isSome = true) ∧ ((atI x_panels (2 : Int)).isSome = true) ∧ (ok__law_pair_right (getI x_panels (0 : Int)) (getI x_panels (2 : Int)) x_names x_rows x_third) ∧ ((!(m__law_pair_right (getI x_panels (0 : Int)) (getI x_panels (2 : Int)) x_names x_rows x_third)) = true → ok__law_right_8 x_purse x_names x_rows x_others x_third x_panels) ∧ ((!(m__law_pair_right (getI x_panels (0 : Int)) (getI x_panels (2 : Int)) x_names x_rows x_third)) = false → ok__law_right_9 x_purse x_names x_rows x_others x_third x_panels)
def m__law_right_5 (x_purse : List Int) (x_names : List Str) (x_rows : List (List Str)) (x_others : List (List Str)) (x_third : List (List Str)) (x_panels : List PanelD) : Bool × (List Int) := if (!(m__law_pair_right (getI x_panels (0 : Int)) (getI x_panels (1 : Int)) x_names x_rows x_others)) = true then m__law_right_6 x_purse x_names x_rows x_others x_third x_panels else m__law_right_7 x_purse x_names x_rows x_others x_third x_panels
def ok__law_right_5 (x_purse : List Int) (x_names : List Str) (x_rows : List (List Str)) (x_others : List (List Str)) (x_third : List (List Str)) (x_panels : List PanelD) : Prop := ((atI x_panels (0 : Int)).isSome = true) ∧ ((atI x_panels (1 : Int)).isSome = true) ∧ (ok__law_pair_right (getI x_panels (0 : Int)) (getI x_panels (1 : Int)) x_names x_rows x_others) ∧ ((!(m__law_pair_right (getI x_panels (0 : Int)) (getI x_panels (1 : Int)) x_names x_rows x_others)) = true → ok__law_right_6 x_purse x_names x_rows x_others x_third x_panels) ∧ ((!(m__law_pair_right (getI x_panels (0 : Int)) (getI x_panels (1 : Int)) x_names x_rows x_others)) = false → ok__law_right_7 x_purse x_names x_rows x_others x_third x_panels)
def m__law_right_4 (x_purse : List Int) (x_names : List Str) (x_rows : List (List Str)) (x_others : List (List Str)) (x_third : List (List Str)) : Bool × (List Int) := m__law_right_5 x_purse x_names x_rows x_others x_third (([x_rows, x_others, x_third] : List (List (List Str))).map fun y1 => (m_Panel___init__ x_names y1))
def ok__law_right_4 (x_purse : List Int) (x_names : List Str) (x_rows : List (List Str)) (x_others : List (List Str)) (x_third : List (List Str)) : Prop := (∀ y1 ∈ ([x_rows, x_others, x_third] : List (List (List Str))), (ok_Panel___init__ x_names y1)) ∧ ok__law_right_5 x_purse x_names x_rows x_others x_third (([x_rows, x_others, x_third] : List (List (List Str))).map fun y1 => (m_Panel___init__ x_names y1))
def m__law_right_3 (x_purse : List Int) (x_names : List Str) (x_rows : List (List Str)) (x_others : List (List Str)) : Bool × (List Int) := m__law_right_4 ((m__law_one_of x_purse (x_rows ++ x_others)).2) x_names x_rows x_others ([((m__law_one_of x_purse (x_rows ++ x_others)).1).reverse] : List (List Str))
def ok__law_right_3 (x_purse : List Int) (x_names : List Str) (x_rows : List (List Str)) (x_others : List (List Str)) : Prop := (x_rows.length + x_others.length ≤ sizeLine) ∧ (ok__law_one_of x_purse (x_rows ++ x_others)) ∧ ok__law_right_4 ((m__law_one_of x_purse (x_rows ++ x_others)).2) x_names x_rows x_others ([((m__law_one_of x_purse (x_rows ++ x_others)).1).reverse] : List (List Str))
def m__law_right_2 (x_purse : List Int) (x_names : List Str) (x_rows : List (List Str)) : Bool × (List Int) := m__law_right_3 ((m__law_draw ((m__law_rows_of ((m__law_draw x_purse (3 : Int)).2) x_names ((1 : Int) + (m__law_draw x_purse (3 : Int)).1)).2) (2 : Int)).2) x_names x_rows ((m__law_rows_of ((m__law_draw x_purse (3 : Int)).2) x_names ((1 : Int) + (m__law_draw x_purse (3 : Int)).1)).1 ++ (cut x_rows none (some ((m__law_draw ((m__law_rows_of ((m__law_draw x_purse (3 : Int)).2) x_names ((1 : Int) + (m__law_draw x_purse (3 : Int)).1)).2) (2 : Int)).1))))
def ok__law_right_2 (x_purse : List Int) (x_names : List Str) (x_rows : List (List Str)) : Prop := (ok__law_draw x_purse (3 : Int)) ∧ (ok__law_rows_of ((m__law_draw x_purse (3 : Int)).2) x_names ((1 : Int) + (m__law_draw x_purse (3 : Int)).1)) ∧ (ok__law_draw ((m__law_rows_of ((m__law_draw x_purse (3 : Int)).2) x_names ((1 : Int) + (m__law_draw x_purse (3 : Int)).1)).2) (2 : Int)) ∧ (((m__law_rows_of ((m__law_draw x_purse (3 : Int)).2) x_names ((1 : Int) + (m__law_draw x_purse (3 : Int)).1)).1).length + (cut x_rows none (some ((m__law_draw ((m__law_rows_of ((m__law_draw x_purse (3 : Int)).2) x_names ((1 : Int) + (m__law_draw x_purse (3 : Int)).1)).2) (2 : Int)).1))).length ≤ sizeLine) ∧ ok__law_right_3 ((m__law_draw ((m__law_rows_of ((m__law_draw x_purse (3 : Int)).2) x_names ((1 : Int) + (m__law_draw x_purse (3 : Int)).1)).2) (2 : Int)).2) x_names x_rows ((m__law_rows_of ((m__law_draw x_purse (3 : Int)).2) x_names ((1 : Int) + (m__law_draw x_purse (3 : Int)).1)).1 ++ (cut x_rows none (some ((m__law_draw ((m__law_rows_of ((m__law_draw x_purse (3 : Int)).2) x_names ((1 : Int) + (m__law_draw x_purse (3 : Int)).1)).2) (2 : Int)).1))))
def m__law_right_1 (x_purse : List Int) (x_names : List Str) : Bool × (List Int) := m__law_right_2 ((m__law_rows_of ((m__law_draw x_purse (4 : Int)).2) x_names ((1 : Int) + (m__law_draw x_purse (4 : Int)).1)).2) x_names ((m__law_rows_of ((m__law_draw x_purse (4 : Int)).2) x_names ((1 : Int) + (m__law_draw x_purse (4 : Int)).1)).1)
def ok__law_right_1 (x_purse : List Int) (x_names : List Str) : Prop := (ok__law_draw x_purse (4 : Int)) ∧ (ok__law_rows_of ((m__law_draw x_purse (4 : Int)).2) x_names ((1 : Int) + (m__law_draw x_purse (4 : Int)).1)) ∧ ok__law_right_2 ((m__law_rows_of ((m__law_draw x_purse (4 : Int)).2) x_names ((1 : Int) + (m__law_draw x_purse (4 : Int)).1)).2) x_names ((m__law_rows_of ((m__law_draw x_purse (4 : Int)).2) x_names ((1 : Int) + (m__law_draw x_purse (4 : Int)).1)).1)
def m__law_right_0 (x_purse : List Int) : Bool × (List Int) := m__law_right_1 ((m__law_names ((m__law_draw x_purse (5 : Int)).2) ((1 : Int) + (m__law_draw x_purse (5 : Int)).1)).2) ((m__law_names ((m__law_draw x_purse (5 : Int)).2) ((1 : Int) + (m__law_draw x_purse (5 : Int)).1)).1)
def ok__law_right_0 (x_purse : List Int) : Prop := (ok__law_draw x_purse (5 : Int)) ∧ (ok__law_names ((m__law_draw x_purse (5 : Int)).2) ((1 : Int) + (m__law_draw x_purse (5 : Int)).1)) ∧ ok__law_right_1 ((m__law_names ((m__law_draw x_purse (5 : Int)).2) ((1 : Int) + (m__law_draw x_purse (5 : Int)).1)).2) ((m__law_names ((m__law_draw x_purse (5 : Int)).2) ((1 : Int) + (m__law_draw x_purse (5 : Int)).1)).1)
def m__law_right (x_purse : List Int) : Bool × (List Int) := m__law_right_0 x_purse
def ok__law_right (x_purse : List Int) : Prop := ok__law_right_0 x_purse
theorem h__law_right (T : Tx K mg) : Has P w K mg base "_law_right" (He.ga K "_law_right") 10 ["purse"] (SpU kD (fun p (a : Unit) => ok__law_right p) (fun p a => m__law_right p)) := by
  have sc : FnScope N__law_right ["purse"] (defScope s__law_right) := ⟨rfl, rfl, rfl, by decide +kernel, rfl, by decide +kernel, by decide +kernel⟩
  refine has_UD (d__law_right T) (g__law_right T) sc (fun _ _ _ _ _ _ us hl => match us, hl with | [_], _ => rfl) (by rintro a G vs rfl; rfl) ?_
  rintro X ⟨cdv, AA, outer, ss, HH, EE, rfl⟩ hr B u_purse x_purse vs ⟨⟩ G0 hB rfl hok
  replace hok : ok__law_right_0 x_purse := hok
  show SJ B _ _ [some (.ref u_purse), none, none, none, none, none, none, none] G0 [(u_purse, cl x_purse)] (JUD B u_purse) (m__law_right_0 x_purse)
  obtain ⟨k1, k2, hok⟩ := hok
  refine sb_set 1 (SO.se (so_callUZ (z := (m__law_names ((m__law_draw x_purse (5 : Int)).2) ((1 : Int) + (m__law_draw x_purse (5 : Int)).1)).1) (l' := (m__law_names ((m__law_draw x_purse (5 : Int)).2) ((1 : Int) + (m__law_draw x_purse (5 : Int)).1)).2) 0 (h__law_names T) hr (at_var 0) (sa_cons (se_add (DE.se de_int) (se_callUZ (z := (m__law_draw x_purse (5 : Int)).1) (l' := (m__law_draw x_purse (5 : Int)).2) 0 (h__law_draw T) hr (at_var 0) (DA.sa (da_cons de_int da_nil)) rfl k1)) sa_nil) rfl k2)) (fun v_names G1 e1 r_names => ?_) sc.nd
  replace r_names : rep G1 v_names ((m__law_names ((m__law_draw x_purse (5 : Int)).2) ((1 : Int) + (m__law_draw x_purse (5 : Int)).1)).1) := r_names
  replace hok : ok__law_right_1 ((m__law_names ((m__law_draw x_purse (5 : Int)).2) ((1 : Int) + (m__law_draw x_purse (5 : Int)).1)).2) ((m__law_names ((m__law_draw x_purse (5 : Int)).2) ((1 : Int) + (m__law_draw x_purse (5 : Int)).1)).1) := hok
  show SJ B _ _ [some (.ref u_purse), some v_names, none, none, none, none, none, none] G1 [(u_purse, cl ((m__law_names ((m__law_draw x_purse (5 : Int)).2) ((1 : Int) + (m__law_draw x_purse (5 : Int)).1)).2))] (JUD B u_purse) (m__law_right_0 x_purse)
  rw [show m__law_right_0 x_purse = m__law_right_1 ((m__law_names ((m__law_draw x_purse (5 : Int)).2) ((1 : Int) + (m__law_draw x_purse (5 : Int)).1)).2) ((m__law_names ((m__law_draw x_purse (5 : Int)).2) ((1 : Int) + (m__law_draw x_purse (5 : Int)).1)).1) from rfl]
  generalize (m__law_names ((m__law_draw x_purse (5 : Int)).2) ((1 : Int) + (m__law_draw x_purse (5 : Int)).1)).2 = x_purse, (m__law_names ((m__law_draw x_purse (5 : Int)).2) ((1 : Int) + (m__law_draw x_purse (5 : Int)).1)).1 = x_names at r_names hok ⊢
  obtain ⟨k3, k4, hok⟩ := hok
  refine sb_set 2 (SO.se (so_callUZ (z := (m__law_rows_of ((m__law_draw x_purse (4 : Int)).2) x_names ((1 : Int) + (m__law_draw x_purse (4 : Int)).1)).1) (l' := (m__law_rows_of ((m__law_draw x_purse (4 : Int)).2) x_names ((1 : Int) + (m__law_draw x_purse (4 : Int)).1)).2) 0 (h__law_rows_of T) hr (at_var 0) (sa_cons (DE.se (de_var 1 r_names)) (sa_cons (se_add (DE.se de_int) (se_callUZ (z := (m__law_draw x_purse (4 : Int)).1) (l' := (m__law_draw x_purse (4 : Int)).2) 0 (h__law_draw T) hr (at_var 0) (DA.sa (da_cons de_int da_nil)) rfl k3)) sa_nil)) rfl k4)) (fun v_rows G2 e2 r_rows => ?_) sc.nd
  have r_names := Rep.mono e2 r_names
  replace r_rows : rep G2 v_rows ((m__law_rows_of ((m__law_draw x_purse (4 : Int)).2) x_names ((1 : Int) + (m__law_draw x_purse (4 : Int)).1)).1) := r_rows
  replace hok : ok__law_right_2 ((m__law_rows_of ((m__law_draw x_purse (4 : Int)).2) x_names ((1 : Int) + (m__law_draw x_purse (4 : Int)).1)).2) x_names ((m__law_rows_of ((m__law_draw x_purse (4 : Int)).2) x_names ((1 : Int) + (m__law_draw x_purse (4 : Int)).1)).1) := hok
  show SJ B _ _ [some (.ref u_purse), some v_names, some v_rows, none, none, none, none, none] G2 [(u_purse, cl ((m__law_rows_of ((m__law_draw x_purse (4 : Int)).2) x_names ((1 : Int) + (m__law_draw x_purse (4 : Int)).1)).2))] (JUD B u_purse) (m__law_right_1 x_purse x_names)
  rw [show m__law_right_1 x_purse x_names = m__law_right_2 ((m__law_rows_of ((m__law_draw x_purse (4 : Int)).2) x_names ((1 : Int) + (m__law_draw x_purse (4 : Int)).1)).2) x_names ((m__law_rows_of ((m__law_draw x_purse (4 : Int)).2) x_names ((1 : Int) + (m__law_draw x_purse (4 : Int)).1)).1) from rfl]
  generalize (m__law_rows_of ((m__law_draw x_purse (4 : Int)).2) x_names ((1 : Int) + (m__law_draw x_purse (4 : Int)).1)).2 = x_purse, (m__law_rows_of ((m__law_draw x_purse (4 : Int)).2) x_names ((1 : Int) + (m__law_draw x_purse (4 : Int)).1)).1 = x_rows at r_rows hok ⊢
  obtain ⟨k5, k6, k7, k8, hok⟩ := hok
  refine sb_set 3 (SO.se (so_cat (SO.se (so_callUZ (z := (m__law_rows_of ((m__law_draw x_purse (3 : Int)).2) x_names ((1 : Int) + (m__law_draw x_purse (3 : Int)).1)).1) (l' := (m__law_rows_of ((m__law_draw x_purse (3 : Int)).2) x_names ((1 : Int) + (m__law_draw x_purse (3 : Int)).1)).2) 0 (h__law_rows_of T) hr (at_var 0) (sa_cons (DE.se (de_var 1 r_names)) (sa_cons (se_add (DE.se de_int) (se_callUZ (z := (m__law_draw x_purse (3 : Int)).1) (l' := (m__law_draw x_purse (3 : Int)).2) 0 (h__law_draw T) hr (at_var 0) (DA.sa (da_cons de_int da_nil)) rfl k5)) sa_nil)) rfl k6)) (SO.se (so_slice (DE.se (de_var 2 r_rows)) sp_none (sp_some (se_callUZ (z := (m__law_draw ((m__law_rows_of ((m__law_draw x_purse (3 : Int)).2) x_names ((1 : Int) + (m__law_draw x_purse (3 : Int)).1)).2) (2 : Int)).1) (l' := (m__law_draw ((m__law_rows_of ((m__law_draw x_purse (3 : Int)).2) x_names ((1 : Int) + (m__law_draw x_purse (3 : Int)).1)).2) (2 : Int)).2) 0 (h__law_draw T) hr (at_var 0) (DA.sa (da_cons de_int da_nil)) rfl k7)))) k8)) (fun v_others G3 e3 r_others => ?_) sc.nd
  have r_names := Rep.mono e3 r_names
  have r_rows := Rep.mono e3 r_rows
  replace r_others : rep G3 v_others ((m__law_rows_of ((m__law_draw x_purse (3 : Int)).2) x_names ((1 : Int) + (m__law_draw x_purse (3 : Int)).1)).1 ++ (cut x_rows none (some ((m__law_draw ((m__law_rows_of ((m__law_draw x_purse (3 : Int)).2) x_names ((1 : Int) + (m__law_draw x_purse (3 : Int)).1)).2) (2 : Int)).1)))) := r_others
  replace hok : ok__law_right_3 ((m__law_draw ((m__law_rows_of ((m__law_draw x_purse (3 : Int)).2) x_names ((1 : Int) + (m__law_draw x_purse (3 : Int)).1)).2) (2 : Int)).2) x_names x_rows ((m__law_rows_of ((m__law_draw x_purse (3 : Int)).2) x_names ((1 : Int) + (m__law_draw x_purse (3 : Int)).1)).1 ++ (cut x_rows none (some ((m__law_draw ((m__law_rows_of ((m__law_draw x_purse (3 : Int)).2) x_names ((1 : Int) + (m__law_draw x_purse (3 : Int)).1)).2) (2 : Int)).1)))) := hok
  show SJ B _ _ [some (.ref u_purse), some v_names, some v_rows, some v_others, none, none, none, none] G3 [(u_purse, cl ((m__law_draw ((m__law_rows_of ((m__law_draw x_purse (3 : Int)).2) x_names ((1 : Int) + (m__law_draw x_purse (3 : Int)).1)).2) (2 : Int)).2))] (JUD B u_purse) (m__law_right_2 x_purse x_names x_rows)
  rw [show m__law_right_2 x_purse x_names x_rows = m__law_right_3 ((m__law_draw ((m__law_rows_of ((m__law_draw x_purse (3 : Int)).2) x_names ((1 : Int) + (m__law_draw x_purse (3 : Int)).1)).2) (2 : Int)).2) x_names x_rows ((m__law_rows_of ((m__law_draw x_purse (3 : Int)).2) x_names ((1 : Int) + (m__law_draw x_purse (3 : Int)).1)).1 ++ (cut x_rows none (some ((m__law_draw ((m__law_rows_of ((m__law_draw x_purse (3 : Int)).2) x_names ((1 : Int) + (m__law_draw x_purse (3 : Int)).1)).2) (2 : Int)).1)))) from rfl]
  generalize (m__law_draw ((m__law_rows_of ((m__law_draw x_purse (3 : Int)).2) x_names ((1 : Int) + (m__law_draw x_purse (3 : Int)).1)).2) (2 : Int)).2 = x_purse, ((m__law_rows_of ((m__law_draw x_purse (3 : Int)).2) x_names ((1 : Int) + (m__law_draw x_purse (3 : Int)).1)).1 ++ (cut x_rows none (some ((m__law_draw ((m__law_rows_of ((m__law_draw x_purse (3 : Int)).2) x_names ((1 : Int) + (m__law_draw x_purse (3 : Int)).1)).2) (2 : Int)).1)))) = x_others at r_others hok ⊢
  obtain ⟨k9, k10, hok⟩ := hok
  refine sb_set 4 (SO.se (so_listK (ses_cons (SO.se (so_rev (se_callUZ (z := (m__law_one_of x_purse (x_rows ++ x_others)).1) (l' := (m__law_one_of x_purse (x_rows ++ x_others)).2) 0 (h__law_one_of T) hr (at_var 0) (DA.sa (da_cons (DO.de (do_cat (de_var 2 r_rows) (de_var 3 r_others) k9)) da_nil)) rfl k10))) ses_nil) (by decide : (1 : Nat) ≤ sizeLine))) (fun v_third G4 e4 r_third => ?_) sc.nd
  have r_names := Rep.mono e4 r_names
  have r_rows := Rep.mono e4 r_rows
  have r_others := Rep.mono e4 r_others
  replace r_third : rep G4 v_third ([((m__law_one_of x_purse (x_rows ++ x_others)).1).reverse] : List (List Str)) := r_third
  replace hok : ok__law_right_4 ((m__law_one_of x_purse (x_rows ++ x_others)).2) x_names x_rows x_others ([((m__law_one_of x_purse (x_rows ++ x_others)).1).reverse] : List (List Str)) := hok
  show SJ B _ _ [some (.ref u_purse), some v_names, some v_rows, some v_others, some v_third, none, none, none] G4 [(u_purse, cl ((m__law_one_of x_purse (x_rows ++ x_others)).2))] (JUD B u_purse) (m__law_right_3 x_purse x_names x_rows x_others)
  rw [show m__law_right_3 x_purse x_names x_rows x_others = m__law_right_4 ((m__law_one_of x_purse (x_rows ++ x_others)).2) x_names x_rows x_others ([((m__law_one_of x_purse (x_rows ++ x_others)).1).reverse] : List (List Str)) from rfl]
  generalize (m__law_one_of x_purse (x_rows ++ x_others)).2 = x_purse, ([((m__law_one_of x_purse (x_rows ++ x_others)).1).reverse] : List (List Str)) = x_third at r_third hok ⊢
  obtain ⟨k12, hok⟩ := hok
  refine sb_setLc 5 (lc_map (fun y1 => (m_Panel___init__ x_names y1)) sc.nd rfl (di_tup (m := ([x_rows, x_others, x_third] : List (List (List Str)))) (de_tupN (A := (List (List Str)) × (List (List Str)) × (List (List Str)) × Unit) (da_cons (de_var 2 r_rows) (da_cons (de_var 3 r_others) (da_cons (de_var 4 r_third) da_nil)))) (by intro G_ vs_ h_; obtain ⟨v0_, _, rfl, r0_, v1_, _, rfl, r1_, v2_, _, rfl, r2_, h_⟩ := h_; cases h_; exact (.cons r0_ (.cons r1_ (.cons r2_ .nil)))) (by show (3 : Nat) ≤ 1000; decide)) (blkOk_by (own := [("some", 7)]) (N := N__law_right) (sc := _) (by first | decide +kernel | rfl)) rfl (dg_name sc.nd) (by intro i_ y1 σ_ G_ hy_ eG_ hT_; obtain ⟨v_y1, q_y1, rfl⟩ := hT_; have r_names := Rep.mono eG_ r_names; have r_rows := Rep.mono eG_ r_rows; have r_others := Rep.mono eG_ r_others; have r_third := Rep.mono eG_ r_third; have z_ := k12 y1 (List.mem_of_getElem? hy_); have ze_ := z_; have k11 := ze_; intro Y_ hY_; have hr := InBlk.room hY_ hr; obtain ⟨⟨s_, H_, C_, cl_, fp_, rfl⟩⟩ := hY_; exact de_Panel (y := (x_names, y1, ())) (z := (m_Panel___init__ x_names y1)) (h_Panel___init__ T) (k_Panel T) (g_Panel T) hr (da_cons (de_var 1 r_names) (da_cons (de_var 7 q_y1) da_nil)) k11)) (fun v_panels G5 e5 r_panels => ?_)
  have r_names := Rep.mono e5 r_names
  have r_rows := Rep.mono e5 r_rows
  have r_others := Rep.mono e5 r_others
  have r_third := Rep.mono e5 r_third
  replace r_panels : rep G5 v_panels (([x_rows, x_others, x_third] : List (List (List Str))).map fun y1 => (m_Panel___init__ x_names y1)) := r_panels
  replace hok : ok__law_right_5 x_purse x_names x_rows x_others x_third (([x_rows, x_others, x_third] : List (List (List Str))).map fun y1 => (m_Panel___init__ x_names y1)) := hok
  show SJ B _ _ [some (.ref u_purse), some v_names, some v_rows, some v_others, some v_third, some v_panels, none, none] G5 [(u_purse, cl x_purse)] (JUD B u_purse) (m__law_right_4 x_purse x_names x_rows x_others x_third)
  rw [show m__law_right_4 x_purse x_names x_rows x_others x_third = m__law_right_5 x_purse x_names x_rows x_others x_third (([x_rows, x_others, x_third] : List (List (List Str))).map fun y1 => (m_Panel___init__ x_names y1)) from rfl]
  generalize (([x_rows, x_others, x_third] : List (List (List Str))).map fun y1 => (m_Panel___init__ x_names y1)) = x_panels at r_panels hok ⊢
  obtain ⟨k13, k14, k15, hokA, hokB⟩ := hok
  refine sj_whenX (DT.st (dt_not (dt_val (de_callZ (y := ((getI x_panels (0 : Int)), (getI x_panels (1 : Int)), x_names, x_rows, x_others, ())) (z := (m__law_pair_right (getI x_panels (0 : Int)) (getI x_panels (1 : Int)) x_names x_rows x_others)) (h__law_pair_right T) hr (da_cons (de_ixI (de_var 5 r_panels) de_int k13) (da_cons (de_ixI (de_var 5 r_panels) de_int k14) (da_cons (de_var 1 r_names) (da_cons (de_var 2 r_rows) (da_cons (de_var 3 r_others) da_nil))))) k15)))) (fun h2 => ?_) (fun h2 => ?_)
  · have hok := hokA h2; clear hokA hokB
    show SJ B _ _ [some (.ref u_purse), some v_names, some v_rows, some v_others, some v_third, some v_panels, none, none] G5 [(u_purse, cl x_purse)] (JX (JUD B u_purse)) (m__law_right_6 x_purse x_names x_rows x_others x_third x_panels)
    exact sb_ret 1 (DE.se de_bl)
  · have hok := hokB h2; clear hokA hokB
    show SJ B _ _ [some (.ref u_purse), some v_names, some v_rows, some v_others, some v_third, some v_panels, none, none] G5 [(u_purse, cl x_purse)] (JUD B u_purse) (m__law_right_7 x_purse x_names x_rows x_others x_third x_panels)
    obtain ⟨k16, k17, k18, hokA, hokB⟩ := hok
    refine sj_whenX (DT.st (dt_not (dt_val (de_callZ (y := ((getI x_panels (0 : Int)), (getI x_panels (2 : Int)), x_names, x_rows, x_third, ())) (z := (m__law_pair_right (getI x_panels (0 : Int)) (getI x_panels (2 : Int)) x_names x_rows x_third)) (h__law_pair_right T) hr (da_cons (de_ixI (de_var 5 r_panels) de_int k16) (da_cons (de_ixI (de_var 5 r_panels) de_int k17) (da_cons (de_var 1 r_names) (da_cons (de_var 2 r_rows) (da_cons (de_var 4 r_third) da_nil))))) k18)))) (fun h3 => ?_) (fun h3 => ?_)
    · have hok := hokA h3; clear hokA hokB
      show SJ B _ _ [some (.ref u_purse), some v_names, some v_rows, some v_others, some v_third, some v_panels, none, none] G5 [(u_purse, cl x_purse)] (JX (JUD B u_purse)) (m__law_right_8 x_purse x_names x_rows x_others x_third x_panels)
      exact sb_ret 1 (DE.se de_bl)
    · have hok := hokB h3; clear hokA hokB
      show SJ B _ _ [some (.ref u_purse), some v_names, some v_rows, some v_others, some v_third, some v_panels, none, none] G5 [(u_purse, cl x_purse)] (JUD B u_purse) (m__law_right_9 x_purse x_names x_rows x_others x_third x_panels)
      obtain ⟨k19, k20, k21, hokA, hokB⟩ := hok
      refine sj_whenX (DT.st (dt_not (dt_val (de_callZ (y := ((getI x_panels (1 : Int)), (getI x_panels (0 : Int)), x_names, x_others, x_rows, ())) (z := (m__law_pair_right (getI x_panels (1 : Int)) (getI x_panels (0 : Int)) x_names x_others x_rows)) (h__law_pair_right T) hr (da_cons (de_ixI (de_var 5 r_panels) de_int k19) (da_cons (de_ixI (de_var 5 r_panels) de_int k20) (da_cons (de_var 1 r_names) (da_cons (de_var 3 r_others) (da_cons (de_var 2 r_rows) da_nil))))) k21)))) (fun h4 => ?_) (fun h4 => ?_)
      · have hok := hokA h4; clear hokA hokB
        show SJ B _ _ [some (.ref u_purse), some v_names, some v_rows, some v_others, some v_third, some v_panels, none, none] G5 [(u_purse, cl x_purse)] (JX (JUD B u_purse)) (m__law_right_10 x_purse x_names x_rows x_others x_third x_panels)
        exact sb_ret 1 (DE.se de_bl)
      · have hok := hokB h4; clear hokA hokB
        show SJ B _ _ [some (.ref u_purse), some v_names, some v_rows, some v_others, some v_third, some v_panels, none, none] G5 [(u_purse, cl x_purse)] (JUD B u_purse) (m__law_right_11 x_purse x_names x_rows x_others x_third x_panels)
        obtain ⟨k26, hok⟩ := hok
        refine sj_for (inj := (fun (r : Bool × (List Int)) => (id r : Bool × (List Int)))) (Rg := fun r => ((JUD B u_purse) ((fun (r : Bool × (List Int)) => (id r : Bool × (List Int))) r)).1) (k := fun (s : Unit) => m__law_right_15 x_purse x_names x_rows x_others x_third x_panels) (fun (s : Unit) (σ_ : L2.St) (G_ : Hp) (C_ : Cs) => ∃ (t_panel : Option V) (t_some : Option V), (σ_ = [some (.ref u_purse), some v_names, some v_rows, some v_others, some v_third, some v_panels, t_panel, t_some] ∧ C_ = ([(u_purse, cl x_purse)] : Cs))) (fun (s : Unit) (y : PanelD × (List (List Str))) => m__law_right_12 x_purse x_names x_rows x_others x_third x_panels y.1 y.2) (fun (s : Unit) (y : PanelD × (List (List Str))) => ok__law_right_12 x_purse x_names x_rows x_others x_third x_panels y.1 y.2) () (di_zipM (m := ([x_rows, x_others, x_third] : List (List (List Str)))) (b_zip T) (de_var 5 r_panels) (de_tupN (A := (List (List Str)) × (List (List Str)) × (List (List Str)) × Unit) (da_cons (de_var 2 r_rows) (da_cons (de_var 3 r_others) (da_cons (de_var 4 r_third) da_nil)))) (by intro G_ vs_ h_; obtain ⟨v0_, _, rfl, r0_, v1_, _, rfl, r1_, v2_, _, rfl, r2_, h_⟩ := h_; cases h_; exact (.cons r0_ (.cons r1_ (.cons r2_ .nil))))) (sg_pair 6 7 sc.nd) (fun G_ e_ => ⟨_, _, rfl, rfl⟩) (by rintro ⟨⟩ σ_ G_ G2_ C_ e_ ⟨t_panel, t_some, rfl, rfl⟩; exact ⟨_, _, rfl, rfl⟩) k26 ?_ (fun _ _ h => h) ?_
        · rintro ⟨⟩ ⟨x_panel, x_some⟩ σ_ σ2_ G6 C_ hy_ e6 ⟨t_panel, t_some, rfl, rfl⟩ ⟨v_panel, v_some, r_panel, r_some, rfl⟩ hok
          have r_names := Rep.mono e6 r_names
          have r_rows := Rep.mono e6 r_rows
          have r_others := Rep.mono e6 r_others
          have r_third := Rep.mono e6 r_third
          have r_panels := Rep.mono e6 r_panels
          replace hok : ok__law_right_12 x_purse x_names x_rows x_others x_third x_panels x_panel x_some := hok
          show SJ B _ _ [some (.ref u_purse), some v_names, some v_rows, some v_others, some v_third, some v_panels, some v_panel, some v_some] G6 [(u_purse, cl x_purse)] (JL (fun (r : Bool × (List Int)) => ((JUD B u_purse) ((fun (r : Bool × (List Int)) => (id r : Bool × (List Int))) r)).1) (fun (s : Unit) (σ_ : L2.St) (G_ : Hp) (C_ : Cs) => ∃ (t_panel : Option V) (t_some : Option V), (σ_ = [some (.ref u_purse), some v_names, some v_rows, some v_others, some v_third, some v_panels, t_panel, t_some] ∧ C_ = ([(u_purse, cl x_purse)] : Cs)))) (m__law_right_12 x_purse x_names x_rows x_others x_third x_panels x_panel x_some)
          obtain ⟨k22, hokA, hokB⟩ := hok
          refine sj_whenX (DT.st (dt_not (dt_val (de_callZ (y := (x_panel, x_names, x_some, ())) (z := (m__law_panel_is x_panel x_names x_some)) (h__law_panel_is T) hr (da_cons (de_var 6 r_panel) (da_cons (de_var 1 r_names) (da_cons (de_var 7 r_some) da_nil))) k22)))) (fun h5 => ?_) (fun h5 => ?_)
          · have hok := hokA h5; clear hokA hokB
            show SJ B _ _ [some (.ref u_purse), some v_names, some v_rows, some v_others, some v_third, some v_panels, some v_panel, some v_some] G6 [(u_purse, cl x_purse)] (JX (JL (fun (r : Bool × (List Int)) => ((JUD B u_purse) ((fun (r : Bool × (List Int)) => (id r : Bool × (List Int))) r)).1) (fun (s : Unit) (σ_ : L2.St) (G_ : Hp) (C_ : Cs) => ∃ (t_panel : Option V) (t_some : Option V), (σ_ = [some (.ref u_purse), some v_names, some v_rows, some v_others, some v_third, some v_panels, t_panel, t_some] ∧ C_ = ([(u_purse, cl x_purse)] : Cs))))) (m__law_right_13 x_purse x_names x_rows x_others x_third x_panels x_panel x_some)
            exact sb_retLg (sb_ret 1 (DE.se de_bl))
          · have hok := hokB h5; clear hokA hokB
            show SJ B _ _ [some (.ref u_purse), some v_names, some v_rows, some v_others, some v_third, some v_panels, some v_panel, some v_some] G6 [(u_purse, cl x_purse)] (JL (fun (r : Bool × (List Int)) => ((JUD B u_purse) ((fun (r : Bool × (List Int)) => (id r : Bool × (List Int))) r)).1) (fun (s : Unit) (σ_ : L2.St) (G_ : Hp) (C_ : Cs) => ∃ (t_panel : Option V) (t_some : Option V), (σ_ = [some (.ref u_purse), some v_names, some v_rows, some v_others, some v_third, some v_panels, t_panel, t_some] ∧ C_ = ([(u_purse, cl x_purse)] : Cs)))) (m__law_right_14 x_purse x_names x_rows x_others x_third x_panels x_panel x_some)
            exact sb_nilL fun G_ e_ => ⟨_, _, rfl, rfl⟩
        · rintro ⟨⟩ σ_ G7 C_ hl_ e7 ⟨t_panel, t_some, rfl, rfl⟩
          replace hok := hok _ hl_
          have r_names := Rep.mono e7 r_names
          have r_rows := Rep.mono e7 r_rows
          have r_others := Rep.mono e7 r_others
          have r_third := Rep.mono e7 r_third
          have r_panels := Rep.mono e7 r_panels
          replace hok : ok__law_right_15 x_purse x_names x_rows x_others x_third x_panels := hok
          show SJ B _ _ [some (.ref u_purse), some v_names, some v_rows, some v_others, some v_third, some v_panels, t_panel, t_some] G7 [(u_purse, cl x_purse)] (JUD B u_purse) (m__law_right_15 x_purse x_names x_rows x_others x_third x_panels)
          obtain ⟨k24, k25, hok⟩ := hok
          exact sb_ret 1 (DE.se (DC.de (dc_eqPL (h_Panel___eq__ T) (mt_Panel___eq__ T) hr (de_var 5 r_panels) (DO.de (do_lc (lc_map (fun y6 => (m_Panel___init__ x_names y6)) sc.nd rfl (di_tup (m := ([x_rows, x_others, x_third] : List (List (List Str)))) (de_tupN (A := (List (List Str)) × (List (List Str)) × (List (List Str)) × Unit) (da_cons (de_var 2 r_rows) (da_cons (de_var 3 r_others) (da_cons (de_var 4 r_third) da_nil)))) (by intro G_ vs_ h_; obtain ⟨v0_, _, rfl, r0_, v1_, _, rfl, r1_, v2_, _, rfl, r2_, h_⟩ := h_; cases h_; exact (.cons r0_ (.cons r1_ (.cons r2_ .nil)))) (by show (3 : Nat) ≤ 1000; decide)) (blkOk_by (own := [("some", 7)]) (N := N__law_right) (sc := _) (by first | decide +kernel | rfl)) rfl (dg_name sc.nd) (by intro i_ y6 σ_ G_ hy_ eG_ hT_; obtain ⟨v_y6, q_y6, rfl⟩ := hT_; have r_names := Rep.mono eG_ r_names; have r_rows := Rep.mono eG_ r_rows; have r_others := Rep.mono eG_ r_others; have r_third := Rep.mono eG_ r_third; have r_panels := Rep.mono eG_ r_panels; have z_ := k24 y6 (List.mem_of_getElem? hy_); have ze_ := z_; have k23 := ze_; intro Y_ hY_; have hr := InBlk.room hY_ hr; obtain ⟨⟨s_, H_, C_, cl_, fp_, rfl⟩⟩ := hY_; exact de_Panel (y := (x_names, y6, ())) (z := (m_Panel___init__ x_names y6)) (h_Panel___init__ T) (k_Panel T) (g_Panel T) hr (da_cons (de_var 1 r_names) (da_cons (de_var 7 q_y6) da_nil)) k23)))) k25)))

abbrev N_law : List Str := ["script", "purse", "one"]
def m_law_2 (x_script : Scr) (x_purse : List Int) : (Bool) ⊕ Unit := .inl (false)
def ok_law_2 (x_script : Scr) (x_purse : List Int) : Prop := True
def m_law_3 (x_script : Scr) (x_purse : List Int) : (Bool) ⊕ Unit := .inr ()
def ok_law_3 (x_script : Scr) (x_purse : List Int) : Prop := True
def m_law_1 (x_script : Scr) (x_purse : List Int) : (Bool) ⊕ Unit := if (!((m__law_right x_purse ).1)) = true then m_law_2 x_script ((m__law_right x_purse ).2) else m_law_3 x_script ((m__law_right x_purse ).2)
def ok_law_1 (x_script : Scr) (x_purse : List Int) : Prop := (ok__law_right x_purse ) ∧ ((!((m__law_right x_purse ).1)) = true → ok_law_2 x_script ((m__law_right x_purse ).2)) ∧ ((!((m__law_right x_purse ).1)) = false → ok_law_3 x_script ((m__law_right x_purse ).2))
def m_law_5 (x_script : Scr) (x_one : PanelD) : Bool := (decide ((m_Panel_rows (m_joint x_one x_one)) = ([([("a" : Str), ("b" : Str)] : List Str), ([("a" : Str), ("b" : Str)] : List Str)] : List (List Str))) && (!(m_Panel___eq__ (m_joint x_one x_one) x_one)))
def ok_law_5 (x_script : Scr) (x_one : PanelD) : Prop := (ok_joint x_one x_one) ∧ (ok_Panel_rows (m_joint x_one x_one)) ∧ ((decide ((m_Panel_rows (m_joint x_one x_one)) = ([([("a" : Str), ("b" : Str)] : List Str), ([("a" : Str), ("b" : Str)] : List Str)] : List (List Str))) = true) → (ok_joint x_one x_one) ∧ (ok_Panel___eq__ (m_joint x_one x_one) x_one)) ∧ True
def m_law_4 (x_script : Scr) : Bool := m_law_5 x_script (m_Panel___init__ ([("a" : Str), ("b" : Str)] : List Str) ([([("a" : Str), ("b" : Str)] : List Str)] : List (List Str)))
def ok_law_4 (x_script : Scr) : Prop := (ok_Panel___init__ ([("a" : Str), ("b" : Str)] : List Str) ([([("a" : Str), ("b" : Str)] : List Str)] : List (List Str))) ∧ ok_law_5 x_script (m_Panel___init__ ([("a" : Str), ("b" : Str)] : List Str) ([([("a" : Str), ("b" : Str)] : List Str)] : List (List Str)))
def m_law_0 (x_script : Scr) : Bool := elimR (loopP (fun (y : List Int) => m_law_1 x_script y) (m__law_purses x_script (2 : Int))) id fun _ => m_law_4 x_script
def ok_law_0 (x_script : Scr) : Prop := (ok__law_purses x_script (2 : Int)) ∧ (loopOkP (fun (y : List Int) => m_law_1 x_script y) (fun (y : List Int) => ok_law_1 x_script y) (m__law_purses x_script (2 : Int))) ∧ (loopP (fun (y : List Int) => m_law_1 x_script y) (m__law_purses x_script (2 : Int)) = .inr () → ok_law_4 x_script)
def m_law (x_script : Scr) : Bool := m_law_0 x_script
def ok_law (x_script : Scr) : Prop := ok_law_0 x_script
theorem h_law (T : Tx K mg) : Has P w K mg base "law" (He.ga K "law") 11 ["script"] (SpN kD (fun (a : Scr × Unit) => ok_law a.1) (fun a => m_law a.1)) := by
  have sc : FnScope N_law ["script"] (defScope s_law) := ⟨rfl, rfl, rfl, by decide +kernel, rfl, by decide +kernel, by decide +kernel⟩
  refine has_D (d_law T) (g_law T) sc (fun _ _ _ _ _ _ us hl => match us, hl with | [_], _ => rfl) (by rintro a G vs ⟨v_script, _, rfl, r_script, rfl⟩; rfl) ?_
  rintro X ⟨cdv, AA, outer, ss, HH, EE, rfl⟩ hr B vs ⟨x_script, ⟨⟩⟩ G0 hB ⟨v_script, _, rfl, r_script, rfl⟩ hok
  replace hok : ok_law_0 x_script := hok
  show SJ B _ _ [some v_script, none, none] G0 [] (JD B []) (m_law_0 x_script)
  obtain ⟨k1, k9, hok⟩ := hok
  refine sj_forP 1 (fun (σ_ : L2.St) (G_ : Hp) => ∃ (t_purse : Option V), σ_ = [some v_script, t_purse, none]) (fun (y : List Int) => m_law_1 x_script y) (fun (y : List Int) => ok_law_1 x_script y) (dp_call (h__law_purses T) hr (da_cons (de_var 0 r_script) (da_cons de_int da_nil)) k1) sc.nd rfl (fun G_ e_ => ⟨_, rfl⟩) (by rintro σ_ G_ G2_ e_ ⟨t_purse, rfl⟩; exact ⟨_, rfl⟩) k9 ?_ (fun r Q h => h) ?_
  · rintro B u_purse x_purse σ_ G1 hBM_ e1 ⟨t_purse, rfl⟩ hok
    have r_script := Rep.mono e1 r_script
    replace hok : ok_law_1 x_script x_purse := hok
    show SJ B _ _ [some v_script, some (.ref u_purse), none] G1 [(u_purse, cl x_purse)] (JP B (fun (σ_ : L2.St) (G_ : Hp) => ∃ (t_purse : Option V), σ_ = [some v_script, t_purse, none])) (m_law_1 x_script x_purse)
    obtain ⟨k2, hokA, hokB⟩ := hok
    refine sj_whenX (st_not (st_val (se_callUZ (z := (m__law_right x_purse ).1) (l' := (m__law_right x_purse ).2) 0 (h__law_right T) hr (at_var 1) (DA.sa da_nil) rfl k2))) (fun h1 => ?_) (fun h1 => ?_)
    · have hok := hokA h1; clear hokA hokB
      show SJ B _ _ [some v_script, some (.ref u_purse), none] G1 [(u_purse, cl ((m__law_right x_purse ).2))] (JX (JP B (fun (σ_ : L2.St) (G_ : Hp) => ∃ (t_purse : Option V), σ_ = [some v_script, t_purse, none]))) (m_law_2 x_script ((m__law_right x_purse ).2))
      generalize (m__law_right x_purse ).2 = x_purse at hok ⊢
      exact sb_retLg (sb_ret 0 (DE.se de_bl))
    · have hok := hokB h1; clear hokA hokB
      show SJ B _ _ [some v_script, some (.ref u_purse), none] G1 [(u_purse, cl ((m__law_right x_purse ).2))] (JP B (fun (σ_ : L2.St) (G_ : Hp) => ∃ (t_purse : Option V), σ_ = [some v_script, t_purse, none])) (m_law_3 x_script ((m__law_right x_purse ).2))
      generalize (m__law_right x_purse ).2 = x_purse at hok ⊢
      exact sb_nil fun G_ e_ => ⟨rfl, ⟨_, rfl⟩⟩
  · rintro σ_ G2 hl_ e2 ⟨t_purse, rfl⟩
    replace hok := hok hl_
    have r_script := Rep.mono e2 r_script
    replace hok : ok_law_4 x_script := hok
    show SJ B _ _ [some v_script, t_purse, none] G2 [] (JD B []) (m_law_4 x_script)
    obtain ⟨k3, hok⟩ := hok
    refine sb_set 2 (DE.se (de_Panel (y := (([("a" : Str), ("b" : Str)] : List Str), ([([("a" : Str), ("b" : Str)] : List Str)] : List (List Str)), ())) (z := (m_Panel___init__ ([("a" : Str), ("b" : Str)] : List Str) ([([("a" : Str), ("b" : Str)] : List Str)] : List (List Str)))) (h_Panel___init__ T) (k_Panel T) (g_Panel T) hr (da_cons (DO.de (do_list (hl := (by decide : (2 : Nat) ≤ sizeLine)) (des_cons de_str (des_cons de_str des_nil)))) (da_cons (DO.de (do_list (hl := (by decide : (1 : Nat) ≤ sizeLine)) (des_cons (DO.de (do_list (hl := (by decide : (2 : Nat) ≤ sizeLine)) (des_cons de_str (des_cons de_str des_nil)))) des_nil))) da_nil)) k3)) (fun v_one G3 e3 r_one => ?_) sc.nd
    have r_script := Rep.mono e3 r_script
    replace r_one : rep G3 v_one (m_Panel___init__ ([("a" : Str), ("b" : Str)] : List Str) ([([("a" : Str), ("b" : Str)] : List Str)] : List (List Str))) := r_one
    replace hok : ok_law_5 x_script (m_Panel___init__ ([("a" : Str), ("b" : Str)] : List Str) ([([("a" : Str), ("b" : Str)] : List Str)] : List (List Str))) := hok
    show SJ B _ _ [some v_script, t_purse, some v_one] G3 [] (JD B []) (m_law_4 x_script)
    rw [show m_law_4 x_script = m_law_5 x_script (m_Panel___init__ ([("a" : Str), ("b" : Str)] : List Str) ([([("a" : Str), ("b" : Str)] : List Str)] : List (List Str))) from rfl]
    generalize (m_Panel___init__ ([("a" : Str), ("b" : Str)] : List Str) ([([("a" : Str), ("b" : Str)] : List Str)] : List (List Str))) = x_one at r_one hok ⊢
    obtain ⟨k4, k5, k8, hok⟩ := hok
    exact sb_ret 0 (DE.se (de_and (DC.de (dc_eq hr.units (DO.de (do_methP0 (z := (m_Panel_rows (m_joint x_one x_one))) (h_Panel_rows T) (c_Panel T) (mt_Panel_rows T) hr (de_callZ (y := (x_one, x_one, ())) (z := (m_joint x_one x_one)) (h_joint T) hr (da_cons (de_var 2 r_one) (da_cons (de_var 2 r_one) da_nil)) k4) k5)) (DO.de (do_list (hl := (by decide : (2 : Nat) ≤ sizeLine)) (des_cons (DO.de (do_list (hl := (by decide : (2 : Nat) ≤ sizeLine)) (des_cons de_str (des_cons de_str des_nil)))) (des_cons (DO.de (do_list (hl := (by decide : (2 : Nat) ≤ sizeLine)) (des_cons de_str (des_cons de_str des_nil)))) des_nil)))))) fun h3 => (by obtain ⟨k6, k7⟩ := k8 h3; exact de_one (DC.de (dc_neP (h_Panel___eq__ T) (mt_Panel___eq__ T) (ne_Panel T) hr (de_callZ (y := (x_one, x_one, ())) (z := (m_joint x_one x_one)) (h_joint T) hr (da_cons (de_var 2 r_one) (da_cons (de_var 2 r_one) da_nil)) k6) (de_var 2 r_one) k7)))))
end
end Pf

namespace Pf
open Dn.Rep (rep)
open PySem L2 Dn
section
variable {α S ρ : Type}
theorem fold_all {f : S → α → S} {okf : S → α → Prop} (inv : S → Prop) : ∀ (l : List α) (s : S), inv s → (∀ s x, x ∈ l → inv s → okf s x ∧ inv (f s x)) → foldOk f okf l s ∧ inv (l.foldl f s)
  | [], s, h, _ => ⟨trivial, h⟩
  | x :: l, s, h, k => by
    obtain ⟨h1, h2⟩ := k s x (List.mem_cons_self ..) h
    obtain ⟨h3, h4⟩ := fold_all inv l (f s x) h2 fun s y hy => k s y (List.mem_cons_of_mem _ hy)
    exact ⟨⟨h1, h3⟩, h4⟩
theorem fold_pre {f : S → α → S} {okf : S → α → Prop} (inv : List α → S → Prop) (l : List α) : ∀ (pre post : List α) (s : S), l = pre ++ post → inv pre s → (∀ pre x post s, l = pre ++ x :: post → inv pre s → okf s x ∧ inv (pre ++ [x]) (f s x)) → foldOk f okf post s ∧ inv l (post.foldl f s)
  | pre, [], s, e, h, _ => ⟨trivial, by rw [e, List.append_nil]; exact h⟩
  | pre, x :: post, s, e, h, k => by
    obtain ⟨h1, h2⟩ := k pre x post s e h
    obtain ⟨h3, h4⟩ := fold_pre inv l (pre ++ [x]) post (f s x) (by rw [e]; simp) h2 k
    exact ⟨⟨h1, h3⟩, h4⟩
theorem loop_all {f : S → α → ρ ⊕ S} {okf : S → α → Prop} (inv : S → Prop) : ∀ (l : List α) (s : S), inv s → (∀ s x, x ∈ l → inv s → okf s x ∧ ∃ s', f s x = .inr s' ∧ inv s') → loopOk f okf l s ∧ ∃ s', loopR f l s = .inr s' ∧ inv s'
  | [], s, h, _ => ⟨trivial, s, rfl, h⟩
  | x :: l, s, h, k => by
    obtain ⟨h1, s1, h2, h3⟩ := k s x (List.mem_cons_self ..) h
    obtain ⟨h4, h5⟩ := loop_all inv l s1 h3 fun s y hy => k s y (List.mem_cons_of_mem _ hy)
    refine ⟨⟨h1, fun s' e => ?_⟩, ?_⟩
    · rw [h2] at e; cases e; exact h4
    · unfold loopR; rw [h2]; exact h5
theorem loopP_all {f : α → ρ ⊕ Unit} {okf : α → Prop} : ∀ (l : List α), (∀ x, x ∈ l → okf x ∧ f x = .inr ()) → loopOkP f okf l ∧ loopP f l = .inr ()
  | [], _ => ⟨trivial, rfl⟩
  | x :: l, k => by
    obtain ⟨h1, h2⟩ := k x (List.mem_cons_self ..)
    obtain ⟨h4, h5⟩ := loopP_all l fun y hy => k y (List.mem_cons_of_mem _ hy)
    refine ⟨⟨h1, fun _ => h4⟩, ?_⟩
    unfold loopP; rw [h2]; exact h5
end
def PW (n : Nat) (p : List Int) : Prop := ∃ a b c d : Int, p = [a, b, c, d] ∧ 0 ≤ c ∧ c ≤ n
theorem PW.mono {n m : Nat} {p : List Int} (h : PW n p) (q : n ≤ m) : PW m p := by
  obtain ⟨a, b, c, d, e, h1, h2⟩ := h
  exact ⟨a, b, c, d, e, h1, by omega⟩
theorem bits_small {m : Int} (h0 : 0 < m) (h : m < 2 ^ 27) : (Builtin.Int.intBits m : Int) / 28 = 0 := by
  have : Builtin.Int.intBits m ≤ 27 := by
    unfold Builtin.Int.intBits
    split
    · omega
    · have h2 : m.natAbs.log2 < 27 := (Nat.log2_lt (by omega)).mpr (by omega)
      omega
  omega
theorem irange1 : irange 1 = [0] := rfl
theorem mem_irange {n i : Int} (h : i ∈ irange n) : 0 ≤ i ∧ i < n := by
  unfold irange at h
  obtain ⟨j, hj, rfl⟩ := List.mem_map.mp h
  have := List.mem_range.mp hj
  omega
theorem irange_len (n : Int) : (irange n).length = n.toNat := by unfold irange; simp
theorem mixed_ok {a b c : Int} (hb : 0 ≤ b) (hb2 : b < 2 ^ 60) : ok__law_mixed a b c := by
  unfold ok__law_mixed ok__law_mixed_0 ok__law_mixed_1 ok__law_mixed_2 ok__law_mixed_3
  have small : ∀ {i j : Int}, 0 < j → j < 2 ^ 64 → CMul i j := fun h1 h2 => .inr ⟨by omega, h2⟩
  have small' : ∀ {i j : Int}, 0 ≤ i → i < 2 ^ 64 → CMul i j := fun h1 h2 => .inl ⟨by omega, h2⟩
  refine ⟨small (by omega) (by omega), small' (by omega) (by omega), .inr ⟨by omega, by omega⟩, small' (by omega) (by omega), by omega, ?_, by omega, small (by omega) (by omega), by omega, trivial⟩
  exact small' (Int.emod_nonneg _ (by omega)) (by have := Int.emod_lt_of_pos (a * 69069 + 104729 * b * b + 7919 * c + b) (show (0 : Int) < 2147483647 by omega); omega)
theorem draw_spec {n : Nat} {p : List Int} {m : Int} (hp : PW n p) (hn : n < 2 ^ 50) (h0 : 0 < m) (h1 : m < 2 ^ 27) : ok__law_draw p m ∧ 0 ≤ (m__law_draw p m).1 ∧ (m__law_draw p m).1 < m ∧ PW (n + 1) (m__law_draw p m).2 := by
  obtain ⟨a, b, c, d, rfl, hc, hcn⟩ := hp
  have hm := Int.emod_nonneg
  by_cases ha : 0 < a
  · have e : m__law_draw [a, b, c, d] m = (a % m, [a / m, b, c, d]) := by
      show (if decide (0 < a) = true then _ else _) = _
      rw [if_pos (decide_eq_true ha)]
      rfl
    rw [e]
    refine ⟨⟨rfl, fun _ => ⟨rfl, h0, rfl, ⟨h0, by omega⟩, rfl, trivial⟩, fun h => absurd (show decide (0 < a) = false from h) (by simp [ha])⟩, Int.emod_nonneg _ (by omega), Int.emod_lt_of_pos _ h0, _, _, _, _, rfl, hc, by omega⟩
  · have hr : irange ((1 : Int) + (Builtin.Int.intBits m : Int) / 28) = [0] := by rw [bits_small h0 h1]; rfl
    have e : m__law_draw [a, b, c, d] m = ((0 * 2147483587 + m__law_mixed b (c + 1) d) % m, [a, b, c + 1, d]) := by
      show (if decide (0 < a) = true then _ else m__law_draw_4 [a, b, c, d] m) = _
      rw [if_neg (by simpa using ha)]
      unfold m__law_draw_4 m__law_draw_5
      rw [hr]
      rfl
    rw [e]
    refine ⟨⟨rfl, fun h => absurd (of_decide_eq_true (show decide (0 < a) = true from h)) ha, fun _ => ?_⟩, Int.emod_nonneg _ (by omega), Int.emod_lt_of_pos _ h0, _, _, _, _, rfl, by omega, by omega⟩
    unfold ok__law_draw_4 ok__law_draw_5
    rw [hr, bits_small h0 h1]
    exact ⟨by omega, by omega, ⟨⟨rfl, rfl, .inl ⟨by show -(2 ^ 64) < (0 : Int); omega, by show (0 : Int) < 2 ^ 64; omega⟩, rfl, rfl, rfl, mixed_ok (show 0 ≤ c + 1 by omega) (show c + 1 < 2 ^ 60 by omega), trivial⟩, trivial⟩, h0, trivial⟩
end Pf

namespace Pf
open Dn.Rep (rep)
open PySem L2 Dn
theorem insI_perm {α : Type} (l : List α) (i : Int) (x : α) : (insI l i x).Perm (l ++ [x]) := by
  unfold insI
  have h : l = l.take i.toNat ++ l.drop i.toNat := (List.take_append_drop _ _).symm
  calc (l.take i.toNat ++ [x] ++ l.drop i.toNat).Perm (l.take i.toNat ++ ([x] ++ l.drop i.toNat)) := by rw [List.append_assoc]
    _ |>.Perm (l.take i.toNat ++ (l.drop i.toNat ++ [x])) := List.Perm.append_left _ List.perm_append_comm
    _ |>.Perm (l ++ [x]) := by rw [← List.append_assoc, List.take_append_drop]
theorem shuf_spec {α : Type} [Inhabited α] {n : Nat} {p : List Int} {l : List α} (hp : PW n p) (hn : n + l.length < 2 ^ 50) (hl : l.length < 2 ^ 20) : ok__law_shuffled p l ∧ (m__law_shuffled p l).1.Perm l ∧ PW (n + l.length) (m__law_shuffled p l).2 := by
  have key := fold_pre (f := fun (s : (List Int) × (List α)) (y : α) => m__law_shuffled_2 s.1 l s.2 y) (okf := fun (s : (List Int) × (List α)) (y : α) => ok__law_shuffled_2 s.1 l s.2 y) (fun pre s => PW (n + pre.length) s.1 ∧ s.2.Perm pre) l [] l (p, id []) rfl ⟨hp, .refl _⟩ (by
    rintro pre x post ⟨q, f⟩ e ⟨h1, h2⟩
    have hpl : pre.length < l.length := by rw [e]; simp
    have hfl : f.length = pre.length := h2.length_eq
    obtain ⟨d1, d2, d3, d4⟩ := draw_spec (m := (f.length : Int) + 1) h1 (by omega) (by omega) (by omega)
    refine ⟨⟨d1, by show f.length < sizeLine; rw [sizeLine_eq]; omega, ⟨d2, by show (m__law_draw q ((f.length : Int) + 1)).1 < 2 ^ 63; have d3' : (m__law_draw q ((f.length : Int) + 1)).1 < (f.length : Int) + 1 := d3; omega⟩, trivial⟩, ?_, ?_⟩
    · show PW _ (m__law_draw q ((f.length : Int) + 1)).2
      exact d4.mono (by rw [List.length_append]; simp; omega)
    · show (insI f _ x).Perm _
      exact (insI_perm f _ x).trans (h2.append_right _))
  exact ⟨⟨key.1, trivial⟩, key.2.2, key.2.1⟩
/-- a small letter -/
def Low (c : Nat) : Prop := 97 ≤ c ∧ c < 123
def abc : Str := "abcdefghijklmnopqrstuvwxyz"
theorem abc_list : abc.cps.toList = [97,98,99,100,101,102,103,104,105,106,107,108,109,110,111,112,113,114,115,116,117,118,119,120,121,122] := by decide +kernel
theorem mem_abc {c : Nat} : c ∈ abc.cps.toList ↔ Low c := by
  rw [abc_list]
  unfold Low
  simp
  omega
theorem at_abc {i : Int} (h0 : 0 ≤ i) (h1 : i < 26) : ∃ c, atI abc.cps.toList i = some c ∧ Low c := by
  have hl : abc.cps.toList.length = 26 := by rw [abc_list]; rfl
  have : atI abc.cps.toList i = abc.cps.toList[i.toNat]? := by
    unfold atI ixN
    rw [hl, if_pos h0, if_pos (by omega)]
    rfl
  rw [this, List.getElem?_eq_getElem (by rw [hl]; omega)]
  exact ⟨_, rfl, mem_abc.mp (List.getElem_mem _)⟩
/-- a name: one to eight small letters -/
def Nm (z : Str) : Prop := 1 ≤ z.length ∧ z.length ≤ 8 ∧ ∀ c ∈ z.cps.toList, Low c
theorem nm_ok {z : Str} (h : Nm z) : m_is_name z = true := by
  obtain ⟨h1, h2, h3⟩ := h
  show (if ((!true) || (decide ((z.length : Int) < 1) || decide ((8 : Int) < (z.length : Int)))) = true then _ else m_is_name_2 z) = true
  rw [if_neg (by simp; omega)]
  show decide (_ = _) = true
  rw [decide_eq_true_iff, List.filter_eq_nil_iff]
  intro y hy
  obtain ⟨c, hc, rfl⟩ := List.mem_map.mp hy
  have := mem_abc.mpr (h3 c hc)
  show ¬ (!decide (c ∈ abc.cps.toList)) = true
  rw [decide_eq_true this]
  decide
theorem is_name_ok (z : Str) : ok_is_name z := ⟨fun _ => trivial, fun _ => trivial⟩
theorem word_spec {n : Nat} {p : List Int} (hp : PW n p) (hn : n + 10 < 2 ^ 50) : ok__law_word p ∧ Nm (m__law_word p).1 ∧ PW (n + 9) (m__law_word p).2 := by
  obtain ⟨d1, d2, d3, d4⟩ := draw_spec (m := 8) hp (by omega) (by omega) (by omega)
  have key := fold_pre (f := fun (s : (List Int) × Str) (y : Int) => m__law_word_2 s.1 s.2 y) (okf := fun (s : (List Int) × Str) (y : Int) => ok__law_word_2 s.1 s.2 y) (fun pre s => PW (n + 1 + pre.length) s.1 ∧ s.2.length = pre.length ∧ ∀ c ∈ s.2.cps.toList, Low c) (irange ((1 : Int) + (m__law_draw p 8).1)) [] _ ((m__law_draw p 8).2, id ("" : Str)) rfl ⟨d4, rfl, by intro c hc; exact absurd (show c ∈ ([] : List Nat) from hc) (by simp)⟩ (by
    rintro pre x post ⟨q, f⟩ e ⟨h1, h2, h3⟩
    have hpl : pre.length < 8 := by
      have := congrArg List.length e
      rw [irange_len, List.length_append, List.length_cons] at this
      omega
    obtain ⟨g1, g2, g3, g4⟩ := draw_spec (m := 26) h1 (by omega) (by omega) (by omega)
    obtain ⟨c, hc, lc⟩ := at_abc g2 g3
    have hs : signAt abc (m__law_draw q 26).1 = ⟨#[c]⟩ := by unfold signAt; rw [hc]; rfl
    have hlen : ∀ a b : Str, (a ++ b).length = a.length + b.length := fun a b => by
      show (a.cps ++ b.cps).size = _
      rw [Array.size_append]; rfl
    have h2' : f.length = pre.length := h2
    refine ⟨⟨g1, by show (atI abc.cps.toList _).isSome = true; rw [hc]; rfl, ?_, trivial⟩, ?_, ?_, ?_⟩
    · show f.length + (signAt abc _).length ≤ sizeLine
      rw [hs, sizeLine_eq]
      show f.length + 1 ≤ _
      omega
    · show PW _ (m__law_draw q 26).2
      exact g4.mono (by rw [List.length_append]; simp; omega)
    · show (f ++ signAt abc _).length = _
      rw [hlen, hs, List.length_append, h2']
      rfl
    · show ∀ c ∈ (f ++ signAt abc _).cps.toList, Low c
      intro z hz
      have hz' : z ∈ (f.cps ++ (signAt abc (m__law_draw q 26).1).cps).toList := hz
      rw [hs, Array.toList_append] at hz'
      rcases List.mem_append.mp hz' with hz | hz
      · exact h3 z hz
      · have : z = c := by simpa using hz
        rw [this]; exact lc)
  obtain ⟨k1, k2, k3, k4⟩ := key
  rw [irange_len] at k2 k3
  refine ⟨⟨d1, ⟨by omega, by omega⟩, k1, trivial⟩, ⟨?_, ?_, k4⟩, ?_⟩
  · exact k3 ▸ (by omega)
  · exact k3 ▸ (by omega)
  · exact k2.mono (by omega)
end Pf

namespace Pf
open Dn.Rep (rep)
open PySem L2 Dn
theorem cut_to {α : Type} (l : List α) {k : Int} (h : 0 ≤ k) : cut l none (some k) = l.take k.toNat := by
  obtain ⟨j, rfl⟩ := Int.eq_ofNat_of_zero_le h
  unfold cut
  rw [HT.sIx_nat, HT.sIx_none, List.drop_zero, Nat.sub_zero]
  show _ = l.take j
  by_cases q : j ≤ l.length
  · rw [Nat.min_eq_left q]
  · rw [Nat.min_eq_right (by omega), List.take_of_length_le (Nat.le_refl _), List.take_of_length_le (by omega)]
theorem cut_from {α : Type} (l : List α) {k : Int} (h : 0 ≤ k) : cut l (some k) none = l.drop k.toNat := by
  obtain ⟨j, rfl⟩ := Int.eq_ofNat_of_zero_le h
  unfold cut
  rw [HT.sIx_nat, HT.sIx_none]
  show _ = l.drop j
  by_cases q : j ≤ l.length
  · rw [Nat.min_eq_left q, List.take_of_length_le (by rw [List.length_drop]; omega)]
  · rw [Nat.min_eq_right (by omega), List.drop_eq_nil_of_le (show l.length ≤ j by omega), List.drop_eq_nil_of_le (Nat.le_refl _), List.take_nil]
/-- good names: sorted, each once, names all -/
structure GN (l : List Str) : Prop where
  asc : Asc l
  nd : l.Nodup
  nm : ∀ z ∈ l, Nm z
def fixed : List Str := ["ale", "bun", "cob", "a", "zz", "egg", "marrows", "jam"]
theorem fixed_nm : ∀ z ∈ fixed, Nm z := by
  have : (fixed.all fun z => decide (1 ≤ z.length) && (decide (z.length ≤ 8) && z.cps.toList.all fun c => decide (97 ≤ c) && decide (c < 123))) = true := by decide +kernel
  intro z hz
  have h := List.all_eq_true.mp this z hz
  simp only [Bool.and_eq_true, decide_eq_true_iff, List.all_eq_true] at h
  exact ⟨h.1, h.2.1, fun c hc => h.2.2 c hc⟩
theorem fixed_nd : fixed.Nodup := by decide +kernel
theorem names_spec {n : Nat} {p : List Int} {m : Int} (hp : PW n p) (hn : n + 30 < 2 ^ 50) (h0 : 1 ≤ m) (h1 : m ≤ 8) : ok__law_names p m ∧ GN (m__law_names p m).1 ∧ (m__law_names p m).1.length = m.toNat ∧ PW (n + 18) (m__law_names p m).2 := by
  obtain ⟨w1, w2, w3⟩ := word_spec hp (by omega)
  have hw : ∀ {fresh : Str} {q : List Int}, Nm fresh → PW (n + 9) q → ok__law_names_1 q m fixed fresh ∧ GN (m__law_names_1 q m fixed fresh).1 ∧ (m__law_names_1 q m fixed fresh).1.length = m.toNat ∧ PW (n + 18) (m__law_names_1 q m fixed fresh).2 := by
    intro fresh q hf hq
    have hfl : (([fresh] : List Str).filter fun y => !decide (y ∈ fixed)).length ≤ 1 := List.length_filter_le _ _
    have hnd : (fixed ++ ([fresh] : List Str).filter fun y => !decide (y ∈ fixed)).Nodup := by
      refine List.nodup_append.mpr ⟨fixed_nd, (List.nodup_cons.mpr ⟨by simp, List.nodup_nil⟩).filter _, fun a ha b hb => ?_⟩
      have := (List.mem_filter.mp hb).2
      intro e
      rw [← e] at this
      simp [ha] at this
    have hnm : ∀ z ∈ fixed ++ ([fresh] : List Str).filter fun y => !decide (y ∈ fixed), Nm z := by
      intro z hz
      rcases List.mem_append.mp hz with h | h
      · exact fixed_nm z h
      · have := (List.mem_filter.mp h).1
        have e : z = fresh := by simpa using this
        rw [e]; exact hf
    have hlen8 : (fixed ++ ([fresh] : List Str).filter fun y => !decide (y ∈ fixed)).length = 8 + (([fresh] : List Str).filter fun y => !decide (y ∈ fixed)).length := by rw [List.length_append]; rfl
    obtain ⟨s1, s2, s3⟩ := shuf_spec (l := fixed ++ ([fresh] : List Str).filter fun y => !decide (y ∈ fixed)) hq (by omega) (by omega)
    have hl := s2.length_eq
    have hc : cut (m__law_shuffled q (fixed ++ ([fresh] : List Str).filter fun y => !decide (y ∈ fixed))).1 none (some m) = (m__law_shuffled q (fixed ++ ([fresh] : List Str).filter fun y => !decide (y ∈ fixed))).1.take m.toNat := cut_to _ (by omega)
    have hcl : (cut (m__law_shuffled q (fixed ++ ([fresh] : List Str).filter fun y => !decide (y ∈ fixed))).1 none (some m)).length = m.toNat := by
      rw [hc, List.length_take, hl, hlen8]
      omega
    refine ⟨⟨?_, s1, ?_, trivial⟩, ⟨srt_asc _, srt_nodup.mpr ?_, ?_⟩, ?_, ?_⟩
    · show fixed.length + _ ≤ sizeLine
      rw [sizeLine_eq]
      show 8 + _ ≤ _
      omega
    · rw [hcl]; omega
    · show (cut _ none (some m)).Nodup
      rw [hc]
      exact (s2.nodup_iff.mpr hnd).sublist (List.take_sublist _ _)
    · intro z hz
      have hz' := mem_srt.mp hz
      rw [hc] at hz'
      exact hnm z (s2.mem_iff.mp (List.mem_of_mem_take hz'))
    · show (srt _).length = _
      rw [srt_len, hcl]
    · exact s3.mono (by omega)
  obtain ⟨a1, a2, a3, a4⟩ := hw w2 w3
  exact ⟨⟨w1, a1⟩, a2, a3, a4⟩
end Pf

namespace Pf
open Dn.Rep (rep)
open PySem L2 Dn
theorem head_tail_perm {names base row : List Str} (nd : names.Nodup) (hb : base.Perm names) (hr : row.Perm names) (k : Nat) : (row.take k ++ base.filter fun y => !decide (y ∈ row.take k)).Perm names := by
  have ndr := hr.nodup_iff.mpr nd
  have ndb := hb.nodup_iff.mpr nd
  refine TX.perm_of_nodups (List.nodup_append.mpr ⟨ndr.sublist (List.take_sublist _ _), ndb.filter _, fun a ha b hb' e => ?_⟩) nd fun z => ?_
  · have := (List.mem_filter.mp hb').2
    rw [← e] at this
    simp [ha] at this
  · rw [List.mem_append, List.mem_filter]
    constructor
    · rintro (h | h)
      · exact hr.mem_iff.mp (List.mem_of_mem_take h)
      · exact hb.mem_iff.mp h.1
    · intro h
      by_cases q : z ∈ row.take k
      · exact .inl q
      · exact .inr ⟨hb.mem_iff.mpr h, by simp [q]⟩
theorem rows_spec {n : Nat} {p : List Int} {names : List Str} {m : Int} (hp : PW n p) (nd : names.Nodup) (l1 : 1 ≤ names.length) (l8 : names.length ≤ 100) (h0 : 0 ≤ m) (h1 : m ≤ 100) (hn : n + 20000 < 2 ^ 50) :
    ok__law_rows_of p names m ∧ (∀ r ∈ (m__law_rows_of p names m).1, r.Perm names) ∧ (m__law_rows_of p names m).1.length = m.toNat ∧ PW (n + names.length + 1 + m.toNat * (names.length + 2)) (m__law_rows_of p names m).2 := by
  obtain ⟨s1, s2, s3⟩ := shuf_spec (l := names) hp (by omega) (by omega)
  obtain ⟨d1, d2, d3, d4⟩ := draw_spec (m := 3) s3 (by omega) (by omega) (by omega)
  generalize hb : (m__law_shuffled p names).1 = base at s2
  generalize hq : (m__law_shuffled p names).2 = q at s3 d1 d2 d3 d4
  generalize hw : (m__law_draw q 3).1 = way at d2 d3
  generalize hq2 : (m__law_draw q 3).2 = q2 at d4
  have key := fold_pre (f := fun (s : (List Int) × (List (List Str))) (y : Int) => m__law_rows_of_3 s.1 names m way y base s.2) (okf := fun (s : (List Int) × (List (List Str))) (y : Int) => ok__law_rows_of_3 s.1 names m way y base s.2)
    (fun pre s => PW (n + names.length + 1 + pre.length * (names.length + 2)) s.1 ∧ s.2.length = pre.length ∧ ∀ r ∈ s.2, r.Perm names) (irange m) [] _ (q2, ([] : List (List Str))) rfl ⟨d4.mono (by simp), rfl, by simp⟩ (by
    rintro pre x post ⟨u, f⟩ e ⟨g1, g2, g3⟩
    have hpl : pre.length < 100 := by
      have := congrArg List.length e
      rw [irange_len, List.length_append, List.length_cons] at this
      omega
    have hmul : pre.length * (names.length + 2) ≤ 100 * 102 := Nat.mul_le_mul (by omega) (by omega)
    have hmul2 : (pre ++ [x]).length * (names.length + 2) = pre.length * (names.length + 2) + (names.length + 2) := by rw [List.length_append, List.length_singleton, Nat.add_mul, Nat.one_mul]
    obtain ⟨t1, t2, t3⟩ := shuf_spec (l := names) g1 (by omega) (by omega)
    generalize hr : (m__law_shuffled u names).1 = row at t2
    generalize hu : (m__law_shuffled u names).2 = u2 at t3
    have g2' : f.length = pre.length := g2
    have fin : ∀ (r : List Str) (v : List Int), r.Perm names → PW (n + names.length + 1 + pre.length * (names.length + 2) + names.length + 2) v → PW (n + names.length + 1 + (pre ++ [x]).length * (names.length + 2)) v ∧ (f ++ [r]).length = (pre ++ [x]).length ∧ ∀ z ∈ f ++ [r], z.Perm names := fun r v hr hv => by
      refine ⟨hv.mono (by omega), by simp [g2'], fun z hz => ?_⟩
      rcases List.mem_append.mp hz with h | h
      · exact g3 z h
      · have e : z = r := by simpa using h
        rw [e]; exact hr
    have hfl : f.length < sizeLine := by rw [sizeLine_eq]; omega
    by_cases hway : 0 < way
    · obtain ⟨a1, a2, a3, a4⟩ := draw_spec (m := (names.length : Int)) t3 (by omega) (by omega) (by omega)
      generalize hc : (m__law_draw u2 (names.length : Int)).1 = ct at a2 a3
      generalize hu3 : (m__law_draw u2 (names.length : Int)).2 = u3 at a4
      obtain ⟨b1, b2, b3, b4⟩ := draw_spec (m := 3) a4 (by omega) (by omega) (by omega)
      generalize hh : (m__law_draw u3 3).1 = hd at b2 b3
      generalize hu4 : (m__law_draw u3 3).2 = u4 at b4
      have hcut : cut row none (some (hd + way - 1)) = row.take (hd + way - 1).toNat := cut_to _ (by omega)
      have hperm := head_tail_perm nd s2 t2 (hd + way - 1).toNat
      have hm : m__law_rows_of_3 u names m way x base f = (u4, f ++ [if decide (0 < ct) = true then (row.take (hd + way - 1).toNat ++ base.filter fun y => !decide (y ∈ row.take (hd + way - 1).toNat)) else (row.take (hd + way - 1).toNat ++ base.filter fun y => !decide (y ∈ row.take (hd + way - 1).toNat)).reverse]) := by
        unfold m__law_rows_of_3 m__law_rows_of_4
        rw [hr, hu, if_pos (decide_eq_true hway)]
        unfold m__law_rows_of_5
        rw [hc, hu3, hh, hu4, hcut]
        rfl
      refine ⟨⟨t1, ?_⟩, ?_⟩
      · show ok__law_rows_of_4 (m__law_shuffled u names).2 names m way x base f (m__law_shuffled u names).1
        rw [hr, hu]
        refine ⟨fun _ => ⟨a1, ?_, ?_⟩, fun h => absurd (show decide (0 < way) = false from h) (by simp [hway])⟩
        · rw [hu3]; exact b1
        · rw [hc, hu3, hh, hu4, hcut]
          refine ⟨?_, hfl, trivial⟩
          have := hperm.length_eq
          rw [List.length_append] at this
          rw [sizeLine_eq]; omega
      · rw [hm]
        refine fin _ _ ?_ (b4.mono (by omega))
        split
        · exact hperm
        · exact (List.reverse_perm _).trans hperm
    · have hm : m__law_rows_of_3 u names m way x base f = (u2, f ++ [row]) := by
        unfold m__law_rows_of_3 m__law_rows_of_4
        rw [hr, hu, if_neg (by simpa using hway)]
        rfl
      refine ⟨⟨t1, ?_⟩, ?_⟩
      · show ok__law_rows_of_4 (m__law_shuffled u names).2 names m way x base f (m__law_shuffled u names).1
        rw [hr, hu]
        exact ⟨fun h => absurd (of_decide_eq_true (show decide (0 < way) = true from h)) hway, fun _ => ⟨hfl, trivial⟩⟩
      · rw [hm]
        exact fin _ _ t2 (t3.mono (by omega)))
  obtain ⟨k1, k2, k3, k4⟩ := key
  rw [irange_len] at k2 k3
  have hm : m__law_rows_of p names m = ((List.foldl (fun (s : (List Int) × (List (List Str))) (y : Int) => m__law_rows_of_3 s.1 names m way y base s.2) (q2, ([] : List (List Str))) (irange m)).2, (List.foldl (fun (s : (List Int) × (List (List Str))) (y : Int) => m__law_rows_of_3 s.1 names m way y base s.2) (q2, ([] : List (List Str))) (irange m)).1) := by
    unfold m__law_rows_of m__law_rows_of_0 m__law_rows_of_1
    rw [hb, hq, hw, hq2]
    rfl
  rw [hm]
  refine ⟨⟨s1, ?_⟩, k4, k3, k2⟩
  rw [hb, hq]
  refine ⟨d1, ?_⟩
  rw [hw, hq2]
  exact ⟨⟨by omega, by omega⟩, k1, trivial⟩
end Pf

namespace Pf
open Dn.Rep (rep)
open PySem L2 Dn
def posn : List Str → Str → Nat
  | [], _ => 0
  | x :: l, z => if x = z then 0 else 1 + posn l z
def prs (k : Nat) : List Str → List (Str × Int)
  | [] => []
  | x :: l => (x, (k : Int)) :: prs (k + 1) l
theorem dput_new {α : Type} {m : List (Str × α)} {k : Str} {x : α} (h : ∀ q ∈ m, q.1 ≠ k) : dput m k x = m ++ [(k, x)] := by
  unfold dput
  rw [if_neg]
  intro hh
  obtain ⟨q, hq, e⟩ := List.any_eq_true.mp hh
  exact h q hq (of_decide_eq_true e)
theorem dmk_nodup {α : Type} : ∀ (l m : List (Str × α)), ((m ++ l).map (·.1)).Nodup → l.foldl (fun m q => dput m q.1 q.2) m = m ++ l
  | [], m, _ => by simp
  | q :: l, m, h => by
    have hq : ∀ z ∈ m, z.1 ≠ q.1 := fun z hz e => by
      rw [List.map_append, List.map_cons] at h
      exact (List.nodup_append.mp h).2.2 z.1 (List.mem_map.mpr ⟨z, hz, rfl⟩) q.1 (List.mem_cons_self ..) e
    show l.foldl _ (dput m q.1 q.2) = _
    rw [dput_new hq, dmk_nodup l (m ++ [(q.1, q.2)]) (by simpa using h)]
    simp
theorem dmk_of {α : Type} {l : List (Str × α)} (h : (l.map (·.1)).Nodup) : dmk l = ⟨l⟩ := by
  unfold dmk
  rw [dmk_nodup l [] (by simpa using h)]
  simp
theorem prs_keys : ∀ (k : Nat) (l : List Str), (prs k l).map (·.1) = l
  | _, [] => rfl
  | k, x :: l => by rw [prs, List.map_cons, prs_keys (k + 1) l]
theorem enum_prs : ∀ (row : List Str) (k : Nat), (((List.range' k row.length).zip row).map fun y => (((y.1 : Nat) : Int), y.2)).map (fun y => (y.2, y.1)) = prs k row
  | [], _ => rfl
  | x :: l, k => by
    rw [List.length_cons, List.range'_succ, List.zip_cons_cons, List.map_cons, List.map_cons, enum_prs l (k + 1)]
    rfl
theorem spots_eq {row : List Str} (h : row.Nodup) : m_spots_of row = ⟨prs 0 row⟩ := by
  show dmk ((enumI row).map fun y => (y.2, y.1)) = _
  have e : (enumI row).map (fun y => (y.2, y.1)) = prs 0 row := by
    unfold enumI enum
    rw [List.range_eq_range']
    exact enum_prs row 0
  rw [e, dmk_of (by rw [prs_keys]; exact h)]
theorem prs_find : ∀ (row : List Str) (k : Nat) (z : Str), z ∈ row → ((prs k row).find? fun q => decide (q.1 = z)) = some (z, ((k + posn row z : Nat) : Int))
  | x :: l, k, z, h => by
    rw [prs, List.find?_cons, posn]
    by_cases e : x = z
    · subst e; simp
    · rw [decide_eq_false e, if_neg e]
      have hz : z ∈ l := by
        rcases List.mem_cons.mp h with h | h
        · exact absurd h.symm e
        · exact h
      rw [prs_find l (k + 1) z hz, show k + 1 + posn l z = k + (1 + posn l z) by omega]
theorem dget_spots {row : List Str} {z : Str} (h : row.Nodup) (hz : z ∈ row) : dget (m_spots_of row) z = some (posn row z : Int) := by
  rw [spots_eq h]
  unfold dget
  rw [prs_find row 0 z hz]
  simp
theorem dgetD_spots {row : List Str} {z : Str} (h : row.Nodup) (hz : z ∈ row) : dgetD (m_spots_of row) z = (posn row z : Int) := by
  unfold dgetD
  rw [dget_spots h hz]; rfl
/-- the first one of a row that is in the field -/
def top1 (row field : List Str) : Str := ((row.filter fun y => decide (y ∈ field)).head?).getD default
theorem argmin_head : ∀ {row field : List Str} {z : Str}, z ∈ row → z ∈ field → (∀ n ∈ field, posn row z ≤ posn row n) → (row.filter fun y => decide (y ∈ field)).head? = some z
  | x :: l, field, z, hz, hf, hm => by
    by_cases e : x = z
    · subst e
      rw [List.filter_cons, if_pos (decide_eq_true hf)]
      rfl
    · have hx : x ∉ field := fun h => by
        have := hm x h
        rw [posn, posn, if_neg e, if_pos rfl] at this
        omega
      rw [List.filter_cons, if_neg (by simpa using hx)]
      refine argmin_head (l.mem_of_ne_of_mem (fun h => e h.symm) hz) hf fun n hn => ?_
      have := hm n hn
      have hxn : x ≠ n := fun h => hx (h ▸ hn)
      rw [posn, posn, if_neg e, if_neg hxn] at this
      omega
theorem ix_nat {α : Type} {l : List α} {j : Nat} (h : j < l.length) : atI l (j : Int) = some l[j] := by
  unfold atI ixN
  rw [if_pos (by omega), if_pos (by omega)]
  show l[(j : Int).toNat]? = _
  rw [Int.toNat_natCast, List.getElem?_eq_getElem h]
theorem getI_nat {α : Type} [Inhabited α] {l : List α} {j : Nat} (h : j < l.length) : getI l (j : Int) = l[j] := by
  unfold getI
  rw [ix_nat h]; rfl
theorem first_spec {row field : List Str} (nd : row.Nodup) (sub : ∀ z ∈ field, z ∈ row) (ne : field ≠ []) : ok_first_of (m_spots_of row) field ∧ m_first_of (m_spots_of row) field = top1 row field := by
  obtain ⟨a, l, rfl⟩ := List.exists_cons_of_ne_nil ne
  have hg : getI (a :: l) (0 : Int) = a := getI_nat (l := a :: l) (j := 0) (by simp)
  have hi : (atI (a :: l) (0 : Int)).isSome = true := by rw [show (0 : Int) = ((0 : Nat) : Int) from rfl, ix_nat (l := a :: l) (j := 0) (by simp)]; rfl
  have step : ∀ (s y : Str), m_first_of_2 (m_spots_of row) (a :: l) s y = if dgetD (m_spots_of row) y < dgetD (m_spots_of row) s then y else s := fun s y => by
    unfold m_first_of_2
    by_cases h : dgetD (m_spots_of row) y < dgetD (m_spots_of row) s
    · rw [if_pos (decide_eq_true h), if_pos h]; rfl
    · rw [if_neg (by simpa using h), if_neg h]; rfl
  have key := fold_pre (f := fun (s : Str) (y : Str) => m_first_of_2 (m_spots_of row) (a :: l) s y) (okf := fun (s : Str) (y : Str) => ok_first_of_2 (m_spots_of row) (a :: l) s y) (fun pre s => s ∈ a :: l ∧ ∀ n ∈ pre, posn row s ≤ posn row n) (a :: l) [] _ a rfl ⟨List.mem_cons_self .., by simp⟩ (by
    rintro pre x post s e ⟨h1, h2⟩
    have hx : x ∈ a :: l := by rw [e]; simp
    have dx := dget_spots nd (sub x hx)
    have ds := dget_spots nd (sub s h1)
    refine ⟨⟨by rw [dx]; rfl, by rw [ds]; rfl, fun _ => trivial, fun _ => trivial⟩, ?_⟩
    rw [step, dgetD_spots nd (sub x hx), dgetD_spots nd (sub s h1)]
    split
    · rename_i h
      refine ⟨hx, fun n hn => ?_⟩
      rcases List.mem_append.mp hn with hn | hn
      · have := h2 n hn; omega
      · have e : n = x := by simpa using hn
        rw [e]; omega
    · rename_i h
      refine ⟨h1, fun n hn => ?_⟩
      rcases List.mem_append.mp hn with hn | hn
      · exact h2 n hn
      · have e : n = x := by simpa using hn
        rw [e]; omega)
  obtain ⟨k1, k2, k3⟩ := key
  refine ⟨⟨hi, by rw [hg]; exact ⟨k1, trivial⟩⟩, ?_⟩
  show List.foldl (fun (s : Str) (y : Str) => m_first_of_2 (m_spots_of row) (a :: l) s y) (getI (a :: l) (0 : Int)) (a :: l) = _
  rw [hg]
  unfold top1
  rw [argmin_head (sub _ k2) k2 k3]
  rfl
theorem top1_some {row field : List Str} (sub : ∀ z ∈ field, z ∈ row) (ne : field ≠ []) : (row.filter fun y => decide (y ∈ field)).head? = some (top1 row field) := by
  obtain ⟨a, l, rfl⟩ := List.exists_cons_of_ne_nil ne
  have ha : a ∈ row.filter fun y => decide (y ∈ a :: l) := List.mem_filter.mpr ⟨sub a (List.mem_cons_self ..), by simp⟩
  unfold top1
  cases h : row.filter fun y => decide (y ∈ a :: l) with
  | nil => rw [h] at ha; cases ha
  | cons b m => rfl
theorem top1_mem {row field : List Str} (sub : ∀ z ∈ field, z ∈ row) (ne : field ≠ []) : top1 row field ∈ field ∧ top1 row field ∈ row := by
  have h := List.mem_of_mem_head? (top1_some sub ne)
  have := List.mem_filter.mp h
  exact ⟨of_decide_eq_true this.2, this.1⟩
theorem cut1 {row field : List Str} (sub : ∀ z ∈ field, z ∈ row) (ne : field ≠ []) : cut (row.filter fun y => decide (y ∈ field)) none (some (1 : Int)) = [top1 row field] := by
  rw [cut_to _ (by omega)]
  have h := top1_some sub ne
  cases q : row.filter fun y => decide (y ∈ field) with
  | nil => rw [q] at h; cases h
  | cons b m =>
    rw [q] at h
    have e : b = top1 row field := by simpa using h
    rw [← e]; rfl
end Pf

namespace Pf
open Dn.Rep (rep)
open PySem L2 Dn
theorem are_names_iff {l : List Str} (h : ∀ z ∈ l, Nm z) (nd : l.Nodup) : m_are_names l = true := by
  show (if ((!true) || (!decide ((l.filter fun y => !(m_is_name y)) = []))) = true then _ else m_are_names_2 l) = true
  have e : (l.filter fun y => !(m_is_name y)) = [] := List.filter_eq_nil_iff.mpr fun z hz => by rw [nm_ok (h z hz)]; decide
  rw [e, if_neg (by decide)]
  show decide (((ddp l).length : Int) = (l.length : Int)) = true
  rw [ddp_id nd]
  simp
theorem are_names_ok {l : List Str} (h : l.length < 64) : ok_are_names l := ⟨fun _ z _ => is_name_ok z, fun _ => trivial, fun _ => ⟨h, trivial⟩⟩
theorem sub_asc {l m : List Str} (h : l.Sublist m) (a : Asc m) : Asc l := List.Pairwise.sublist h a
/-- a field of these names -/
structure GF (field names : List Str) : Prop where
  sub : field.Sublist names
  ne : field ≠ []
theorem field_ok {field names : List Str} (g : GN names) (hl : names.length < 64) (f : GF field names) : ok_check_field field names := by
  have hsub := f.sub
  have hlen := hsub.length_le
  have an := are_names_iff (fun z hz => g.nm z (hsub.subset hz)) (g.nd.sublist hsub)
  have hasc := sub_asc hsub g.asc
  have e1 : m_is_field field names = true := by
    show ((((m_are_names field) && decide (field = srt field)) && decide ((field.filter fun y => !decide (y ∈ names)) = [])) && (!decide (field = []))) = true
    rw [an, srt_id hasc]
    have e : (field.filter fun y => !decide (y ∈ names)) = [] := List.filter_eq_nil_iff.mpr fun z hz => by simp [hsub.subset hz]
    rw [e]
    simp [f.ne]
  have h64 : field.length < 64 := by omega
  refine ⟨⟨⟨⟨are_names_ok h64, fun _ => h64, trivial⟩, trivial⟩, trivial⟩, ?_, trivial⟩
  rw [e1]; rfl
/-- a good panel -/
structure GP (P : PanelD) (names : List Str) (rows : List (List Str)) : Prop where
  gn : GN names
  n1 : 1 ≤ names.length
  n64 : names.length < 64
  r1 : rows ≠ []
  r64 : rows.length < 64
  perm : ∀ r ∈ rows, r.Perm names
  eq : P = ⟨names, rows, rows.map m_spots_of⟩
theorem panel_spec {names mixed : List Str} {rows : List (List Str)} (g : GN names) (n1 : 1 ≤ names.length) (n64 : names.length < 64) (hm : mixed.Perm names) (r1 : rows ≠ []) (r64 : rows.length < 64) (hp : ∀ r ∈ rows, r.Perm names) :
    ok_Panel___init__ mixed rows ∧ GP (m_Panel___init__ mixed rows) names rows := by
  have mnm : ∀ z ∈ mixed, Nm z := fun z hz => g.nm z (hm.mem_iff.mp hz)
  have mnd := hm.nodup_iff.mpr g.nd
  have ml : mixed.length < 64 := by rw [hm.length_eq]; exact n64
  have mne : mixed ≠ [] := fun e => by rw [e] at hm; have := hm.length_eq; simp at this; omega
  have es : srt mixed = names := by rw [srt_congr hm, srt_id g.asc]
  have row_ok : ∀ r ∈ rows, ok_is_row r mixed ∧ m_is_row r mixed = true := fun r hr => by
    have hr' := hp r hr
    have rl : r.length < 64 := by rw [hr'.length_eq]; exact n64
    refine ⟨⟨are_names_ok rl, fun _ => ⟨rl, ml⟩, trivial⟩, ?_⟩
    show ((m_are_names r) && decide (srt r = srt mixed)) = true
    rw [are_names_iff (fun z hz => g.nm z (hr'.mem_iff.mp hz)) (hr'.nodup_iff.mpr g.nd), es, srt_congr hr', srt_id g.asc]
    simp
  have hrows : m_are_rows rows mixed = true := by
    show (true && decide ((rows.filter fun y => !(m_is_row y mixed)) = [])) = true
    rw [List.filter_eq_nil_iff.mpr fun r hr => by rw [(row_ok r hr).2]; decide]
    rfl
  have hent : m_are_entries mixed = true := by
    show ((m_are_names mixed) && (!decide (mixed = []))) = true
    rw [are_names_iff mnm mnd]
    simp [mne]
  refine ⟨⟨⟨⟨are_names_ok ml, trivial⟩, by rw [hent]; rfl, trivial⟩, ⟨fun _ r hr => (row_ok r hr).1, trivial⟩, ?_, ml, fun _ _ => trivial, trivial⟩, g, n1, n64, r1, r64, hp, ?_⟩
  · rw [hrows, decide_eq_false r1]; rfl
  · show PanelD.mk (srt mixed) (rows.map fun y => y) (rows.map fun y => m_spots_of y) = _
    rw [es, List.map_id']
section
variable {P : PanelD} {names field : List Str} {rows : List (List Str)}
theorem GP.sub (g : GP P names rows) (f : GF field names) {r : List Str} (hr : r ∈ rows) : ∀ z ∈ field, z ∈ r := fun z hz => (g.perm r hr).mem_iff.mpr (f.sub.subset hz)
theorem GP.nd (g : GP P names rows) {r : List Str} (hr : r ∈ rows) : r.Nodup := (g.perm r hr).nodup_iff.mpr g.gn.nd
/-- the first of each row -/
def tops (rows : List (List Str)) (field : List Str) : List Str := rows.map fun r => top1 r field
theorem GP.firsts (g : GP P names rows) (f : GF field names) : (P.spots.map fun y => m_first_of y field) = tops rows field := by
  rw [g.eq]
  show (rows.map m_spots_of).map _ = _
  rw [List.map_map]
  refine List.map_congr_left fun r hr => ?_
  exact (first_spec (g.nd hr) (g.sub f hr) f.ne).2
theorem GP.firsts_ok (g : GP P names rows) (f : GF field names) : ∀ y ∈ P.spots, ok_first_of y field := by
  rw [g.eq]
  intro y hy
  obtain ⟨r, hr, rfl⟩ := List.mem_map.mp (show y ∈ rows.map m_spots_of from hy)
  exact (first_spec (g.nd hr) (g.sub f hr) f.ne).1
theorem GP.names_eq (g : GP P names rows) : P.names = names := by rw [g.eq]
def cds (rows : List (List Str)) (field : List Str) : List Str := srt (ddp (tops rows field))
theorem cards_spec (g : GP P names rows) (f : GF field names) : ok_cards P field ∧ m_cards P field = cds rows field := by
  refine ⟨⟨⟨rfl, trivial⟩, by rw [g.names_eq]; exact field_ok g.gn g.n64 f, ⟨g.firsts_ok f, ?_, trivial⟩, trivial⟩, ?_⟩
  · rw [g.firsts f]
    unfold tops
    rw [List.length_map]; exact g.r64
  · show srt (ddp (P.spots.map fun y => m_first_of y field)) = _
    rw [g.firsts f]; rfl
theorem law_cards_spec (g : GP P names rows) (f : GF field names) : ok__law_cards rows field ∧ m__law_cards rows field = cds rows field := by
  have key := fold_pre (f := fun (s : List Str) (y : List Str) => m__law_cards_2 rows field s y) (okf := fun (s : List Str) (y : List Str) => ok__law_cards_2 rows field s y) (fun pre s => s = tops pre field) rows [] _ (id []) rfl rfl (by
    rintro pre x post s e rfl
    have hx : x ∈ rows := by rw [e]; simp
    have hc := cut1 (g.sub f hx) f.ne
    have hl : (tops pre field).length ≤ 64 := by
      have := congrArg List.length e
      unfold tops
      rw [List.length_map]
      have := g.r64
      rw [e, List.length_append] at this
      omega
    refine ⟨⟨?_, trivial⟩, ?_⟩
    · rw [hc, sizeLine_eq]; simp; omega
    · show tops pre field ++ cut (x.filter fun y => decide (y ∈ field)) none (some (1 : Int)) = _
      rw [hc]
      unfold tops
      rw [List.map_append]; rfl)
  obtain ⟨k1, k2⟩ := key
  have hl : (tops rows field).length < 64 := by unfold tops; rw [List.length_map]; exact g.r64
  refine ⟨⟨k1, ?_⟩, ?_⟩
  · show ok__law_cards_4 rows field _
    rw [k2]
    exact ⟨hl, trivial⟩
  · show srt (ddp (List.foldl _ (id []) rows)) = _
    rw [k2]; rfl
end
end Pf

namespace Pf
open Dn.Rep (rep)
open PySem L2 Dn
section
variable {P : PanelD} {names field : List Str} {rows : List (List Str)}
theorem tops_len (rows : List (List Str)) (field : List Str) : (tops rows field).length = rows.length := by unfold tops; rw [List.length_map]
theorem getI_filter (g : GP P names rows) (f : GF field names) {r : List Str} (hr : r ∈ rows) : (atI (r.filter fun y => decide (y ∈ field)) (0 : Int)).isSome = true ∧ getI (r.filter fun y => decide (y ∈ field)) (0 : Int) = top1 r field := by
  have h := top1_some (g.sub f hr) f.ne
  cases q : r.filter fun y => decide (y ∈ field) with
  | nil => rw [q] at h; cases h
  | cons b m =>
    rw [q] at h
    have e : b = top1 r field := by simpa using h
    have h1 : atI (b :: m) (0 : Int) = some b := ix_nat (l := b :: m) (j := 0) (by simp)
    refine ⟨by rw [h1]; rfl, ?_⟩
    unfold getI
    rw [h1]
    exact e
theorem mem_cds {z : Str} : z ∈ cds rows field ↔ ∃ r ∈ rows, top1 r field = z := by
  unfold cds tops
  rw [mem_srt, mem_ddp, List.mem_map]
theorem cds_nm (g : GP P names rows) (f : GF field names) : ∀ z ∈ cds rows field, Nm z := fun z hz => by
  obtain ⟨r, hr, rfl⟩ := mem_cds.mp hz
  exact g.gn.nm _ (f.sub.subset (top1_mem (g.sub f hr) f.ne).1)
theorem cds_len (g : GP P names rows) : (cds rows field).length ≤ 64 := by
  unfold cds
  rw [srt_len]
  have := ddp_len_le (tops rows field)
  rw [tops_len] at this
  have := g.r64
  omega
theorem firsts_eq (g : GP P names rows) (f : GF field names) : (rows.map fun y => getI (y.filter fun z => decide (z ∈ field)) (0 : Int)) = tops rows field := List.map_congr_left fun r hr => (getI_filter g f hr).2
theorem cut_last {α : Type} (l : List α) (x : α) : cut (l ++ [x]) none (some (-(1 : Int))) = l := by
  unfold cut HT.sIx
  simp only [List.drop_zero, Nat.sub_zero]
  rw [if_pos (by omega)]
  rw [List.length_append, List.length_singleton]
  have : ((-1 : Int) + ((l.length + 1 : Nat) : Int)).toNat = l.length := by omega
  rw [this, List.take_append_of_le_length (Nat.le_refl _), List.take_length]
theorem fields_spec (hl : names.length ≤ 10) : ok__law_fields names ∧ (∀ f ∈ m__law_fields names, GF f names) ∧ (m__law_fields names).length ≤ 2000 := by
  have key := fold_pre (f := fun (s : List (List Str)) (y : Str) => m__law_fields_2 names s y) (okf := fun (s : List (List Str)) (y : Str) => ok__law_fields_2 names s y) (fun pre s => s.length = 2 ^ pre.length ∧ (∀ y ∈ s, y.Sublist pre) ∧ (∀ y ∈ s.drop 1, y ≠ [])) names [] _ ([([] : List Str)] : List (List Str)) rfl ⟨rfl, by simp, by simp⟩ (by
    rintro pre x post s e ⟨h1, h2, h3⟩
    have hp : pre.length ≤ 10 := by rw [e] at hl; simp at hl; omega
    have hpow : 2 ^ pre.length ≤ 2 ^ 10 := Nat.pow_le_pow_right (by decide) hp
    have pos : 0 < 2 ^ pre.length := Nat.pow_pos (by decide)
    refine ⟨⟨fun y hy => ?_, ?_, trivial⟩, ?_, ?_, ?_⟩
    · have := (h2 y hy).length_le
      rw [sizeLine_eq]; simp; omega
    · rw [List.length_map, sizeLine_eq, h1]; omega
    · show (s ++ s.map fun y => y ++ [x]).length = _
      rw [List.length_append, List.length_map, h1, List.length_append, List.length_singleton, Nat.pow_succ]; omega
    · intro y hy
      rcases List.mem_append.mp (show y ∈ s ++ s.map fun y => y ++ [x] from hy) with h | h
      · exact (h2 y h).trans (List.sublist_append_left _ _)
      · obtain ⟨z, hz, rfl⟩ := List.mem_map.mp h
        exact (h2 z hz).append (List.Sublist.refl _)
    · intro y hy
      have hs : 1 ≤ s.length := by omega
      rw [show m__law_fields_2 names s x = s ++ s.map fun y => y ++ [x] from rfl, List.drop_append_of_le_length hs] at hy
      rcases List.mem_append.mp hy with h | h
      · exact h3 y h
      · obtain ⟨z, hz, rfl⟩ := List.mem_map.mp h
        simp)
  obtain ⟨k1, k2, k3, k4⟩ := key
  have e : m__law_fields names = (List.foldl (fun (s : List (List Str)) (y : Str) => m__law_fields_2 names s y) ([([] : List Str)] : List (List Str)) names).drop 1 := cut_from _ (by omega)
  refine ⟨⟨k1, trivial⟩, fun f hf => ?_, ?_⟩
  · rw [e] at hf
    exact ⟨k3 f (List.mem_of_mem_drop hf), k4 f hf⟩
  · rw [e, List.length_drop, k2]
    have : 2 ^ names.length ≤ 2 ^ 10 := Nat.pow_le_pow_right (by decide) hl
    omega
theorem top1_part {row f1 f2 : List Str} (s1 : ∀ z ∈ f1, z ∈ row) (n1 : f1 ≠ []) (part : ∀ z ∈ f2, z ∈ f1) (h : top1 row f1 ∈ f2) : top1 row f2 = top1 row f1 := by
  have n2 : f2 ≠ [] := fun e => by rw [e] at h; cases h
  have h1 := top1_some s1 n1
  have h2 := top1_some (fun z hz => s1 z (part z hz)) n2
  -- filter by f2 is filter of the filter
  have e : (row.filter fun y => decide (y ∈ f2)) = (row.filter fun y => decide (y ∈ f1)).filter fun y => decide (y ∈ f2) := by
    rw [List.filter_filter]
    refine List.filter_congr fun y _ => ?_
    by_cases q : y ∈ f2
    · simp [q, part y q]
    · simp [q]
  cases q : row.filter fun y => decide (y ∈ f1) with
  | nil => rw [q] at h1; cases h1
  | cons b m =>
    rw [q] at h1 e
    have eb : b = top1 row f1 := by simpa using h1
    rw [List.filter_cons, if_pos (by rw [eb]; exact decide_eq_true h)] at e
    rw [e] at h2
    have : b = top1 row f2 := by simpa using h2
    rw [← this, eb]
theorem cds_congr {r1 r2 : List (List Str)} (h : ∀ r, r ∈ r1 ↔ r ∈ r2) (field : List Str) : cds r1 field = cds r2 field := by
  refine srt_congr (TX.perm_of_nodups (ddp_nodup _) (ddp_nodup _) fun z => ?_)
  rw [mem_ddp, mem_ddp]
  unfold tops
  rw [List.mem_map, List.mem_map]
  exact ⟨fun ⟨r, h1, h2⟩ => ⟨r, (h r).mp h1, h2⟩, fun ⟨r, h1, h2⟩ => ⟨r, (h r).mpr h1, h2⟩⟩
end
theorem repr_strs {l : List Str} (h : ∀ z ∈ l, Nm z) (hl : l.length < 1000) : RepOk l := by
  have lay : PyData.leavesShortAll 13 (l.map Dat.dat) = true ∧ PyData.weightAll (l.map Dat.dat) ≤ 20 * l.length ∧ PyData.showableAll (l.map Dat.dat) = true := by
    clear hl
    induction l with
    | nil => exact ⟨rfl, Nat.zero_le _, rfl⟩
    | cons z l ih =>
      obtain ⟨i1, i2, i3⟩ := ih fun y hy => h y (List.mem_cons_of_mem _ hy)
      have hz := h z (List.mem_cons_self ..)
      refine ⟨?_, ?_, ?_⟩
      · simp only [List.map_cons, PyData.leavesShortAll, Bool.and_eq_true]
        refine ⟨?_, i1⟩
        show PyData.leavesShort 13 (.str z) = true
        simp only [PyData.leavesShort, List.all_eq_true, decide_eq_true_iff]
        intro c hc
        have := hz.2.2 c hc
        unfold Low at this
        omega
      · simp only [List.map_cons, PyData.weightAll, List.length_cons]
        have : PyData.weight (Dat.dat z) = PyData.weight (.str z) := rfl
        rw [this]
        simp only [PyData.weight]
        have : z.cps.size ≤ 8 := hz.2.1
        omega
      · simp only [List.map_cons, PyData.showableAll, Bool.and_eq_true]
        exact ⟨rfl, i3⟩
  refine ⟨?_, ?_⟩
  · show PyData.showable (.list _) = true
    simp only [PyData.showable]
    exact lay.2.2
  · refine PyData.shown_fits (B := 13) (by decide) (by decide) (d := .list (l.map Dat.dat)) ?_ ?_
    · simp only [PyData.leavesShort]; exact lay.1
    · simp only [PyData.weight]
      have := lay.2.1
      omega
theorem repr_ints {l : List Int} (h : ∀ z ∈ l, 0 ≤ z ∧ z < 1000) (hl : l.length < 1000) : RepOk l := by
  have lay : PyData.leavesShortAll 13 (l.map Dat.dat) = true ∧ PyData.weightAll (l.map Dat.dat) ≤ 20 * l.length ∧ PyData.showableAll (l.map Dat.dat) = true := by
    clear hl
    induction l with
    | nil => exact ⟨rfl, Nat.zero_le _, rfl⟩
    | cons z l ih =>
      obtain ⟨i1, i2, i3⟩ := ih fun y hy => h y (List.mem_cons_of_mem _ hy)
      have hz := h z (List.mem_cons_self ..)
      refine ⟨?_, ?_, ?_⟩
      · simp only [List.map_cons, PyData.leavesShortAll, Bool.and_eq_true]
        refine ⟨?_, i1⟩
        show PyData.leavesShort 13 (.int z) = true
        simp only [PyData.leavesShort, decide_eq_true_iff]
        exact PyData.shown_int_le (by omega)
      · simp only [List.map_cons, PyData.weightAll, List.length_cons]
        have : PyData.weight (Dat.dat z) = PyData.weight (.int z) := rfl
        rw [this]
        simp only [PyData.weight]
        have hb : (if (z == 0) = true then 0 else z.natAbs.log2 + 1) ≤ 10 := by
          split
          · omega
          · rename_i hz0
            have hz1 : z.natAbs ≠ 0 := fun e => hz0 (by simp; omega)
            have := (Nat.log2_lt hz1).mpr (show z.natAbs < 2 ^ 10 by omega)
            omega
        omega
      · simp only [List.map_cons, PyData.showableAll, Bool.and_eq_true]
        refine ⟨?_, i3⟩
        show PyData.showable (.int z) = true
        simp only [PyData.showable, decide_eq_true_iff]
        by_cases hz0 : z.natAbs = 0
        · rw [hz0]; decide
        · have := (Nat.log2_lt hz0).mpr (show z.natAbs < 2 ^ 10 by omega)
          omega
  refine ⟨?_, ?_⟩
  · show PyData.showable (.list _) = true
    simp only [PyData.showable]
    exact lay.2.2
  · refine PyData.shown_fits (B := 13) (by decide) (by decide) (d := .list (l.map Dat.dat)) ?_ ?_
    · simp only [PyData.leavesShort]; exact lay.1
    · simp only [PyData.weight]
      have := lay.2.1
      omega
end Pf

namespace Pf
open Dn.Rep (rep)
open PySem L2 Dn
theorem purses_spec (s : Scr) {few : Int} (h0 : 1 ≤ few) (h1 : few ≤ 64) : ok__law_purses s few ∧ ∀ p ∈ m__law_purses s few, PW 0 p := by
  refine ⟨⟨?_, fun y _ => ?_, trivial⟩, fun p hp => ?_⟩
  · constructor
    · split <;> omega
    · split
      · split <;> omega
      · omega
  · refine ⟨⟨by omega, by decide +kernel⟩, ⟨by omega, by decide +kernel⟩, ⟨by omega, by decide +kernel⟩, by decide +kernel, by omega, trivial⟩
  · obtain ⟨y, hy, rfl⟩ := List.mem_map.mp hp
    exact ⟨_, _, _, _, rfl, by omega, by omega⟩
end Pf

namespace Pf
open Dn.Rep (rep)
open PySem L2 Dn
theorem bt_len {m l : List Str} (hm : m.Nodup) (hl : l.Nodup) (sub : ∀ z ∈ l, z ∈ m) : (m.filter fun y => !decide (y ∈ l)).length + l.length = m.length := by
  have p : (l ++ m.filter fun y => !decide (y ∈ l)).Perm m := TX.perm_of_nodups (List.nodup_append.mpr ⟨hl, hm.filter _, fun a ha b hb e => by
    have := (List.mem_filter.mp hb).2
    rw [← e] at this
    simp [ha] at this⟩) hm fun z => by
      rw [List.mem_append, List.mem_filter]
      constructor
      · rintro (h | h)
        · exact sub z h
        · exact h.1
      · intro h
        by_cases q : z ∈ l
        · exact .inl q
        · exact .inr ⟨h, by simp [q]⟩
  have := p.length_eq
  rw [List.length_append] at this
  omega
theorem asc_filter {l m : List Str} (a : Asc l) (nl : l.Nodup) (b : Asc m) (nm : m.Nodup) (sub : ∀ z ∈ l, z ∈ m) : l = m.filter fun y => decide (y ∈ l) :=
  asc_unique (TX.perm_of_nodups nl (nm.filter _) fun z => by
    rw [List.mem_filter, decide_eq_true_iff]
    exact ⟨fun h => ⟨sub z h, h⟩, fun h => h.2⟩) a (List.Pairwise.sublist List.filter_sublist b)
theorem asc_sub {l m : List Str} (a : Asc l) (nl : l.Nodup) (b : Asc m) (nm : m.Nodup) (sub : ∀ z ∈ l, z ∈ m) : l.Sublist m := by
  rw [asc_filter a nl b nm sub]
  exact List.filter_sublist
theorem nodup_map {α β : Type} {f : α → β} : ∀ {l : List α}, l.Nodup → (∀ a ∈ l, ∀ b ∈ l, f a = f b → a = b) → (l.map f).Nodup
  | [], _, _ => List.nodup_nil
  | x :: l, h, inj => by
    obtain ⟨h1, h2⟩ := List.nodup_cons.mp h
    rw [List.map_cons]
    refine List.nodup_cons.mpr ⟨fun hm => ?_, nodup_map h2 fun a ha b hb => inj a (List.mem_cons_of_mem _ ha) b (List.mem_cons_of_mem _ hb)⟩
    obtain ⟨y, hy, e⟩ := List.mem_map.mp hm
    have := inj y (List.mem_cons_of_mem _ hy) x (List.mem_cons_self ..) e
    exact h1 (this ▸ hy)
theorem map_inj {α β : Type} {f : α → β} : ∀ {l : List α}, (l.map f).Nodup → ∀ a ∈ l, ∀ b ∈ l, f a = f b → a = b
  | x :: l, h, a, ha, b, hb, e => by
    rw [List.map_cons] at h
    obtain ⟨h1, h2⟩ := List.nodup_cons.mp h
    rcases List.mem_cons.mp ha with ha | ha <;> rcases List.mem_cons.mp hb with hb | hb
    · rw [ha, hb]
    · rw [ha] at e; exact absurd (List.mem_map.mpr ⟨b, hb, e.symm⟩) h1
    · rw [hb] at e; exact absurd (List.mem_map.mpr ⟨a, ha, e⟩) h1
    · exact map_inj h2 a ha b hb e
section
variable {α : Type}
theorem dget_some {d : Dict α} {k : Str} : (dget d k).isSome = decide (k ∈ dkeys d) := by
  rw [Bool.eq_iff_iff, decide_eq_true_iff]
  unfold dget dkeys
  rw [Option.isSome_map]
  rw [List.find?_isSome]
  constructor
  · rintro ⟨q, hq, e⟩
    exact List.mem_map.mpr ⟨q, hq, of_decide_eq_true e⟩
  · intro h
    obtain ⟨q, hq, e⟩ := List.mem_map.mp h
    exact ⟨q, hq, decide_eq_true e⟩
theorem mem_dput {m : List (Str × α)} {k z : Str} {x : α} : z ∈ (dput m k x).map (·.1) ↔ z ∈ m.map (·.1) ∨ z = k := by
  unfold dput
  split
  · rename_i h
    rw [List.map_map]
    have e : (fun q : Str × α => q.1) ∘ (fun q : Str × α => if q.1 = k then (q.1, x) else q) = fun q => q.1 := by
      funext q
      show (if q.1 = k then (q.1, x) else q).1 = q.1
      split <;> rfl
    rw [e]
    refine ⟨.inl, fun h2 => h2.elim id fun e => ?_⟩
    obtain ⟨q, hq, e2⟩ := List.any_eq_true.mp h
    exact List.mem_map.mpr ⟨q, hq, (of_decide_eq_true e2).trans e.symm⟩
  · rw [List.map_append, List.mem_append]
    simp
theorem mem_dmk_aux : ∀ (l m : List (Str × α)) (z : Str), z ∈ (l.foldl (fun m q => dput m q.1 q.2) m).map (·.1) ↔ z ∈ m.map (·.1) ∨ z ∈ l.map (·.1)
  | [], m, z => by simp
  | q :: l, m, z => by
    rw [List.foldl_cons, mem_dmk_aux l, mem_dput, List.map_cons, List.mem_cons]
    rw [or_assoc]
theorem mem_dmk {l : List (Str × α)} {z : Str} : z ∈ dkeys (dmk l) ↔ z ∈ l.map (·.1) := by
  unfold dkeys dmk
  rw [mem_dmk_aux]
  simp
/-- what stands at a key, the keys each once -/
theorem dgetD_of [Inhabited α] {l : List (Str × α)} (h : (l.map (·.1)).Nodup) {k : Str} {x : α} (hm : (k, x) ∈ l) : dgetD (dmk l) k = x := by
  rw [dmk_of h]
  unfold dgetD dget
  have : (l.find? fun q => decide (q.1 = k)) = some (k, x) := by
    induction l with
    | nil => cases hm
    | cons q l ih =>
      rw [List.find?_cons]
      rw [List.map_cons] at h
      obtain ⟨h1, h2⟩ := List.nodup_cons.mp h
      rcases List.mem_cons.mp hm with e | e
      · subst e; simp
      · have ne : q.1 ≠ k := fun e2 => h1 (List.mem_map.mpr ⟨(k, x), e, e2.symm⟩)
        rw [decide_eq_false ne]
        exact ih h2 e
  rw [this]
  rfl
theorem dkeys_of {l : List (Str × α)} (h : (l.map (·.1)).Nodup) : dkeys (dmk l) = l.map (·.1) := by
  rw [dmk_of h]; rfl
end
theorem irange_map {β : Type} (F : Int → β) (n : Nat) : (irange (n : Int)).map F = (List.range n).map fun (i : Nat) => F (i : Int) := by
  unfold irange
  rw [Int.toNat_natCast, List.map_map]; rfl
theorem bt_gn {names : List Str} (g : GN names) (f : Str → Bool) : GN (names.filter f) := ⟨List.Pairwise.sublist List.filter_sublist g.asc, g.nd.filter _, fun z hz => g.nm z (List.mem_filter.mp hz).1⟩
def bt (names lot : List Str) : List Str := names.filter fun y => !decide (y ∈ lot)
theorem mem_bt {names lot : List Str} {z : Str} : z ∈ bt names lot ↔ z ∈ names ∧ z ∉ lot := by
  unfold bt
  rw [List.mem_filter]
  simp
theorem eq_true {P Q : PanelD} {names : List Str} {rows : List (List Str)} (g : GP P names rows) (h : GP Q names rows) : ok_Panel___eq__ P Q ∧ m_Panel___eq__ P Q = true := by
  refine ⟨trivial, ?_⟩
  show (true && decide ((P.names, P.orders) = (Q.names, Q.orders))) = true
  rw [g.eq, h.eq]
  simp
theorem GP.orders_eq {P : PanelD} {names : List Str} {rows : List (List Str)} (g : GP P names rows) : P.orders = rows := by rw [g.eq]
theorem GP.cast {P : PanelD} {names n2 : List Str} {rows r2 : List (List Str)} (g : GP P names rows) (e1 : names = n2) (e2 : rows = r2) : GP P n2 r2 := e1 ▸ e2 ▸ g
theorem lot_ok {lot names : List Str} (g : GN names) (a : Asc lot) (n : lot.Nodup) (sub : ∀ z ∈ lot, z ∈ names) (hl : lot.length < 64) : ok_is_lot lot names ∧ m_is_lot lot names = true := by
  refine ⟨⟨⟨are_names_ok hl, fun _ => hl, trivial⟩, trivial⟩, ?_⟩
  show (((m_are_names lot) && decide (lot = srt lot)) && decide ((lot.filter fun y => !decide (y ∈ names)) = [])) = true
  rw [are_names_iff (fun z hz => g.nm z (sub z hz)) n, srt_id a, List.filter_eq_nil_iff.mpr fun z hz => by simp [sub z hz]]
  simp
theorem is_row_spec {r mixed names : List Str} (g : GN names) (hm : mixed.Perm names) (hr : r.Perm names) (n64 : names.length < 64) : ok_is_row r mixed ∧ m_is_row r mixed = true := by
  have rl : r.length < 64 := by rw [hr.length_eq]; exact n64
  refine ⟨⟨are_names_ok rl, fun _ => ⟨rl, by rw [hm.length_eq]; exact n64⟩, trivial⟩, ?_⟩
  show ((m_are_names r) && decide (srt r = srt mixed)) = true
  rw [are_names_iff (fun z hz => g.nm z (hr.mem_iff.mp hz)) (hr.nodup_iff.mpr g.nd), srt_congr (hr.trans hm.symm)]
  simp
theorem count_ok {i a b : Int} (h0 : 0 ≤ i) (h1 : a ≤ i) (h2 : i ≤ b) : ok_check_count i a b := by
  refine ⟨⟨trivial, trivial⟩, ?_, trivial⟩
  show ((!((true && (!false)) && decide ((0 : Int) ≤ i))) || (decide (i < a) || (true && decide (b < i)))) = false
  rw [decide_eq_true h0, decide_eq_false (show ¬ i < a by omega), decide_eq_false (show ¬ b < i by omega)]
  rfl
end Pf

namespace Pf
open Dn.Rep (rep)
open PySem L2 Dn
def Wt (d : PyData) (n : Nat) : Prop := PyData.leavesShort 13 d = true ∧ d.weight ≤ n ∧ d.showable = true
theorem wt_str {z : Str} (hz : Nm z) : Wt (Dat.dat z) 20 := by
  refine ⟨?_, ?_, rfl⟩
  · show PyData.leavesShort 13 (.str z) = true
    simp only [PyData.leavesShort, List.all_eq_true, decide_eq_true_iff]
    intro c hc
    have := hz.2.2 c hc
    unfold Low at this
    omega
  · show PyData.weight (.str z) ≤ 20
    simp only [PyData.weight]
    have : z.cps.size ≤ 8 := hz.2.1
    omega
theorem wt_int {z : Int} (hz : 0 ≤ z ∧ z < 1000) : Wt (Dat.dat z) 20 := by
  refine ⟨?_, ?_, ?_⟩
  · show PyData.leavesShort 13 (.int z) = true
    simp only [PyData.leavesShort, decide_eq_true_iff]
    exact PyData.shown_int_le (by omega)
  · show PyData.weight (.int z) ≤ 20
    simp only [PyData.weight]
    split
    · omega
    · rename_i hz0
      have hz1 : z.natAbs ≠ 0 := fun e => hz0 (by simp; omega)
      have := (Nat.log2_lt hz1).mpr (show z.natAbs < 2 ^ 10 by omega)
      omega
  · show PyData.showable (.int z) = true
    simp only [PyData.showable, decide_eq_true_iff]
    by_cases hz0 : z.natAbs = 0
    · rw [hz0]; decide
    · have := (Nat.log2_lt hz0).mpr (show z.natAbs < 2 ^ 10 by omega)
      omega
section
variable {α : Type} [Rep α] [Dat α]
theorem wt_list {n : Nat} {l : List α} (h : ∀ x ∈ l, Wt (Dat.dat x) n) : Wt (Dat.dat l) (l.length * (n + 1)) := by
  have lay : PyData.leavesShortAll 13 (l.map Dat.dat) = true ∧ PyData.weightAll (l.map Dat.dat) ≤ l.length * (n + 1) ∧ PyData.showableAll (l.map Dat.dat) = true := by
    induction l with
    | nil => exact ⟨rfl, Nat.zero_le _, rfl⟩
    | cons z l ih =>
      obtain ⟨i1, i2, i3⟩ := ih fun y hy => h y (List.mem_cons_of_mem _ hy)
      obtain ⟨z1, z2, z3⟩ := h z (List.mem_cons_self ..)
      refine ⟨?_, ?_, ?_⟩
      · simp only [List.map_cons, PyData.leavesShortAll, Bool.and_eq_true]
        exact ⟨z1, i1⟩
      · simp only [List.map_cons, PyData.weightAll, List.length_cons, Nat.add_mul, Nat.one_mul]
        simp only [Nat.mul_add, Nat.mul_one] at i2 ⊢
        omega
      · simp only [List.map_cons, PyData.showableAll, Bool.and_eq_true]
        exact ⟨z3, i3⟩
  refine ⟨?_, ?_, ?_⟩
  · show PyData.leavesShort 13 (.list _) = true
    simp only [PyData.leavesShort]; exact lay.1
  · show PyData.weight (.list _) ≤ _
    simp only [PyData.weight]; exact lay.2.1
  · show PyData.showable (.list _) = true
    simp only [PyData.showable]; exact lay.2.2
theorem Wt.mono {d : PyData} {n m : Nat} (h : Wt d n) (q : n ≤ m) : Wt d m := ⟨h.1, Nat.le_trans h.2.1 q, h.2.2⟩
theorem Wt.ok {n : Nat} {x : α} (h : Wt (Dat.dat x) n) (q : n ≤ 2 ^ 20) : RepOk x := ⟨h.2.2, PyData.shown_fits (B := 13) (by decide) (by decide) h.1 (Nat.le_trans h.2.1 q)⟩
end
def WtA {A : Type} [Args A] [HDat A] (a : A) (n : Nat) : Prop := PyData.leavesShortAll 13 (HDat.dats a) = true ∧ PyData.weightAll (HDat.dats a) ≤ n ∧ PyData.showableAll (HDat.dats a) = true
theorem wta_nil : WtA () 0 := ⟨rfl, Nat.le_refl _, rfl⟩
theorem wta_cons {α A : Type} [Rep α] [Dat α] [Args A] [HDat A] {x : α} {a : A} {n m : Nat} (h : Wt (Dat.dat x) n) (h2 : WtA a m) : WtA (x, a) (n + 1 + m) := by
  obtain ⟨z1, z2, z3⟩ := h
  obtain ⟨i1, i2, i3⟩ := h2
  refine ⟨?_, ?_, ?_⟩
  · show PyData.leavesShortAll 13 (_ :: _) = true
    simp only [PyData.leavesShortAll, Bool.and_eq_true]
    exact ⟨z1, i1⟩
  · show PyData.weightAll (_ :: _) ≤ _
    simp only [PyData.weightAll]
    omega
  · show PyData.showableAll (_ :: _) = true
    simp only [PyData.showableAll, Bool.and_eq_true]
    exact ⟨z3, i3⟩
theorem wt_het {A : Type} [Args A] [HDat A] {a : A} {n : Nat} (h : WtA a n) : Wt (Dat.dat (Het.mk a)) n := by
  obtain ⟨i1, i2, i3⟩ := h
  refine ⟨?_, ?_, ?_⟩
  · show PyData.leavesShort 13 (.list _) = true
    simp only [PyData.leavesShort]; exact i1
  · show PyData.weight (.list _) ≤ _
    simp only [PyData.weight]; exact i2
  · show PyData.showable (.list _) = true
    simp only [PyData.showable]; exact i3
theorem wt_tup {A : Type} [Args A] [HDat A] {a : A} {n : Nat} (h : WtA a n) : Wt (Dat.dat (Tup.mk a)) n := by
  obtain ⟨i1, i2, i3⟩ := h
  refine ⟨?_, ?_, ?_⟩
  · show PyData.leavesShort 13 (.tuple _) = true
    simp only [PyData.leavesShort]; exact i1
  · show PyData.weight (.tuple _) ≤ _
    simp only [PyData.weight]; exact i2
  · show PyData.showable (.tuple _) = true
    simp only [PyData.showable]; exact i3
end Pf

namespace Pf
open Dn.Rep (rep)
open PySem L2 Dn
theorem who_aux {α : Type} (q : α → Bool) (F : Int → Bool) : ∀ (l : List α) (k : Nat), (∀ j (h : j < l.length), F ((k + j : Nat) : Int) = q l[j]) →
    ((((List.range' k l.length).zip l).map fun x => (((x.1 : Nat) : Int), x.2)).filter (fun y => q y.2)).map (·.1) = ((List.range' k l.length).map (fun (i : Nat) => (i : Int))).filter F
  | [], _, _ => rfl
  | x :: l, k, h => by
    have h0 : F ((k : Nat) : Int) = q x := h 0 (by simp)
    have ih := who_aux q F l (k + 1) fun j hj => by
      have := h (j + 1) (by simpa using hj)
      rw [show k + 1 + j = k + (j + 1) by omega]
      simpa using this
    rw [List.length_cons, List.range'_succ, List.zip_cons_cons, List.map_cons, List.map_cons, List.filter_cons, List.filter_cons, h0]
    show List.map _ (if q x = true then _ else _) = _
    cases q x with
    | true => simp only [if_true, List.map_cons]; rw [ih]
    | false => simpa using ih
section
variable {P : PanelD} {names field : List Str} {rows : List (List Str)}
theorem who_spec (g : GP P names rows) (f : GF field names) {name : Str} (hn : name ∈ names) : ok_who P field name ∧ m_who P field name = (irange (rows.length : Int)).filter fun y => decide (getI (tops rows field) y = name) := by
  have e1 : m_is_entry name P.names = true := by
    show ((m_is_name name) && decide (name ∈ P.names)) = true
    rw [g.names_eq, nm_ok (g.gn.nm name hn)]
    simp [hn]
  refine ⟨⟨⟨rfl, trivial⟩, by rw [g.names_eq]; exact field_ok g.gn g.n64 f, ⟨⟨is_name_ok _, trivial⟩, by rw [e1]; rfl, trivial⟩, ?_, trivial⟩, ?_⟩
  · intro y hy
    have : y.2 ∈ P.spots := by
      unfold enumI enum at hy
      obtain ⟨z, hz, rfl⟩ := List.mem_map.mp hy
      exact (List.of_mem_zip hz).2
    exact g.firsts_ok f y.2 this
  · show ((enumI P.spots).filter fun y => decide (m_first_of y.2 field = name)).map (fun y => y.1) = _
    have hl : P.spots.length = rows.length := by rw [g.eq]; exact List.length_map ..
    unfold enumI enum irange
    rw [List.range_eq_range', who_aux (fun y => decide (m_first_of y field = name)) (fun y => decide (getI (tops rows field) y = name)) P.spots 0, hl, Int.toNat_natCast, List.range_eq_range']
    intro j hj
    have hj' : j < (tops rows field).length := by rw [tops_len, ← hl]; exact hj
    have e : m_first_of P.spots[j] field = (tops rows field)[j] := by
      have h := g.firsts f
      have := congrArg (fun l => l[j]?) h
      simp only [List.getElem?_map, List.getElem?_eq_getElem hj, List.getElem?_eq_getElem hj'] at this
      simpa using this
    rw [Nat.zero_add, getI_nat hj', e]
theorem named_spec (g : GP P names rows) (f : GF field names) {j : Nat} (hj : j < rows.length) : ok_named P (j : Int) field ∧ m_named P (j : Int) field = (tops rows field)[j]'(by rw [tops_len]; exact hj) := by
  have hl : P.spots.length = rows.length := by rw [g.eq]; exact List.length_map ..
  have ho : P.orders.length = rows.length := by rw [g.eq]
  have hj2 : j < P.spots.length := by rw [hl]; exact hj
  have e : m_first_of P.spots[j] field = (tops rows field)[j]'(by rw [tops_len]; exact hj) := by
    have h := g.firsts f
    have := congrArg (fun l => l[j]?) h
    simp only [List.getElem?_map, List.getElem?_eq_getElem hj2, List.getElem?_eq_getElem (show j < (tops rows field).length by rw [tops_len]; exact hj)] at this
    simpa using this
  refine ⟨⟨⟨rfl, trivial⟩, ⟨⟨⟨trivial, trivial⟩, ?_, trivial⟩, trivial⟩, by rw [g.names_eq]; exact field_ok g.gn g.n64 f, by rw [ix_nat hj2]; rfl, ?_, trivial⟩, ?_⟩
  · rw [ho]
    show ((!((true && (!false)) && decide ((0 : Int) ≤ (j : Int)))) || (decide ((j : Int) < 0) || (true && decide ((rows.length : Int) - 1 < (j : Int))))) = false
    have a1 : decide ((0 : Int) ≤ (j : Int)) = true := decide_eq_true (by omega)
    have a2 : decide ((j : Int) < 0) = false := decide_eq_false (by omega)
    have a3 : decide ((rows.length : Int) - 1 < (j : Int)) = false := decide_eq_false (by omega)
    rw [a1, a2, a3]; rfl
  · rw [getI_nat hj2]
    exact g.firsts_ok f _ (List.getElem_mem _)
  · show m_first_of (getI P.spots (j : Int)) field = _
    rw [getI_nat hj2, e]
end
end Pf

namespace Pf
open Dn.Rep (rep)
open PySem L2 Dn
theorem lidx_posn : ∀ {row : List Str} {z : Str}, lidx row z = (posn row z : Int)
  | [], _ => rfl
  | x :: l, z => by
    have ih := lidx_posn (row := l) (z := z)
    unfold lidx at ih ⊢
    rw [posn, List.findIdx_cons]
    by_cases e : x = z
    · rw [if_pos e, decide_eq_true e]; rfl
    · rw [if_neg e, decide_eq_false e]
      have ih' : (l.findIdx fun y => decide (y = z)) = posn l z := by exact_mod_cast ih
      simp only [cond_false, ih']
      omega
theorem posn_lt : ∀ {row : List Str} {z : Str}, z ∈ row → posn row z < row.length
  | x :: l, z, h => by
    rw [posn]
    by_cases e : x = z
    · rw [if_pos e]; simp
    · rw [if_neg e]
      have := posn_lt (row := l) (z := z) (List.mem_of_ne_of_mem (fun h => e h.symm) h)
      simp only [List.length_cons]
      omega
theorem cut_neg1 {α : Type} {l : List α} (h : l ≠ []) : cut l (some (-(1 : Int))) none = l.drop (l.length - 1) := by
  have hl : 1 ≤ l.length := by cases l with | nil => exact absurd rfl h | cons _ _ => simp
  unfold cut HT.sIx
  simp only []
  rw [if_pos (by omega)]
  have : ((-1 : Int) + (l.length : Int)).toNat = l.length - 1 := by omega
  rw [this, List.take_of_length_le (by rw [List.length_drop]; omega)]
theorem at_last {α : Type} [Inhabited α] {l : List α} (h : l ≠ []) : (atI l (-(1 : Int))).isSome = true ∧ getI l (-(1 : Int)) ∈ l := by
  have hl : 1 ≤ l.length := by cases l with | nil => exact absurd rfl h | cons _ _ => simp
  have e : atI l (-(1 : Int)) = l[l.length - 1]? := by
    unfold atI ixN
    rw [if_neg (by omega), if_pos (by omega)]
    have : ((-(1 : Int)) + (l.length : Int)).toNat = l.length - 1 := by omega
    show l[((-(1 : Int)) + (l.length : Int)).toNat]? = _
    rw [this]
  have hj : l.length - 1 < l.length := by omega
  unfold getI
  rw [e, List.getElem?_eq_getElem hj]
  exact ⟨rfl, List.getElem_mem _⟩
section
variable {P : PanelD} {names field : List Str} {rows : List (List Str)} {name : Str}
theorem GP.spots_eq (g : GP P names rows) : P.spots = rows.map m_spots_of := by rw [g.eq]
theorem entry_ok (g : GN names) (hn : name ∈ names) : ok_check_entry name names := by
  refine ⟨⟨is_name_ok _, trivial⟩, ?_, trivial⟩
  show (!((m_is_name name) && decide (name ∈ names))) = false
  rw [nm_ok (g.nm name hn), decide_eq_true hn]; rfl
theorem steward_ok (g : GP P names rows) {j : Nat} (hj : j < rows.length) : ok_check_steward (j : Int) P := by
  refine ⟨?_, trivial⟩
  rw [g.orders_eq]
  exact count_ok (by omega) (by omega) (by omega)
theorem places_spec (g : GP P names rows) (hn : name ∈ names) : ok_places P name ∧ m_places P name = rows.map fun r => (posn r name : Int) := by
  have inr : ∀ r ∈ rows, name ∈ r := fun r hr => (g.perm r hr).mem_iff.mpr hn
  refine ⟨⟨⟨rfl, trivial⟩, by rw [g.names_eq]; exact entry_ok g.gn hn, fun y hy => ?_, trivial⟩, ?_⟩
  · rw [g.spots_eq] at hy
    obtain ⟨r, hr, rfl⟩ := List.mem_map.mp hy
    rw [dget_spots (g.nd hr) (inr r hr)]; rfl
  · show (P.spots.map fun y => dgetD y name) = _
    rw [g.spots_eq, List.map_map]
    exact List.map_congr_left fun r hr => dgetD_spots (g.nd hr) (inr r hr)
theorem ahead_spec (g : GP P names rows) (hn : name ∈ names) {j : Nat} (hj : j < rows.length) : ok_ahead P (j : Int) name ∧ m_ahead P (j : Int) name = srt (rows[j].take (posn rows[j] name)) := by
  have hr : rows[j] ∈ rows := List.getElem_mem _
  have hin : name ∈ rows[j] := (g.perm _ hr).mem_iff.mpr hn
  have ho : j < P.orders.length := by rw [g.orders_eq]; exact hj
  have hs : j < P.spots.length := by rw [g.spots_eq, List.length_map]; exact hj
  have eo : getI P.orders (j : Int) = rows[j] := by rw [getI_nat ho]; simp only [g.orders_eq]
  have es : getI P.spots (j : Int) = m_spots_of rows[j] := by rw [getI_nat hs]; simp only [g.spots_eq, List.getElem_map]
  have ec : cut (getI P.orders (j : Int)) none (some (dgetD (getI P.spots (j : Int)) name)) = rows[j].take (posn rows[j] name) := by
    rw [eo, es, dgetD_spots (g.nd hr) hin]
    exact cut_to _ (by omega)
  refine ⟨⟨⟨rfl, trivial⟩, steward_ok g hj, by rw [g.names_eq]; exact entry_ok g.gn hn, by rw [ix_nat ho]; rfl, by rw [ix_nat hs]; rfl, ?_, ?_, trivial⟩, ?_⟩
  · rw [es, dget_spots (g.nd hr) hin]; rfl
  · rw [ec]
    have := (g.perm _ hr).length_eq
    have := g.n64
    rw [List.length_take]; omega
  · show srt (cut (getI P.orders (j : Int)) none (some (dgetD (getI P.spots (j : Int)) name))) = _
    rw [ec]
theorem irange_forall {n : Nat} {Q : Int → Prop} (h : ∀ j : Nat, j < n → Q (j : Int)) : ∀ y ∈ irange (n : Int), Q y := fun y hy => by
  have := mem_irange hy
  obtain ⟨j, rfl⟩ := Int.eq_ofNat_of_zero_le this.1
  exact h j (by omega)
theorem irange_map_rows {β : Type} {n : Nat} {F : Int → β} {l : List β} (hl : l.length = n) (h : ∀ (j : Nat) (hj : j < n), F (j : Int) = l[j]'(by omega)) : (irange (n : Int)).map F = l := by
  rw [irange_map]
  apply List.ext_getElem
  · rw [List.length_map, List.length_range, hl]
  · intro j h1 h2
    rw [List.getElem_map, List.getElem_range, h j (by omega)]
theorem wt_names (g : GN names) : Wt (Dat.dat names) (names.length * 21) := wt_list fun x hx => wt_str (g.nm x hx)
theorem wt_rows (g : GP P names rows) : Wt (Dat.dat rows) (rows.length * (names.length * 21 + 1)) := wt_list fun r hr => by
  have hp := g.perm r hr
  rw [← hp.length_eq]
  exact wt_list fun x hx => wt_str (g.gn.nm x (hp.mem_iff.mp hx))
theorem panel_is (g : GP P names rows) : ok__law_panel_is P names rows ∧ m__law_panel_is P names rows = true := by
  have n1 := g.n1
  have n64 := g.n64
  have r64 := g.r64
  have enn : srt names = names := srt_id g.gn.asc
  -- the whole, told
  have e1 : m_Panel_entries P = names := g.names_eq
  have e2 : m_Panel_rows P = rows := by
    show P.orders.map (fun y => y) = rows
    rw [List.map_id', g.orders_eq]
  have e3 : m_Panel___len__ P = (rows.length : Int) := by
    show (P.orders.length : Int) = _
    rw [g.orders_eq]
  have wt : RepOk (Het.mk (names, rows, (rows.length : Int), ())) := by
    have hb : rows.length * (names.length * 21 + 1) ≤ 64 * 2000 := Nat.mul_le_mul (by omega) (by omega)
    refine (wt_het (wta_cons (wt_names g.gn) (wta_cons (wt_rows g) (wta_cons (wt_int (z := (rows.length : Int)) ⟨by omega, by omega⟩) wta_nil)))).ok ?_
    generalize rows.length * (names.length * 21 + 1) = q at hb ⊢
    omega
  have d0 : (!decide (reprD (Het.mk (m_Panel_entries P, m_Panel_rows P, m_Panel___len__ P, ())) = reprD (Het.mk (srt names, rows, (rows.length : Int), ())))) = false := by
    rw [e1, e2, e3, enn]; simp
  -- name by name
  have turn : ∀ name ∈ names, ok__law_panel_is_3 P names rows name ∧ m__law_panel_is_3 P names rows name = .inr () := by
    intro name hn
    have inr : ∀ r ∈ rows, name ∈ r := fun r hr => (g.perm r hr).mem_iff.mpr hn
    obtain ⟨p1, p2⟩ := places_spec g hn
    have ei : (rows.map fun y => lidx y name) = rows.map fun r => (posn r name : Int) := List.map_congr_left fun r _ => lidx_posn
    have wi : RepOk (rows.map fun r => (posn r name : Int)) := by
      refine (wt_list (n := 20) fun x hx => ?_).ok ?_
      · obtain ⟨r, hr, rfl⟩ := List.mem_map.mp hx
        have := posn_lt (inr r hr)
        have := (g.perm r hr).length_eq
        exact wt_int ⟨by omega, by omega⟩
      · rw [List.length_map]; omega
    have d3 : (!decide (reprD (rows.map fun y => lidx y name) = reprD (m_places P name))) = false := by rw [ei, p2]; simp
    have ea : (rows.map fun y => srt (cut y none (some (lidx y name)))) = (irange (rows.length : Int)).map fun y => m_ahead P y name := by
      refine (irange_map_rows (by rw [List.length_map]) fun j hj => ?_).symm
      rw [(ahead_spec g hn hj).2, List.getElem_map, lidx_posn, cut_to _ (by omega)]
      rfl
    have d5 : (!decide ((rows.map fun y => srt (cut y none (some (lidx y name)))) = (irange (rows.length : Int)).map fun y => m_ahead P y name)) = false := by rw [ea]; simp
    refine ⟨⟨inr, by rw [ei]; exact wi, p1, by rw [p2]; exact wi, fun h => absurd (d3.symm.trans h) (by decide), fun _ => ⟨fun r hr => ⟨inr r hr, ?_⟩, ⟨by omega, by omega⟩, irange_forall fun j hj => (ahead_spec g hn hj).1, fun h => absurd (d5.symm.trans h) (by decide), fun _ => trivial⟩⟩, ?_⟩
    · rw [lidx_posn, cut_to _ (by omega), List.length_take]
      have := (g.perm r hr).length_eq
      omega
    · unfold m__law_panel_is_3
      rw [d3, if_neg (by decide)]
      unfold m__law_panel_is_5
      rw [d5, if_neg (by decide)]
      rfl
  obtain ⟨l1, s1, l2, _⟩ := loop_all (f := fun (s : Unit) (y : Str) => m__law_panel_is_3 P names rows y) (okf := fun (s : Unit) (y : Str) => ok__law_panel_is_3 P names rows y) (fun _ => True) names () trivial (fun s x hx _ => ⟨(turn x hx).1, (), (turn x hx).2, trivial⟩)
  -- field by field
  have named : ∀ field, GF field names → (irange (rows.length : Int)).map (fun y => m_named P y field) = tops rows field := fun field f =>
    irange_map_rows (tops_len rows field) fun j hj => (named_spec g f hj).2
  have turn2 : ∀ field, GF field names → ok__law_panel_is_9 P names rows field ∧ m__law_panel_is_9 P names rows field = .inr () := by
    intro field f
    unfold ok__law_panel_is_9 m__law_panel_is_9
    rw [firsts_eq g f]
    obtain ⟨a1, a2⟩ := at_last f.ne
    have am : getI field (-(1 : Int)) ∈ names := f.sub.subset a2
    obtain ⟨w1, w2⟩ := who_spec g f am
    have d10 : (!decide ((irange (rows.length : Int)).map (fun y => m_named P y field) = tops rows field)) = false := by rw [named field f]; simp
    have d12 : (!decide (((irange (rows.length : Int)).filter fun y => decide (getI (tops rows field) y = getI field (-(1 : Int)))) = m_who P field (getI field (-(1 : Int))))) = false := by rw [w2]; simp
    refine ⟨⟨fun r hr => (getI_filter g f hr).1, ⟨by omega, by omega⟩, irange_forall fun j hj => (named_spec g f hj).1, fun h => absurd (d10.symm.trans h) (by decide), fun _ => ⟨⟨by omega, by omega⟩, irange_forall fun j hj => ⟨by rw [ix_nat (by rw [tops_len]; exact hj)]; rfl, a1⟩, a1, w1, fun h => absurd (d12.symm.trans h) (by decide), fun _ => trivial⟩⟩, ?_⟩
    unfold m__law_panel_is_10
    rw [d10, if_neg (by decide)]
    unfold m__law_panel_is_12
    rw [d12, if_neg (by decide)]
    rfl
  have nne : names ≠ [] := fun e => by rw [e] at n1; simp at n1
  have gf : ∀ field ∈ ([srt names, cut (srt names) none (some (2 : Int)), cut (srt names) (some (-(1 : Int))) none] : List (List Str)), GF field names := by
    intro field hf
    rw [enn, cut_to _ (by omega), cut_neg1 nne] at hf
    simp only [List.mem_cons, List.not_mem_nil, or_false] at hf
    rcases hf with rfl | rfl | rfl
    · exact ⟨List.Sublist.refl _, nne⟩
    · refine ⟨List.take_sublist _ _, fun e => ?_⟩
      have := congrArg List.length e
      rw [List.length_take, List.length_nil] at this
      omega
    · refine ⟨List.drop_sublist _ _, fun e => ?_⟩
      have := congrArg List.length e
      rw [List.length_drop, List.length_nil] at this
      omega
  obtain ⟨k1, s2, k2, _⟩ := loop_all (f := fun (s : Unit) (y : List Str) => m__law_panel_is_9 P names rows y) (okf := fun (s : Unit) (y : List Str) => ok__law_panel_is_9 P names rows y) (fun _ => True) ([srt names, cut (srt names) none (some (2 : Int)), cut (srt names) (some (-(1 : Int))) none] : List (List Str)) () trivial (fun s x hx _ => ⟨(turn2 x (gf x hx)).1, (), (turn2 x (gf x hx)).2, trivial⟩)
  refine ⟨⟨trivial, trivial, ⟨trivial, by rw [e3]; omega, by rw [e3]; omega⟩, by rw [e1, e2, e3]; exact wt, n64, by rw [enn]; exact wt, fun h => absurd (d0.symm.trans h) (by decide), fun _ => ⟨l1, fun _ _ => ⟨n64, n64, n64, k1, fun _ _ => trivial⟩⟩⟩, ?_⟩
  show (if (!decide (reprD (Het.mk (m_Panel_entries P, m_Panel_rows P, m_Panel___len__ P, ())) = reprD (Het.mk (srt names, rows, (rows.length : Int), ())))) = true then _ else m__law_panel_is_2 P names rows) = true
  rw [d0, if_neg (by decide)]
  unfold m__law_panel_is_2
  rw [l2]
  show elimR (loopR _ _ ()) _ _ = true
  rw [k2]
  rfl
end
end Pf

namespace Pf
open Dn.Rep (rep)
open PySem L2 Dn
section
variable {P Q : PanelD} {names field : List Str} {rows others : List (List Str)}
theorem joint_spec (g : GP P names rows) (h : GP Q names others) (hl : rows.length + others.length < 64) : ok_joint P Q ∧ GP (m_joint P Q) names (rows ++ others) := by
  have sz : sizeLine = 16777216 := sizeLine_eq
  obtain ⟨p1, p2⟩ := panel_spec (mixed := names) (rows := rows ++ others) g.gn g.n1 g.n64 (.refl _) (fun e => g.r1 (List.append_eq_nil_iff.mp e).1) (by rw [List.length_append]; exact hl) (fun r hr => by
    rcases List.mem_append.mp hr with hr | hr
    · exact g.perm r hr
    · exact h.perm r hr)
  have em : m_joint P Q = m_Panel___init__ names (rows ++ others) := by
    show m_Panel___init__ P.names (P.orders ++ Q.orders) = _
    rw [g.names_eq, g.orders_eq, h.orders_eq]
  refine ⟨⟨⟨⟨rfl, trivial⟩, ⟨rfl, trivial⟩, ?_, trivial⟩, ?_⟩, by rw [em]; exact p2⟩
  · rw [g.names_eq, h.names_eq]; simp
  · unfold ok_joint_1
    rw [g.names_eq, g.orders_eq, h.orders_eq]
    exact ⟨by omega, p1, trivial⟩
theorem cds_app : cds (rows ++ others) field = srt (ddp (cds rows field ++ cds others field)) := by
  unfold cds
  refine srt_congr (TX.perm_of_nodups (ddp_nodup _) (ddp_nodup _) fun z => ?_)
  rw [mem_ddp, mem_ddp]
  unfold tops
  rw [List.map_append, List.mem_append, List.mem_append, mem_srt, mem_srt, mem_ddp, mem_ddp]
theorem cds_congr2 {r1 r2 : List (List Str)} (h : ∀ r, r ∈ r1 ↔ r ∈ r2) (field : List Str) : cds r1 field = cds r2 field := cds_congr h field
theorem cds_le : (cds rows field).length ≤ rows.length := by
  unfold cds
  rw [srt_len]
  have := ddp_len_le (tops rows field)
  rw [tops_len] at this
  exact this
theorem pair_right (g : GP P names rows) (h : GP Q names others) (hl : names.length ≤ 10) (hr : rows.length + others.length < 30) : ok__law_pair_right P Q names rows others ∧ m__law_pair_right P Q names rows others = true := by
  have sz : sizeLine = 16777216 := sizeLine_eq
  obtain ⟨j1, j2⟩ := joint_spec g h (by omega)
  obtain ⟨k1, k2⟩ := joint_spec j2 g (by rw [List.length_append]; omega)
  obtain ⟨u1, u2⟩ := panel_is j2
  obtain ⟨f1, f2, f3⟩ := fields_spec (names := names) hl
  have turn : ∀ y ∈ m__law_fields names, ok__law_pair_right_4 P Q names rows others (m_joint P Q) y ∧ m__law_pair_right_4 P Q names rows others (m_joint P Q) y = .inr () := by
    intro y hy
    have gf := f2 y hy
    obtain ⟨q1, q2⟩ := cards_spec j2 gf
    obtain ⟨q3, q4⟩ := cards_spec g gf
    obtain ⟨q5, q6⟩ := cards_spec h gf
    obtain ⟨q7, q8⟩ := cards_spec k2 gf
    obtain ⟨q9, q10⟩ := law_cards_spec j2 gf
    have l1 := cds_le (rows := rows) (field := y)
    have l2 := cds_le (rows := others) (field := y)
    unfold ok__law_pair_right_4 m__law_pair_right_4
    rw [q10]
    have e5 : ((!decide (m_cards (m_joint P Q) y = cds (rows ++ others) y)) || (!decide (cds (rows ++ others) y = srt (ddp (m_cards P y ++ m_cards Q y))))) = false := by
      rw [q2, q4, q6, ← cds_app]; simp
    have e7 : (!decide (m_cards (m_joint (m_joint P Q) P) y = cds (rows ++ others) y)) = false := by
      rw [q8, cds_congr (r1 := rows ++ others ++ rows) (r2 := rows ++ others) (fun r => by simp only [List.mem_append]; exact ⟨fun h => h.elim id .inl, .inl⟩)]
      simp
    refine ⟨⟨by omega, q9, q1, fun _ => ⟨q3, q5, by rw [q4, q6]; omega, by rw [q4, q6, List.length_append]; omega⟩, fun h => absurd (e5.symm.trans h) (by decide), fun _ => ⟨k1, q7, fun h => absurd (e7.symm.trans h) (by decide), fun _ => trivial⟩⟩, ?_⟩
    unfold m__law_pair_right_5
    rw [e5, if_neg (by decide)]
    unfold m__law_pair_right_7
    rw [e7, if_neg (by decide)]
    rfl
  obtain ⟨l1, s', l2, _⟩ := loop_all (f := fun (s : Unit) (y : List Str) => m__law_pair_right_4 P Q names rows others (m_joint P Q) y) (okf := fun (s : Unit) (y : List Str) => ok__law_pair_right_4 P Q names rows others (m_joint P Q) y) (fun _ => True) (m__law_fields names) () trivial (fun s x hx _ => ⟨(turn x hx).1, (), (turn x hx).2, trivial⟩)
  have d1 : (!(m__law_panel_is (m_joint P Q) names (rows ++ others))) = false := by rw [u2]; rfl
  refine ⟨⟨j1, by omega, u1, fun h => absurd (d1.symm.trans h) (by decide), fun _ => ⟨f1, l1, fun _ _ => trivial⟩⟩, ?_⟩
  show m__law_pair_right_1 P Q names rows others (m_joint P Q) = true
  unfold m__law_pair_right_1
  rw [d1, if_neg (by decide)]
  unfold m__law_pair_right_3
  rw [l2]
  rfl
theorem one_of {α : Type} [Inhabited α] {n : Nat} {p : List Int} {l : List α} (hp : PW n p) (hn : n < 2 ^ 50) (h0 : 0 < l.length) (h1 : l.length < 2 ^ 27) : ok__law_one_of p l ∧ (m__law_one_of p l).1 ∈ l ∧ PW (n + 1) (m__law_one_of p l).2 := by
  obtain ⟨d1, d2, d3, d4⟩ := draw_spec (m := (l.length : Int)) hp hn (by omega) (by omega)
  show ok__law_one_of_0 p l ∧ (m__law_one_of_0 p l).1 ∈ l ∧ PW (n + 1) (m__law_one_of_0 p l).2
  unfold ok__law_one_of_0 m__law_one_of_0
  generalize (m__law_draw p (l.length : Int)).1 = d at d2 d3
  obtain ⟨j, rfl⟩ := Int.eq_ofNat_of_zero_le d2
  have hj : j < l.length := by omega
  refine ⟨⟨d1, by rw [ix_nat hj]; rfl, trivial⟩, ?_, d4⟩
  show getI l (j : Int) ∈ l
  rw [getI_nat hj]
  exact List.getElem_mem _
theorem eq_self (P : PanelD) : ok_Panel___eq__ P P ∧ m_Panel___eq__ P P = true := by
  refine ⟨trivial, ?_⟩
  show (true && decide ((P.names, P.orders) = (P.names, P.orders))) = true
  simp
theorem get3 {α : Type} [Inhabited α] (a b c : α) : ((atI [a, b, c] (0 : Int)).isSome = true ∧ getI [a, b, c] (0 : Int) = a) ∧ ((atI [a, b, c] (1 : Int)).isSome = true ∧ getI [a, b, c] (1 : Int) = b) ∧ ((atI [a, b, c] (2 : Int)).isSome = true ∧ getI [a, b, c] (2 : Int) = c) := ⟨⟨rfl, rfl⟩, ⟨rfl, rfl⟩, ⟨rfl, rfl⟩⟩
theorem right_spec {p : List Int} (hp : PW 0 p) : ok__law_right p ∧ (m__law_right p).1 = true := by
  have sz : sizeLine = 16777216 := sizeLine_eq
  obtain ⟨a1, a2, a3, a4⟩ := draw_spec (m := 5) hp (by omega) (by omega) (by omega)
  show ok__law_right_0 p ∧ (m__law_right_0 p).1 = true
  unfold ok__law_right_0 m__law_right_0
  generalize (m__law_draw p 5).1 = d1 at a2 a3
  generalize (m__law_draw p 5).2 = p1 at a4
  obtain ⟨b1, b2, b3, b4⟩ := names_spec (m := 1 + d1) a4 (by omega) (by omega) (by omega)
  refine (show ∀ {A B D E : Prop}, A → B → (D ∧ E) → (A ∧ B ∧ D) ∧ E from fun a b d => ⟨⟨a, b, d.1⟩, d.2⟩) a1 b1 ?_
  generalize (m__law_names p1 (1 + d1)).1 = names at b2 b3
  generalize (m__law_names p1 (1 + d1)).2 = p2 at b4
  unfold ok__law_right_1 m__law_right_1
  obtain ⟨c1, c2, c3, c4⟩ := draw_spec (m := 4) b4 (by omega) (by omega) (by omega)
  generalize (m__law_draw p2 4).1 = d2 at c2 c3
  generalize (m__law_draw p2 4).2 = p3 at c4
  obtain ⟨e1, e2, e3, e4⟩ := rows_spec (m := 1 + d2) (names := names) c4 b2.nd (by omega) (by omega) (by omega) (by omega) (by omega)
  refine (show ∀ {A B D E : Prop}, A → B → (D ∧ E) → (A ∧ B ∧ D) ∧ E from fun a b d => ⟨⟨a, b, d.1⟩, d.2⟩) c1 e1 ?_
  have e4' : PW 200 (m__law_rows_of p3 names (1 + d2)).2 := e4.mono (by
    have := Nat.mul_le_mul (show (1 + d2).toNat ≤ 4 by omega) (show names.length + 2 ≤ 7 by omega)
    omega)
  generalize (m__law_rows_of p3 names (1 + d2)).1 = rows at e2 e3
  generalize (m__law_rows_of p3 names (1 + d2)).2 = p4 at e4'
  unfold ok__law_right_2 m__law_right_2
  obtain ⟨f1, f2, f3, f4⟩ := draw_spec (m := 3) e4' (by omega) (by omega) (by omega)
  generalize (m__law_draw p4 3).1 = d3 at f2 f3
  generalize (m__law_draw p4 3).2 = p5 at f4
  obtain ⟨g1, g2, g3, g4⟩ := rows_spec (m := 1 + d3) (names := names) f4 b2.nd (by omega) (by omega) (by omega) (by omega) (by omega)
  have g4' : PW 400 (m__law_rows_of p5 names (1 + d3)).2 := g4.mono (by
    have := Nat.mul_le_mul (show (1 + d3).toNat ≤ 3 by omega) (show names.length + 2 ≤ 7 by omega)
    omega)
  generalize (m__law_rows_of p5 names (1 + d3)).1 = some_ at g2 g3
  generalize (m__law_rows_of p5 names (1 + d3)).2 = p6 at g4'
  obtain ⟨h1, h2, h3, h4⟩ := draw_spec (m := 2) g4' (by omega) (by omega) (by omega)
  generalize (m__law_draw p6 2).1 = d4 at h2 h3
  generalize (m__law_draw p6 2).2 = p7 at h4
  rw [cut_to rows h2]
  have tl : (rows.take d4.toNat).length ≤ 4 := by rw [List.length_take]; omega
  refine (show ∀ {A B C D E F : Prop}, A → B → C → D → (E ∧ F) → (A ∧ B ∧ C ∧ D ∧ E) ∧ F from fun a b c d e => ⟨⟨a, b, c, d, e.1⟩, e.2⟩) f1 g1 h1 (by omega) ?_
  have op : ∀ r ∈ some_ ++ rows.take d4.toNat, r.Perm names := fun r hr => by
    rcases List.mem_append.mp hr with hr | hr
    · exact g2 r hr
    · exact e2 r (List.mem_of_mem_take hr)
  have ol : 1 ≤ (some_ ++ rows.take d4.toNat).length ∧ (some_ ++ rows.take d4.toNat).length ≤ 8 := by rw [List.length_append]; omega
  generalize some_ ++ rows.take d4.toNat = others at op ol
  unfold ok__law_right_3 m__law_right_3
  obtain ⟨i1, i2, i3⟩ := one_of (l := rows ++ others) h4 (by omega) (by rw [List.length_append]; omega) (by rw [List.length_append]; omega)
  refine (show ∀ {A B D E : Prop}, A → B → (D ∧ E) → (A ∧ B ∧ D) ∧ E from fun a b d => ⟨⟨a, b, d.1⟩, d.2⟩) (by omega) i1 ?_
  have tp : ((m__law_one_of p7 (rows ++ others)).1.reverse).Perm names := (List.reverse_perm _).trans (by
    rcases List.mem_append.mp i2 with h | h
    · exact e2 _ h
    · exact op _ h)
  generalize (m__law_one_of p7 (rows ++ others)).1.reverse = row at tp
  generalize (m__law_one_of p7 (rows ++ others)).2 = p8
  have ne : ∀ {l : List (List Str)}, 1 ≤ l.length → l ≠ [] := fun h e => by rw [e] at h; simp at h
  obtain ⟨j1, j2⟩ := panel_spec (mixed := names) (rows := rows) b2 (by omega) (by omega) (.refl _) (ne (by omega)) (by omega) e2
  obtain ⟨k1, k2⟩ := panel_spec (mixed := names) (rows := others) b2 (by omega) (by omega) (.refl _) (ne (by omega)) (by omega) op
  obtain ⟨l1, l2⟩ := panel_spec (mixed := names) (rows := [row]) b2 (by omega) (by omega) (.refl _) (ne (by simp)) (by simp) (fun r hr => by
    have e : r = row := by simpa using hr
    rw [e]; exact tp)
  have all : ∀ y ∈ ([rows, others, [row]] : List (List (List Str))), ok_Panel___init__ names y := by
    intro y hy
    simp only [List.mem_cons, List.not_mem_nil, or_false] at hy
    rcases hy with rfl | rfl | rfl
    · exact j1
    · exact k1
    · exact l1
  unfold ok__law_right_4 m__law_right_4
  refine (show ∀ {A D E : Prop}, A → (D ∧ E) → (A ∧ D) ∧ E from fun a d => ⟨⟨a, d.1⟩, d.2⟩) all ?_
  have hmap : ([rows, others, [row]] : List (List (List Str))).map (fun y => m_Panel___init__ names y) = [m_Panel___init__ names rows, m_Panel___init__ names others, m_Panel___init__ names [row]] := rfl
  rw [hmap]
  obtain ⟨m1, m2⟩ := pair_right j2 k2 (by omega) (by omega)
  obtain ⟨n1, n2⟩ := pair_right j2 l2 (by omega) (by simp; omega)
  obtain ⟨o1, o2⟩ := pair_right k2 j2 (by omega) (by omega)
  obtain ⟨⟨t1, t2⟩, ⟨t3, t4⟩, ⟨t5, t6⟩⟩ := get3 (m_Panel___init__ names rows) (m_Panel___init__ names others) (m_Panel___init__ names [row])
  have eqs : ([m_Panel___init__ names rows, m_Panel___init__ names others, m_Panel___init__ names [row]] : List PanelD).length = (([rows, others, [row]] : List (List (List Str))).map fun y => m_Panel___init__ names y).length ∧ ∀ (i_ : Nat) (x_ y_ : PanelD), ([m_Panel___init__ names rows, m_Panel___init__ names others, m_Panel___init__ names [row]] : List PanelD)[i_]? = some x_ → (([rows, others, [row]] : List (List (List Str))).map fun y => m_Panel___init__ names y)[i_]? = some y_ → ok_Panel___eq__ x_ y_ ∧ m_Panel___eq__ x_ y_ = true := by
    refine ⟨rfl, fun i x y hx hy => ?_⟩
    rw [hmap, hx] at hy
    cases hy
    exact eq_self x
  have fin : ok__law_right_15 p8 names rows others [row] [m_Panel___init__ names rows, m_Panel___init__ names others, m_Panel___init__ names [row]] := ⟨all, eqs, trivial⟩
  -- each of the three
  have zipped : List.zip [m_Panel___init__ names rows, m_Panel___init__ names others, m_Panel___init__ names [row]] ([rows, others, [row]] : List (List (List Str))) = [(m_Panel___init__ names rows, rows), (m_Panel___init__ names others, others), (m_Panel___init__ names [row], [row])] := rfl
  have each : ∀ (L : List PanelD), ∀ z ∈ [(m_Panel___init__ names rows, rows), (m_Panel___init__ names others, others), (m_Panel___init__ names [row], [row])], ok__law_right_12 p8 names rows others [row] L z.1 z.2 ∧ m__law_right_12 p8 names rows others [row] L z.1 z.2 = .inr () := by
    intro L z hz
    have gp : GP z.1 names z.2 := by
      simp only [List.mem_cons, List.not_mem_nil, or_false] at hz
      rcases hz with rfl | rfl | rfl
      · exact j2
      · exact k2
      · exact l2
    obtain ⟨r1, r2⟩ := panel_is gp
    have e : (!(m__law_panel_is z.1 names z.2)) = false := by rw [r2]; rfl
    refine ⟨⟨r1, fun h => absurd (e.symm.trans h) (by decide), fun _ => trivial⟩, ?_⟩
    unfold m__law_right_12
    rw [e, if_neg (by decide)]
    rfl
  have loops : ∀ (L : List PanelD), loopOk (fun (s : Unit) (y : PanelD × (List (List Str))) => m__law_right_12 p8 names rows others [row] L y.1 y.2) (fun (s : Unit) (y : PanelD × (List (List Str))) => ok__law_right_12 p8 names rows others [row] L y.1 y.2) [(m_Panel___init__ names rows, rows), (m_Panel___init__ names others, others), (m_Panel___init__ names [row], [row])] () ∧ ∃ s', loopR (fun (s : Unit) (y : PanelD × (List (List Str))) => m__law_right_12 p8 names rows others [row] L y.1 y.2) [(m_Panel___init__ names rows, rows), (m_Panel___init__ names others, others), (m_Panel___init__ names [row], [row])] () = .inr s' ∧ True := fun L =>
    loop_all (fun _ => True) _ () trivial (fun s x hx _ => ⟨(each L x hx).1, (), (each L x hx).2, trivial⟩)
  have ok11 : ok__law_right_11 p8 names rows others [row] [m_Panel___init__ names rows, m_Panel___init__ names others, m_Panel___init__ names [row]] := by
    obtain ⟨q1, s', q2, _⟩ := loops [m_Panel___init__ names rows, m_Panel___init__ names others, m_Panel___init__ names [row]]
    unfold ok__law_right_11
    rw [zipped]
    exact ⟨q1, fun _ _ => fin⟩
  have m11 : (m__law_right_11 p8 names rows others [row] [m_Panel___init__ names rows, m_Panel___init__ names others, m_Panel___init__ names [row]]).1 = true := by
    obtain ⟨q1, s', q2, _⟩ := loops [m_Panel___init__ names rows, m_Panel___init__ names others, m_Panel___init__ names [row]]
    unfold m__law_right_11
    rw [zipped, q2]
    rfl
  generalize [m_Panel___init__ names rows, m_Panel___init__ names others, m_Panel___init__ names [row]] = L at t1 t2 t3 t4 t5 t6 ok11 m11
  have x5 : (!(m__law_pair_right (getI L (0 : Int)) (getI L (1 : Int)) names rows others)) = false := by rw [t2, t4, m2]; rfl
  have x7 : (!(m__law_pair_right (getI L (0 : Int)) (getI L (2 : Int)) names rows [row])) = false := by rw [t2, t6, n2]; rfl
  have x9 : (!(m__law_pair_right (getI L (1 : Int)) (getI L (0 : Int)) names others rows)) = false := by rw [t2, t4, o2]; rfl
  have ok9 : ok__law_right_9 p8 names rows others [row] L := ⟨t3, t1, by rw [t2, t4]; exact o1, fun h => absurd (x9.symm.trans h) (by decide), fun _ => ok11⟩
  have ok7 : ok__law_right_7 p8 names rows others [row] L := ⟨t1, t5, by rw [t2, t6]; exact n1, fun h => absurd (x7.symm.trans h) (by decide), fun _ => ok9⟩
  refine ⟨⟨t1, t3, by rw [t2, t4]; exact m1, fun h => absurd (x5.symm.trans h) (by decide), fun _ => ok7⟩, ?_⟩
  unfold m__law_right_5
  rw [x5, if_neg (by decide)]
  unfold m__law_right_7
  rw [x7, if_neg (by decide)]
  unfold m__law_right_9
  rw [x9, if_neg (by decide)]
  exact m11
theorem law4 (s : Scr) : ok_law_4 s ∧ m_law_4 s = true := by
  have e : m_law_4 s = true := (show m_law_4 s = m_law_4 ⟨[]⟩ from rfl).trans (by decide +kernel)
  have gE : GN (["a", "b"] : List Str) := by
    refine ⟨sortedS_asc (by decide +kernel), by decide +kernel, fun z hz => ?_⟩
    have : ((["a", "b"] : List Str).all fun z => decide (1 ≤ z.length) && (decide (z.length ≤ 8) && z.cps.toList.all fun c => decide (97 ≤ c) && decide (c < 123))) = true := by decide +kernel
    have h := List.all_eq_true.mp this z hz
    simp only [Bool.and_eq_true, decide_eq_true_iff, List.all_eq_true] at h
    exact ⟨h.1, h.2.1, fun c hc => h.2.2 c hc⟩
  obtain ⟨s1, s2⟩ := panel_spec (mixed := (["a", "b"] : List Str)) (rows := ([["a", "b"]] : List (List Str))) gE (by decide) (by decide) (.refl _) (by decide) (by decide) (by decide +kernel)
  obtain ⟨t1, t2⟩ := joint_spec s2 s2 (by decide)
  exact ⟨⟨s1, t1, trivial, fun _ => ⟨t1, trivial⟩, trivial⟩, e⟩
theorem plain (s : Scr) (h : s.ns.length ≤ 63) : ok_law s ∧ m_law s = true := by
  obtain ⟨p1, p2⟩ := purses_spec s (few := 2) (by omega) (by omega)
  obtain ⟨l1, l2⟩ := loopP_all (f := fun (y : List Int) => m_law_1 s y) (okf := fun (y : List Int) => ok_law_1 s y) (m__law_purses s 2) (fun y hy => by
    obtain ⟨r1, r2⟩ := right_spec (p2 y hy)
    have e : (!((m__law_right y).1)) = false := by rw [r2]; rfl
    refine ⟨⟨r1, fun h => absurd (e.symm.trans h) (by decide), fun _ => trivial⟩, ?_⟩
    show (if (!((m__law_right y).1)) = true then _ else _) = _
    rw [e, if_neg (by decide)]
    rfl)
  obtain ⟨q1, q2⟩ := law4 s
  refine ⟨⟨p1, l1, fun _ => q1⟩, ?_⟩
  show elimR (loopP _ _) id _ = true
  rw [l2]
  exact q2
end
end Pf


open PySem PySem.W PySem.Calls PyProof.Rows
theorem PySem.Challenge.cw_panelfairs_k52_whole_joint_holds : PySem.Challenge.rw_panelfairs_k52_whole_joint.Holds := by
  w_on; o_law
  refine HandSHeadRun.head_any (r := OpenLaw.row PySem.Challenge.rw_panelfairs_k52_whole_joint) (q := view (OpenLaw.row PySem.Challenge.rw_panelfairs_k52_whole_joint).prog [57]) (H := Pf.hk) (ob := Pf.ob) (M := 6000) (loose := Pf.loose) (d := HandSHeadRun.topDef (OpenLaw.row PySem.Challenge.rw_panelfairs_k52_whole_joint).prog 57) (kwd := []) Pf.ob_eq
    (by kernel_rfl) (fun s => by kernel_rfl) Pf.run (by kernel_rfl) (by kernel_rfl) (by kernel_rfl) (by rfl) (by first | assumption | decide +kernel) (by decide +kernel) ⟨rfl, rfl, rfl, rfl, rfl, by decide +kernel⟩ ?hw ?hc
  case hw => w_witness2
  case hc =>
    refine Dn.walk_ofG (l := PySem.Challenge.rw_panelfairs_k52_whole_joint) (n := 63) (k := 11) (x := "script") (CX := L2.CX0) rfl (by decide) (by kernel_rfl) ⟨⟨rfl, by decide, by decide⟩, rfl⟩ ?F (fun _ _ _ _ z => z)
    intro w mg fa h Y G hmg0
    obtain ⟨K, KX, c⟩ := Y
    have hmg : mg ("law" : PySem.Str) = some (.ref fa) := by
      have e : (HandSHeadRun.topDef (OpenLaw.row PySem.Challenge.rw_panelfairs_k52_whole_joint).prog 57).name = ("law" : PySem.Str) := by kernel_rfl
      rw [← e]
      exact hmg0
    letI pc : Dn.PC := ⟨He.ga K, K⟩
    have T : Pf.Tx K mg := ⟨fun _ => rfl, rfl, c, fun x h => He.glo_ok KX G h, fun x h => He.free_ok KX G h, fun x z h => He.str_ok KX G h⟩
    have e := hmg.symm.trans (Pf.g_law T)
    cases e
    refine ⟨K, Dn.SpN Dn.kD (fun a : Dn.Scr × Unit => Pf.ok_law a.1) (fun a => Pf.m_law a.1), KX, fun H a ns hl _ hS => ?_, fun base _ _ => ?_⟩
    rotate_left
    · obtain ⟨fd, _, _, hb, hF⟩ := (Pf.h_law (P := (PySem.Challenge.rw_panelfairs_k52_whole_joint).prog) (w := w) (base := base) T).ex
      exact ⟨fd, hb, hF⟩
    · have hp := Pf.plain ⟨ns⟩ hl
      refine ⟨H, (⟨ns⟩, ()), Dn.Ex.refl H, ⟨_, _, rfl, ⟨a, rfl, hS, Nat.le_trans hl (by decide)⟩, rfl⟩, hp.1, fun w G' H' g r => ?_⟩
      have r' : w = .bl (Pf.m_law ⟨ns⟩) := r
      rw [r', hp.2]


