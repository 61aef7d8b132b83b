import PyProof.Rows.All
import Wide.All
import OpenK.AllK
import Wide.FinOn
import HandS.ForMost
import HandS.Set
import HandS.More
import HandS.IsInst
import HandS.Defaults
import HandS.Deep
import HandS.Walk
import HandS.Strs
import HandS.Exc
import HandS.ExcOwn
import HandS.ExcInit
import HandS.ExcField
import HandS.ExcIs
import HandS.TryOnly
import HandS.TryMany
import HandS.WordsExc
import HandS.Conv
import HandS.Iter
import HandS.DictComp
import HandS.Slots
import HandS.Star
import HandS.HeadHook1
import HandS.HeadHook2
import HandS.HeadHook3
import HandS.HeadHook4
import HandS.CallSlots
import HandS.Text
import KE.KStateDown
import HandS.Ends
import HandS.Words
import HandS.Head0
import HandS.Head1
import HandS.Head2
import HandS.HeadEnd
import PySem.Challenge.RW_handplaced_k04_scenes_refused
set_option Elab.async false
set_option linter.all false
set_option maxRecDepth 100000
set_option maxHeartbeats 4000000
/-! sets of ints and texts made of a list or a tuple: len, sorted -/
namespace SM
open PySem PySem.Spec PyProof.Rows L2
def mkey (v : Value) : Key := match v with
  | .int i _ => .inl i
  | .str x _ => .inr x
  | _ => .inl 0
theorem mkey_of {k : Key} {v : Value} (h : keyIs k v = true) : mkey v = k := by
  rcases keyIs_shape h with ⟨i, t, rfl, rfl⟩ | ⟨x, t, rfl, rfl⟩ <;> rfl
def ekey (e : Int × Value) : Key := mkey e.2
def GoodM (w : World) (e : Int × Value) : Prop := keyIs (ekey e) e.2 = true ∧ e.1 = keyH w (ekey e)
theorem is_scan {k : Key} {v : Value} (h : keyIs k v = true) : v.scannable = true := by
  rcases keyIs_shape h with ⟨i, t, rfl, rfl⟩ | ⟨x, t, rfl, rfl⟩ <;> rfl
/-- the set at a: its members ks, each once -/
def SetM (w : World) (h : Heap) (a : Addr) (ks : List Key) : Prop :=
  ∃ o es ep t, h.get? a = some o ∧ o.ExactSet ∧ o.data = .set es ep t ∧ (∀ e ∈ es.toList, GoodM w e) ∧ (es.toList.map ekey).Perm ks ∧ ks.Nodup ∧
    es.size < scanBound ∧ t.fits es.size = true ∧ Ris t.place.toList ∧ (w.params.followText "set-order" = true ∨ t.led = true)
section
variable {P : Program} {w : World} {h h' : Heap} {a : Addr} {ks : List Key}
theorem SetM.at (R : SetM w h a ks) (k : ∀ o, h.get? a = some o → h'.get? a = some o) : SetM w h' a ks := by
  obtain ⟨o, es, ep, t, ho, r⟩ := R
  exact ⟨o, es, ep, t, k o ho, r⟩
theorem good_elemsM {l : List (Int × Value)} (g : ∀ e ∈ l, GoodM w e) : ElemsOf (mixKind P w) l := fun e he => by
  obtain ⟨h1, h2⟩ := g e he
  exact ⟨⟨ekey e, h1, h2⟩, is_scan h1⟩
theorem good_memM {l : List (Int × Value)} (g : ∀ e ∈ l, GoodM w e) (k : Key) : k ∈ l.map ekey ↔ ∃ e ∈ l, (mixKind P w).is k e.2 = true := by
  rw [List.mem_map]
  constructor
  · rintro ⟨e, he, q⟩
    exact ⟨e, he, by rw [← q]; exact (g e he).1⟩
  · rintro ⟨e, he, q⟩
    exact ⟨e, he, mkey_of q⟩
end
section
variable {P : Program} {w : World} {A : Around} {E : Value → Shared → Prop} {s : Shared} {a : Addr} {ks : List Key}
theorem addM_tail {g : Bool → Sem Unit} (hg : ∀ (b : Bool) (s₁ : Shared) (Q' : Unit → Shared → Prop), Q' () s₁ → wpAny (model P w) A (g b) Q' E s₁)
    {o : Obj} {es : Array (Int × Value)} {ep : Nat} {t : SetTable} (ho : s.heap.get? a = some o) (hex : o.ExactSet) (hd : o.data = .set es ep t)
    {es1 : Array (Int × Value)} {t2 : SetTable} {ks' : List Key} (g1 : ∀ e ∈ es1.toList, GoodM w e) (m1 : (es1.toList.map ekey).Perm ks') (nd1 : ks'.Nodup)
    (hb1 : es1.size < scanBound) (hf2 : t2.fits es1.size = true) (hr : Ris t2.place.toList) (hl : w.params.followText "set-order" = true ∨ t2.led = true) {wasDummy : Bool} {R : Option Bool → Shared → Prop}
    (hR : ∀ h', Heap.SameBut a s.heap h' → SetM w h' a ks' → R (some true) { s with heap := h' }) :
    wpAny (model P w) A (do
        storeSet a es1 t2
        if (!wasDummy && t2.tooFull) = true then do
            g (relayAll t2 es1 (SetTable.grown es1.size)).2.2
            storeSet a (relayAll t2 es1 (SetTable.grown es1.size)).1 (relayAll t2 es1 (SetTable.grown es1.size)).2.1
            pure (some true)
          else pure (some true)) R E s := by
  refine wpAny_bind (wpAny_storeSet_of ho hd ?_ (fits_of_scanBound hb1))
  have ho1 := store_at (es' := es1) (t' := t2) ho hd
  have sb1 := Heap.SameBut.update s.heap a (Obj.putSet es1 t2)
  split
  · have pm := relayAll_perm t2 es1 (SetTable.grown es1.size)
    have hf3 := relayAll_fits t2 es1 (SetTable.grown es1.size)
    have hr3 := relayAll_ris t2 es1 (SetTable.grown es1.size)
    have hl3 := relayAll_led t2 es1 (SetTable.grown es1.size)
    generalize relayAll t2 es1 (SetTable.grown es1.size) = Z at pm hf3 hr3 hl3 ⊢
    obtain ⟨es2, t3, gave⟩ := Z
    dsimp only at pm hf3 hr3 hl3 ⊢
    have hsz : es2.size = es1.size := by rw [← Array.length_toList, pm.length_eq, Array.length_toList]
    have hb2 : es2.size < scanBound := by rw [hsz]; exact hb1
    refine wpAny_bind (hg _ _ _ ?_)
    refine wpAny_bind (wpAny_storeSet_of ho1 rfl ?_ (fits_of_scanBound hb2))
    have ho2 := store_at (es' := es2) (t' := t3) ho1 rfl
    refine wpAny_pure (hR _ (sb1.trans (Heap.SameBut.update _ a _)) ?_)
    exact ⟨_, es2, _, t3, ho2, hex, rfl, fun e he => g1 e (pm.mem_iff.mp he), (pm.map ekey).trans m1, nd1, hb2, hf3, hr3, hl.imp id fun z => by rw [hl3]; exact z⟩
  · exact wpAny_pure (hR _ sb1 ⟨_, es1, _, t2, ho1, hex, rfl, g1, m1, nd1, hb1, hf2, hr, hl⟩)
/-- the members behind one more -/
def hasK (ks : List Key) (k : Key) : Bool := ks.any fun j => decide (j = k)
theorem hasK_iff {ks : List Key} {k : Key} : hasK ks k = true ↔ k ∈ ks := by
  unfold hasK
  rw [List.any_eq_true]
  exact ⟨fun ⟨x, h, e⟩ => of_decide_eq_true e ▸ h, fun h => ⟨k, h, decide_eq_true rfl⟩⟩
def plus (ks : List Key) (k : Key) : List Key := if hasK ks k = true then ks else ks ++ [k]
theorem addM_hashed {k : Key} {v : Value} {Q : Bool → Shared → Prop} (hkey : keyIs k v = true) (R : SetM w s.heap a ks) (room : ks.length + 1 < scanBound)
    (hQ : ∀ h' b, Heap.SameBut a s.heap h' → SetM w h' a (plus ks k) → Q b { s with heap := h' }) :
    wpAny (model P w) A (setAddHashed a v ((mixKind P w).hash k)) Q E s := by
  obtain ⟨o, es, ep, t, ho, hex, hd, g, pk, nd, hb, hf, hr, hl⟩ := R
  have hsc : v.scannable = true := is_scan hkey
  have hel : ElemsOf (mixKind P w) es.toList := good_elemsM g
  have hn : es.size = ks.length := by rw [← pk.length_eq, List.length_map, Array.length_toList]
  unfold setAddHashed setAddHashedIn
  refine wpAny_holding (wpAny_bind (wpAny_setState_of ho hd hf ?_))
  dsimp only
  rw [byScan_of hsc hb hel]
  simp only [↓reduceIte]
  unfold setAddByScan
  refine wpAny_bind ?_
  refine wpAny_bind (wpAny_rule ?_)
  refine wpAny_bind (wpAny_setScan_of (knd := mixKind P w) hkey ho hd hf hel ?_)
  cases hfi : List.findIdx? (fun e => (mixKind P w).is k e.2) es.toList with
  | some j =>
    dsimp only
    obtain ⟨hj, pj, _⟩ := List.findIdx?_eq_some_iff_getElem.mp hfi
    have hSk : k ∈ ks := pk.mem_iff.mp ((good_memM (P := P) (w := w) g k).2 ⟨es.toList[j], List.getElem_mem hj, pj⟩)
    refine wpAny_pure (wpAny_pure ?_)
    refine hQ s.heap _ (Heap.SameBut.refl a s.heap) ?_
    unfold plus
    rw [if_pos (hasK_iff.mpr hSk)]
    exact ⟨o, es, ep, t, ho, hex, hd, g, pk, nd, hb, hf, hr, hl⟩
  | none =>
    dsimp only
    have hnk : k ∉ ks := fun z => by
      obtain ⟨e, he, q⟩ := (good_memM (P := P) (w := w) g k).1 (pk.mem_iff.mpr z)
      have c := List.findIdx?_eq_none_iff.mp hfi e he
      rw [q] at c
      cases c
    have hgw : ∀ (b : Bool) {s₁ : Shared} {Q' : Unit → Shared → Prop}, Q' () s₁ → wpAny (model P w) A (match b with | true => rule "set.scan.the-table-gave-way" | false => pure ()) Q' E s₁ :=
      fun b s₁ Q' q => by cases b <;> first | exact wpAny_pure q | exact wpAny_rule q
    have pm := layNew_perm t es ((mixKind P w).hash k) v
    have hf1 := layNew_fits t es ((mixKind P w).hash k) v
    have hr1 := layNew_ris t es ((mixKind P w).hash k) v hr
    have hl1 := layNew_led t es ((mixKind P w).hash k) v
    generalize layNew t es ((mixKind P w).hash k) v = Z at pm hf1 hr1 hl1 ⊢
    obtain ⟨es1, t1, wasDummy, gave⟩ := Z
    dsimp only at pm hf1 hr1 hl1 ⊢
    rw [Array.toList_push] at pm
    have pc : es1.toList.Perm (((mixKind P w).hash k, v) :: es.toList) := pm.trans (List.perm_append_singleton _ _)
    have ek : ekey ((mixKind P w).hash k, v) = k := mkey_of hkey
    have pk1 : (es1.toList.map ekey).Perm (plus ks k) := by
      refine (pc.map ekey).trans ?_
      rw [List.map_cons, ek]
      unfold plus
      rw [if_neg fun z => hnk (hasK_iff.mp z)]
      exact (pk.cons k).trans (List.perm_append_singleton _ _).symm
    have nd1 : (plus ks k).Nodup := by
      unfold plus
      rw [if_neg fun z => hnk (hasK_iff.mp z)]
      exact (List.perm_append_singleton k ks).nodup_iff.mpr (List.nodup_cons.mpr ⟨hnk, nd⟩)
    have g1 : ∀ e ∈ es1.toList, GoodM w e := fun e he => by
      rcases List.mem_cons.mp (pc.mem_iff.mp he) with z | z
      · rw [z]
        unfold GoodM
        rw [ek]
        exact ⟨hkey, rfl⟩
      · exact g e z
    have hsz : es1.size = ks.length + 1 := by rw [← Array.length_toList, pc.length_eq, List.length_cons, Array.length_toList, hn]
    have hb1 : es1.size < scanBound := by rw [hsz]; exact room
    have hled : w.params.followText "set-order" = true ∨ t1.led = true := hl.imp id fun z => by rw [hl1]; exact z
    have fin : ∀ h' b, Heap.SameBut a s.heap h' → SetM w h' a (plus ks k) → Q b { s with heap := h' } := fun h' b sb r => hQ h' b sb r
    refine wpAny_bind (hgw _ ?_)
    split
    · refine wpAny_bind ?_
      rw [hashByValue_scannable 8 hsc]
      refine wpAny_pure ?_
      refine addM_tail ?_ ho hex hd g1 pk1 nd1 hb1 ?_ ?_ ?_ ?_
      · intro b s₁ Q' q; cases b <;> first | exact wpAny_pure q | exact wpAny_rule q
      · first | (split <;> first | exact hf1 | exact SetTable.fits_plain_off hf1) | exact hf1
      · first | (split <;> exact hr1) | exact hr1
      · first | (split <;> exact hled) | exact hled
      · intro h' sb r; dsimp only; exact wpAny_pure (fin h' _ sb r)
    · refine wpAny_bind (wpAny_pure ?_)
      simp only [↓reduceIte]
      refine addM_tail ?_ ho hex hd g1 pk1 nd1 hb1 hf1 hr1 hled ?_
      · intro b s₁ Q' q; cases b <;> first | exact wpAny_pure q | exact wpAny_rule q
      · intro h' sb r; dsimp only; exact wpAny_pure (fin h' _ sb r)
theorem freshM {h : Heap} (w : World) : SetM w (h.push { cls := .type "set", dict := none, data := .set #[] 0 (.fresh 0 0 (!w.params.followText "set-order")) }) h.objs.size [] :=
  ⟨_, #[], 0, _, Heap.get?_push_size _ rfl, ⟨rfl, rfl, rfl⟩, rfl, (fun e he => by simp at he), (by simp), List.nodup_nil, (by decide), (by rfl), List.Pairwise.nil, by
    show _ ∨ (!w.params.followText "set-order") = true
    cases w.params.followText "set-order"
    · exact .inr rfl
    · exact .inl rfl⟩

/-- the members behind all of a row of keys -/
def ofKeys (ks : List Key) : List Key := ks.foldl plus []
theorem plus_len (ks : List Key) (k : Key) : (plus ks k).length ≤ ks.length + 1 := by
  unfold plus
  split
  · omega
  · rw [List.length_append, List.length_singleton]
    exact Nat.le_refl _
theorem ofKeys_len : ∀ (ks acc : List Key), (ks.foldl plus acc).length ≤ acc.length + ks.length
  | [], acc => Nat.le_refl _
  | k :: ks, acc => by
    have h1 := ofKeys_len ks (plus acc k)
    have h2 := plus_len acc k
    rw [List.foldl_cons, List.length_cons]
    omega
theorem take_snoc {α : Type} {l : List α} {i : Nat} {x : α} (h : l[i]? = some x) : l.take (i + 1) = l.take i ++ [x] := by
  rw [List.take_add_one, h]
  rfl
theorem ofKeys_step {ks : List Key} {i : Nat} {k : Key} (h : ks[i]? = some k) : ofKeys (ks.take (i + 1)) = plus (ofKeys (ks.take i)) k := by
  unfold ofKeys
  rw [take_snoc h, List.foldl_append]
  rfl
section
variable {prog : Program} {I : Addr} {fp wr : List Addr} {G : Array GenState → Array GenState → Prop} {n : Nat} {Pv : Nat → Value → Prop} {St : Nat → Shared → Prop} {R : Result → Shared → Prop}
theorem updM_loop (W : WalksS prog w A.in1 I fp wr G n Pv St) (S : Addr) (hSf : S ∉ fp) (ks : List Key) (hn : ks.length = n)
    (hval : ∀ i v, Pv i v → ∃ k, ks[i]? = some k ∧ keyIs k v = true) (hb : n + 1 < scanBound) :
    ∀ (m i : Nat) (s : Shared), n - i = m → i ≤ n → St i s → SetM w s.heap S (ofKeys (ks.take i)) →
      (∀ s', Moved (S :: wr) G s s' → SetM w s'.heap S (ofKeys ks) → R (.ok (.ret .none)) s') →
      codeAny (model prog w) A (.builtin "set.update.loop" ⟨[.ref S, .ref I], []⟩) R s := by
  have hSw : S ∉ wr := fun h => hSf (W.sub _ h)
  have hsub : ∀ b ∈ wr, b ∈ S :: wr := fun b hb => List.mem_cons_of_mem _ hb
  intro m
  induction m with
  | zero =>
    intro i s hk hi hst hS hR
    have hin : i = n := by omega
    subst hin
    rw [← hn, List.take_length] at hS
    refine codeAny_builtin PyProof.Rows.F.entry_set_update_loop ?_
    rw [Around.under_plainId PyProof.Rows.F.plain_set_update_loop _]
    show wpAny _ A.in1 (pyNext (.ref I) >>= _) _ _ s
    refine wpAny_bind (W.done s _ _ hst fun s' hm => ?_)
    show wpAny _ A.in1 (ret Value.none) _ _ s'
    exact wpAny_pure (hR s' (hm.mono hsub) (hS.at fun o ho => hm.heap S _ hSw ho))
  | succ m ih =>
    intro i s hk hi hst hS hR
    have hlt : i < n := by omega
    refine codeAny_builtin PyProof.Rows.F.entry_set_update_loop ?_
    rw [Around.under_plainId PyProof.Rows.F.plain_set_update_loop _]
    show wpAny _ A.in1 (pyNext (.ref I) >>= _) _ _ s
    refine wpAny_bind (W.item i s _ _ hlt hst fun v s' hP hst' hm => ?_)
    obtain ⟨k, hki, hkv⟩ := hval i v hP
    have hS' : SetM w s'.heap S (ofKeys (ks.take i)) := hS.at fun o ho => hm.heap S _ hSw ho
    show wpAny _ A.in1 (holding [v] (setAdd S v) >>= _) _ _ s'
    refine wpAny_bind (wpAny_holding ?_)
    unfold setAdd
    refine wpAny_holding ?_
    refine wpAny_bind ((mixKind prog w).pyHash (k := k) hkv ?_)
    have hroom : (ofKeys (ks.take i)).length + 1 < scanBound := by
      have h1 := ofKeys_len (ks.take i) []
      have h2 := List.length_take_le i ks
      have h3 : ([] : List Key).length = 0 := rfl
      unfold ofKeys
      omega
    refine addM_hashed (P := prog) (s := { s' with toks := s'.toks + 1 }) hkv hS' hroom fun h' bb hsb hS2 => ?_
    have hSi : SetM w h' S (ofKeys (ks.take (i + 1))) := by rw [ofKeys_step hki]; exact hS2
    refine wpAny_pure ⟨plainId_quiet PyProof.Rows.F.plain_set_update_loop _, ih (i + 1) _ (by omega) hlt (W.frame _ s' _ _ hst' (Nat.le_succ _) fun b hb o e => ?_) hSi fun s'' hm'' hS'' => ?_⟩
    · rw [hsb.2 b (fun h : b = S => hSf (by rw [← h]; exact hb))]; exact e
    · refine hR s'' (Moved.trans W.gtrans ((hm.mono hsub).then_heap (Nat.le_succ _) fun b o hb e => ?_) hm'') hS''
      rw [hsb.2 b (fun h : b = S => hb (by rw [h]; exact List.mem_cons_self))]; exact e
end
theorem new_led1 (v : Value) {Q₁ : Value → Shared → Prop}
    (h : Q₁ (.ref s.heap.objs.size) { s with heap := s.heap.push { cls := .type "set", dict := none, data := .set #[] 0 (.fresh 0 0 (!w.params.followText "set-order")) } }) :
    codeAny (model P w) A (.call (.builtin "set.__new__") ⟨[.type "set", v], []⟩) (wants Q₁ E) s := by
  refine codeAny_of_tree ?_
  show wpAny _ A.in1 (do checkBuiltinCall "set.__new__" ⟨[.type "set", v], []⟩; again (.builtin "set.__new__" ⟨[.type "set", v], []⟩)) _ _ s
  refine wpAny_bind (wpAny_of_eq (PySem.F.newCall_set_1 v) (wpAny_pure ⟨plainId_quiet F.plain_set_new _, codeAny_builtin F.entry_set_new ?_⟩))
  rw [Around.under_plainId F.plain_set_new _]
  unfold Builtin.«set.__new__» Builtin.Frozenset.newClass
  have hsub := sub_set_self
  obtain ⟨hp, g, d, tk, os⟩ := s
  dsimp only
  wp_walk
  refine wpAny_askSetting (wpAny_pure ?_)
  dsimp only
  simp only [newObj]
  refine wpAny_bind (wpAny_alloc (wpAny_pure ?_))
  exact wpAny_pure h

theorem sub_list_set : isSubtype (.type "list") (.type "set") = pure false := by rw [isSubtype_type]; kernel_rfl
theorem sub_list_frozenset : isSubtype (.type "list") (.type "frozenset") = pure false := by rw [isSubtype_type]; kernel_rfl
theorem call_setM_list {l : Addr} {items : Array Value} {ks : List Key} {Q : Value → Shared → Prop}
    (hh : A.handled = none) (hl : s.heap.IsList l items) (hks : ks.length = items.size) (hi : ∀ (i : Nat) v, items[i]? = some v → ∃ k, ks[i]? = some k ∧ keyIs k v = true) (hb : items.size + 1 < scanBound)
    (h : ∀ (h' : Heap) (tk : Nat), SetM w h' s.heap.objs.size (ofKeys ks) → (∀ b o, b < s.heap.objs.size → s.heap.get? b = some o → h'.get? b = some o) → Q (.ref s.heap.objs.size) { s with heap := h', toks := tk }) :
    wpAny (model P w) A (call (.type "set") [.ref l]) Q E s := by
  obtain ⟨c, tl, hmro⟩ := F.called_set.mro
  have hmade := F.called_set.made
  have hsub := F.called_set.sub
  refine wpAny_call (codeAny_of_tree ?_)
  show wpAny _ _ (callAny (.type "set") _) _ _ _
  refine wpAny_pure ⟨Code.quiet_builtin _ (by decide +kernel), codeAny_builtin F.entry_type_call ?_⟩
  rw [Around.under_plain (weight_type_call_type "set" [.ref l] []) rfl]
  have h1 := F.called_set.notType
  have h2 := F.called_set.canCreate
  have hct := PySem.F.typeCall_set_1 (.ref l)
  repeat (any_goals (first | assumption | wp_step))
  refine codeAny_mono (new_led1 (.ref l) (E := E) (Q₁ := fun obj s₁ => obj = .ref s.heap.objs.size ∧ s₁ = { s with heap := s.heap.push { cls := .type "set", dict := none, data := .set #[] 0 (.fresh 0 0 (!w.params.followText "set-order")) } }) ⟨rfl, rfl⟩) fun r s₁ hr => ?_
  cases r with
  | error e => exact hr
  | ok fl =>
    cases fl with
    | ret obj =>
      obtain ⟨rfl, rfl⟩ := hr
      have hM := freshM (h := s.heap) w
      have hS : (s.heap.push { cls := .type "set", dict := none, data := .set #[] 0 (.fresh 0 0 (!w.params.followText "set-order")) }).get? s.heap.objs.size = some { cls := .type "set", dict := none, data := .set #[] 0 (.fresh 0 0 (!w.params.followText "set-order")) } := Heap.get?_push_size _ rfl
      have hT : Shared.TypeIs { s with heap := s.heap.push { cls := .type "set", dict := none, data := .set #[] 0 (.fresh 0 0 (!w.params.followText "set-order")) } } (.ref s.heap.objs.size) "set" := ⟨_, hS, rfl⟩
      have hli := F.called_set.init.lookup
      have hbi := F.called_set.init.bind (.ref s.heap.objs.size)
      repeat (any_goals (first | assumption | wp_step))
      refine codeAny_mono (codeAny_call_builtin (R := wants (fun r s₂ => r = .none ∧ ∃ h' tk, s₂ = { s with heap := h', toks := tk } ∧ SetM w h' s.heap.objs.size (ofKeys ks) ∧
          (∀ b o, b < s.heap.objs.size → s.heap.get? b = some o → h'.get? b = some o)) E) F.called_set.init.plain F.entry_set_init (check_set_init_1 hT ?_)) fun r₂ s₂ hr₂ => ?_
      · obtain ⟨ol, hol, hcl, nl, hdl⟩ := hl
        obtain ⟨ocls, odict, odata, oslots⟩ := ol
        simp only at hcl hdl
        subst hcl; subst hdl
        have hol' : (s.heap.push { cls := .type "set", dict := none, data := .set #[] 0 (.fresh 0 0 (!w.params.followText "set-order")) }).get? l = some { cls := .type "list", dict := odict, data := .seq items nl, slots := oslots } := Heap.get?_push_of_some _ hol
        have hsls := sub_list_set
        have hslf := sub_list_frozenset
        have hne : (Value.type "list" == Value.type "dict") = false := by decide
        have hl1 : (s.heap.push { cls := .type "set", dict := none, data := .set #[] 0 (.fresh 0 0 (!w.params.followText "set-order")) }).IsList l items := ⟨_, hol', rfl, nl, rfl⟩
        unfold Builtin.«set.__init__» noKeywords Builtin.Frozenset.updateFrom
        generalize hPI : pyIter = PI
        wp_walk
        subst hPI
        refine wpAny_pyIter_list hl1 ?_
        refine wpAny_bind (wpAny_runValue ?_)
        have hlS : l < s.heap.objs.size := Heap.lt_size hol
        have hh3 : A.in1.in1.in1.handled = none := by simp [hh]
        have hneI : l ≠ (s.heap.push { cls := .type "set", dict := none, data := .set #[] 0 (.fresh 0 0 (!w.params.followText "set-order")) }).objs.size := by
          rw [Heap.size_push]; exact Nat.ne_of_lt (Nat.lt_succ_of_lt hlS)
        have hSf : s.heap.objs.size ∉ [(s.heap.push { cls := .type "set", dict := none, data := .set #[] 0 (.fresh 0 0 (!w.params.followText "set-order")) }).objs.size, l] := by
          rw [Heap.size_push]; simp only [List.mem_cons, List.mem_singleton, List.not_mem_nil, or_false, not_or]
          exact ⟨Nat.ne_of_lt (Nat.lt_succ_self _), Nat.ne_of_gt hlS⟩
        refine updM_loop ((Walks.list hh3 _ l hneI items).toS) s.heap.objs.size hSf ks hks hi hb (items.size - 0) 0 _ (by omega) (Nat.zero_le _)
          ⟨⟨_, Heap.get?_push_size _ rfl, rfl, rfl⟩, (hl1.push _)⟩ ?hS0 ?hR
        case hS0 => exact hM.at fun o e => Heap.get?_push_of_some _ e
        case hR =>
          intro s' hm hS'
          obtain ⟨h', g', d', tk', os'⟩ := s'
          have eg : g' = s.gens := hm.gens
          have ed : d' = s.drawn := hm.drawn
          have eo : os' = s.os := hm.os
          subst eg; subst ed; subst eo
          show wpAny _ _ _ _ _ _
          refine wpAny_pure ?_
          show wpAny _ _ (ret Value.none) _ _ _
          refine wpAny_pure ⟨rfl, h', tk', rfl, hS', fun b o hb e => ?_⟩
          have hb1 : b ≠ s.heap.objs.size := Nat.ne_of_lt hb
          have hb2 : b ≠ (s.heap.push { cls := .type "set", dict := none, data := .set #[] 0 (.fresh 0 0 (!w.params.followText "set-order")) }).objs.size := by
            rw [Heap.size_push]; exact Nat.ne_of_lt (Nat.lt_succ_of_lt hb)
          exact hm.heap b o (by simp only [List.mem_cons, List.mem_singleton, List.not_mem_nil, or_false, not_or]; exact ⟨hb1, hb2⟩) (Heap.get?_push_of_some _ (Heap.get?_push_of_some _ e))
      · cases r₂ with
        | error e => exact hr₂
        | ok fl₂ =>
          cases fl₂ with
          | ret r =>
            obtain ⟨rfl, h', tk, rfl, hS', hk'⟩ := hr₂
            repeat (any_goals (first | assumption | wp_step))
            exact h _ _ hS' hk'
          | _ => exact hr₂.elim
    | _ => exact hr.elim

theorem sub_tuple_set : isSubtype (.type "tuple") (.type "set") = pure false := by rw [isSubtype_type]; kernel_rfl
theorem sub_tuple_frozenset : isSubtype (.type "tuple") (.type "frozenset") = pure false := by rw [isSubtype_type]; kernel_rfl
theorem call_setM_tuple {l : Addr} {items : Array Value} {ks : List Key} {Q : Value → Shared → Prop}
    (hh : A.handled = none) (hl : s.heap.IsTuple l items) (hks : ks.length = items.size) (hi : ∀ (i : Nat) v, items[i]? = some v → ∃ k, ks[i]? = some k ∧ keyIs k v = true) (hb : items.size + 1 < scanBound)
    (h : ∀ (h' : Heap) (tk : Nat), SetM w h' s.heap.objs.size (ofKeys ks) → (∀ b o, b < s.heap.objs.size → s.heap.get? b = some o → h'.get? b = some o) → Q (.ref s.heap.objs.size) { s with heap := h', toks := tk }) :
    wpAny (model P w) A (call (.type "set") [.ref l]) Q E s := by
  obtain ⟨c, tl, hmro⟩ := F.called_set.mro
  have hmade := F.called_set.made
  have hsub := F.called_set.sub
  refine wpAny_call (codeAny_of_tree ?_)
  show wpAny _ _ (callAny (.type "set") _) _ _ _
  refine wpAny_pure ⟨Code.quiet_builtin _ (by decide +kernel), codeAny_builtin F.entry_type_call ?_⟩
  rw [Around.under_plain (weight_type_call_type "set" [.ref l] []) rfl]
  have h1 := F.called_set.notType
  have h2 := F.called_set.canCreate
  have hct := PySem.F.typeCall_set_1 (.ref l)
  repeat (any_goals (first | assumption | wp_step))
  refine codeAny_mono (new_led1 (.ref l) (E := E) (Q₁ := fun obj s₁ => obj = .ref s.heap.objs.size ∧ s₁ = { s with heap := s.heap.push { cls := .type "set", dict := none, data := .set #[] 0 (.fresh 0 0 (!w.params.followText "set-order")) } }) ⟨rfl, rfl⟩) fun r s₁ hr => ?_
  cases r with
  | error e => exact hr
  | ok fl =>
    cases fl with
    | ret obj =>
      obtain ⟨rfl, rfl⟩ := hr
      have hM := freshM (h := s.heap) w
      have hS : (s.heap.push { cls := .type "set", dict := none, data := .set #[] 0 (.fresh 0 0 (!w.params.followText "set-order")) }).get? s.heap.objs.size = some { cls := .type "set", dict := none, data := .set #[] 0 (.fresh 0 0 (!w.params.followText "set-order")) } := Heap.get?_push_size _ rfl
      have hT : Shared.TypeIs { s with heap := s.heap.push { cls := .type "set", dict := none, data := .set #[] 0 (.fresh 0 0 (!w.params.followText "set-order")) } } (.ref s.heap.objs.size) "set" := ⟨_, hS, rfl⟩
      have hli := F.called_set.init.lookup
      have hbi := F.called_set.init.bind (.ref s.heap.objs.size)
      repeat (any_goals (first | assumption | wp_step))
      refine codeAny_mono (codeAny_call_builtin (R := wants (fun r s₂ => r = .none ∧ ∃ h' tk, s₂ = { s with heap := h', toks := tk } ∧ SetM w h' s.heap.objs.size (ofKeys ks) ∧
          (∀ b o, b < s.heap.objs.size → s.heap.get? b = some o → h'.get? b = some o)) E) F.called_set.init.plain F.entry_set_init (check_set_init_1 hT ?_)) fun r₂ s₂ hr₂ => ?_
      · obtain ⟨ol, hol, hcl, nl, hdl⟩ := hl
        obtain ⟨ocls, odict, odata, oslots⟩ := ol
        simp only at hcl hdl
        subst hcl; subst hdl
        have hol' : (s.heap.push { cls := .type "set", dict := none, data := .set #[] 0 (.fresh 0 0 (!w.params.followText "set-order")) }).get? l = some { cls := .type "tuple", dict := odict, data := .seq items nl, slots := oslots } := Heap.get?_push_of_some _ hol
        have hsls := sub_tuple_set
        have hslf := sub_tuple_frozenset
        have hne : (Value.type "tuple" == Value.type "dict") = false := by decide
        have hl1 : (s.heap.push { cls := .type "set", dict := none, data := .set #[] 0 (.fresh 0 0 (!w.params.followText "set-order")) }).IsTuple l items := ⟨_, hol', rfl, nl, rfl⟩
        unfold Builtin.«set.__init__» noKeywords Builtin.Frozenset.updateFrom
        generalize hPI : pyIter = PI
        wp_walk
        subst hPI
        refine wpAny_pyIter_tuple hl1 ?_
        refine wpAny_bind (wpAny_runValue ?_)
        have hlS : l < s.heap.objs.size := Heap.lt_size hol
        have hh3 : A.in1.in1.in1.handled = none := by simp [hh]
        have hneI : l ≠ (s.heap.push { cls := .type "set", dict := none, data := .set #[] 0 (.fresh 0 0 (!w.params.followText "set-order")) }).objs.size := by
          rw [Heap.size_push]; exact Nat.ne_of_lt (Nat.lt_succ_of_lt hlS)
        have hSf : s.heap.objs.size ∉ [(s.heap.push { cls := .type "set", dict := none, data := .set #[] 0 (.fresh 0 0 (!w.params.followText "set-order")) }).objs.size, l] := by
          rw [Heap.size_push]; simp only [List.mem_cons, List.mem_singleton, List.not_mem_nil, or_false, not_or]
          exact ⟨Nat.ne_of_lt (Nat.lt_succ_self _), Nat.ne_of_gt hlS⟩
        refine updM_loop ((Walks.tuple hh3 _ l hneI items).toS) s.heap.objs.size hSf ks hks hi hb (items.size - 0) 0 _ (by omega) (Nat.zero_le _)
          ⟨⟨_, Heap.get?_push_size _ rfl, rfl, rfl⟩, (hl1.push _)⟩ ?hS0 ?hR
        case hS0 => exact hM.at fun o e => Heap.get?_push_of_some _ e
        case hR =>
          intro s' hm hS'
          obtain ⟨h', g', d', tk', os'⟩ := s'
          have eg : g' = s.gens := hm.gens
          have ed : d' = s.drawn := hm.drawn
          have eo : os' = s.os := hm.os
          subst eg; subst ed; subst eo
          show wpAny _ _ _ _ _ _
          refine wpAny_pure ?_
          show wpAny _ _ (ret Value.none) _ _ _
          refine wpAny_pure ⟨rfl, h', tk', rfl, hS', fun b o hb e => ?_⟩
          have hb1 : b ≠ s.heap.objs.size := Nat.ne_of_lt hb
          have hb2 : b ≠ (s.heap.push { cls := .type "set", dict := none, data := .set #[] 0 (.fresh 0 0 (!w.params.followText "set-order")) }).objs.size := by
            rw [Heap.size_push]; exact Nat.ne_of_lt (Nat.lt_succ_of_lt hb)
          exact hm.heap b o (by simp only [List.mem_cons, List.mem_singleton, List.not_mem_nil, or_false, not_or]; exact ⟨hb1, hb2⟩) (Heap.get?_push_of_some _ (Heap.get?_push_of_some _ e))
      · cases r₂ with
        | error e => exact hr₂
        | ok fl₂ =>
          cases fl₂ with
          | ret r =>
            obtain ⟨rfl, h', tk, rfl, hS', hk'⟩ := hr₂
            repeat (any_goals (first | assumption | wp_step))
            exact h _ _ hS' hk'
          | _ => exact hr₂.elim
    | _ => exact hr.elim
end
/-! ### over the layer -/
def SetMO (w : World) (a : Addr) (ks : List Key) : HO := .ext fun h => SetM w h a ks
section
variable {X : Cx}
theorem setMO_new {w : World} {P : Program} {H : Hp} {h : Heap} {a : Addr} {ks : List Key} (R : SetM w h a ks) : ObjOk P w H h a (SetMO w a ks) := by
  have ⟨o, _, _, _, ho, _⟩ := R
  exact ⟨R, ⟨o, ho⟩, fun h1 h2 p k => SetM.at p k⟩
theorem setMO_get {pins : List (Addr × Obj)} {σ : L2.St} {H : Hp} {s : Shared} {a : Addr} {ks : List Key} (I : Inv X pins σ H s) (ha : H a = some (SetMO X.w a ks)) : SetM X.w s.heap a ks := (I.hok a _ ha).1
theorem vals_key {ks : List Key} {us : List Value} (r : Vals (ks.map kV) us) : ∀ (i : Nat) v, us[i]? = some v → ∃ k, ks[i]? = some k ∧ keyIs k v = true := fun i v hv => by
  have hl := r.length
  rw [List.length_map] at hl
  have hi : i < us.length := (List.getElem?_eq_some_iff.mp hv).1
  have hk : ks[i]? = some ks[i] := List.getElem?_eq_getElem (by omega)
  obtain ⟨u, e, q⟩ := r.get (i := i) (x := kV ks[i]) (by rw [List.getElem?_map, hk]; rfl)
  rw [hv] at e
  cases e
  refine ⟨ks[i], hk, ?_⟩
  cases h : ks[i] with
  | inl j =>
    rw [h] at q
    obtain ⟨t, rfl⟩ := q
    exact keyIs_int j t
  | inr x =>
    rw [h] at q
    obtain ⟨t, rfl⟩ := q
    exact keyIs_str x t
/-- set(xs) of a list or tuple of ints and texts -/
def rSetM (K : PySem.W.Frag) (w : World) : List V → Hp → VK → Prop := fun xs H Q => ∃ (l : Addr) (ks : List Key), xs = [.ref l] ∧ (SqL K H l (ks.map kV) ∨ SqT K H l (ks.map kV)) ∧ ks.length ≤ 4000 ∧
  ∀ p, H p = none → Q (.ref p) (upd H p (SetMO w p (ofKeys ks)))
theorem cr_setM (hc : X.calm = true) : CallR X (.type "set") (rSetM X.K X.w) := by
  intro pins s σ H xs us Q I r h
  obtain ⟨l, ks, rfl, hl, hz, q⟩ := h
  cases r with
  | cons r1 r2 =>
    cases r2
    cases r1
    rcases hl with hl | hl
    · obtain ⟨its, rv, pl, hz2⟩ := I.list hl
      have hlen : its.length = ks.length := by
        have := rv.length
        rw [List.length_map] at this
        exact this.symm
      have hsb : scanBound = 4096 := rfl
      refine call_setM_list (P := X.prog) (w := X.w) (ks := ks) (I.ok.hd hc) pl.isList (by rw [List.size_toArray, hlen]) (fun i v hv => vals_key rv i v (by simpa using hv)) (by rw [List.size_toArray, hlen]; omega) fun h' tk hS hk => ?_
      exact ⟨.ref _, _, I.laid (t' := tk) (fun b u e => hk b u (Heap.lt_size e) e) (Nat.le_refl _) (setMO_new hS), rfl, q _ (I.hok.fresh (Nat.le_refl _))⟩
    · obtain ⟨its, rv, pl, hz2⟩ := I.tuple hl
      have hlen : its.length = ks.length := by
        have := rv.length
        rw [List.length_map] at this
        exact this.symm
      have hsb : scanBound = 4096 := rfl
      refine call_setM_tuple (P := X.prog) (w := X.w) (ks := ks) (I.ok.hd hc) pl (by rw [List.size_toArray, hlen]) (fun i v hv => vals_key rv i v (by simpa using hv)) (by rw [List.size_toArray, hlen]; omega) fun h' tk hS hk => ?_
      exact ⟨.ref _, _, I.laid (t' := tk) (fun b u e => hk b u (Heap.lt_size e) e) (Nat.le_refl _) (setMO_new hS), rfl, q _ (I.hok.fresh (Nat.le_refl _))⟩
/-- len(set) -/
def rLenM (w : World) : List V → Hp → VK → Prop := fun xs H Q => ∃ (a : Addr) (ks : List Key), xs = [.ref a] ∧ H a = some (SetMO w a ks) ∧ Q (.int ks.length) H
theorem cr_lenM : CallR X (.builtin "len") (rLenM X.w) := by
  intro pins s σ H xs us Q I r h
  obtain ⟨a, ks, rfl, ha, q⟩ := h
  cases r with
  | cons r1 r2 =>
    cases r2
    cases r1
    obtain ⟨o, es, ep, t, ho, hex, hd, g, pk, nd, hb, hf, hr, hl⟩ := setMO_get I ha
    have hn : es.size = ks.length := by rw [← pk.length_eq, List.length_map, Array.length_toList]
    exact call_len_set ho hex hd hf (by unfold scanBound at hb; omega) ⟨.int ks.length, H, I.tok _, ⟨_, by rw [hn]⟩, q⟩
/-- sorted(set) of texts -/
def rSortedM (w : World) : List V → Hp → VK → Prop := fun vs H Q => ∃ (a : Addr) (xs : List Str), vs = [V.ref a] ∧ H a = some (SetMO w a (xs.map Sum.inr)) ∧ xs.length < 64 ∧
  ∀ (ys : List Str) (p : Addr), ys.Perm xs → sortedS ys = true → H p = none → Q (.ref p) (upd H p (.lst (ys.map V.str)))
theorem cr_sortedM (hc : X.calm = true) : CallR X (.builtin "sorted") (rSortedM X.w) := by
  intro pins s σ H vs us Q I r h
  obtain ⟨a, xs, rfl, ha, h64, q⟩ := h
  obtain ⟨o, es, ep, t, ho, hex, hd, g, pk, nd, hb, hf, hr, hl⟩ := setMO_get I ha
  rw [Vals.ref1 r]
  have hn : es.size = xs.length := by rw [← List.length_map (as := xs) Sum.inr, ← pk.length_eq, List.length_map, Array.length_toList]
  refine Calls.call_function_entry kind_sorted plain_sorted entry_sorted (args_sorted1 _) ?_
  unfold Builtin.«sorted»
  refine wpAny_bind (m := checkCount "sorted" 1 1 _) (wpAny_pure ?_)
  refine wpAny_bind (collect_set (A := X.A.in1) (I.ok.hd hc) ⟨o, ho, hex.1, hd⟩ hf hb hr hl fun s1 vs k1 hz g1 o1 pm => ?_)
  have hvl : vs.length = xs.length := by rw [pm.length_eq, List.length_map, Array.length_toList]; exact hn
  have hkeys : (vs.map mkey).Perm (xs.map Sum.inr) := by
    have z := pm.map mkey
    rw [List.map_map] at z
    exact z.trans pk
  obtain ⟨zs, hS, hzs⟩ : ∃ zs : List Str, StrsAre vs zs ∧ zs.Perm xs := by
    have all : ∀ v ∈ vs, ∃ x t, v = Value.str x t ∧ x ∈ xs := fun v hv => by
      obtain ⟨e, he, rfl⟩ := List.mem_map.mp (pm.mem_iff.mp hv)
      have ge := (g e he).1
      have hm : ekey e ∈ xs.map (Sum.inr : Str → Key) := pk.mem_iff.mp (List.mem_map_of_mem he)
      obtain ⟨x, hx, ex⟩ := List.mem_map.mp hm
      rw [← ex] at ge
      rcases keyIs_shape ge with ⟨i, t, z, _⟩ | ⟨y, t, z, e2⟩
      · cases z
      · cases z
        exact ⟨x, t, e2, hx⟩
    have mk : ∀ (l : List Value), (∀ v ∈ l, ∃ x t, v = Value.str x t ∧ x ∈ xs) → ∃ zs : List Str, StrsAre l zs ∧ l.map mkey = zs.map Sum.inr := by
      intro l
      induction l with
      | nil => intro _; exact ⟨[], .nil, rfl⟩
      | cons v l ih =>
        intro hv
        obtain ⟨x, t, rfl, _⟩ := hv v List.mem_cons_self
        obtain ⟨zs, h1, h2⟩ := ih fun u hu => hv u (List.mem_cons_of_mem _ hu)
        exact ⟨x :: zs, .cons x t h1, by rw [List.map_cons, List.map_cons, h2]; rfl⟩
    obtain ⟨zs, h1, h2⟩ := mk vs all
    refine ⟨zs, h1, ?_⟩
    rw [h2] at hkeys
    have z := hkeys.map (fun k : Key => match k with | .inr x => x | .inl _ => Str.empty)
    rw [List.map_map, List.map_map] at z
    have e1 : ∀ l : List Str, l.map ((fun k : Key => match k with | .inr x => x | .inl _ => Str.empty) ∘ Sum.inr) = l := fun l => by
      induction l with
      | nil => rfl
      | cons x l ih => rw [List.map_cons, ih]; rfl
    rw [e1, e1] at z
    exact z
  refine wpAny_bind (wpAny_newList ?_ (by rw [hvl, sizeLine_eq]; omega))
  have hoL : (s1.heap.push (seqObj "list" vs.toArray 0)).get? s1.heap.objs.size = some (seqObj "list" vs.toArray 0) := Heap.get?_push_size _ rfl
  refine wpAny_bind (wpAny_holding (wpAny_call_entry slot_list_sort ⟨_, hoL, rfl⟩ entry_list_sort (list_sort_treeK strKind_oneLt hoL hS.keysOf (fun v₁ v₂ rest e => keyKind_strs (by rw [← e]; exact hS)) (by rw [hvl]; exact h64) fun st' hp hs => ⟨_, rfl, ?_⟩) (args_list_sort _)))
  obtain ⟨ys, a1, a2, a3⟩ := sorted_out_str hS hp hs
  obtain ⟨c, hcc⟩ := sortedHeap_at (vs := vs) (out := (arrOf st').map (·.2)) hoL
  have kk : ∀ b u, s.heap.get? b = some u → (sortedHeap (s1.heap.push (seqObj "list" vs.toArray 0)) s1.heap.objs.size vs ((arrOf st').map (·.2))).get? b = some u := fun b u e => by
    have q := k1 b u e
    have hlt := Heap.lt_size q
    rw [sortedHeap_old (Nat.ne_of_lt hlt) (by rw [size_push']; exact Nat.lt_succ_of_lt hlt)]
    exact Heap.get?_push_of_some _ q
  have hlen : (ys.map V.str).length ≤ sizeLine := by rw [List.length_map, a2.length_eq, hzs.length_eq, sizeLine_eq]; omega
  have hn0 : H s1.heap.objs.size = none := I.hok.fresh hz
  refine wpAny_pure ⟨_, rfl, ?_⟩
  have J : Inv X pins σ (upd H s1.heap.objs.size (.lst (ys.map V.str))) { s with heap := sortedHeap (s1.heap.push (seqObj "list" vs.toArray 0)) s1.heap.objs.size vs ((arrOf st').map (·.2)), gens := s1.gens, drawn := s1.drawn, toks := s1.toks } :=
    I.call (ch := []) (Un.laid kk hz hn0) (I.hok.laid kk hz ⟨hlen, ((arrOf st').map (·.2)).toList, c, vals_of_strs a1, by rw [Array.toArray_toList]; exact hcc⟩) (by rw [g1]; exact I.bare) (fun _ z => nomatch z)
  have e : ({ s1 with heap := sortedHeap (s1.heap.push (seqObj "list" vs.toArray 0)) s1.heap.objs.size vs ((arrOf st').map (·.2)) } : Shared) = { s with heap := sortedHeap (s1.heap.push (seqObj "list" vs.toArray 0)) s1.heap.objs.size vs ((arrOf st').map (·.2)), gens := s1.gens, drawn := s1.drawn, toks := s1.toks } := by
    cases s1
    cases s
    cases o1
    rfl
  refine ⟨.ref s1.heap.objs.size, _, ?_, rfl, q ys s1.heap.objs.size (a2.trans hzs) a3 hn0⟩
  rw [← e] at J
  exact J
end
end SM

namespace HP
open PySem PySem.Spec PyProof.Rows L2
def top (i : Nat) : Stmt := (PySem.Challenge.pw_handplaced_k04_scenes_refused).main.body.getD i (.Pass ⟨0, 0, 0, 0⟩)
/-! ### names that stand for built-ins; defs by their names -/
def frees : List Str := ["int", "list", "len", "max", "min", "isinstance", "sorted", "all", "any", "tuple", "set", "str", "bool", "dict", "range", "zip", "enumerate", "ValueError", "super"]
structure Fr (mg : Str → Option Value) : Prop where
  fr : ∀ x, frees.contains x = true → mg x = none
/-- the def x of the text, as the top has left it -/
def Dat (K : PySem.W.Frag) (mg : Str → Option Value) (x : Str) (st : Stmt) : Prop := ∃ (f : Addr) (fd : FuncData), mg x = some (.ref f) ∧ FunD K x x (defArgs st) (defBody st) (defScope st) [] [] f fd
/-- the def x keeps the promise sp -/
def Fn (P : Program) (w : World) (K : PySem.W.Frag) (mg : Str → Option Value) (base : Heap) (CX : CXT) (k : Nat) (x : Str) (sp : Sp) : Prop :=
  ∃ (f : Addr) (fd : FuncData) (ps : List Str), mg x = some (.ref f) ∧ PySem.W.keepIn K (.ref f) = true ∧ Binds K fd ps [] ∧ FnOk P w K mg base CX k f fd ps sp
section
variable {P : Program} {w : World} {K : PySem.W.Frag} {mg : Str → Option Value} {base : Heap}
theorem Fn.of {CX : CXT} {x : Str} {st : Stmt} {N ps : List Str} {k : Nat} {sp : Sp} (D : Dat K mg x st) (S : FnScope N ps (defScope st))
    (hb : ∀ (kV doc pm : Value) (an : Option Addr) (cdv ct : Value) (us : List Value), us.length = ps.length → bindArgs (PySem.W.fnOf x x (defArgs st) (defBody st) (defScope st) .none kV doc pm an cdv ct) ⟨us, []⟩ = pure (ps.zip us))
    (len : ∀ vs H Q E, sp vs H Q E → vs.length = ps.length)
    (hbody : ∀ (f : Addr) (cdv : Value) (A : Around) (outer : List Env) (s : Shared) (H : Hp) (vs : List V) (Q : VK) (E : XK), Room k (A.deeper (envOfC x (defScope st) s.heap.objs.size f cdv)) → sp vs H Q E →
      ∃ t, PSs (cxOf CX P w K mg base N x (defScope st) f cdv A outer s H E) (defBody st) t ∧ t { nx := fun _ H' => Q .non H', rt := Q } (start N vs) H) : Fn P w K mg base CX (k + 1) x sp := by
  obtain ⟨f, fd, h1, F⟩ := D
  exact ⟨f, fd, ps, h1, F.kp, F.bindsN hb, F.ok S len fun cdv A outer s H vs Q E hr h => hbody f cdv A outer s H vs Q E hr h⟩
theorem Fn.of0 {x : Str} {st : Stmt} {N ps : List Str} {k : Nat} {sp : Sp} (D : Dat K mg x st) (S : FnScope N ps (defScope st))
    (hb : ∀ (kV doc pm : Value) (an : Option Addr) (cdv ct : Value) (us : List Value), us.length = ps.length → bindArgs (PySem.W.fnOf x x (defArgs st) (defBody st) (defScope st) .none kV doc pm an cdv ct) ⟨us, []⟩ = pure (ps.zip us))
    (len : ∀ vs H Q E, sp vs H Q E → vs.length = ps.length)
    (hbody : ∀ (f : Addr) (cdv : Value) (A : Around) (outer : List Env) (s : Shared) (H : Hp) (vs : List V) (Q : VK) (E : XK), Room k (A.deeper (envOfC x (defScope st) s.heap.objs.size f cdv)) → sp vs H Q E →
      ∃ t, PSs (cxOf CX0 P w K mg base N x (defScope st) f cdv A outer s H E).nox (defBody st) t ∧ t { nx := fun _ H' => Q .non H', rt := Q } (start N vs) H) : Fn P w K mg base CX0 (k + 1) x sp :=
  Fn.of D S hb len fun f cdv A outer s H vs Q E hr h => let ⟨t, a, b⟩ := hbody f cdv A outer s H vs Q E hr h; ⟨t, a.nox, b⟩
end
section
variable {X : Cx} {CX : CXT} {k j : Nat} {x : Str} {sp : Sp} {e : Expr} {es : List Expr} {t : TA} {p pos : Pos} {E : XK}
/-- f(e, ..) by f's promise -/
theorem pfX (F : Fn X.prog X.w X.K X.mg X.base CX k x sp) (hr : Room k X.A) (hx : Passes CX X E) (ha : PA X (e :: es) t) (hg : Gl X x := by rfl) (hdb : (x == ("__debug__" : Str)) = false := by decide)
    (he : starEach (e :: es) X.env = (false, eval e X.env) :: starEach es X.env := by rfl) (hpl : (backTo pos (starEach es X.env)).any (·.1) = false := by rfl) : PE X (.Call (.Name x p) (e :: es) [] pos) (tCall sp [] E t) := by
  obtain ⟨f, fd, ps, h1, h2, h3, h4⟩ := F
  exact pe_call h4 hr hg h1 h2 h3 .nil hx ha hdb he hpl
theorem pf (F : Fn X.prog X.w X.K X.mg X.base CX0 k x sp) (hr : Room j X.A) (hkj : k ≤ j) (ha : PA X (e :: es) t) (hg : Gl X x := by rfl) (hdb : (x == ("__debug__" : Str)) = false := by decide)
    (he : starEach (e :: es) X.env = (false, eval e X.env) :: starEach es X.env := by rfl) (hpl : (backTo pos (starEach es X.env)).any (·.1) = false := by rfl) : PE X (.Call (.Name x p) (e :: es) [] pos) (tCall sp [] E0 t) :=
  pfX F (hr.mono hkj) pass0 ha hg hdb he hpl
end
end HP

namespace HP
open PySem PySem.Spec PyProof.Rows L2
/-! ### the layer's rules with K named (for blocks of comprehensions) -/
section
variable {X : Cx} {K : PySem.W.Frag} {w : World} {tg : Expr} {l e : Expr} {tl ta to : TE} {t : TA} {f : Str} {pos : Pos}
def rLenQ (K : PySem.W.Frag) : List V → Hp → VK → Prop := fun xs H Q => ∃ p ys, xs = [.ref p] ∧ (SqL K H p ys ∨ SqT K H p ys) ∧ Q (.int ys.length) H
theorem kLen (hK : X.K = K := by rfl) : CallR X (.builtin "len") (rLenQ K) := by subst hK; exact call_len_seq
def rLenV (K : PySem.W.Frag) : List V → Hp → VK → Prop := fun xs H Q => ∃ x n, xs = [x] ∧ LenV K x H n ∧ Q (.int n) H
theorem kLenV (hK : X.K = K := by rfl) : CallR X (.builtin "len") (rLenV K) := by subst hK; exact call_len
def rListQ (K : PySem.W.Frag) : List V → Hp → VK → Prop := fun xs H Q => ∃ p ys, xs = [.ref p] ∧ (SqL K H p ys ∨ SqT K H p ys) ∧ ∀ l, H l = none → Q (.ref l) (upd H l (.lst ys))
theorem kList (hK : X.K = K := by rfl) : CallR X (.type "list") (rListQ K) := by subst hK; exact call_list_of
def rTupQ (K : PySem.W.Frag) : List V → Hp → VK → Prop := fun xs H Q => ∃ p ys, xs = [.ref p] ∧ ((SqL K H p ys ∧ ∀ l, H l = none → Q (.ref l) (upd H l (.tup ys))) ∨ (SqT K H p ys ∧ Q (.ref p) H))
theorem kTup (hK : X.K = K := by rfl) : CallR X (.type "tuple") (rTupQ K) := by subst hK; exact call_tuple_of
theorem kIsi (hK : X.K = K := by rfl) : CallR X (.builtin "isinstance") (rIsi K) := by subst hK; exact call_isi
theorem kIsiT (hK : X.K = K := by rfl) : CallR X (.builtin "isinstance") (rIsiT K) := by subst hK; exact call_isiT
theorem kAll (hc : X.calm = true) (hK : X.K = K := by rfl) : CallR X (.builtin "all") (rAll K) := by subst hK; exact cr_all hc
theorem kAny (hc : X.calm = true) (hK : X.K = K := by rfl) : CallR X (.builtin "any") (rAny K) := by subst hK; exact cr_any hc
theorem kSortS (hK : X.K = K := by rfl) : CallR X (.builtin "sorted") (rSortedS K) := by subst hK; exact cr_sortedS
theorem kSet (hc : X.calm = true) (hK : X.K = K := by rfl) (hw : X.w = w := by rfl) : CallR X (.type "set") (SM.rSetM K w) := by subst hK; subst hw; exact SM.cr_setM hc
theorem kLenM (hw : X.w = w := by rfl) : CallR X (.builtin "len") (SM.rLenM w) := by subst hw; exact SM.cr_lenM
theorem kSortM (hc : X.calm = true) (hw : X.w = w := by rfl) : CallR X (.builtin "sorted") (SM.rSortedM w) := by subst hw; exact SM.cr_sortedM hc
theorem ixL (hK : X.K = K := by rfl) : IxR X (rIxL K) := by subst hK; exact ix_list
theorem ixT (hK : X.K = K := by rfl) : IxR X (rIxT K) := by subst hK; exact ix_tup
theorem slL (hK : X.K = K := by rfl) : SlR X (rSlL K) := by subst hK; exact sl_list
theorem slT (hK : X.K = K := by rfl) : SlR X (rSlT K) := by subst hK; exact sl_tup
theorem oIn (hK : X.K = K := by rfl) : OpR X (compareOp .In) (rIn K false) := by subst hK; exact op_in_seq
theorem oNotIn (hK : X.K = K := by rfl) : OpR X (compareOp .NotIn) (rIn K true) := by subst hK; exact op_notIn_seq
theorem oEqD (hu : X.A.units + 64 < cLine) (hK : X.K = K := by rfl) : OpR X (compareOp .Eq) (rEqD K) := by subst hK; exact op_eqD hu
theorem oNeD (hu : X.A.units + 64 < cLine) (hK : X.K = K := by rfl) : OpR X (compareOp .NotEq) (rNeD K) := by subst hK; exact op_neD hu
theorem oInD (hu : X.A.units + 65 < cLine) (hK : X.K = K := by rfl) : OpR X (compareOp .In) (rInD K) := by subst hK; exact op_inD hu
theorem oNotInD (hu : X.A.units + 65 < cLine) (hK : X.K = K := by rfl) : OpR X (compareOp .NotIn) (rNotInD K) := by subst hK; exact op_notInD hu
theorem iL (hl : PE X l tl) (hK : X.K = K := by rfl) : PI X tg l (iList K tl) := by subst hK; exact pi_list hl
theorem iT (hl : PE X l tl) (hK : X.K = K := by rfl) : PI X tg l (iTup K tl) := by subst hK; exact pi_tup hl
theorem eFld (he : PE X e ta) (hb : attributeBase e f X.env (eval e X.env) = eval e X.env := by rfl) (hK : X.K = K := by rfl) : PE X (.Attribute e f pos) (tFld K ta f) := by subst hK; exact pe_fld he hb
theorem eBm0 {o : Expr} {name : Str} {apos cpos : Pos} {T id : String} {r : V → List V → Hp → VK → Prop} (pa : PlainAttrs T) (slot : Slot T name id) (hty : typeOf (.builtin id) = pure (.type "method_descriptor")) (hm : MtR X id r) (ho : PE X o to)
    (hbase : attributeBase o name X.env (eval o X.env) = eval o X.env := by rfl) (hline : (apos.endLine == cpos.line) = true := by rfl) (hK : X.K = K := by rfl) : PE X (.Call (.Attribute o name apos) [] [] cpos) (tBM0 K T r to) := by
  subst hK; exact pe_bm0 pa slot hty hm ho hbase hline
theorem eBm {o : Expr} {es : List Expr} {name : Str} {apos cpos : Pos} {T id : String} {r : V → List V → Hp → VK → Prop} (pa : PlainAttrs T) (slot : Slot T name id) (hty : typeOf (.builtin id) = pure (.type "method_descriptor")) (hm : MtR X id r) (ho : PE X o to) (ha : PA X (e :: es) t)
    (hbase : attributeBase o name X.env (eval o X.env) = eval o X.env := by rfl)
    (hfew : ((backTo cpos (starEach (e :: es) X.env)).all (fun x => !x.1) && (backToKw cpos (keywordEach [] X.env)).all (fun x => x.1.isSome)
      && decide ((e :: es).length + ([] : List Keyword).length + (if ([] : List Keyword).isEmpty then 0 else 1) < 30)) = true := by rfl)
    (hline : (apos.endLine == cpos.line) = true := by rfl) (hs : starEach (e :: es) X.env = (false, eval e X.env) :: starEach es X.env := by rfl) (hplain : (backTo cpos (starEach es X.env)).any (·.1) = false := by rfl) (hK : X.K = K := by rfl) :
    PE X (.Call (.Attribute o name apos) (e :: es) [] cpos) (tBM K T r to t) := by
  subst hK; exact pe_bm pa slot hty hm ho ha hbase hfew hline hs hplain
end
end HP

namespace HP
open PySem L2
abbrev sMix : Stmt := top 21
abbrev sNext : Stmt := top 22
/-! ### the source of draws -/
structure Src (H : Hp) (p l : Addr) : Prop where
  ex : ∃ (st i : Int) (ns : List Int), H p = some (.lst [.int st, .ref l, .int i, .int 14]) ∧ H l = some (.lst (ns.map V.int)) ∧ ns.length ≤ 63
/-- all but the source stands as it stood -/
def Keep (p l : Addr) (H H' : Hp) : Prop := ∀ c o, H c = some o → c ≠ p → c ≠ l → H' c = some o
def spMix (K : PySem.W.Frag) : Sp := fun vs H Q _ => ∃ (a : Addr) (ns : List Int) (z : Int), vs = [.ref a, .int z] ∧ SqL K H a (ns.map V.int) ∧ ns.length ≤ 63 ∧
  ∀ H' p l, Same H H' → H p = none → H l = none → Src H' p l → Q (.ref p) H'
def spNext : Sp := fun vs H Q _ => ∃ (p l : Addr) (b : Int), vs = [.ref p, .int b] ∧ Src H p l ∧ 0 < b ∧ b < 1073741824 ∧
  ∀ H' r, 0 ≤ r → r < b → Src H' p l → Keep p l H H' → Q (.int r) H'
section
variable {P : Program} {w : World} {K : PySem.W.Frag} {mg : Str → Option Value} {base : Heap}
theorem Src.ne {H : Hp} {p l : Addr} (S : Src H p l) : p ≠ l := fun e => by
  obtain ⟨st, i, ns, hp, hl, hlen⟩ := S.ex
  rw [← e, hp] at hl
  have e3 := congrArg (fun x => x[1]?) (HO.lst.inj (Option.some.inj hl))
  rw [List.getElem?_map] at e3
  cases q : ns[1]? with
  | none => rw [q] at e3; cases e3
  | some c => rw [q] at e3; cases e3
theorem int_at {ns : List Int} {i : Nat} {y : V} (hi : (ns.map V.int)[i]? = some y) : ∃ c, y = V.int c ∧ ns[i]? = some c := by
  rw [List.getElem?_map] at hi
  cases e : ns[i]? with
  | none => rw [e] at hi; cases hi
  | some c => rw [e] at hi; exact ⟨c, (Option.some.inj hi).symm, rfl⟩
theorem scMix : FnScope ["_law_script", "_law_seed", "_law_state", "_law_cell"] ["_law_script", "_law_seed"] (defScope sMix) := ⟨rfl, rfl, rfl, by decide +kernel, rfl, by decide +kernel, by decide +kernel⟩
theorem ok_mix (D : Dat K mg "_law_mix" sMix) (T : Fr mg) : Fn P w K mg base CX0 1 "_law_mix" (spMix K) := by
  refine Fn.of0 D scMix (fun _ _ _ _ _ _ us hl => match us, hl with | [_, _], _ => rfl) (fun vs H Q E h => ?_) (fun f cdv A outer s H vs Q E hr h => ?_)
  · obtain ⟨a, ns, z, rfl, _⟩ := h
    rfl
  · obtain ⟨a, ns, z, rfl, hS, hlen, k⟩ := h
    refine ⟨_, (pss_cons (ps_set (i := 2) scMix.nd rfl (Or.inl rfl) (pv 1))
      (pss_cons (ps_for PassesOwn.never rfl (iL (K := K) (pv 0)) (pg_name (i := 3) scMix.nd rfl (Or.inl rfl)) (pss_one (ps_set (i := 2) scMix.nd rfl (Or.inl rfl) (pe_op op_modN (pe_callTy call_int1 (by rfl) (T.fr "int" (by decide +kernel)) (by decide +kernel) (pa_cons (pe_op op_add (pe_op op_add (pe_op op_mul (pv 2) pe_int) (pe_op op_modN (pe_callTy call_int1 (by rfl) (T.fr "int" (by decide +kernel)) (by decide +kernel) (pa_cons (pv 3) pa_nil)) pe_int)) pe_int) pa_nil)) pe_int))))
      (pss_one (ps_ret (pe_lst (pa_cons (pv 2) (pa_cons (pe_callTy (kList (K := K)) (by rfl) (T.fr "list" (by decide +kernel)) (by decide +kernel) (pa_cons (pv 0) pa_nil)) (pa_cons pe_int (pa_cons pe_int pa_nil))))))))), ?_⟩
    refine ⟨_, rfl, ?_⟩
    refine ⟨_, rfl, a, rfl, ⟨_, hS⟩, for_list (K := K) (a := a) (xs := ns.map V.int) (fun i σ H2 => ∃ (st : Int) (v : Option V), σ = [some (.ref a), some (.int z), some (.int st), v] ∧ H2 = H)
      ⟨z, none, rfl, rfl⟩ (fun i σ H2 _ ⟨_, _, _, s2⟩ => s2 ▸ hS) ?_ ?_⟩
    · rintro i y σ H2 hi ⟨st, v, rfl, rfl⟩
      obtain ⟨c, rfl, _⟩ := int_at hi
      refine ⟨_, rfl, _, _, rfl, rfl, .inr (by decide), _, rfl, .inl ⟨_, rfl, ?_⟩⟩
      refine ⟨_, _, rfl, rfl, (show (2147483629 : Int) ≠ 0 by decide), _, _, rfl, rfl, _, _, rfl, rfl, .inl ⟨_, rfl, ?_⟩⟩
      refine ⟨_, _, rfl, rfl, (show (2147483647 : Int) ≠ 0 by decide), ?_⟩
      exact ⟨_, _, rfl, rfl⟩
    · rintro σ H2 ⟨st, v, rfl, rfl⟩
      refine ⟨_, rfl, _, rfl, a, _, rfl, .inl hS, fun l hl => ?_⟩
      refine ⟨(by show 4 ≤ sizeLine; decide), fun p hp => ?_⟩
      have npl : l ≠ p := fun e => by rw [← e, upd_same] at hp; cases hp
      have hp2 : H2 p = none := by rw [upd_ne npl.symm] at hp; exact hp
      refine k _ p l (fun b o e => ?_) hp2 hl ⟨st, 0, ns, upd_same, ?_, hlen⟩
      · rw [upd_ne (ne_of_none e hp2), upd_ne (ne_of_none e hl)]; exact e
      · rw [upd_ne npl, upd_same]
theorem scNext : FnScope ["_law_h", "_law_bound", "_law_cell"] ["_law_h", "_law_bound"] (defScope sNext) := ⟨rfl, rfl, rfl, by decide +kernel, rfl, by decide +kernel, by decide +kernel⟩
theorem ok_next (D : Dat K mg "_law_next" sNext) (T : Fr mg) : Fn P w K mg base CX0 1 "_law_next" spNext := by
  refine Fn.of0 D scNext (fun _ _ _ _ _ _ us hl => match us, hl with | [_, _], _ => rfl) (fun vs H Q E h => ?_) (fun f cdv A outer s H vs Q E hr h => ?_)
  · obtain ⟨p, l, b, rfl, _⟩ := h
    rfl
  · obtain ⟨p, l, b, rfl, S, hb, hb2, k⟩ := h
    obtain ⟨st, i, ns, hp, hl, hlen⟩ := S.ex
    have npl := S.ne
    refine ⟨_, (pss_cons (ps_set (i := 2) scNext.nd rfl (Or.inl rfl) (pe_ix (ixL (K := K)) (pe_op op_cat (pe_ix (ixL (K := K)) (pv 0) pe_int (fun _ _ => rfl)) (pe_lst (pa_cons pe_int pa_nil))) (pe_op op_modN (pe_callTy call_int1 (by rfl) (T.fr "int" (by decide +kernel)) (by decide +kernel) (pa_cons (pe_ix (ixL (K := K)) (pv 0) pe_int (fun _ _ => rfl)) pa_nil)) (pe_callB (call_max2 rfl) (by rfl) (T.fr "max" (by decide +kernel)) (by decide +kernel) (pa_cons pe_int (pa_cons (pe_callB (kLen (K := K)) (by rfl) (T.fr "len" (by decide +kernel)) (by decide +kernel) (pa_cons (pe_ix (ixL (K := K)) (pv 0) pe_int (fun _ _ => rfl)) pa_nil)) pa_nil)))) (fun _ _ => rfl)))
      (pss_cons (ps_if (pt_cmpR op_ge (pv 2) (pe_op op_pow pe_int pe_int) (nomark _)) (pss_cons (ps_asg (pe_op op_fdivN (pv 2) (pv 1)) (pg_sub (pe_ix (ixL (K := K)) (pv 0) pe_int (fun _ _ => rfl)) (pe_op op_modN (pe_callTy call_int1 (by rfl) (T.fr "int" (by decide +kernel)) (by decide +kernel) (pa_cons (pe_ix (ixL (K := K)) (pv 0) pe_int (fun _ _ => rfl)) pa_nil)) (pe_callB (kLen (K := K)) (by rfl) (T.fr "len" (by decide +kernel)) (by decide +kernel) (pa_cons (pe_ix (ixL (K := K)) (pv 0) pe_int (fun _ _ => rfl)) pa_nil))) set_list))
      (pss_one (ps_ret (pe_op op_modN (pe_callTy call_int1 (by rfl) (T.fr "int" (by decide +kernel)) (by decide +kernel) (pa_cons (pv 2) pa_nil)) (pv 1))))) pss_nil)
      (pss_cons (ps_asg (pe_op op_modN (pe_callTy call_int1 (by rfl) (T.fr "int" (by decide +kernel)) (by decide +kernel) (pa_cons (pe_op op_add (pe_op op_add (pe_op op_mul (pe_ix (ixL (K := K)) (pv 0) pe_int (fun _ _ => rfl)) pe_int) (pe_op op_mul (pv 2) pe_int)) pe_int) pa_nil)) pe_int) (pg_sub (pv 0) pe_int set_list))
      (pss_cons (ps_asg (pe_op op_add (pe_ix (ixL (K := K)) (pv 0) pe_int (fun _ _ => rfl)) pe_int) (pg_sub (pv 0) pe_int set_list))
      (pss_one (ps_ret (pe_op op_modN (pe_callTy call_int1 (by rfl) (T.fr "int" (by decide +kernel)) (by decide +kernel) (pa_cons (pe_op op_fdivN (pe_ix (ixL (K := K)) (pv 0) pe_int (fun _ _ => rfl)) pe_int) pa_nil)) (pv 1)))))))), ?_⟩
    have atP1 : atI ([.int st, .ref l, .int i, .int 14] : List V) 1 = some (.ref l) := rfl
    have atP2 : atI ([.int st, .ref l, .int i, .int 14] : List V) 2 = some (.int i) := rfl
    have atP0 : atI ([.int st, .ref l, .int i, .int 14] : List V) 0 = some (.int st) := rfl
    -- h[1]; [0]; +
    refine ⟨_, rfl, p, _, _, _, rfl, rfl, SqL.of hp, atP1, (by show 1 ≤ sizeLine; decide), fun z hz => ?_⟩
    have nlz : l ≠ z := ne_of_none hl hz
    have npz : p ≠ z := ne_of_none hp hz
    refine ⟨l, z, _, _, rfl, rfl, (by rw [upd_ne nlz]; exact hl), upd_same, (by simp; exact Nat.le_trans (Nat.succ_le_succ hlen) (by decide)), fun c hc => ?_⟩
    have ncz : c ≠ z := fun e => by rw [e, upd_same] at hc; cases hc
    rw [upd_ne ncz] at hc
    have npc : p ≠ c := ne_of_none hp hc
    have nlc : l ≠ c := ne_of_none hl hc
    generalize eH1 : upd (upd H z (.lst [.int 0])) c (.lst (ns.map V.int ++ [V.int 0])) = H1
    have hp1 : H1 p = some (.lst [.int st, .ref l, .int i, .int 14]) := by rw [← eH1, upd_ne npc, upd_ne npz]; exact hp
    have hl1 : H1 l = some (.lst (ns.map V.int)) := by rw [← eH1, upd_ne nlc, upd_ne nlz]; exact hl
    have hc1 : H1 c = some (.lst (ns.map V.int ++ [V.int 0])) := by rw [← eH1, upd_same]
    have same : Same H H1 := fun b o e => by rw [← eH1, upd_ne (ne_of_none e hc), upd_ne (ne_of_none e hz)]; exact e
    -- int(h[2]) % max(1, len(h[1]))
    have hm : (if (((ns.map V.int).length : Int)) > 1 then ((ns.map V.int).length : Int) else 1) > 0 := by split <;> omega
    have hm2 : (if (((ns.map V.int).length : Int)) > 1 then ((ns.map V.int).length : Int) else 1) ≤ (ns.length : Int) ∨ ns = [] := by
      rw [List.length_map]
      cases ns with
      | nil => right; rfl
      | cons a t => left; simp only [List.length_cons]; split <;> omega
    generalize em : (if (((ns.map V.int).length : Int)) > 1 then ((ns.map V.int).length : Int) else 1) = m at hm hm2
    have hf0 : 0 ≤ i.fmod m := Int.fmod_nonneg_of_pos _ hm
    have hf1 : i.fmod m < m := Int.fmod_lt_of_pos _ hm
    obtain ⟨cell, hcell⟩ : ∃ cell : Int, atI (ns.map V.int ++ [V.int 0]) (i.fmod m) = some (V.int cell) := by
      have hj : (i.fmod m).toNat < (ns ++ [0]).length := by
        rw [List.length_append, List.length_singleton]
        rcases hm2 with h | h
        · omega
        · subst h
          have : m = 1 := by rw [← em]; rfl
          subst this
          simp only [List.length_nil]
          omega
      refine ⟨(ns ++ [0])[(i.fmod m).toNat], ?_⟩
      have e : (ns.map V.int ++ [V.int 0]) = (ns ++ [0]).map V.int := by simp
      rw [e]
      unfold atI ixN
      rw [if_pos hf0, if_pos (by rw [List.length_map]; omega)]
      show ((ns ++ [0]).map V.int)[(i.fmod m).toNat]? = _
      rw [List.getElem?_map, List.getElem?_eq_getElem hj] <;> rfl
    refine ⟨_, rfl, p, _, _, _, rfl, rfl, SqL.of hp1, atP2, .inl ⟨_, rfl, ?_⟩⟩
    refine ⟨_, rfl, p, _, _, _, rfl, rfl, SqL.of hp1, atP1, l, _, rfl, .inl (SqL.of hl1), ?_⟩
    refine ⟨1, _, rfl, _, _, rfl, rfl, ?_⟩
    rw [em]
    refine ⟨(show m ≠ 0 by omega), c, _, _, _, rfl, rfl, SqL.of hc1, hcell, ?_⟩
    -- if cell >= 10 ** 18
    refine ⟨_, rfl, _, _, rfl, rfl, ⟨by decide, by decide, by decide⟩, _, _, rfl, rfl, _, rfl, ?_⟩
    refine ite2 (fun hge => ?_) (fun hge => ?_)
    · have hge' : (10 : Int) ^ 18 ≤ cell := of_decide_eq_true hge
      have hne : ns ≠ [] := fun e => by
        subst e
        have : m = 1 := by rw [← em]; rfl
        subst this
        have hz0 : i.fmod 1 = 0 := by omega
        rw [hz0] at hcell
        have : V.int 0 = V.int cell := Option.some.inj hcell
        have : (0 : Int) = cell := V.int.inj this
        rw [← this] at hge'
        exact absurd hge' (by decide)
      have hlp : 0 < ns.length := List.length_pos_iff.mpr hne
      have hn0 : ((ns.map V.int).length : Int) ≠ 0 := by rw [List.length_map]; omega
      have hnp : 0 < ((ns.map V.int).length : Int) := by rw [List.length_map]; omega
      have g0 : 0 ≤ i.fmod ((ns.map V.int).length : Int) := Int.fmod_nonneg_of_pos _ hnp
      have g1 : i.fmod ((ns.map V.int).length : Int) < ((ns.map V.int).length : Int) := Int.fmod_lt_of_pos _ hnp
      refine ⟨_, rfl, _, rfl, _, _, rfl, rfl, ⟨(show b ≠ 0 by omega), (show b.natAbs < 1073741824 by omega)⟩, ?_⟩
      refine ⟨_, rfl, p, _, _, _, rfl, rfl, SqL.of hp1, atP1, ?_⟩
      refine ⟨_, rfl, p, _, _, _, rfl, rfl, SqL.of hp1, atP2, .inl ⟨_, rfl, ?_⟩⟩
      refine ⟨_, rfl, p, _, _, _, rfl, rfl, SqL.of hp1, atP1, l, _, rfl, .inl (SqL.of hl1), _, _, rfl, rfl, hn0, ?_⟩
      refine ⟨l, _, _, (i.fmod ((ns.map V.int).length : Int)).toNat, rfl, rfl, hl1, (by unfold ixN; rw [if_pos g0, if_pos g1]), ?_⟩
      refine ⟨_, rfl, .inl ⟨_, rfl, _, rfl, _, _, rfl, rfl, (show b ≠ 0 by omega), ?_⟩⟩
      refine k _ _ (Int.fmod_nonneg_of_pos _ hb) (Int.fmod_lt_of_pos _ hb) ⟨st, i, ns.set (i.fmod ((ns.map V.int).length : Int)).toNat (cell.fdiv b), (by rw [upd_ne npl]; exact hp1), (by rw [upd_same, List.map_set]), (by rw [List.length_set]; exact hlen)⟩ (fun x o e h1 h2 => ?_)
      rw [upd_ne h2]
      exact same x o e
    · refine ⟨_, rfl, p, _, _, _, rfl, rfl, SqL.of hp1, atP0, _, _, rfl, rfl, .inr (by decide), _, rfl, _, _, rfl, rfl, .inr (by decide), _, _, rfl, rfl, _, _, rfl, rfl, .inl ⟨_, rfl, _, _, rfl, rfl, (show (2147483647 : Int) ≠ 0 by decide), ?_⟩⟩
      refine ⟨_, rfl, p, _, _, 0, rfl, rfl, hp1, rfl, ?_⟩
      refine ⟨_, rfl, p, _, _, _, rfl, rfl, SqL.of upd_same, rfl, _, _, rfl, rfl, ?_⟩
      refine ⟨_, rfl, p, _, _, 2, rfl, rfl, upd_same, rfl, ?_⟩
      refine ⟨_, rfl, p, _, _, _, rfl, rfl, SqL.of upd_same, rfl, _, _, rfl, rfl, ⟨by decide, by decide⟩, .inl ⟨_, rfl, _, rfl, _, _, rfl, rfl, (show b ≠ 0 by omega), ?_⟩⟩
      refine k _ _ (Int.fmod_nonneg_of_pos _ hb) (Int.fmod_lt_of_pos _ hb) ⟨_, _, ns, upd_same, (by rw [upd_ne npl.symm, upd_ne npl.symm]; exact hl1), hlen⟩ (fun x o e h1 h2 => ?_)
      rw [upd_ne h1, upd_ne h1]
      exact same x o e
end
end HP

namespace HP
open PySem PySem.Spec PyProof.Rows L2
abbrev sIsInt : Stmt := top 14
abbrev sIsName : Stmt := top 15
abbrev sThings : Stmt := top 16
abbrev sWords : Stmt := top 18
/-! ### data -/
def tyD : PyData → String
  | .none => "NoneType"
  | .bool _ => "bool"
  | .int _ => "int"
  | .str _ => "str"
  | .list _ => "list"
  | .tuple _ => "tuple"
  | .dict _ => "dict"
theorem SqL.same {K : PySem.W.Frag} {H H' : Hp} {a : Addr} {xs : List V} (e : Same H H') (h : SqL K H a xs) : SqL K H' a xs := e.seq h
theorem SqT.same {K : PySem.W.Frag} {H H' : Hp} {a : Addr} {xs : List V} (e : Same H H') (h : SqT K H a xs) : SqT K H' a xs := by
  rcases h with (h | ⟨o, h⟩) | h
  · exact .inl (.inl (e _ _ h))
  · exact .inl (.inr ⟨o, e _ _ h⟩)
  · exact .inr h
mutual
theorem Dp.same {K : PySem.W.Frag} {H H' : Hp} (e : Same H H') : ∀ (d : PyData) {v : V}, Dp K H v d → Dp K H' v d
  | .none, _, .non => .non
  | .bool b, _, .bl _ => .bl b
  | .int i, _, .int _ => .int i
  | .str x, _, .str _ => .str x
  | .list ds, _, .lst h a => .lst (SqL.same e h) (DpAll.same e ds a)
  | .tuple ds, _, .tup h a => .tup (SqT.same e h) (DpAll.same e ds a)
  | .dict kvs, _, h => nomatch h
theorem DpAll.same {K : PySem.W.Frag} {H H' : Hp} (e : Same H H') : ∀ (ds : List PyData) {vs : List V}, DpAll K H vs ds → DpAll K H' vs ds
  | [], _, .nil => .nil
  | d :: ds, _, .cons a b => .cons (Dp.same e d a) (DpAll.same e ds b)
end
theorem DpAll.len {K : PySem.W.Frag} {H : Hp} : ∀ {ds : List PyData} {vs : List V}, DpAll K H vs ds → vs.length = ds.length
  | [], _, .nil => rfl
  | d :: ds, _, .cons a b => congrArg Nat.succ (DpAll.len b)
theorem DpAll.at {K : PySem.W.Frag} {H : Hp} : ∀ {ds : List PyData} {vs : List V} {i : Nat} {v : V}, DpAll K H vs ds → vs[i]? = some v → ∃ d, ds[i]? = some d ∧ Dp K H v d
  | [], _, i, v, .nil, e => by simp at e
  | d :: ds, _, 0, v, .cons a b, e => by simp at e; subst e; exact ⟨d, rfl, a⟩
  | d :: ds, _, i + 1, v, .cons a b, e => by
    obtain ⟨d', h1, h2⟩ := DpAll.at (i := i) (v := v) b (by simpa using e)
    exact ⟨d', by simpa using h1, h2⟩
theorem tyL {K : PySem.W.Frag} {H : Hp} {a : Addr} {xs : List V} (h : SqL K H a xs) : TyX K H (.ref a) (.type "list") := by
  rcases h with (h | ⟨o, h⟩) | ⟨o, its, n, h, c, _⟩
  · exact .base (.lst h)
  · exact .base (.frz h)
  · exact .kList h c
theorem tyT {K : PySem.W.Frag} {H : Hp} {a : Addr} {xs : List V} (h : SqT K H a xs) : TyX K H (.ref a) (.type "tuple") := by
  rcases h with (h | ⟨o, h⟩) | ⟨o, its, n, h, c, _⟩
  · exact .base (.tup h)
  · exact .fTuple h
  · exact .kTuple h c
theorem dp_ty {K : PySem.W.Frag} {H : Hp} {d : PyData} {v : V} (h : Dp K H v d) : TyX K H v (.type (tyD d)) := by
  cases h with
  | non => exact .base .non
  | bl b => exact .base (.bl b)
  | int i => exact .base (.int i)
  | str x => exact .base (.str x)
  | lst h a => exact tyL h
  | tup h a => exact tyT h
def isaB (a b : String) : Bool := a == b || (a == "bool" && b == "int")
theorem kit_all : (["NoneType", "bool", "int", "str", "list", "tuple", "dict"] : List String).all (fun a => (["bool", "int", "str", "list", "tuple", "dict"] : List String).all fun b => decide (kitB a b = some (isaB a b))) = true := by decide +kernel
theorem tyD_mem (d : PyData) : tyD d ∈ (["NoneType", "bool", "int", "str", "list", "tuple", "dict"] : List String) := by cases d <;> simp [tyD]
theorem kitD {K : PySem.W.Frag} (d : PyData) {b : String} (hb : b ∈ (["bool", "int", "str", "list", "tuple", "dict"] : List String)) : PySem.W.kitOne K (.type (tyD d)) (.type b) = some (isaB (tyD d) b) :=
  kit_ty (of_decide_eq_true (List.all_eq_true.mp (List.all_eq_true.mp kit_all _ (tyD_mem d)) _ hb))
def isIntD : PyData → Bool
  | .int _ => true
  | _ => false
def az : Str := "abcdefghijklmnopqrstuvwxyz"
def isLet (c : Nat) : Bool := decide (c ∈ az.cps.toList)
def isNameS (x : Str) : Bool := decide (1 ≤ (x.length : Int)) && (decide ((x.length : Int) ≤ 8) && x.cps.toList.all isLet)
def isNameD : PyData → Bool
  | .str x => isNameS x
  | _ => false
/-! ### comprehensions whose items are told beforehand -/
def Cv (H1 : Hp) (D : Addr) (out : Nat → List V) (i : Nat) (H : Hp) : Prop := Same H1 H ∧ H D = some (.lst (out i))
theorem cv0 {H1 : Hp} {D : Addr} {out : Nat → List V} (hD : H1 D = none) (h0 : out 0 = []) : Cv H1 D out 0 (upd H1 D (.lst [])) :=
  ⟨fun b o e => by rw [upd_ne (ne_of_none e hD)]; exact e, by rw [upd_same, h0]⟩
theorem cv_yes {H1 H4 : Hp} {D : Addr} {out : Nat → List V} {i : Nat} {y : V} (hD : H1 D = none) (s : Same H1 H4) (h : H4 D = some (.lst (out i))) (hl : (out i).length ≤ 100000) (e : out (i + 1) = out i ++ [y]) :
    ∃ acc, H4 D = some (.lst acc) ∧ acc.length < sizeLine ∧ Cv H1 D out (i + 1) (upd H4 D (.lst (acc ++ [y]))) :=
  ⟨out i, h, Nat.lt_of_le_of_lt hl (by decide), fun b o q => by rw [upd_ne (ne_of_none q hD)]; exact s b o q, by rw [upd_same, e]⟩
theorem cv_no {H1 H4 : Hp} {D : Addr} {out : Nat → List V} {i : Nat} (s : Same H1 H4) (h : H4 D = some (.lst (out i))) (e : out (i + 1) = out i) : Cv H1 D out (i + 1) H4 := ⟨s, by rw [e]; exact h⟩
theorem snoc_at {α β : Type} (f : α → β) {l : List α} {i : Nat} {x : α} (h : l[i]? = some x) : (l.take (i + 1)).map f = (l.take i).map f ++ [f x] := by
  rw [List.take_add_one, h, List.map_append]
  rfl
theorem same_new {H H' : Hp} {p : Addr} {o : HO} (s : Same H H') (h : H' p = none) : Same H (upd H' p o) := fun b u e => by
  rw [upd_ne (ne_of_none (s b u e) h)]
  exact s b u e
theorem same_mut {H H' : Hp} {p : Addr} {o : HO} (s : Same H H') (h : H p = none) : Same H (upd H' p o) := fun b u e => by
  rw [upd_ne (ne_of_none e h)]
  exact s b u e
theorem lc_yes {σ : L2.St} {H : Hp} {A B : Hp → Prop} (h : A H) : tYes σ H (fun b H3 => if b = true then A H3 else B H3) := by
  show if true = true then A H else B H
  exact iteT h
/-! ### what the module's own names hold -/
structure Cs (K : PySem.W.Frag) (mg : Str → Option Value) : Prop where
  letters : ∃ t, mg "LETTERS" = some (.str az t)
  mname : ∃ t, mg "MOST_NAME" = some (.int 8 t)
  mthings : ∃ t, mg "MOST_THINGS" = some (.int 4 t)
  mvalues : ∃ t, mg "MOST_VALUES" = some (.int 3 t)
section
variable {P : Program} {w : World} {K : PySem.W.Frag} {mg : Str → Option Value} {base : Heap}
def spIsInt (K : PySem.W.Frag) : Sp := fun vs H Q _ => ∃ (v : V) (d : PyData), vs = [v] ∧ Dp K H v d ∧ Q (.bl (isIntD d)) H
theorem scIsInt : FnScope ["value"] ["value"] (defScope sIsInt) := ⟨rfl, rfl, rfl, by decide +kernel, rfl, by decide +kernel, by decide +kernel⟩
theorem ok_isInt (D : Dat K mg "is_integer" sIsInt) (T : Fr mg) : Fn P w K mg base CX0 1 "is_integer" (spIsInt K) := by
  refine Fn.of0 D scIsInt (fun _ _ _ _ _ _ us hl => match us, hl with | [_], _ => rfl) (fun vs H Q E h => ?_) (fun f cdv A outer s H vs Q E hr h => ?_)
  · obtain ⟨v, d, rfl, _⟩ := h
    rfl
  · obtain ⟨v, d, rfl, hd, k⟩ := h
    refine ⟨_, (pss_one (ps_ret (pe_and (pe_callB (kIsi (K := K)) (by rfl) (T.fr "isinstance" (by decide +kernel)) (by decide +kernel) (pa_cons (pv 0) (pa_cons (pe_bltn (v := .ty "int") (u := .type "int") (by rfl) (T.fr "int" (by decide +kernel)) (by decide +kernel) rfl) pa_nil))) (pe_one (pe_not (pe_callB (kIsi (K := K)) (by rfl) (T.fr "isinstance" (by decide +kernel)) (by decide +kernel) (pa_cons (pv 0) (pa_cons (pe_bltn (v := .ty "bool") (u := .type "bool") (by rfl) (T.fr "bool" (by decide +kernel)) (by decide +kernel) rfl) pa_nil)))))))), ?_⟩
    refine ⟨_, rfl, v, _, _, _, _, rfl, .ty "int", dp_ty hd, kitD d (by decide), _, rfl, ?_⟩
    cases d with
    | int i =>
      refine iteT ?_
      exact ⟨_, rfl, v, _, _, _, _, rfl, .ty "bool", dp_ty hd, kitD _ (by decide), _, rfl, k⟩
    | bool b =>
      refine iteT ?_
      exact ⟨_, rfl, v, _, _, _, _, rfl, .ty "bool", dp_ty hd, kitD _ (by decide), _, rfl, k⟩
    | _ =>
      refine iteF ?_
      exact k
def spIsName (K : PySem.W.Frag) : Sp := fun vs H Q _ => ∃ (v : V) (d : PyData), vs = [v] ∧ Dp K H v d ∧ (∀ x, d = .str x → x.length ≤ 100000) ∧ ∀ H', Same H H' → Q (.bl (isNameD d)) H'
theorem scIsName : FnScope ["value", "sign"] ["value"] (defScope sIsName) := ⟨rfl, rfl, rfl, by decide +kernel, rfl, by decide +kernel, by decide +kernel⟩
theorem ok_isName (D : Dat K mg "is_name" sIsName) (T : Fr mg) (C : Cs K mg) : Fn P w K mg base CX0 1 "is_name" (spIsName K) := by
  refine Fn.of0 D scIsName (fun _ _ _ _ _ _ us hl => match us, hl with | [_], _ => rfl) (fun vs H Q E h => ?_) (fun f cdv A outer s H vs Q E hr h => ?_)
  · obtain ⟨v, d, rfl, _⟩ := h
    rfl
  · obtain ⟨v, d, rfl, hd, hx, k⟩ := h
    obtain ⟨tl, cL⟩ := C.letters
    obtain ⟨tm, cM⟩ := C.mname
    refine ⟨_, (pss_one (ps_ret (pe_and (pe_callB (kIsi (K := K)) (by rfl) (T.fr "isinstance" (by decide +kernel)) (by decide +kernel) (pa_cons (pv 0) (pa_cons (pe_bltn (v := .ty "str") (u := .type "str") (by rfl) (T.fr "str" (by decide +kernel)) (by decide +kernel) rfl) pa_nil))) (pe_and (pe_chain op_le op_le pe_int (pe_callB (kLenV (K := K)) (by rfl) (T.fr "len" (by decide +kernel)) (by decide +kernel) (pa_cons (pv 0) pa_nil)) (pe_glob (v := .int 8) (by rfl) cM ⟨_, rfl⟩)) (pe_one (pe_callB (kAll (K := K) rfl) (by rfl) (T.fr "all" (by decide +kernel)) (by decide +kernel) (pa_cons (pe_lc (own := [("sign", 1)]) (g := gName 1) (by rfl) scIsName.nd (pi_str (pv 0)) (blkOk_by (own := [("sign", 1)]) (N := ["value", "sign"]) (sc := defScope sIsName) (by decide +kernel)) (fun _ _ _ _ _ => (pg_name (i := 1) scIsName.nd rfl (Or.inl rfl))) (fun _ _ _ _ _ => pts_nil) (fun _ _ _ _ _ => (pe_cmpR op_in_sign (pv 1) (pe_glob (v := .str az) (by rfl) cL ⟨_, rfl⟩) (by rfl)))) pa_nil))))))), ?_⟩
    refine ⟨_, rfl, v, _, _, _, _, rfl, .ty "str", dp_ty hd, kitD d (by decide), _, rfl, ?_⟩
    cases d with
    | str x =>
      cases hd
      have hxl : x.length ≤ sizeLine := Nat.le_trans (hx x rfl) (by decide)
      refine iteT ?_
      refine ⟨_, rfl, _, x.length, rfl, ⟨hxl, rfl⟩, _, _, rfl, rfl, _, rfl, ?_⟩
      have en : isNameD (.str x) = (decide (1 ≤ (x.length : Int)) && (decide ((x.length : Int) ≤ 8) && x.cps.toList.all isLet)) := rfl
      rw [en] at k
      cases h1 : decide (1 ≤ (x.length : Int)) with
      | false =>
        rw [h1] at k
        exact iteF ⟨_, rfl, iteF (k H (Same.refl H))⟩
      | true =>
        rw [h1] at k
        refine iteT ⟨_, _, rfl, rfl, _, rfl, ?_⟩
        cases h2 : decide ((x.length : Int) ≤ 8) with
        | false =>
          rw [h2] at k
          exact iteF (k H (Same.refl H))
        | true =>
          rw [h2] at k
          have hxs : x.cps.size ≤ 8 := Int.ofNat_le.mp (of_decide_eq_true h2)
          refine iteT ⟨_, rfl, x, rfl, fun D hD => ?_⟩
          refine lc_it walk_str (Cv H D fun i => ((x.cps.toList.take i).map isLet).map V.bl) (cv0 hD rfl) (fun _ _ _ _ => True.intro) (fun i y H2 H3 hi p q => ?_) (fun H2 p => ?_)
          · obtain ⟨rfl, c, hc, rfl⟩ := q
            refine ⟨rfl, ?_⟩
            refine lc_yes ?_
            refine ⟨_, rfl, c, az, rfl, rfl, ?_⟩
            refine cv_yes hD p.1 p.2 ?_ ?_
            · simp only [List.length_map, List.length_take]
              omega
            · have hc' : x.cps.toList[i]? = some c := by rw [Array.getElem?_toList]; exact hc
              rw [snoc_at isLet hc', List.map_append]
              rfl
          · have e : x.cps.toList.take x.cps.size = x.cps.toList := by rw [← Array.length_toList, List.take_length]
            have hp2 : H2 D = some (.lst ((x.cps.toList.map isLet).map V.bl)) := by rw [← e]; exact p.2
            refine ⟨D, x.cps.toList.map isLet, rfl, SqL.of hp2, ?_⟩
            have e2 : (x.cps.toList.map isLet).all id = x.cps.toList.all isLet := by rw [List.all_map]; rfl
            show Q (.bl ((x.cps.toList.map isLet).all id)) H2
            rw [e2]
            exact k H2 p.1
    | _ =>
      refine iteF ?_
      exact k H (Same.refl H)
end
end HP

namespace HP
open PySem PySem.Spec PyProof.Rows L2
/-! ### are_things -/
def distinct : List Str → Bool
  | [] => true
  | x :: xs => !(xs.any fun y => decide (y = x)) && distinct xs
theorem distinct_iff : ∀ {xs : List Str}, distinct xs = true ↔ xs.Nodup
  | [] => by simp [distinct]
  | x :: xs => by
    unfold distinct
    rw [Bool.and_eq_true, distinct_iff, List.nodup_cons, Bool.not_eq_true']
    constructor
    · rintro ⟨h1, h2⟩
      refine ⟨fun h => ?_, h2⟩
      have := List.any_eq_false.mp h1 x h
      simp at this
    · rintro ⟨h1, h2⟩
      refine ⟨List.any_eq_false.mpr fun y hy => ?_, h2⟩
      intro e
      exact h1 (of_decide_eq_true e ▸ hy)
def strOf : PyData → Str
  | .str x => x
  | _ => Str.empty
def isThingsL (ds : List PyData) : Bool := decide (1 ≤ (ds.length : Int)) && (decide ((ds.length : Int) ≤ 4) && (ds.all isNameD && distinct (ds.map strOf)))
def isThingsD : PyData → Bool
  | .tuple ds => isThingsL ds
  | _ => false
theorem names_strs : ∀ {ds : List PyData}, ds.all isNameD = true → ds = (ds.map strOf).map PyData.str
  | [], _ => rfl
  | d :: ds, h => by
    rw [List.all_cons, Bool.and_eq_true] at h
    obtain ⟨h1, h2⟩ := h
    have := names_strs h2
    cases d with
    | str x => rw [List.map_cons, List.map_cons, ← this]; rfl
    | _ => cases h1
theorem dp_strs {K : PySem.W.Frag} {H : Hp} : ∀ {xs : List Str} {vs : List V}, DpAll K H vs (xs.map PyData.str) → vs = xs.map V.str
  | [], _, .nil => rfl
  | x :: xs, _, .cons (.str _) b => congrArg (V.str x :: ·) (dp_strs b)
theorem kv_strs (xs : List Str) : (xs.map (Sum.inr : Str → Key)).map kV = xs.map V.str := by
  rw [List.map_map]
  rfl
/-- the number of different ones -/
theorem ofKeys_nodup : ∀ (ks acc : List Key), acc.Nodup → (ks.foldl SM.plus acc).Nodup
  | [], acc, h => h
  | k :: ks, acc, h => by
    rw [List.foldl_cons]
    refine ofKeys_nodup ks _ ?_
    unfold SM.plus
    split
    · exact h
    · rename_i hk
      exact (List.perm_append_singleton k acc).nodup_iff.mpr (List.nodup_cons.mpr ⟨fun z => hk (SM.hasK_iff.mpr z), h⟩)
theorem ofKeys_mem : ∀ (ks acc : List Key) (k : Key), k ∈ ks.foldl SM.plus acc ↔ k ∈ acc ∨ k ∈ ks
  | [], acc, k => by simp
  | j :: ks, acc, k => by
    rw [List.foldl_cons, ofKeys_mem ks]
    unfold SM.plus
    split
    · rename_i hj
      have hj := SM.hasK_iff.mp hj
      constructor
      · rintro (h | h)
        · exact .inl h
        · exact .inr (List.mem_cons_of_mem _ h)
      · rintro (h | h)
        · exact .inl h
        · rcases List.mem_cons.mp h with rfl | h
          · exact .inl hj
          · exact .inr h
    · rw [List.mem_append, List.mem_singleton, List.mem_cons, or_assoc]
theorem ofKeys_all {ks acc : List Key} (h : (acc ++ ks).Nodup) : ks.foldl SM.plus acc = acc ++ ks := by
  induction ks generalizing acc with
  | nil => simp
  | cons k ks ih =>
    rw [List.foldl_cons]
    have hk : ¬ SM.hasK acc k = true := fun z => by
      have := SM.hasK_iff.mp z
      rw [List.nodup_append] at h
      exact h.2.2 k this k (List.mem_cons_self) rfl
    have e : SM.plus acc k = acc ++ [k] := by unfold SM.plus; rw [if_neg hk]
    rw [e, ih (by rw [List.append_assoc]; exact h), List.append_assoc]
    rfl
theorem ofKeys_back : ∀ (ks acc : List Key), acc.Nodup → (ks.foldl SM.plus acc).length = acc.length + ks.length → (acc ++ ks).Nodup
  | [], acc, h, _ => by rw [List.append_nil]; exact h
  | k :: ks, acc, h, e => by
    rw [List.foldl_cons, List.length_cons] at e
    have h1 := SM.ofKeys_len ks (SM.plus acc k)
    have hk : ¬ SM.hasK acc k = true := fun z => by
      have e2 : SM.plus acc k = acc := by unfold SM.plus; rw [if_pos z]
      rw [e2] at e h1
      omega
    have e2 : SM.plus acc k = acc ++ [k] := by unfold SM.plus; rw [if_neg hk]
    rw [e2] at e
    have nd := (List.perm_append_singleton k acc).nodup_iff.mpr (List.nodup_cons.mpr ⟨fun z => hk (SM.hasK_iff.mpr z), h⟩)
    have := ofKeys_back ks (acc ++ [k]) nd (by rw [e, List.length_append, List.length_singleton]; omega)
    rw [List.append_assoc] at this
    exact this
theorem ofKeys_len {xs : List Str} : decide (((SM.ofKeys (xs.map Sum.inr)).length : Int) = (xs.length : Int)) = distinct xs := by
  by_cases h : xs.Nodup
  · have hn : (xs.map (Sum.inr : Str → Key)).Nodup := by
      refine List.Pairwise.map _ (fun a b hab e => hab (Sum.inr.inj e)) h
    have e : SM.ofKeys (xs.map Sum.inr) = xs.map Sum.inr := by
      unfold SM.ofKeys
      rw [ofKeys_all (by simpa using hn)]
      rfl
    rw [e, List.length_map, distinct_iff.mpr h]
    exact decide_eq_true rfl
  · have hd : distinct xs = false := by
      cases q : distinct xs with
      | false => rfl
      | true => exact absurd (distinct_iff.mp q) h
    rw [hd]
    refine decide_eq_false fun e => h ?_
    have hl : ((xs.map (Sum.inr : Str → Key)).foldl SM.plus []).length = ([] : List Key).length + (xs.map (Sum.inr : Str → Key)).length := by
      rw [List.length_map, List.length_nil, Nat.zero_add]
      exact Int.ofNat.inj e
    have nd2 : (xs.map (Sum.inr : Str → Key)).Nodup := by
      have := ofKeys_back _ _ List.nodup_nil hl
      rw [List.nil_append] at this
      exact this
    exact List.Pairwise.of_map _ (fun a b hab e => hab (by rw [e])) nd2
section
variable {P : Program} {w : World} {K : PySem.W.Frag} {mg : Str → Option Value} {base : Heap}
/-- texts that are not too long -/
def Small (d : PyData) : Prop := ∀ ds, d = .tuple ds → ∀ x, PyData.str x ∈ ds → x.length ≤ 100000
def spThings (K : PySem.W.Frag) : Sp := fun vs H Q _ => ∃ (v : V) (d : PyData), vs = [v] ∧ Dp K H v d ∧ Small d ∧ ∀ H', Same H H' → Q (.bl (isThingsD d)) H'
theorem scThings : FnScope ["value", "thing"] ["value"] (defScope sThings) := ⟨rfl, rfl, rfl, by decide +kernel, rfl, by decide +kernel, by decide +kernel⟩
theorem ok_things (D : Dat K mg "are_things" sThings) (T : Fr mg) (C : Cs K mg) (FN : Fn P w K mg base CX0 1 "is_name" (spIsName K)) : Fn P w K mg base CX0 2 "are_things" (spThings K) := by
  refine Fn.of0 D scThings (fun _ _ _ _ _ _ us hl => match us, hl with | [_], _ => rfl) (fun vs H Q E h => ?_) (fun f cdv A outer s H vs Q E hr h => ?_)
  · obtain ⟨v, d, rfl, _⟩ := h
    rfl
  · obtain ⟨v, d, rfl, hd, hx, k⟩ := h
    obtain ⟨tm, cM⟩ := C.mthings
    refine ⟨_, (pss_cons (ps_if (PW.pt (pw_or (pt_not (pt_val (pe_callB (kIsi (K := K)) (by rfl) (T.fr "isinstance" (by decide +kernel)) (by decide +kernel) (pa_cons (pv 0) (pa_cons (pe_bltn (v := .ty "tuple") (u := .type "tuple") (by rfl) (T.fr "tuple" (by decide +kernel)) (by decide +kernel) rfl) pa_nil))))) (pw_or1 (pt_not (pt_chain op_le op_le pe_int (pe_callB (kLen (K := K)) (by rfl) (T.fr "len" (by decide +kernel)) (by decide +kernel) (pa_cons (pv 0) pa_nil)) (pe_glob (v := .int 4) (by rfl) cM ⟨_, rfl⟩)))))) (pss_one (ps_ret pe_bl)) pss_nil)
      (pss_cons (ps_if (pt_not (pt_val (pe_callB (kAll (K := K) rfl) (by rfl) (T.fr "all" (by decide +kernel)) (by decide +kernel) (pa_cons (pe_lc (own := [("thing", 1)]) (g := gName 1) (by rfl) scThings.nd (iT (K := K) (pv 0)) (blkOk_by (own := [("thing", 1)]) (N := ["value", "thing"]) (sc := defScope sThings) (by decide +kernel)) (fun _ _ _ _ _ => (pg_name (i := 1) scThings.nd rfl (Or.inl rfl))) (fun _ _ _ _ _ => pts_nil) (fun _ _ _ _ _ => (pf FN hr (by decide) (pa_cons (pv 1) pa_nil)))) pa_nil)))) (pss_one (ps_ret pe_bl)) pss_nil)
      (pss_one (ps_ret (pe_cmpR op_eq (pe_callB (kLenM (w := w)) (by rfl) (T.fr "len" (by decide +kernel)) (by decide +kernel) (pa_cons (pe_callTy (kSet (K := K) (w := w) rfl) (by rfl) (T.fr "set" (by decide +kernel)) (by decide +kernel) (pa_cons (pv 0) pa_nil)) pa_nil)) (pe_callB (kLen (K := K)) (by rfl) (T.fr "len" (by decide +kernel)) (by decide +kernel) (pa_cons (pv 0) pa_nil)) (nomark _)))))), ?_⟩
    refine ⟨_, rfl, v, _, _, _, _, rfl, .ty "tuple", dp_ty hd, kitD d (by decide), _, rfl, ?_⟩
    cases d with
    | tuple ds =>
      cases hd with
      | @tup a xs _ hS hA =>
      have hlen : xs.length = ds.length := DpAll.len hA
      have en : isThingsD (.tuple ds) = (decide (1 ≤ (xs.length : Int)) && (decide ((xs.length : Int) ≤ 4) && (ds.all isNameD && distinct (ds.map strOf)))) := by rw [hlen]; rfl
      rw [en] at k
      refine iteF ?_
      refine ⟨_, rfl, a, _, rfl, .inr hS, _, _, rfl, rfl, _, rfl, ?_⟩
      cases h1 : decide (1 ≤ (xs.length : Int)) with
      | false =>
        rw [h1] at k
        refine iteF ⟨_, rfl, ?_⟩
        refine iteT ?_
        exact k H (Same.refl H)
      | true =>
        rw [h1] at k
        refine iteT ⟨_, _, rfl, rfl, _, rfl, ?_⟩
        cases h2 : decide ((xs.length : Int) ≤ 4) with
        | false =>
          rw [h2] at k
          refine iteT ?_
          exact k H (Same.refl H)
        | true =>
          rw [h2] at k
          have h4 : xs.length ≤ 4 := Int.ofNat_le.mp (of_decide_eq_true h2)
          refine iteF ?_
          refine ⟨_, rfl, a, rfl, ⟨_, hS⟩, fun D hD => ?_⟩
          refine lc_it walk_tup (Cv H D fun i => ((ds.take i).map isNameD).map V.bl) (cv0 hD rfl) (fun i H2 _ p => SqT.same p.1 hS) (fun i y H2 H3 hi p q => ?_) (fun H2 p => ?_)
          · obtain ⟨rfl, hy⟩ := q
            obtain ⟨e, he, hde⟩ := DpAll.at hA hy
            refine ⟨rfl, ?_⟩
            refine lc_yes ?_
            refine ⟨_, rfl, y, e, rfl, Dp.same p.1 e hde, fun x ex => hx ds rfl x (by rw [← ex]; exact List.mem_of_getElem? he), fun H4 s4 => ?_⟩
            refine cv_yes hD (p.1.trans s4) (s4 _ _ p.2) ?_ ?_
            · simp only [List.length_map, List.length_take]
              omega
            · rw [snoc_at isNameD he, List.map_append]
              rfl
          · have hp2 : H2 D = some (.lst ((ds.map isNameD).map V.bl)) := by
              have z := p.2
              rw [hlen] at z
              dsimp only at z
              rw [List.take_length] at z
              exact z
            refine ⟨D, ds.map isNameD, rfl, SqL.of hp2, _, rfl, ?_⟩
            have e2 : (ds.map isNameD).all id = ds.all isNameD := by rw [List.all_map]; rfl
            rw [e2]
            cases h3 : ds.all isNameD with
            | false =>
              rw [h3] at k
              refine iteT ?_
              exact k H2 p.1
            | true =>
              rw [h3] at k
              refine iteF ?_
              have eds := names_strs h3
              have hvs : xs = ((ds.map strOf).map Sum.inr).map kV := by
                rw [eds] at hA
                rw [kv_strs]
                exact dp_strs hA
              have hS2 : SqT K H2 a (((ds.map strOf).map Sum.inr).map kV) := by rw [← hvs]; exact SqT.same p.1 hS
              refine ⟨_, rfl, a, (ds.map strOf).map Sum.inr, rfl, .inr hS2, ?_, fun q hq => ?_⟩
              · simp only [List.length_map]
                omega
              refine ⟨q, _, rfl, upd_same, ?_⟩
              have s3 : Same H2 (upd H2 q (SM.SetMO w q (SM.ofKeys ((ds.map strOf).map Sum.inr)))) := same_new (Same.refl H2) hq
              refine ⟨_, rfl, a, xs, rfl, .inr (SqT.same (p.1.trans s3) hS), rfl, ?_⟩
              have e5 : decide (V.int ((SM.ofKeys ((ds.map strOf).map Sum.inr)).length : Int) = V.int (xs.length : Int)) = distinct (ds.map strOf) := by
                rw [← ofKeys_len, List.length_map, hlen]
                by_cases z : ((SM.ofKeys ((ds.map strOf).map Sum.inr)).length : Int) = (ds.length : Int)
                · rw [decide_eq_true z, z]
                  exact decide_eq_true rfl
                · rw [decide_eq_false z]
                  exact decide_eq_false fun q => z (V.int.inj q)
              show Q (.bl (decide (V.int ((SM.ofKeys ((ds.map strOf).map Sum.inr)).length : Int) = V.int (xs.length : Int)))) _
              rw [e5]
              exact k _ (p.1.trans s3)
    | _ =>
      refine iteT ?_
      refine iteT ?_
      exact k H (Same.refl H)
end
end HP

namespace HP
open PySem PySem.Spec PyProof.Rows L2
/-! ### texts in order -/
def leS (a b : Str) : Prop := a.cps.toList ≤ b.cps.toList
instance (a b : Str) : Decidable (leS a b) := inferInstanceAs (Decidable (a.cps.toList ≤ b.cps.toList))
theorem leS_trans {a b c : Str} (h : leS a b) (k : leS b c) : leS a c := List.le_trans h k
theorem leS_total (a b : Str) : leS a b ∨ leS b a := List.le_total _ _
theorem str_ext {a b : Str} (h : a.cps.toList = b.cps.toList) : a = b := by
  cases a; cases b
  exact congrArg Str.mk (Array.toList_inj.mp h)
theorem leS_anti {a b : Str} (h : leS a b) (k : leS b a) : a = b := str_ext (List.le_antisymm h k)
theorem lt_le {a b : Str} : ltCps b.cps.toList a.cps.toList = false ↔ leS a b := by
  rw [ltCps_eq]
  unfold leS
  rw [decide_eq_false_iff_not, List.not_lt]
theorem rising_iff : ∀ {l : List Str} {p : Str}, risingS p l = true ↔ (p :: l).Pairwise leS
  | [], p => by simp [risingS]
  | x :: r, p => by
    have ih := rising_iff (l := r) (p := x)
    unfold risingS
    rw [Bool.and_eq_true, Bool.not_eq_true', lt_le, ih, List.pairwise_cons (a := p)]
    constructor
    · rintro ⟨h1, h2⟩
      refine ⟨fun y hy => ?_, h2⟩
      rcases List.mem_cons.mp hy with rfl | hy
      · exact h1
      · exact leS_trans h1 ((List.pairwise_cons.mp h2).1 y hy)
    · rintro ⟨h1, h2⟩
      exact ⟨h1 x List.mem_cons_self, h2⟩
theorem sortedS_iff : ∀ {l : List Str}, sortedS l = true ↔ l.Pairwise leS
  | [] => by simp [sortedS]
  | x :: r => rising_iff
/-- sorted -/
def srtS (xs : List Str) : List Str := xs.mergeSort fun a b => decide (leS a b)
theorem srtS_perm (xs : List Str) : (srtS xs).Perm xs := List.mergeSort_perm xs _
theorem srtS_pw (xs : List Str) : (srtS xs).Pairwise leS := by
  have h := List.pairwise_mergeSort (le := fun a b => decide (leS a b)) (fun a b c h k => decide_eq_true (leS_trans (of_decide_eq_true h) (of_decide_eq_true k)))
    (fun a b => by
      rcases leS_total a b with h | h
      · rw [decide_eq_true h]; rfl
      · rw [decide_eq_true h, Bool.or_true]) xs
  exact h.imp fun h => of_decide_eq_true h
theorem srtS_only {xs ys : List Str} (h : ys.Perm xs) (k : sortedS ys = true) : ys = srtS xs :=
  List.Perm.eq_of_pairwise (fun a b _ _ => leS_anti) (sortedS_iff.mp k) (srtS_pw xs) (h.trans (srtS_perm xs).symm)
theorem srtS_self {xs : List Str} (h : xs.Pairwise leS) : srtS xs = xs :=
  List.Perm.eq_of_pairwise (fun a b _ _ => leS_anti) (srtS_pw xs) h (srtS_perm xs)
/-! ### the different ones -/
def plusS (xs : List Str) (x : Str) : List Str := if xs.any (fun y => decide (y = x)) then xs else xs ++ [x]
def setS (xs : List Str) : List Str := xs.foldl plusS []
theorem plus_map (xs : List Str) (x : Str) : SM.plus (xs.map Sum.inr) (Sum.inr x) = (plusS xs x).map Sum.inr := by
  have e : SM.hasK (xs.map Sum.inr) (Sum.inr x) = xs.any (fun y => decide (y = x)) := by
    unfold SM.hasK
    rw [List.any_map]
    congr 1
    funext y
    show decide ((Sum.inr y : Key) = Sum.inr x) = decide (y = x)
    exact key_rr y x
  unfold SM.plus plusS
  rw [e]
  split
  · rfl
  · rw [List.map_append]; rfl
theorem ofKeys_map : ∀ (xs acc : List Str), (xs.map (Sum.inr : Str → Key)).foldl SM.plus (acc.map Sum.inr) = (xs.foldl plusS acc).map Sum.inr
  | [], acc => rfl
  | x :: xs, acc => by
    rw [List.map_cons, List.foldl_cons, List.foldl_cons, plus_map, ofKeys_map xs]
theorem ofKeys_strs (xs : List Str) : SM.ofKeys (xs.map Sum.inr) = (setS xs).map Sum.inr := ofKeys_map xs []
theorem setS_len (xs : List Str) : (setS xs).length ≤ xs.length := by
  have h := SM.ofKeys_len (xs.map Sum.inr) []
  have e : ((setS xs).map (Sum.inr : Str → Key)).length = (setS xs).length := List.length_map _
  rw [← e, ← ofKeys_strs]
  unfold SM.ofKeys
  rw [List.length_map, List.length_nil, Nat.zero_add] at h
  exact h
theorem setS_self {xs : List Str} (h : xs.Nodup) : setS xs = xs := by
  have hn : (xs.map (Sum.inr : Str → Key)).Nodup := List.Pairwise.map _ (fun a b hab e => hab (Sum.inr.inj e)) h
  have e : SM.ofKeys (xs.map Sum.inr) = xs.map Sum.inr := by
    unfold SM.ofKeys
    rw [ofKeys_all (by simpa using hn)]
    rfl
  rw [ofKeys_strs] at e
  exact (List.map_inj_right (fun a b q => Sum.inr.inj q)).mp e
/-! ### == of lists of texts -/
theorem eqvAll_strs : ∀ (xs ys : List Str), PyData.eqvAll (xs.map .str) (ys.map .str) = decide (xs = ys)
  | [], [] => rfl
  | x :: xs, [] => rfl
  | [], y :: ys => rfl
  | x :: xs, y :: ys => by
    show (PyData.eqv (.str x) (.str y) && PyData.eqvAll (xs.map .str) (ys.map .str)) = decide (x :: xs = y :: ys)
    rw [eqvAll_strs xs ys]
    show ((x == y) && decide (xs = ys)) = decide (x :: xs = y :: ys)
    by_cases h : x = y
    · subst h
      by_cases k : xs = ys
      · subst k; simp
      · simp [k]
    · have : (x == y) = false := beq_eq_false_iff_ne.mpr h
      rw [this]
      simp [h]
def okS (xs : List Str) : Prop := ∀ x ∈ xs, PyData.strOk x = true
theorem canLay_strs : ∀ (xs : List Str), okS xs → PyData.canLayAll0 (xs.map .str) = true
  | [], _ => by simp [PyData.canLayAll0]
  | x :: xs, h => by simp [PyData.canLayAll0, PyData.canLay0, canLay_strs xs fun y hy => h y (List.mem_cons_of_mem _ hy), h x List.mem_cons_self]
theorem depth_strs : ∀ (xs : List Str), PyData.depthAll (xs.map .str) = 0
  | [] => by simp [PyData.depthAll]
  | x :: xs => by simp [PyData.depthAll, PyData.depth, depth_strs xs]
theorem shaped_strs {xs : List Str} (h : okS xs) : SeqAt.shaped (.list (xs.map .str)) = true := by
  unfold SeqAt.shaped
  rw [Bool.and_eq_true]
  exact ⟨by simp only [PyData.canLay0]; exact canLay_strs xs h, decide_eq_true (by simp only [PyData.depth, depth_strs]; decide)⟩
theorem dpAll_strs {K : PySem.W.Frag} {H : Hp} : ∀ (xs : List Str), DpAll K H (xs.map V.str) (xs.map .str)
  | [] => .nil
  | x :: xs => .cons (.str x) (dpAll_strs xs)
theorem inV_strs (x : Str) : ∀ ws : List Str, inV (.str x) (ws.map V.str) = decide (x ∈ ws)
  | [] => rfl
  | y :: ws => by
    have ih := inV_strs x ws
    unfold inV at ih ⊢
    rw [List.map_cons, List.any_cons, ih]
    have e : eqV (.str y) (.str x) = decide (y = x) := by
      show (y == x) = decide (y = x)
      by_cases h : y = x
      · rw [decide_eq_true h, h]; exact beq_self_eq_true x
      · rw [decide_eq_false h]; exact beq_eq_false_iff_ne.mpr h
    rw [e]
    by_cases h : y = x
    · simp [h]
    · have h' : ¬ x = y := fun q => h q.symm
      simp [h, h']
theorem flat_strs : ∀ ws : List Str, (ws.map V.str).all flatV = true
  | [] => rfl
  | y :: ws => by rw [List.map_cons, List.all_cons, flat_strs ws]; rfl
/-! ### are_words -/
def allWords : List Str := ["ahead", "behind", "bottom", "change", "come", "filter", "place", "sort", "top"]
theorem ok_allWords : ∀ x ∈ allWords, PyData.strOk x = true := by decide +kernel
def isWordD : PyData → Bool
  | .str x => decide (x ∈ allWords)
  | _ => false
def ascS (xs : List Str) : Bool := decide (xs = srtS (setS xs))
def isWordsD : PyData → Bool
  | .tuple ds => ds.all isWordD && ascS (ds.map strOf)
  | _ => false
theorem words_strs : ∀ {ds : List PyData}, ds.all isWordD = true → ds = (ds.map strOf).map PyData.str ∧ ∀ x ∈ ds.map strOf, x ∈ allWords
  | [], _ => ⟨rfl, fun x h => by cases h⟩
  | d :: ds, h => by
    rw [List.all_cons, Bool.and_eq_true] at h
    obtain ⟨h1, h2⟩ := h
    obtain ⟨a, b⟩ := words_strs h2
    cases d with
    | str x =>
      refine ⟨by rw [List.map_cons, List.map_cons, ← a]; rfl, fun y hy => ?_⟩
      rcases List.mem_cons.mp hy with rfl | hy
      · exact of_decide_eq_true h1
      · exact b y hy
    | _ => cases h1
structure CsW (K : PySem.W.Frag) (mg : Str → Option Value) : Prop where
  words : ∃ a, mg "WORDS" = some (.ref a) ∧ ∀ H, SqT K H a (allWords.map V.str)
section
variable {P : Program} {w : World} {K : PySem.W.Frag} {mg : Str → Option Value} {base : Heap}
def spWords (K : PySem.W.Frag) : Sp := fun vs H Q _ => ∃ (v : V) (d : PyData), vs = [v] ∧ Dp K H v d ∧ (∀ ds, d = .tuple ds → ds.length < 64) ∧ ∀ H', Same H H' → Q (.bl (isWordsD d)) H'
theorem scWords : FnScope ["value", "word"] ["value"] (defScope sWords) := ⟨rfl, rfl, rfl, by decide +kernel, rfl, by decide +kernel, by decide +kernel⟩
theorem ok_words (D : Dat K mg "are_words" sWords) (T : Fr mg) (C : CsW K mg) : Fn P w K mg base CX0 1 "are_words" (spWords K) := by
  refine Fn.of0 D scWords (fun _ _ _ _ _ _ us hl => match us, hl with | [_], _ => rfl) (fun vs H Q E h => ?_) (fun f cdv A outer s H vs Q E hr h => ?_)
  · obtain ⟨v, d, rfl, _⟩ := h
    rfl
  · obtain ⟨v, d, rfl, hd, h64, k⟩ := h
    obtain ⟨aW, cW, hW⟩ := C.words
    refine ⟨_, (pss_cons (ps_if (PW.pt (pw_or (pt_not (pt_val (pe_callB (kIsi (K := K)) (by rfl) (T.fr "isinstance" (by decide +kernel)) (by decide +kernel) (pa_cons (pv 0) (pa_cons (pe_bltn (v := .ty "tuple") (u := .type "tuple") (by rfl) (T.fr "tuple" (by decide +kernel)) (by decide +kernel) rfl) pa_nil))))) (pw_or1 (pt_not (pt_val (pe_callB (kAll (K := K) rfl) (by rfl) (T.fr "all" (by decide +kernel)) (by decide +kernel) (pa_cons (pe_lc (own := [("word", 1)]) (g := gName 1) (by rfl) scWords.nd (iT (K := K) (pv 0)) (blkOk_by (own := [("word", 1)]) (N := ["value", "word"]) (sc := defScope sWords) (by decide +kernel)) (fun _ _ _ _ _ => (pg_name (i := 1) scWords.nd rfl (Or.inl rfl))) (fun _ _ _ _ _ => pts_nil) (fun _ _ _ _ _ => (pe_and (pe_callB (kIsi (K := K)) (by rfl) (T.fr "isinstance" (by decide +kernel)) (by decide +kernel) (pa_cons (pv 1) (pa_cons (pe_bltn (v := .ty "str") (u := .type "str") (by rfl) (T.fr "str" (by decide +kernel)) (by decide +kernel) rfl) pa_nil))) (pe_one (pe_cmpR (oIn (K := K)) (pv 1) (pe_glob (v := .ref aW) (by rfl) cW rfl) (by rfl)))))) pa_nil))))))) (pss_one (ps_ret pe_bl)) pss_nil)
      (pss_one (ps_ret (pe_cmpR (oEqD (K := K) hr.units) (pe_callTy (kList (K := K)) (by rfl) (T.fr "list" (by decide +kernel)) (by decide +kernel) (pa_cons (pv 0) pa_nil)) (pe_callB (kSortM (w := w) rfl) (by rfl) (T.fr "sorted" (by decide +kernel)) (by decide +kernel) (pa_cons (pe_callTy (kSet (K := K) (w := w) rfl) (by rfl) (T.fr "set" (by decide +kernel)) (by decide +kernel) (pa_cons (pv 0) pa_nil)) pa_nil)) (nomark _))))), ?_⟩
    refine ⟨_, rfl, v, _, _, _, _, rfl, .ty "tuple", dp_ty hd, kitD d (by decide), _, rfl, ?_⟩
    cases d with
    | tuple ds =>
      cases hd with
      | @tup a xs _ hS hA =>
      have hlen : xs.length = ds.length := DpAll.len hA
      have h64 := h64 ds rfl
      have en : isWordsD (.tuple ds) = (ds.all isWordD && ascS (ds.map strOf)) := rfl
      rw [en] at k
      refine iteF ?_
      refine ⟨_, rfl, a, rfl, ⟨_, hS⟩, fun D hD => ?_⟩
      refine lc_it walk_tup (Cv H D fun i => ((ds.take i).map isWordD).map V.bl) (cv0 hD rfl) (fun i H2 _ p => SqT.same p.1 hS) (fun i y H2 H3 hi p q => ?_) (fun H2 p => ?_)
      · obtain ⟨rfl, hy⟩ := q
        obtain ⟨e, he, hde⟩ := DpAll.at hA hy
        have hde := Dp.same p.1 e hde
        have fin : ∃ acc, H3 D = some (.lst acc) ∧ acc.length < sizeLine ∧ Cv H D (fun i => ((ds.take i).map isWordD).map V.bl) (i + 1) (upd H3 D (.lst (acc ++ [.bl (isWordD e)]))) := by
          refine cv_yes hD p.1 p.2 ?_ ?_
          · simp only [List.length_map, List.length_take]
            omega
          · rw [snoc_at isWordD he, List.map_append]
            rfl
        refine ⟨rfl, ?_⟩
        refine lc_yes ?_
        refine ⟨_, rfl, y, _, _, _, _, rfl, .ty "str", dp_ty hde, kitD e (by decide), _, rfl, ?_⟩
        cases e with
        | str x =>
          cases hde
          refine iteT ?_
          refine ⟨_, rfl, aW, _, rfl, .inr (hW H3), rfl, flat_strs allWords, ?_⟩
          show ∃ acc, H3 D = some (.lst acc) ∧ acc.length < sizeLine ∧ Cv H D (fun i => ((ds.take i).map isWordD).map V.bl) (i + 1) (upd H3 D (.lst (acc ++ [.bl (inV (.str x) (allWords.map V.str))])))
          rw [inV_strs]
          exact fin
        | _ =>
          refine iteF ?_
          exact fin
      · have hp2 : H2 D = some (.lst ((ds.map isWordD).map V.bl)) := by
          have z := p.2
          rw [hlen] at z
          dsimp only at z
          rw [List.take_length] at z
          exact z
        refine ⟨D, ds.map isWordD, rfl, SqL.of hp2, _, rfl, ?_⟩
        have e2 : (ds.map isWordD).all id = ds.all isWordD := by rw [List.all_map]; rfl
        rw [e2]
        cases h3 : ds.all isWordD with
        | false =>
          rw [h3] at k
          refine iteT ?_
          exact k H2 p.1
        | true =>
          rw [h3] at k
          refine iteF ?_
          obtain ⟨eds, hok⟩ := words_strs h3
          have hvs : xs = (ds.map strOf).map V.str := by
            rw [eds] at hA
            exact dp_strs hA
          have hS2 : SqT K H2 a ((ds.map strOf).map V.str) := by rw [← hvs]; exact SqT.same p.1 hS
          refine ⟨_, rfl, a, _, rfl, .inr hS2, fun l hl => ?_⟩
          have s3 : Same H2 (upd H2 l (.lst ((ds.map strOf).map V.str))) := same_new (Same.refl H2) hl
          refine ⟨_, rfl, a, (ds.map strOf).map Sum.inr, rfl, .inr (by rw [kv_strs]; exact SqT.same s3 hS2), ?_, fun q hq => ?_⟩
          · simp only [List.length_map]
            omega
          rw [ofKeys_strs]
          refine ⟨q, setS (ds.map strOf), rfl, upd_same, ?_, fun ys r py sy hr => ?_⟩
          · have := setS_len (ds.map strOf)
            rw [List.length_map] at this
            omega
          have ey := srtS_only py sy
          subst ey
          have nlq : l ≠ q := fun z => by rw [← z, upd_same] at hq; cases hq
          have nlr : l ≠ r := fun z => by rw [← z, upd_ne nlq, upd_same] at hr; cases hr
          have oks : okS (ds.map strOf) := fun x hx => ok_allWords x (hok x hx)
          have okt : okS (srtS (setS (ds.map strOf))) := fun x hx => by
            have h1 : x ∈ setS (ds.map strOf) := (srtS_perm _).mem_iff.mp hx
            have h2 : (Sum.inr x : Key) ∈ SM.ofKeys ((ds.map strOf).map Sum.inr) := by rw [ofKeys_strs]; exact List.mem_map_of_mem h1
            rcases (ofKeys_mem _ _ _).mp h2 with z | z
            · cases z
            · obtain ⟨y, hy, e⟩ := List.mem_map.mp z
              cases e
              exact oks x hy
          refine ⟨.list ((ds.map strOf).map .str), .list ((srtS (setS (ds.map strOf))).map .str), .lst (SqL.of (xs := (ds.map strOf).map V.str) ?_) (dpAll_strs _), .lst (SqL.of upd_same) (dpAll_strs _), shaped_strs oks, shaped_strs okt, ?_⟩
          · rw [upd_ne nlr, upd_ne nlq, upd_same]
          · have e6 : PyData.eqv (.list ((ds.map strOf).map .str)) (.list ((srtS (setS (ds.map strOf))).map .str)) = ascS (ds.map strOf) := eqvAll_strs _ _
            rw [e6]
            refine k _ (p.1.trans (s3.trans ?_))
            exact same_new (same_new (Same.refl _) hq) hr
    | _ =>
      refine iteT ?_
      refine iteT ?_
      exact k H (Same.refl H)
end
end HP

namespace HP
open PySem PySem.Spec PyProof.Rows L2
/-! ### raising the program's own errors -/
def veB : List Value := [.type "ValueError", .type "Exception", .type "BaseException", .type "object"]
/-- an error class without an __init__ of its own -/
structure Exc0 (K : PySem.W.Frag) (mg : Str → Option Value) (x : Str) (C : Addr) : Prop where
  gC : mg x = some (.ref C)
  ex : PySem.W.excIn K C veB "ValueError.__new__" = true
  kC : PySem.W.keepIn K (.ref C) = true
  sub : PySem.W.subIn K (.ref C) (.type "BaseException") = some true
  ty : PySem.W.typeIn K (.ref C) = some (.type "type")
/-- an error class whose __init__ stores one field -/
structure Exc1 (P : Program) (w : World) (K : PySem.W.Frag) (mg : Str → Option Value) (base : Heap) (x : Str) (C : Addr) (f : Str) (sp : Sp) : Prop where
  gC : mg x = some (.ref C)
  oc : OexC K C
  fn : ∃ (fI : Addr) (fd : FuncData) (ps : List Str), PySem.W.findIn K (.ref C) "__init__" = some (some (.ref fI)) ∧ PySem.W.typeIn K (.ref fI) = some (.type "function") ∧ Binds K fd ps [] ∧ FnOk P w K mg base CX0 1 fI fd ps sp
def spInit1 (C : Addr) (f : Str) : Sp := fun vs H Q _ => ∃ (a : Addr) (y : V), vs = [.ref a, y] ∧ H a = some (exo a C none) ∧ ∀ dx, H dx = none → dx ≠ a → Q .non (upd (upd H dx (exd dx [(f, y)])) a (exo a C (some dx)))
section
variable {X : Cx} {C : Addr} {x f : Str} {e : Expr} {te : TE} {W : WX} {p pos pos2 : Pos}
/-- x() -/
theorem pmk0 (T : Exc0 X.K X.mg x C) (hg : Gl X x := by rfl) (hdb : (x == ("__debug__" : Str)) = false := by decide) : PMk X (.Call (.Name x p) [] [] pos) (fun _ H Q => Q (.ref C) none H) := by
  intro pins s σ H Q I h
  refine wpAny_Call_Name_kw (ld_glob I hg T.gC ?_ hdb)
  refine PySem.W.callWith_K0 I.kIn T.kC ?_
  show wpAny _ _ (call (.ref C) []) _ _ _
  obtain ⟨bm, N, nm, qn, bs, hdct, sn, sub, ab, col, dd, k0, k1, k2, k3, k5, mN, hC, hN, hni, T2⟩ := exc_obj I.kIn T.ex
  refine wpAny_call_exc_subT PySem.F.excBase_ValueError T2 hC hN hni (fun h' e hm => ?_) (by show 0 ≤ sizeLine; exact Nat.zero_le _)
  exact mk_of I hm (raises_own T.sub T.ty) h (I.hok.gone hm.new)
/-- raise x() -/
def tRaise0 (C : Addr) (W : WX) : TS := fun _ σ H => W (.ref C) none σ H
theorem ps_raise0 (T : Exc0 X.K X.mg x C) (hc : X.calm = true) (tk : Takes X W) (hg : Gl X x := by rfl) (hdb : (x == ("__debug__" : Str)) = false := by decide) :
    PS X (.Raise (some (.Call (.Name x p) [] [] pos)) none pos2) (tRaise0 C W) := ps_raise hc tk (pmk0 T hg hdb)
/-- raise x(e) -/
def tRaise1 (C : Addr) (f : Str) (W : WX) (te : TE) : TS := fun _ σ H => te σ H fun v H1 => ∀ d, H1 d = none → W (.ref C) (some d) σ (upd H1 d (.xd [(f, v)]))
theorem ps_raise1 {n : Nat} (T : Exc1 X.prog X.w X.K X.mg X.base x C f (spInit1 C f)) (hc : X.calm = true) (hr : Room n X.A) (hn : 2 ≤ n) (tk : Takes X W) (he : PE X e te) (mono : ∀ σ H (A B : VK), (∀ v H, A v H → B v H) → te σ H A → te σ H B) (hg : Gl X x := by rfl) (hdb : (x == ("__debug__" : Str)) = false := by decide)
    (hs : starEach [e] X.env = (false, eval e X.env) :: starEach [] X.env := by rfl) (hpl : (backTo pos (starEach [] X.env)).any (·.1) = false := by rfl) :
    PS X (.Raise (some (.Call (.Name x p) [e] [] pos)) none pos2) (tRaise1 C f W te) := by
  obtain ⟨fI, fd, ps, iC, tI, hb, F1⟩ := T.fn
  have hE := ps_raise (pos := pos2) hc tk (pmk_oex (pos := pos) (p := p) T.oc iC tI F1 (hr.mono hn) hb .nil (fun _ _ _ _ _ _ _ h => h.elim) hg T.gC (pa_cons he pa_nil hs) hdb hs hpl)
  refine ⟨fun pins s σ H D I h => hE.run pins s σ H D I ?_⟩
  refine mono σ H _ _ (fun v H1 q => ?_) h
  refine ⟨by show 1 ≤ 1000; decide, fun a ha => ⟨a, v, rfl, upd_same, fun dx hdx nda => ⟨rfl, dx, [(f, v)], upd_same, ?_, ?_, ?_⟩⟩⟩
  · rw [upd_ne nda, upd_same]
  · rw [upd_ne nda] at hdx
    exact hdx
  · rw [upd_ne nda] at hdx
    have e : upd (del (upd (upd (upd H1 a (exo a C none)) dx (exd dx [(f, v)])) a (exo a C (some dx))) a) dx (.xd [(f, v)]) = upd H1 dx (.xd [(f, v)]) := by
      funext b
      by_cases h1 : b = dx
      · subst h1; rw [upd_same, upd_same]
      · rw [upd_ne h1, upd_ne h1]
        by_cases h2 : b = a
        · subst h2; rw [del_same]; exact ha.symm
        · rw [del_ne h2, upd_ne h2, upd_ne h1, upd_ne h2]
    rw [e]
    exact q dx hdx
end
end HP

namespace HP
open PySem PySem.Spec PyProof.Rows L2
/-! ### a dict of the written part: its keys walked, list(d), d[k], k in d -/
/-- at d: a dict of the written part with these pairs -/
structure WD (P : Program) (w : World) (K : PySem.W.Frag) (d : Addr) (kvs : List (Key × V)) : Prop where
  sm : (d == sysModules) = false
  ex : ∃ (o : Obj) (es : Array DictEntry) (ep : Nat) (vs : List (Key × Value)), K.lookup d = some o ∧ o.ExactDict ∧ o.data = .dict es ep ∧ KV kvs vs ∧ KeysOf (mixKind P w) es ∧ Pairs (mixKind P w) es.toList vs ∧ (vs.map (·.1)).Nodup
section
variable {X : Cx} {pins : List (Addr × Obj)} {σ : L2.St} {H : Hp} {s : Shared} {d : Addr} {kvs : List (Key × V)} {K : PySem.W.Frag} {P : Program} {w : World} {tg e : Expr} {td : TE}
theorem WD.got (D : WD X.prog X.w X.K d kvs) (I : L2.Inv X pins σ H s) : ∃ (o : Obj) (es : Array DictEntry) (ep : Nat) (vs : List (Key × Value)), s.heap.get? d = some o ∧ o.ExactDict ∧ o.data = .dict es ep ∧ es.size = kvs.length ∧ KV kvs vs ∧ s.heap.DictAt (mixKind X.prog X.w) d vs ep := by
  obtain ⟨o, es, ep, vs, hl, hx, hd, kv, k1, k2, k3⟩ := D.ex
  have ho := I.kIn d o hl
  refine ⟨o, es, ep, vs, ho, hx, hd, ?_, kv, o, es, ho, hx, hd, k1, k2, k3⟩
  have l1 := k2.length
  have l2 : kvs.length = vs.length := Paired.length kv
  rw [Array.length_toList] at l1
  omega
def ItW (kvs : List (Key × V)) : It := ⟨fun i _ => i < kvs.length, fun i H x H' => H' = H ∧ ∃ k v, kvs[i]? = some (k, v) ∧ x = kV k, fun i _ => kvs.length ≤ i⟩
theorem turnW {o : Obj} {es : Array DictEntry} {ep : Nat} (D : WD P w K d kvs) (hlk : K.lookup d = some o) (hod : o.data = .dict es ep) (it : Addr) : Turn P w K tg (ItW kvs) [it] it (fun i h => h.IsKeyIter it d i kvs.length ep) where
  mem := by simp
  obj := fun i h st b hb => by
    have e : b = it := by simpa using hb
    subst e
    obtain ⟨oi, e, c, dd⟩ := st
    exact ⟨oi, e, fun v z => by rw [dd] at z; cases z⟩
  keep := fun i h h' st k => st.at fun oi e => k it (by simp) oi e
  item := by
    intro X hP hw hK hc i pins s σ H E I hf st hg
    subst hP hw hK
    obtain ⟨f0, f1, f2, f3, f4, f5⟩ := hf it (by simp)
    obtain ⟨o', es', ep', vs, ho', hx, hdt, hsz, kv, hm⟩ := D.got I
    have eo : o' = o := Option.some.inj (ho'.symm.trans (I.kIn d o hlk))
    subst eo
    obtain ⟨rfl, rfl⟩ := dict_ep hod hdt
    obtain ⟨⟨k, v⟩, hkv⟩ : ∃ p, kvs[i]? = some p := ⟨kvs[i], List.getElem?_eq_getElem hg⟩
    obtain ⟨u, hu, ru⟩ := kv_get kv hkv
    have hl : kvs.length = vs.length := Paired.length kv
    rw [hl] at st
    refine wpAny_pyNext_dict_item st hm hu fun key h' hkey st' sb => ?_
    have I1 : L2.Inv X pins σ H { s with heap := h' } := I.turned (t' := s.toks) (fun b ob hb e => (sb.2 b hb).trans e) f0 f1 f3 f4 f5
    obtain ⟨oi, e, c, dd⟩ := id st'
    refine ⟨key, rfl, go_of (s := { s with heap := h' }) e c dd (by decide) ⟨kV k, H, I1, relV_key (show keyIs k key = true from hkey), ⟨rfl, k, v, hkv, rfl⟩, ?_, fun b hb => (hf b hb).1⟩⟩
    show h'.IsKeyIter it d (i + 1) kvs.length _
    rw [hl]
    exact st'
  done := by
    intro X hP hw hK hc i pins s σ H E I hf st hg
    subst hP hw hK
    obtain ⟨f0, f1, f2, f3, f4, f5⟩ := hf it (by simp)
    obtain ⟨o', es', ep', vs, ho', hx, hdt, hsz, kv, hm⟩ := D.got I
    have eo : o' = o := Option.some.inj (ho'.symm.trans (I.kIn d o hlk))
    subst eo
    obtain ⟨rfl, rfl⟩ := dict_ep hod hdt
    exact next_key_end (I.ok.hd hc) st ho' hdt hsz hg fun h' eb => ⟨rfl, I.turned (t' := s.toks) (fun b ob hb e => eb b ob hb e) f0 f1 f3 f4 f5⟩
  self := fun A i s Q E st h => wpAny_pyIter_keyiter st h
def iW (d : Addr) (kvs : List (Key × V)) (td : TE) : TI := fun σ H R => td σ H fun x H1 => x = .ref d ∧ R (ItW kvs) H1
theorem pi_keysW (D : WD X.prog X.w X.K d kvs) (he : PE X e td) : PI X tg e (iW d kvs td) := by
  refine ⟨fun pins s σ H R I h => ?_⟩
  refine thn (he.run pins s σ H _ I h) fun u s1 ⟨x, H1, I1, rx, ex, q⟩ => ?_
  subst ex
  obtain rfl : u = Value.ref d := rx
  obtain ⟨o, es, ep, vs, ho, hx, hdt, hsz, kv, hm⟩ := D.got I1
  obtain ⟨o2, _, _, _, hl, _⟩ := D.ex
  have eo : o2 = o := Option.some.inj ((I1.kIn d o2 hl).symm.trans ho)
  subst eo
  refine iter_keys D.sm ho hx hdt (pi_one (tk := s1.toks) I1 _ (turnW D hl hdt _) ⟨_, Heap.get?_push_size _ rfl, rfl, ?_⟩ q)
  rw [hsz] <;> rfl
theorem walkW : Walk (ItW kvs) kvs.length (fun _ => True) (fun i H x H' => H' = H ∧ ∃ k v, kvs[i]? = some (k, v) ∧ x = kV k) :=
  ⟨fun _ _ hi _ => hi, fun _ _ => Nat.le_refl _, fun _ _ _ _ _ _ y => y⟩
/-- list(d) -/
def rListW (d : Addr) (kvs : List (Key × V)) : List V → Hp → VK → Prop := fun xs H Q => xs = [.ref d] ∧ ∀ q, H q = none → Q (.ref q) (upd H q (.lst (kvs.map fun kv => kV kv.1)))
theorem call_listW (D : WD X.prog X.w X.K d kvs) (hz : kvs.length ≤ 1000) (hc : X.calm = true) : CallR X (.type "list") (rListW d kvs) := by
  intro pins s σ H xs us Q I r h
  obtain ⟨e, q⟩ := h
  subst e
  obtain ⟨u, eu, rx⟩ := vals1 r
  subst eu
  obtain rfl : u = Value.ref d := rx
  obtain ⟨o, es, ep, vs, ho, hx, hdt, hsz, rk, hat⟩ := D.got I
  have hl : kvs.length = vs.length := Paired.length rk
  have z : kvs.length ≤ sizeLine := Nat.le_trans hz (by decide)
  refine PySem.W.kdl_call (PySem.W.kdl_dict (knd := mixKind X.prog X.w) (kvs := vs) (ep := ep) D.sm) (I.ok.hd hc) hat (by rw [← hl]; exact z) fun h' tk acc' c' hkeep hS hacc => ?_
  refine ⟨.ref s.heap.objs.size, upd H s.heap.objs.size (.lst (kvs.map fun kv => kV kv.1)), I.laid hkeep (Nat.le_refl _) (show ObjOk X.prog X.w _ _ _ (.lst (kvs.map fun kv => kV kv.1)) from ⟨?_, acc'.toList, c', ?_, ?_⟩), rfl, q _ (I.hok.fresh (Nat.le_refl _))⟩
  · rw [List.length_map]; exact z
  · have el : acc'.toList.length = acc'.size := by simp
    refine vals_of_at (by rw [List.length_map, el, hacc.1, hl]) fun j x w h1 h2 => ?_
    obtain ⟨k, y, hky, hi⟩ := hacc.2 j w (by rw [← Array.getElem?_toList]; exact h2)
    have e1 : (kvs.map (·.1))[j]? = some k := by
      rw [KV.keys rk, List.getElem?_map, hky] <;> rfl
    have e2 : (kvs.map fun kv => kV kv.1)[j]? = some (kV k) := by
      have e3 : (kvs.map fun kv => kV kv.1) = (kvs.map (·.1)).map kV := by rw [List.map_map] <;> rfl
      rw [e3, List.getElem?_map, e1] <;> rfl
    rw [e2] at h1
    cases h1
    exact keyIs_rel hi
  · rw [Array.toArray_toList]; exact hS
/-- d[k] -/
def rIxW (d : Addr) (kvs : List (Key × V)) : R2 := fun x y H Q => ∃ (k : Key) (v : V), x = .ref d ∧ y = kV k ∧ valV kvs k = some v ∧ Q v H
theorem ixW (D : WD X.prog X.w X.K d kvs) : IxR X (rIxW d kvs) := by
  intro value slice pins s σ H x y v u Q I rx ry h hs
  obtain ⟨k, v0, rfl, rfl, e, q⟩ := h
  obtain rfl : v = Value.ref d := rx
  obtain ⟨o, es, ep, vs, ho, hx, hdt, hsz, rk, hat⟩ := D.got I
  obtain ⟨w', hw, rw'⟩ := RelO.some_of (v := v0) (o := valueAt vs k) (by rw [← e]; exact rk.val k)
  exact tail_any hat.dictOf.mapOf.typeIs slot_dict_getitem.lookup (wpAny_getItem_of (kV_is ry) hat.dictOf.mapOf hw ⟨v0, H, I.tok _, rw', q⟩) hs
def rInW (d : Addr) (kvs : List (Key × V)) (neg : Bool) : R2 := fun x y H Q => ∃ k : Key, x = kV k ∧ y = .ref d ∧ Q (.bl (if neg then !(valV kvs k).isSome else (valV kvs k).isSome)) H
theorem inW (D : WD X.prog X.w X.K d kvs) : OpR X (compareOp .In) (rInW d kvs false) := by
  intro pins s σ H x y v u Q I rx ry h
  obtain ⟨k, rfl, rfl, q⟩ := h
  cases ry
  obtain ⟨o, es, ep, vs, ho, hx, hdt, hsz, rk, hat⟩ := D.got I
  refine wpAny_in_of (kV_is rx) D.sm hat.dictOf.mapOf ?_
  rw [← (rk.val k).isSome_eq]
  exact ⟨.bl (valV kvs k).isSome, H, I.tok _, rfl, q⟩
theorem notInW (D : WD X.prog X.w X.K d kvs) : OpR X (compareOp .NotIn) (rInW d kvs true) := by
  intro pins s σ H x y v u Q I rx ry h
  obtain ⟨k, rfl, rfl, q⟩ := h
  cases ry
  obtain ⟨o, es, ep, vs, ho, hx, hdt, hsz, rk, hat⟩ := D.got I
  refine wpAny_notIn_of (kV_is rx) D.sm hat.dictOf.mapOf ?_
  rw [← (rk.val k).isSome_eq]
  exact ⟨.bl (!(valV kvs k).isSome), H, I.tok _, rfl, q⟩
end
end HP

namespace HP
open PySem PySem.Spec PyProof.Rows L2
abbrev sLook : Stmt := top 17
/-! ### a rule -/
theorem monoC {v : V} : ∀ (σ : L2.St) (H : Hp) (A B : VK), (∀ v H, A v H → B v H) → tC v σ H A → tC v σ H B := fun _ _ _ _ h q => h _ _ q
theorem monoV {i : Nat} : ∀ (σ : L2.St) (H : Hp) (A B : VK), (∀ v H, A v H → B v H) → tVar i σ H A → tVar i σ H B := fun _ _ _ _ h ⟨v, e, q⟩ => ⟨v, e, h _ _ q⟩
def partNames : List Str := ["asleep", "changing", "count", "first", "ring", "sorting"]
theorem ok_partNames : okS partNames := by
  show ∀ x ∈ partNames, PyData.strOk x = true
  decide +kernel
def partWords (p : Str) : List Str :=
  if p = "asleep" then ["keep", "drop"] else if p = "changing" then ["keep", "clear"] else if p = "count" then ["all", "rest"] else if p = "first" then ["newer", "elder"] else if p = "ring" then ["refuse", "turn"] else ["keep", "clear"]
/-- the table PARTS -/
structure Pt (P : Program) (w : World) (K : PySem.W.Frag) (mg : Str → Option Value) (d : Addr) (pa : Str → Addr) : Prop where
  gl : mg "PARTS" = some (.ref d)
  wd : WD P w K d (partNames.map fun p => (Sum.inr p, V.ref (pa p)))
  tup : ∀ p ∈ partNames, ∀ H, SqT K H (pa p) ((partWords p).map V.str)
/-- a dict of data -/
def DicAt (K : PySem.W.Frag) (H : Hp) (a : Addr) (kds : List (Key × PyData)) : Prop := ∃ kvs, H a = some (.dK kvs) ∧ Paired (fun (p : Key × V) (q : Key × PyData) => p.1 = q.1 ∧ Dp K H p.2 q.2) kvs kds
def valD (kds : List (Key × PyData)) (k : Key) : Option PyData := (kds.find? fun kv => decide (kv.1 = k)).map (·.2)
theorem valD_of {K : PySem.W.Frag} {H : Hp} : ∀ {kvs : List (Key × V)} {kds : List (Key × PyData)}, Paired (fun (p : Key × V) (q : Key × PyData) => p.1 = q.1 ∧ Dp K H p.2 q.2) kvs kds → ∀ {k : Key} {d : PyData}, valD kds k = some d → ∃ v, valV kvs k = some v ∧ Dp K H v d
  | _, _, .nil, k, d, h => by cases h
  | p :: kvs, q :: kds, .cons r t, k, d, h => by
    unfold valD at h
    unfold valV
    rw [List.find?_cons] at h ⊢
    rw [r.1]
    cases e : decide (q.1 = k) with
    | true =>
      rw [e] at h
      cases h
      exact ⟨p.2, rfl, r.2⟩
    | false =>
      rw [e] at h
      exact valD_of t h
/-- what is handed in as a rule: no dict, or a dict -/
inductive RuleV (K : PySem.W.Frag) (H : Hp) : V → Option (List (Key × PyData)) → Prop where
  | dat {v : V} {d : PyData} (h : Dp K H v d) : RuleV K H v none
  | dic {a : Addr} {kds : List (Key × PyData)} (h : DicAt K H a kds) : RuleV K H (.ref a) (some kds)
def isTxt : Key → Bool
  | .inr _ => true
  | .inl _ => false
def txt : Key → Str
  | .inr x => x
  | .inl _ => Str.empty
/-- the word d of the part p is one of its words -/
def goodPart (p : Str) : Option PyData → Bool
  | some (.str x) => decide (x ∈ partWords p)
  | _ => false
/-- the fault of a rule, none: it has none -/
def faultD (kds : List (Key × PyData)) : Option Str :=
  if (kds.map (·.1)).all isTxt = true then
    if srtS ((kds.map (·.1)).map txt) = partNames then partNames.find? fun p => !goodPart p (valD kds (Sum.inr p)) else some ("" : Str)
  else some ("" : Str)
def faultOf : Option (List (Key × PyData)) → Option Str
  | none => some ("" : Str)
  | some kds => faultD kds
section
variable {P : Program} {w : World} {K : PySem.W.Frag} {mg : Str → Option Value} {base : Heap}
def spLook (K : PySem.W.Frag) (C : Addr) : Sp := fun vs H Q E => ∃ (v : V) (r : Option (List (Key × PyData))), vs = [v] ∧ RuleV K H v r ∧ (∀ kds, r = some kds → kds.length < 64 ∧ okS ((kds.map (·.1)).map txt)) ∧
  (faultOf r = none → ∀ H', Same H H' → Q .non H') ∧
  ∀ p, faultOf r = some p → ∀ H' d, Same H H' → H d = none → H' d = some (.xd [("part", .str p)]) → E (.ref C) (some d) H'
theorem scLook : FnScope ["rule", "part"] ["rule"] (defScope sLook) := ⟨rfl, rfl, rfl, by decide +kernel, rfl, by decide +kernel, by decide +kernel⟩
theorem ok_look {C dP : Addr} {pa : Str → Addr} (D : Dat K mg "look_at_rule" sLook) (T : Fr mg) (Z : Pt P w K mg dP pa) (XR : Exc1 P w K mg base "InvalidRule" C "part" (spInit1 C "part")) : Fn P w K mg base (L2.CX P w) 3 "look_at_rule" (spLook K C) := by
  refine Fn.of D scLook (fun _ _ _ _ _ _ us hl => match us, hl with | [_], _ => rfl) (fun vs H Q E h => ?_) (fun f cdv A outer s H vs Q E hr h => ?_)
  · obtain ⟨v, d, rfl, _⟩ := h
    rfl
  · obtain ⟨v, r, rfl, hv, hsz, kQ, kE⟩ := h
    have hu : _ < cLine := hu_of hr
    refine ⟨_, (pss_cons (ps_if (PW.pt (pw_or (pt_not (pt_val (pe_callB (kIsi (K := K)) (by rfl) (T.fr "isinstance" (by decide +kernel)) (by decide +kernel) (pa_cons (pv 0) (pa_cons (pe_bltn (v := .ty "dict") (u := .type "dict") (by rfl) (T.fr "dict" (by decide +kernel)) (by decide +kernel) rfl) pa_nil))))) (pw_or1 (pt_not (pt_val (pe_callB (kAll (K := K) rfl) (by rfl) (T.fr "all" (by decide +kernel)) (by decide +kernel) (pa_cons (pe_lock (pe_lc (own := [("part", 1)]) (g := gName 1) (by rfl) scLook.nd (pi_keys (pv 0)) (blkOk_by (own := [("part", 1)]) (N := ["rule", "part"]) (sc := defScope sLook) (by decide +kernel)) (fun _ _ _ _ _ => (pg_name (i := 1) scLook.nd rfl (Or.inl rfl))) (fun _ _ _ _ _ => pts_nil) (fun _ _ _ _ _ => (pe_callB (kIsi (K := K)) (by rfl) (T.fr "isinstance" (by decide +kernel)) (by decide +kernel) (pa_cons (pv 1) (pa_cons (pe_bltn (v := .ty "str") (u := .type "str") (by rfl) (T.fr "str" (by decide +kernel)) (by decide +kernel) rfl) pa_nil)))))) pa_nil))))))) (pss_one (ps_raise1 XR rfl hr (by decide) (takes_of rfl rfl rfl rfl) pe_str monoC)) pss_nil)
      (pss_cons (ps_if (pt_cmpR (oNeD (K := K) hr.units) (pe_callB (kSortS (K := K)) (by rfl) (T.fr "sorted" (by decide +kernel)) (by decide +kernel) (pa_cons (pe_callTy (call_list_dK rfl) (by rfl) (T.fr "list" (by decide +kernel)) (by decide +kernel) (pa_cons (pv 0) pa_nil)) pa_nil)) (pe_callTy (call_listW Z.wd (by rw [List.length_map]; decide) rfl) (by rfl) (T.fr "list" (by decide +kernel)) (by decide +kernel) (pa_cons (pe_glob (v := .ref dP) (by rfl) Z.gl rfl) pa_nil)) (nomark _)) (pss_one (ps_raise1 XR rfl hr (by decide) (takes_of rfl rfl rfl rfl) pe_str monoC)) pss_nil)
      (pss_one (ps_for (passes_of rfl) rfl (pi_keysW Z.wd (pe_glob (v := .ref dP) (by rfl) Z.gl rfl)) (pg_name (i := 1) scLook.nd rfl (Or.inl rfl)) (pss_one (ps_if (PW.pt (pw_or (pt_not (pt_val (pe_callB (kIsi (K := K)) (by rfl) (T.fr "isinstance" (by decide +kernel)) (by decide +kernel) (pa_cons (pe_dget hu (pv 0) (pv 1) (fun _ _ => rfl)) (pa_cons (pe_bltn (v := .ty "str") (u := .type "str") (by rfl) (T.fr "str" (by decide +kernel)) (by decide +kernel) rfl) pa_nil))))) (pw_or1 (pt_cmpR (oNotIn (K := K)) (pe_dget hu (pv 0) (pv 1) (fun _ _ => rfl)) (pe_ix (ixW Z.wd) (pe_glob (v := .ref dP) (by rfl) Z.gl rfl) (pv 1) (fun _ _ => rfl)) (by rfl))))) (pss_one (ps_raise1 XR rfl hr (by decide) (takes_of rfl rfl rfl rfl) (pv 1) monoV)) pss_nil)))))), ?_⟩
    have e0 : ∀ H', Same H H' → faultOf r = some ("" : Str) → ∀ d, H' d = none → E (.ref C) (some d) (upd H' d (.xd [("part", .str "")])) := fun H' s e d hd => kE "" e _ d (same_new s hd) (s.free hd) upd_same
    cases hv with
    | @dat v d hd =>
      have nd : tyD d ≠ "dict" := by cases hd <;> simp [tyD]
      have en : isaB (tyD d) "dict" = false := by
        unfold isaB
        rw [beq_eq_false_iff_ne.mpr nd]
        cases (tyD d == "bool") <;> rfl
      refine ⟨_, rfl, v, _, _, _, _, rfl, .ty "dict", dp_ty hd, kitD d (by decide), _, rfl, ?_⟩
      rw [en]
      refine iteT ?_
      refine iteT ?_
      exact fun d hd => e0 H (Same.refl H) rfl d hd
    | @dic a kds h =>
      obtain ⟨kvs, ha, hp⟩ := h
      obtain ⟨h64, hok⟩ := hsz kds rfl
      have hl : kvs.length = kds.length := Paired.length hp
      have hks : kvs.map (·.1) = kds.map (·.1) := by
        clear ha hl hsz kQ kE e0 h64 hok
        induction hp with
        | nil => rfl
        | cons r t ih => rw [List.map_cons, List.map_cons, r.1, ih]
      refine ⟨_, rfl, .ref a, _, _, _, _, rfl, .ty "dict", .base (.dK ha), kit_ty (r := true) (by decide +kernel), _, rfl, ?_⟩
      refine iteF ?_
      refine ⟨a, .dK kvs, ha, trivial, fun od => ?_⟩
      refine ⟨_, rfl, a, od, rfl, .inl ⟨kvs, upd_same, fun D hD => ?_⟩⟩
      refine lc_it walk_keys (Cv (upd H a (.frz od (.dK kvs))) D fun i => (((kds.map (·.1)).take i).map isTxt).map V.bl) (cv0 hD rfl) (fun i H2 _ p => p.1 a _ upd_same) (fun i y H2 H3 hi p q => ?_) (fun H2 p => ?_)
      · obtain ⟨rfl, k, v, hk, rfl⟩ := q
        refine ⟨rfl, ?_⟩
        refine lc_yes ?_
        have fin : ∃ acc, H3 D = some (.lst acc) ∧ acc.length < sizeLine ∧ Cv (upd H a (.frz od (.dK kvs))) D (fun i => (((kds.map (·.1)).take i).map isTxt).map V.bl) (i + 1) (upd H3 D (.lst (acc ++ [.bl (isTxt k)]))) := by
          refine cv_yes hD p.1 p.2 ?_ ?_
          · simp only [List.length_map, List.length_take]
            omega
          · have hk2 : (kds.map (·.1))[i]? = some k := by rw [← hks, List.getElem?_map, hk]; rfl
            rw [snoc_at isTxt hk2, List.map_append]
            rfl
        cases k with
        | inl n => exact ⟨_, rfl, _, _, _, _, _, rfl, .ty "str", .base (.int n), kit_ty (r := false) (by decide +kernel), fin⟩
        | inr x => exact ⟨_, rfl, _, _, _, _, _, rfl, .ty "str", .base (.str x), kit_ty (r := true) (by decide +kernel), fin⟩
      · have hp2 : H2 D = some (.lst (((kds.map (·.1)).map isTxt).map V.bl)) := by
          have z := p.2
          dsimp only at z
          have e : (kds.map (·.1)).length = kvs.length := by rw [List.length_map]; exact hl.symm
          rw [← e, List.take_length] at z
          exact z
        refine ⟨p.1 a _ upd_same, ?_⟩
        have nDa : D ≠ a := fun z => by rw [z, upd_same] at hD; cases hD
        have s1 : Same H (upd H2 a (.dK kvs)) := fun b o e => by
          by_cases hb : b = a
          · subst hb
            rw [ha] at e
            cases e
            exact upd_same
          · rw [upd_ne hb]
            exact p.1 b o (by rw [upd_ne hb]; exact e)
        generalize eH3 : upd H2 a (.dK kvs) = H3 at s1
        have hD3 : H3 D = some (.lst (((kds.map (·.1)).map isTxt).map V.bl)) := by rw [← eH3, upd_ne nDa]; exact hp2
        refine ⟨D, (kds.map (·.1)).map isTxt, rfl, SqL.of hD3, _, rfl, ?_⟩
        have e2 : ((kds.map (·.1)).map isTxt).all id = (kds.map (·.1)).all isTxt := by rw [List.all_map]; rfl
        rw [e2]
        cases h1 : (kds.map (·.1)).all isTxt with
        | false =>
          refine iteT ?_
          exact fun d hd => e0 H3 s1 (by show faultD kds = _; unfold faultD; rw [h1]; rfl) d hd
        | true =>
          refine iteF ?_
          have hkt : kvs.map (fun kv => kV kv.1) = ((kds.map (·.1)).map txt).map V.str := by
            have e3 : (kvs.map fun kv => kV kv.1) = (kvs.map (·.1)).map kV := by rw [List.map_map]; rfl
            rw [e3, hks, ← kv_strs]
            congr 1
            generalize kds.map (·.1) = l at h1
            clear e3
            induction l with
            | nil => rfl
            | cons k l ih =>
              rw [List.all_cons, Bool.and_eq_true] at h1
              rw [List.map_cons, List.map_cons, ← ih h1.2]
              cases k with
              | inl n => cases h1.1
              | inr x => rfl
          refine ⟨_, rfl, a, kvs, rfl, s1 a _ ha, fun l hl3 => ?_⟩
          rw [hkt]
          have s2 : Same H3 (upd H3 l (.lst (((kds.map (·.1)).map txt).map V.str))) := same_new (Same.refl H3) hl3
          refine ⟨l, (kds.map (·.1)).map txt, rfl, SqL.of upd_same, ?_, fun ys q py sy hq => ?_⟩
          · rw [List.length_map, List.length_map]
            exact h64
          have ey := srtS_only py sy
          subst ey
          have s3 := s2.trans (same_new (o := .lst ((srtS ((kds.map (·.1)).map txt)).map V.str)) (Same.refl _) hq)
          generalize eH4 : upd (upd H3 l (.lst (((kds.map (·.1)).map txt).map V.str))) q (.lst ((srtS ((kds.map (·.1)).map txt)).map V.str)) = H4 at s3
          have hq4 : H4 q = some (.lst ((srtS ((kds.map (·.1)).map txt)).map V.str)) := by rw [← eH4, upd_same]
          refine ⟨rfl, fun m hm => ?_⟩
          have eP : (partNames.map fun p => ((Sum.inr p : Key), V.ref (pa p))).map (fun kv => kV kv.1) = partNames.map V.str := by rw [List.map_map]; rfl
          rw [eP]
          have s4 : Same H4 (upd H4 m (.lst (partNames.map V.str))) := same_new (Same.refl H4) hm
          have nqm : q ≠ m := ne_of_none hq4 hm
          have okt : okS (srtS ((kds.map (·.1)).map txt)) := fun x hx => hok x ((srtS_perm _).mem_iff.mp hx)
          refine ⟨.list ((srtS ((kds.map (·.1)).map txt)).map .str), .list (partNames.map .str), .lst (SqL.of (xs := (srtS ((kds.map (·.1)).map txt)).map V.str) (by rw [upd_ne nqm]; exact hq4)) (dpAll_strs _), .lst (SqL.of upd_same) (dpAll_strs _), shaped_strs okt, shaped_strs ok_partNames, _, rfl, ?_⟩
          have e6 : PyData.eqv (.list ((srtS ((kds.map (·.1)).map txt)).map .str)) (.list (partNames.map .str)) = decide (srtS ((kds.map (·.1)).map txt) = partNames) := eqvAll_strs _ _
          rw [e6]
          have s5 := s1.trans (s3.trans s4)
          by_cases h2 : srtS ((kds.map (·.1)).map txt) = partNames
          · rw [decide_eq_true h2]
            refine iteF ?_
            have hf : faultOf (some kds) = partNames.find? fun p => !goodPart p (valD kds (Sum.inr p)) := by show faultD kds = _; unfold faultD; rw [if_pos h1, if_pos h2]
            refine ⟨rfl, ?_⟩
            refine for_it (walkW (kvs := partNames.map fun p => (Sum.inr p, V.ref (pa p)))) (fun i σ H5 => ∃ v1, σ = [some (.ref a), v1] ∧ Same H H5 ∧ ∀ p ∈ partNames.take i, goodPart p (valD kds (Sum.inr p)) = true) ⟨none, rfl, s5, fun p hp => by cases hp⟩ (fun _ _ _ _ _ => True.intro) ?_ ?_
            · rintro i y σ H5 H6 hi ⟨v1, rfl, s6, hg⟩ ⟨rfl, k, v, hk, rfl⟩
              rw [List.getElem?_map] at hk
              obtain ⟨p, hpi, e⟩ : ∃ p, partNames[i]? = some p ∧ (Sum.inr p, V.ref (pa p)) = (k, v) := by
                cases q : partNames[i]? with
                | none => rw [q] at hk; cases hk
                | some p => rw [q] at hk; exact ⟨p, rfl, Option.some.inj hk⟩
              cases e
              have hpm : p ∈ partNames := List.mem_of_getElem? hpi
              have hin : p ∈ (kds.map (·.1)).map txt := by rw [← h2] at hpm; exact (srtS_perm _).mem_iff.mp hpm
              obtain ⟨d, hd⟩ : ∃ d, valD kds (Sum.inr p) = some d := by
                obtain ⟨k, hk, ek⟩ := List.mem_map.mp hin
                have hkt := List.all_eq_true.mp h1 k hk
                obtain ⟨⟨k', d⟩, hkd, e⟩ := List.mem_map.mp hk
                dsimp only at e
                subst e
                cases k' with
                | inl n => cases hkt
                | inr x =>
                  have ex : x = p := ek
                  subst ex
                  unfold valD
                  cases q : kds.find? (fun kv => decide (kv.1 = Sum.inr x)) with
                  | none =>
                    have := List.find?_eq_none.mp q _ hkd
                    simp at this
                  | some z => exact ⟨z.2, rfl⟩
              obtain ⟨v, hv, hdv⟩ := valD_of hp hd
              have hdv5 := Dp.same s6 d hdv
              have ha5 := s6 a _ ha
              have hgt : DGet H6 a (.str p) (some v) := by
                rw [← hv]
                exact DGet.k (k := Sum.inr p) ha5
              refine ⟨_, rfl, _, rfl, a, v, rfl, hgt, v, _, _, _, _, rfl, .ty "str", dp_ty hdv5, kitD d (by decide), _, rfl, ?_⟩
              have stop : goodPart p (valD kds (Sum.inr p)) = false → faultOf (some kds) = some p := fun hb => by
                rw [hf]
                refine List.find?_eq_some_iff_getElem.mpr ⟨by rw [hb]; rfl, i, (List.getElem?_eq_some_iff.mp hpi).1, (List.getElem?_eq_some_iff.mp hpi).2, fun j hj => ?_⟩
                have hjl : j < partNames.length := Nat.lt_trans hj (List.getElem?_eq_some_iff.mp hpi).1
                have := hg partNames[j] (List.mem_take_iff_getElem.mpr ⟨j, by omega, rfl⟩)
                rw [this]
                rfl
              have go : goodPart p (valD kds (Sum.inr p)) = true → ∀ q ∈ partNames.take (i + 1), goodPart q (valD kds (Sum.inr q)) = true := fun hb q hq => by
                rw [List.take_add_one, hpi] at hq
                rcases List.mem_append.mp hq with hq | hq
                · exact hg q hq
                · rw [List.mem_singleton.mp hq]
                  exact hb
              cases d with
              | str x =>
                cases hdv
                refine iteF ?_
                refine ⟨_, rfl, _, rfl, a, _, rfl, hgt, ?_⟩
                refine ⟨_, rfl, Sum.inr p, V.ref (pa p), rfl, rfl, ?_, ?_⟩
                · have all : ∀ (l : List Str), p ∈ l → valV (l.map fun p => ((Sum.inr p : Key), V.ref (pa p))) (Sum.inr p) = some (.ref (pa p)) := fun l => by
                    induction l with
                    | nil => intro h; cases h
                    | cons z l ih =>
                      intro h
                      unfold valV
                      rw [List.map_cons, List.find?_cons]
                      by_cases hz : z = p
                      · subst hz
                        rw [show decide ((Sum.inr z : Key) = Sum.inr z) = true from decide_eq_true rfl]
                        rfl
                      · rw [show decide ((Sum.inr z : Key) = Sum.inr p) = false from decide_eq_false fun q => hz (Sum.inr.inj q)]
                        rcases List.mem_cons.mp h with h | h
                        · exact absurd h.symm hz
                        · exact ih h
                  exact all partNames hpm
                · refine ⟨pa p, _, rfl, .inr (Z.tup p hpm _), rfl, flat_strs _, _, rfl, ?_⟩
                  rw [inV_strs]
                  have eg : goodPart p (valD kds (Sum.inr p)) = decide (x ∈ partWords p) := by rw [hd]; rfl
                  cases hb : decide (x ∈ partWords p) with
                  | true =>
                    rw [hb] at eg
                    refine iteF ?_
                    exact ⟨_, rfl, s6, go eg⟩
                  | false =>
                    rw [hb] at eg
                    refine iteT ?_
                    refine ⟨_, rfl, fun d hd => ?_⟩
                    exact kE p (stop eg) _ d (same_new s6 hd) (s6.free hd) upd_same
              | _ =>
                refine iteT ?_
                refine iteT ?_
                refine ⟨_, rfl, fun d hd2 => ?_⟩
                exact kE p (stop (by rw [hd]; rfl)) _ d (same_new s6 hd2) (s6.free hd2) upd_same
            · rintro σ H5 ⟨v1, rfl, s6, hg⟩
              refine kQ ?_ H5 s6
              rw [hf]
              refine List.find?_eq_none.mpr fun p hp => ?_
              have e : partNames.take (partNames.map fun p => ((Sum.inr p : Key), V.ref (pa p))).length = partNames := by rw [List.length_map, List.take_length]
              rw [hg p (by rw [e]; exact hp)]
              decide
          · rw [decide_eq_false h2]
            refine iteT ?_
            exact fun d hd => e0 _ s5 (by show faultD kds = _; unfold faultD; rw [if_pos h1, if_neg h2]) d hd
end
end HP

namespace HP
open PySem PySem.Spec PyProof.Rows L2 SlX
abbrev sInit : Stmt := inClass (top 19) 1
/-! ### scenes -/
theorem dc_it {J : It} {n : Nat} {G : Hp → Prop} {Y : Nat → Hp → V → Hp → Prop} (w : Walk J n G Y) {g : TG} {tt : TT} {tk tv : TE} {vs : List Nat} {σ : L2.St} {H1 : Hp} {D : Addr} {Qd : Hp → Prop} (Pv : Nat → Hp → Prop) (h0 : Pv 0 (upd H1 D (.dK []))) (hG : ∀ i H, i ≤ n → Pv i H → G H)
    (hs : ∀ i x H H', i < n → Pv i H → Y i H x H' → g x (wipe σ vs) H' fun σ2 H2 => wipe σ2 vs = wipe σ vs ∧ tt σ2 H2 fun b H3 =>
      if b = true then tk σ2 H3 fun y H4 => tv σ2 H4 fun z H5 => ∃ kvs k, y = kV k ∧ H5 D = some (.dK kvs) ∧ kvs.length < sizeLine ∧ Pv (i + 1) (upd H5 D (.dK (putK kvs k z))) else Pv (i + 1) H3) (hd : ∀ H, Pv n H → Qd H) :
    ∃ W : Nat → Nat → Hp → Prop, (∃ m, W 0 m (upd H1 D (.dK []))) ∧ ∀ i m H, W i m H →
      (J.stop i H ∧ Qd H) ∨ (J.go i H ∧ ∃ Nx : Hp → Prop, (∀ H', Nx H' → ∃ m', m' < m ∧ W (i + 1) m' H') ∧ ∀ x H', J.yld i H x H' → g x (wipe σ vs) H' fun σ2 H2 => wipe σ2 vs = wipe σ vs ∧ tt σ2 H2 fun b H3 =>
        if b = true then tk σ2 H3 fun y H4 => tv σ2 H4 fun z H5 => ∃ kvs k, y = kV k ∧ H5 D = some (.dK kvs) ∧ kvs.length < sizeLine ∧ Nx (upd H5 D (.dK (putK kvs k z))) else Nx H3) := by
  refine ⟨fun i m H => m = n - i ∧ i ≤ n ∧ Pv i H, ⟨n, by simp, Nat.zero_le _, h0⟩, ?_⟩
  rintro i m H ⟨rfl, hi, p⟩
  have q := hG i H hi p
  by_cases hlt : i < n
  · refine .inr ⟨w.goes i H hlt q, Pv (i + 1), fun H' p' => ⟨n - (i + 1), by omega, rfl, hlt, p'⟩, fun x H' y => hs i x H H' hlt p (w.yields i H x H' hlt q y)⟩
  · have e : i = n := by omega
    subst e
    exact .inl ⟨w.stops H q, hd H p⟩
theorem not_in_take {α : Type} {l : List α} (nd : l.Nodup) {j : Nat} {x : α} (h : l[j]? = some x) : x ∉ l.take j := fun hm => by
  obtain ⟨hj, e⟩ := List.getElem?_eq_some_iff.mp h
  have e2 : l.take j ++ l.drop j = l := List.take_append_drop j l
  rw [← e2, List.nodup_append] at nd
  refine nd.2.2 x hm x ?_ rfl
  rw [List.drop_eq_getElem_cons hj, e]
  exact List.mem_cons_self
theorem nodup_parts : partNames.Nodup := by decide +kernel
/-- the places of the slots -/
structure SlC (K : PySem.W.Frag) (C : Addr) : Prop where
  cls : SCls K C
  names : ∃ p, Slot1 K C "names" p 0
  size : ∃ p, Slot1 K C "size" p 2
  policy : ∃ p, Slot1 K C "policy" p 1
  told : ∃ p, Slot1 K C "told" p 3
/-- what a scene is made of -/
structure Sc where
  names : List Str
  many : Int
  word : Str → Str
  words : List Str
def Sc.pol (s : Sc) : List (Key × V) := partNames.map fun p => (Sum.inr p, V.str (s.word p))
/-- at a: the scene s, its parts at n, q, t -/
def SceneAt (K : PySem.W.Frag) (C : Addr) (H : Hp) (a : Addr) (s : Sc) : Prop :=
  ∃ (dx n q t : Addr), Slt H a C dx [some (.ref n), some (.ref q), some (.int s.many), some (.ref t)] ∧ SqT K H n (s.names.map V.str) ∧ H q = some (.dK s.pol) ∧ SqT K H t (s.words.map V.str)
theorem Slt.same {H H' : Hp} {a C dx : Addr} {vs : List (Option V)} (s : Same H H') (h : Slt H a C dx vs) : Slt H' a C dx vs := by
  rcases h with ⟨h, e⟩ | ⟨h, k⟩
  · exact .inl ⟨s _ _ h, e⟩
  · exact .inr ⟨s _ _ h, s _ _ k⟩
theorem SceneAt.same {K : PySem.W.Frag} {C a : Addr} {H H' : Hp} {s : Sc} (e : Same H H') (h : SceneAt K C H a s) : SceneAt K C H' a s := by
  obtain ⟨dx, n, q, t, h1, h2, h3, h4⟩ := h
  exact ⟨dx, n, q, t, Slt.same e h1, SqT.same e h2, e _ _ h3, SqT.same e h4⟩
/-! ### Scene.__init__ -/
inductive Fault where
  | things | values | rule (p : Str) | words
def isManyD : PyData → Bool
  | .int i => decide (1 ≤ i) && decide (i ≤ 3)
  | _ => false
/-- the first fault of what a scene is made of -/
def sceneFault (dT dM : PyData) (r : Option (List (Key × PyData))) (dW : PyData) : Option Fault :=
  if isThingsD dT = true then
    if isManyD dM = true then
      match faultOf r with
      | some p => some (.rule p)
      | none => if isWordsD dW = true then none else some .words
    else some .values
  else some .things
def intOf : PyData → Int
  | .int i => i
  | _ => 0
def strsOf : PyData → List Str
  | .tuple ds => ds.map strOf
  | _ => []
def kdsOf : Option (List (Key × PyData)) → List (Key × PyData)
  | some kds => kds
  | none => []
/-- the scene of what has no fault -/
def scOf (dT dM : PyData) (r : Option (List (Key × PyData))) (dW : PyData) : Sc := ⟨strsOf dT, intOf dM, fun p => strOf ((valD (kdsOf r) (Sum.inr p)).getD .none), strsOf dW⟩
structure Cls4 where
  things : Addr
  values : Addr
  rule : Addr
  words : Addr
/-- what is raised for a fault -/
def Raised (c : Cls4) (H : Hp) (E : XK) : Fault → Prop
  | .things => ∀ H', Same H H' → E (.ref c.things) none H'
  | .values => ∀ H', Same H H' → E (.ref c.values) none H'
  | .rule p => ∀ H' d, Same H H' → H d = none → H' d = some (.xd [("part", .str p)]) → E (.ref c.rule) (some d) H'
  | .words => ∀ H', Same H H' → E (.ref c.words) none H'
section
variable {P : Program} {w : World} {K : PySem.W.Frag} {mg : Str → Option Value} {base : Heap}
/-- what the arguments are -/
structure ScArgs (K : PySem.W.Frag) (H : Hp) (vT vM vR vW : V) (dT dM : PyData) (r : Option (List (Key × PyData))) (dW : PyData) : Prop where
  ht : Dp K H vT dT
  hts : Small dT
  hm : Dp K H vM dM
  hr : RuleV K H vR r
  hrs : ∀ kds, r = some kds → kds.length < 64 ∧ okS ((kds.map (·.1)).map txt)
  hw : Dp K H vW dW
  hws : ∀ ds, dW = .tuple ds → ds.length < 64
def spInit (K : PySem.W.Frag) (C : Addr) (c : Cls4) : Sp := fun vs H Q E => ∃ (x dx : Addr) (vT vM vR vW : V) (dT dM : PyData) (r : Option (List (Key × PyData))) (dW : PyData), vs = [.ref x, vT, vM, vR, vW] ∧ H x = some (.ins C dx []) ∧ H dx = some (.own x) ∧ dx ≠ x ∧
  ScArgs K H vT vM vR vW dT dM r dW ∧
  (sceneFault dT dM r dW = none → ∀ H', (∀ b o, H b = some o → b ≠ x → b ≠ dx → H' b = some o) → SceneAt K C H' x (scOf dT dM r dW) → Q .non H') ∧
  ∀ f, sceneFault dT dM r dW = some f → Raised c H E f
theorem scInit : FnScope ["self", "things", "many", "rule", "words", "part"] ["self", "things", "many", "rule", "words"] (defScope sInit) := ⟨rfl, rfl, rfl, by decide +kernel, rfl, by decide +kernel, by decide +kernel⟩
theorem ok_init {C dP fI : Addr} {fd : FuncData} {pa : Str → Addr} {c : Cls4} (F : FunD K "__init__" "Scene.__init__" (defArgs sInit) (defBody sInit) (defScope sInit) [] [] fI fd) (T : Fr mg) (Cc : Cs K mg) (Z : Pt P w K mg dP pa) (S : SlC K C)
    (X1 : Exc0 K mg "InvalidThings" c.things) (X2 : Exc0 K mg "InvalidValues" c.values) (X4 : Exc0 K mg "InvalidWords" c.words)
    (FT : Fn P w K mg base CX0 2 "are_things" (spThings K)) (FI : Fn P w K mg base CX0 1 "is_integer" (spIsInt K)) (FL : Fn P w K mg base (L2.CX P w) 3 "look_at_rule" (spLook K c.rule)) (FW : Fn P w K mg base CX0 1 "are_words" (spWords K)) :
    FnOk P w K mg base (L2.CX P w) 4 fI fd ["self", "things", "many", "rule", "words"] (spInit K C c) := by
  refine F.ok scInit (fun vs H Q E h => ?_) (fun cdv A outer s H vs Q E hr h => ?_)
  · obtain ⟨x, dx, vT, vM, vR, vW, dT, dM, r, dW, rfl, _⟩ := h
    rfl
  · obtain ⟨x, dx, vT, vM, vR, vW, dT, dM, r, dW, rfl, hx, hdx, ndx, ar, kQ, kE⟩ := h
    have hu : _ < cLine := hu_of hr
    obtain ⟨tv, cV⟩ := Cc.mvalues
    obtain ⟨pN, kN⟩ := S.names
    obtain ⟨pS, kS⟩ := S.size
    obtain ⟨pP, kP⟩ := S.policy
    obtain ⟨pT, kT⟩ := S.told
    refine ⟨_, (pss_cons (ps_if (pt_not (pt_val (pf FT hr (by decide) (pa_cons (pv 1) pa_nil)))) (pss_one (ps_raise0 X1 rfl (takes_of rfl rfl rfl rfl))) pss_nil)
      (pss_cons (ps_if (PW.pt (pw_or (pt_not (pt_val (pf FI hr (by decide) (pa_cons (pv 2) pa_nil)))) (pw_or1 (pt_not (pt_chain op_le op_le pe_int (pv 2) (pe_glob (v := .int 3) (by rfl) cV ⟨_, rfl⟩)))))) (pss_one (ps_raise0 X2 rfl (takes_of rfl rfl rfl rfl))) pss_nil)
      (pss_cons (ps_expr (pfX FL hr (passes_call (takes_of rfl rfl rfl rfl) (fun _ _ _ _ h => h)) (pa_cons (pv 3) pa_nil)))
      (pss_cons (ps_if (pt_not (pt_val (pf FW hr (by decide) (pa_cons (pv 4) pa_nil)))) (pss_one (ps_raise0 X4 rfl (takes_of rfl rfl rfl rfl))) pss_nil)
      (pss_cons (ps_sl (pv 0) (pv 1))
      (pss_cons (ps_sl (pv 0) (pv 2))
      (pss_cons (ps_sl (pv 0) (pe_dc (own := [("part", 5)]) (g := gName 5) (by rfl) scInit.nd (pi_keysW Z.wd (pe_glob (v := .ref dP) (by rfl) Z.gl rfl)) (blkOk_by (own := [("part", 5)]) (N := ["self", "things", "many", "rule", "words", "part"]) (sc := defScope sInit) (by decide +kernel)) (fun _ _ _ _ _ => (pg_name (i := 5) scInit.nd rfl (Or.inl rfl))) (fun _ _ _ _ _ => pts_nil) (fun _ _ _ _ _ => (pv 5)) (fun _ _ _ _ _ => (pe_dget hu (pv 3) (pv 5) (fun _ _ => rfl)))))
      (pss_one (ps_sl (pv 0) (pv 4)))))))))), ?_⟩
    refine ⟨_, rfl, vT, dT, rfl, ar.ht, ar.hts, fun H1 s1 => ⟨_, rfl, ?_⟩⟩
    cases h1 : isThingsD dT with
    | false =>
      refine iteT ?_
      exact kE .things (by unfold sceneFault; rw [h1]; rfl) H1 s1
    | true =>
      refine iteF ?_
      have hm1 := Dp.same s1 dM ar.hm
      refine ⟨_, rfl, vM, dM, rfl, hm1, ⟨_, rfl, ?_⟩⟩
      have bad : isManyD dM = false → E (.ref c.values) none H1 := fun h2 => kE .values (by unfold sceneFault; rw [h1, h2]; rfl) H1 s1
      cases dM with
      | int i =>
        cases hm1
        refine iteF ?_
        refine ⟨_, rfl, _, _, rfl, rfl, _, rfl, ?_⟩
        cases h2 : decide (1 ≤ i) with
        | false =>
          refine iteF ⟨_, rfl, ?_⟩
          refine iteT ?_
          exact bad (by show (decide (1 ≤ i) && decide (i ≤ 3)) = false; rw [h2]; rfl)
        | true =>
          refine iteT ⟨_, _, rfl, rfl, _, rfl, ?_⟩
          cases h3 : decide (i ≤ 3) with
          | false =>
            refine iteT ?_
            exact bad (by show (decide (1 ≤ i) && decide (i ≤ 3)) = false; rw [h2, h3]; rfl)
          | true =>
            refine iteF ?_
            have h4 : isManyD (.int i) = true := by show (decide (1 ≤ i) && decide (i ≤ 3)) = true; rw [h2, h3]; rfl
            have hR1 : RuleV K H1 vR r := by
              cases ar.hr with
              | dat h => exact .dat (Dp.same s1 _ h)
              | dic h =>
                obtain ⟨kvs, ha, hp⟩ := h
                exact .dic ⟨kvs, s1 _ _ ha, Paired.mapP hp fun a b q => ⟨q.1, Dp.same s1 _ q.2⟩⟩
            refine ⟨_, rfl, vR, r, rfl, hR1, ar.hrs, fun h5 H2 s2 => ?_, fun p h5 H2 d s2 hd hd2 => ?_⟩
            · have hW2 := Dp.same (s1.trans s2) dW ar.hw
              refine ⟨_, rfl, vW, dW, rfl, hW2, ar.hws, fun H3 s3 => ⟨_, rfl, ?_⟩⟩
              have s03 := s1.trans (s2.trans s3)
              cases h6 : isWordsD dW with
              | false =>
                refine iteT ?_
                exact kE .words (by unfold sceneFault; rw [h1, h4, h5]; show (if isWordsD dW = true then none else some Fault.words) = _; rw [h6]; rfl) H3 s03
              | true =>
                refine iteF ?_
                have hx3 := s03 _ _ hx
                have hdx3 := s03 _ _ hdx
                -- the rule
                obtain ⟨aR, kds, rfl, rfl, kvs, haR, hpR⟩ : ∃ (aR : Addr) (kds : List (Key × PyData)), vR = .ref aR ∧ r = some kds ∧ ∃ kvs, H3 aR = some (.dK kvs) ∧ Paired (fun (p : Key × V) (q : Key × PyData) => p.1 = q.1 ∧ Dp K H3 p.2 q.2) kvs kds := by
                  cases ar.hr with
                  | dat h => cases h5
                  | @dic a kds h =>
                    obtain ⟨kvs, ha, hp⟩ := h
                    exact ⟨a, kds, rfl, rfl, kvs, s03 _ _ ha, Paired.mapP hp fun a b q => ⟨q.1, Dp.same s03 _ q.2⟩⟩
                have nRx : aR ≠ x := ne_of haR hx3 (by intro z; cases z)
                have nRd : aR ≠ dx := ne_of haR hdx3 (by intro z; cases z)
                have good : ∀ p ∈ partNames, ∃ y, valD kds (Sum.inr p) = some (.str y) := fun p hp => by
                  have h7 : faultD kds = none := h5
                  unfold faultD at h7
                  split at h7
                  · split at h7
                    · have := List.find?_eq_none.mp h7 p hp
                      cases q : valD kds (Sum.inr p) with
                      | none => rw [q] at this; exact absurd rfl this
                      | some d =>
                        rw [q] at this
                        cases d with
                        | str y => exact ⟨y, rfl⟩
                        | _ => exact absurd rfl this
                    · cases h7
                  · cases h7
                -- self.names, self.size
                refine ⟨_, rfl, _, rfl, x, C, dx, pN, [], 0, rfl, .inl ⟨hx3, rfl⟩, S.cls, kN, ?_⟩
                refine ⟨_, rfl, _, rfl, x, C, dx, pS, _, 2, rfl, slH_slt ndx, S.cls, kS, ?_⟩
                rw [slH_twice ndx]
                generalize eH5 : slH H3 x C dx (putS 2 (.int i) (putS 0 vT [])) = H5
                have f5 : ∀ b o, H3 b = some o → b ≠ x → b ≠ dx → H5 b = some o := fun b o e h1 h2 => by rw [← eH5, slH_ne h1 h2]; exact e
                have st5 : Slt H5 x C dx (putS 2 (.int i) (putS 0 vT [])) := by rw [← eH5]; exact slH_slt ndx
                -- self.policy
                refine ⟨rfl, fun D hD => ?_⟩
                have hR5 : H5 aR = some (.dK kvs) := f5 _ _ haR nRx nRd
                have nDR : aR ≠ D := ne_of_none hR5 hD
                refine dc_it (walkW (kvs := partNames.map fun p => (Sum.inr p, V.ref (pa p)))) (fun j H6 => (∀ b o, H5 b = some o → H6 b = some o) ∧ H6 D = some (.dK ((partNames.take j).map fun p => (Sum.inr p, V.str (strOf ((valD kds (Sum.inr p)).getD .none)))))) ⟨fun b o e => by rw [upd_ne (ne_of_none e hD)]; exact e, by rw [upd_same]; rfl⟩ (fun _ _ _ _ => True.intro) (fun j y H6 H7 hj p q => ?_) (fun H6 p => ?_)
                · obtain ⟨rfl, k, v, hk, rfl⟩ := q
                  rw [List.getElem?_map] at hk
                  obtain ⟨pp, hpi, e⟩ : ∃ p, partNames[j]? = some p ∧ (Sum.inr p, V.ref (pa p)) = (k, v) := by
                    cases q : partNames[j]? with
                    | none => rw [q] at hk; cases hk
                    | some p => rw [q] at hk; exact ⟨p, rfl, Option.some.inj hk⟩
                  cases e
                  obtain ⟨y, hy⟩ := good pp (List.mem_of_getElem? hpi)
                  obtain ⟨v, hv, hdv⟩ := valD_of hpR hy
                  cases hdv
                  refine ⟨rfl, ?_⟩
                  refine lc_yes ?_
                  refine ⟨_, rfl, _, rfl, _, rfl, aR, _, rfl, (by rw [← hv]; exact DGet.k (k := Sum.inr pp) (p.1 _ _ hR5)), ?_⟩
                  refine ⟨_, Sum.inr pp, rfl, p.2, ?_, ?_, ?_⟩
                  · rw [List.length_map, List.length_take]
                    exact Nat.lt_of_le_of_lt (Nat.min_le_right _ _) (by decide)
                  · intro b o e
                    rw [upd_ne (ne_of_none e hD)]
                    exact p.1 b o e
                  · rw [upd_same, List.take_add_one, hpi]
                    have nk : valV ((partNames.take j).map fun p => ((Sum.inr p : Key), V.str (strOf ((valD kds (Sum.inr p)).getD .none)))) (Sum.inr pp) = none := by
                      unfold valV
                      have z : ((partNames.take j).map fun p => ((Sum.inr p : Key), V.str (strOf ((valD kds (Sum.inr p)).getD .none)))).find? (fun kv => decide (kv.1 = Sum.inr pp)) = none := by
                        refine List.find?_eq_none.mpr fun kv hkv => ?_
                        obtain ⟨p2, hp2, rfl⟩ := List.mem_map.mp hkv
                        have ne : p2 ≠ pp := fun e => by
                          subst e
                          exact not_in_take nodup_parts hpi hp2
                        simp [ne]
                      rw [z]
                      rfl
                    have ey : V.str (strOf ((valD kds (Sum.inr pp)).getD .none)) = V.str y := by rw [hy]; rfl
                    rw [putK_new _ nk, List.map_append, ← ey]
                    rfl
                · have e7 : (partNames.take (partNames.map fun p => ((Sum.inr p : Key), V.ref (pa p))).length) = partNames := by rw [List.length_map, List.take_length]
                  have hD6 : H6 D = some (.dK (scOf dT (.int i) (some kds) dW).pol) := by
                    have z := p.2
                    rw [e7] at z
                    exact z
                  refine ⟨_, rfl, x, C, dx, pP, _, 1, rfl, Slt.same p.1 st5, S.cls, kP, ?_⟩
                  refine ⟨_, rfl, _, rfl, x, C, dx, pT, _, 3, rfl, slH_slt ndx, S.cls, kT, ?_⟩
                  rw [slH_twice ndx]
                  have nDx : D ≠ x := fun e => by
                    subst e
                    rcases st5 with ⟨z, _⟩ | ⟨z, _⟩
                    · rw [hD] at z; cases z
                    · rw [hD] at z; cases z
                  have nDd : D ≠ dx := fun e => by
                    subst e
                    rcases st5 with ⟨_, z⟩ | ⟨_, z⟩
                    · cases z
                    · rw [hD] at z; cases z
                  refine kQ (by unfold sceneFault; rw [h1, h4, h5]; show (if isWordsD dW = true then none else some Fault.words) = none; rw [h6]; rfl) _ (fun b o e n1 n2 => ?_) ?_
                  · rw [slH_ne n1 n2]
                    exact p.1 b o (f5 b o (s03 b o e) n1 n2)
                  · have fr : ∀ b o, H b = some o → b ≠ x → b ≠ dx → slH H6 x C dx (putS 3 vW (putS 1 (.ref D) (putS 2 (.int i) (putS 0 vT [])))) b = some o := fun b o e n1 n2 => by
                      rw [slH_ne n1 n2]
                      exact p.1 b o (f5 b o (s03 b o e) n1 n2)
                    have frT : ∀ {n : Addr} {xs : List V}, SqT K H n xs → SqT K (slH H6 x C dx (putS 3 vW (putS 1 (.ref D) (putS 2 (.int i) (putS 0 vT []))))) n xs := fun {n xs} h => by
                      rcases h with (h | ⟨o, h⟩) | h
                      · exact .inl (.inl (fr _ _ h (ne_of h hx (by intro z; cases z)) (ne_of h hdx (by intro z; cases z))))
                      · exact .inl (.inr ⟨o, fr _ _ h (ne_of h hx (by intro z; cases z)) (ne_of h hdx (by intro z; cases z))⟩)
                      · exact .inr h
                    cases dT with
                    | tuple ds =>
                      cases ar.ht with
                      | @tup n xs _ hS hA =>
                      have hn : ds.all isNameD = true := by
                        have z : (decide (1 ≤ (ds.length : Int)) && (decide ((ds.length : Int) ≤ 4) && (ds.all isNameD && distinct (ds.map strOf)))) = true := h1
                        rw [Bool.and_eq_true, Bool.and_eq_true, Bool.and_eq_true] at z
                        exact z.2.2.1
                      have eds := names_strs hn
                      have hvs : xs = (ds.map strOf).map V.str := by rw [eds] at hA; exact dp_strs hA
                      subst hvs
                      cases dW with
                      | tuple es =>
                        cases ar.hw with
                        | @tup t ys _ hS2 hA2 =>
                        have hw2 : es.all isWordD = true := by
                          have z : (es.all isWordD && ascS (es.map strOf)) = true := h6
                          rw [Bool.and_eq_true] at z
                          exact z.1
                        obtain ⟨ees, _⟩ := words_strs hw2
                        have hvs2 : ys = (es.map strOf).map V.str := by rw [ees] at hA2; exact dp_strs hA2
                        subst hvs2
                        refine ⟨dx, n, D, t, slH_slt ndx, frT hS, ?_, frT hS2⟩
                        rw [slH_ne nDx nDd]
                        exact hD6
                      | _ => cases h6
                    | _ => cases h1
            · exact kE (.rule p) (by unfold sceneFault; rw [h1, h4, h5]; rfl) H2 d (s1.trans s2) (s1.free hd) hd2
      | _ =>
        refine iteT ?_
        refine iteT ?_
        exact bad rfl
end
end HP

namespace HP
open PySem PySem.Spec PyProof.Rows L2 SlX
/-! ### facts of the written part, as Bools -/
def ea (a b : Option (Option Value)) : Bool := decide (a = b)
def excB (K : PySem.W.Frag) (x : Str) : Bool := PySem.W.excIn K (He.ga K x) veB "ValueError.__new__" && (PySem.W.keepIn K (.ref (He.ga K x)) && (decide (PySem.W.subIn K (.ref (He.ga K x)) (.type "BaseException") = some true) && (decide (PySem.W.typeIn K (.ref (He.ga K x)) = some (.type "type")) &&
  ea (PySem.W.nsIn K mainGlobals x) (some (some (.ref (He.ga K x)))))))
def clsB (K : PySem.W.Frag) (C : Addr) : Bool := match K.lookup C with
  | some ⟨.type "type", _, .cls cd, sl⟩ => (match cd.mro, sl.toList with
    | .ref C' :: bm, [_, _, _, _, some (.builtin n), _] => C' == C && n == "ValueError.__new__" && !cd.hasDel && cd.hasDict && PySem.HandSPX.refsVE bm
    | _, _ => false)
  | _ => false
def oexB (K : PySem.W.Frag) (C : Addr) : Bool := clsB K C && (ea (PySem.W.findIn K (.ref C) "__setattr__") (some (some (.builtin "object.__setattr__"))) && (decide (PySem.W.subIn K (.ref C) (.type "BaseException") = some true) && (decide (PySem.W.typeIn K (.ref C) = some (.type "type")) && PySem.W.keepIn K (.ref C))))
/-- an error class x with the field f, its __init__ by the text -/
def exc1B (K : PySem.W.Frag) (x f : Str) : Bool := oexB K (He.ga K x) && (ea (PySem.W.nsIn K mainGlobals x) (some (some (.ref (He.ga K x)))) && (ea (PySem.W.findIn K (.ref (He.ga K x)) "__init__") (some (some (.ref (He.ma K (He.ga K x) "__init__")))) &&
  (decide (PySem.W.typeIn K (.ref (He.ma K (He.ga K x) "__init__")) = some (.type "function")) && (ea (PySem.W.findIn K (.ref (He.ga K x)) f) (some none) && xfB K (He.ga K x)))))
def sclB (K : PySem.W.Frag) (C : Addr) : Bool := PySem.W.plainGet K C Str.empty && (PySem.W.isClsIn K C && (PySem.W.plainOver K C && ea (PySem.W.findIn K (.ref C) "__setattr__") (some (some (.builtin "object.__setattr__")))))
def slotB (K : PySem.W.Frag) (C : Addr) (f : Str) (i : Nat) : Bool := ea (PySem.W.findIn K (.ref C) f) (some (some (.ref (He.ma K C f)))) && (ea (PySem.W.specialIn K (.ref (He.ma K C f)) "__get__") (some (some (.builtin "member_descriptor.__get__"))) &&
  (decide (PySem.W.takesIn K (.ref (He.ma K C f)) = some true) && (decide (PySem.W.typeIn K (.ref (He.ma K C f)) = some (.type "member_descriptor")) && (decide (PySem.W.slotIn K (He.ma K C f) C = some i) && decide (i < 1000)))))
/-- a tuple of texts of the written part -/
def tupAt (K : PySem.W.Frag) (a : Addr) (ws : List Str) : Bool := match K.lookup a with
  | some ⟨.type c, _, .seq its _, _⟩ => decide (c = "tuple") && (decide (its.size ≤ sizeLine) && He.relAll (ws.map V.str) its.toList)
  | _ => false
def partAd (K : PySem.W.Frag) (p : Str) : Addr := match PySem.W.nsIn K (He.ga K "PARTS") p with
  | some (some (.ref a)) => a
  | _ => 0
def partsB (K : PySem.W.Frag) : Bool := partNames.all fun p => ea (PySem.W.nsIn K (He.ga K "PARTS") p) (some (some (.ref (partAd K p)))) && tupAt K (partAd K p) (partWords p)
def sceneB (K : PySem.W.Frag) : Bool := sclB K (He.ga K "Scene") && (slotB K (He.ga K "Scene") "names" 0 && (slotB K (He.ga K "Scene") "policy" 1 && (slotB K (He.ga K "Scene") "size" 2 && slotB K (He.ga K "Scene") "told" 3)))
end HP

namespace HP
open PySem PySem.Spec PyProof.Rows L2
abbrev sRule : Stmt := top 23
/-! ### d.update(e) -/
def rUpd : V → List V → Hp → VK → Prop := fun x xs H Q => ∃ (a b : Addr) (kvs more : List (Key × V)), x = .ref a ∧ xs = [.ref b] ∧ H a = some (.dK kvs) ∧ H b = some (.dK more) ∧ a ≠ b ∧ kvs.length + more.length ≤ 1000 ∧ Q .non (upd H a (.dK (mergeK kvs more)))
theorem mergeK_len : ∀ (more kvs : List (Key × V)), (mergeK kvs more).length ≤ kvs.length + more.length
  | [], kvs => Nat.le_refl _
  | kv :: more, kvs => by
    have h1 := mergeK_len more (putK kvs kv.1 kv.2)
    have h2 := length_putK kvs kv.1 kv.2
    have e : mergeK kvs (kv :: more) = mergeK (putK kvs kv.1 kv.2) more := rfl
    rw [e, List.length_cons]
    omega
theorem mt_update {X : Cx} : MtR X "dict.update" rUpd := by
  intro pins s σ H x xs v us Q I rx rxs h
  obtain ⟨a, b, kvs, more, rfl, rfl, ha, hb, nab, hz, q⟩ := h
  cases rx
  cases rxs with
  | cons r1 r2 =>
    cases r2
    cases r1
    obtain ⟨z1, hd1, vs1, k1, dd1⟩ := dk_of I.hok ha
    obtain ⟨z2, hd2, vs2, k2, dd2⟩ := dk_of I.hok hb
    have l1 : kvs.length = vs1.length := Paired.length k1
    have l2 : more.length = vs2.length := Paired.length k2
    have hsl := sizeLine_eq
    refine call_meetsIn PySem.F.slot_dict_update dd1.typeIs PySem.F.entry_dict_update (PySem.F.args_dict_update_2 _ _) (meets_dict_update (mixKind X.prog X.w) a b nab hd2) ⟨vs1, vs2, dd1, dd2, by omega, fun h' dd' _ hs => ?_⟩
    have he : ∃ q, h'.get? a = some q := let ⟨q, _, _, hq, _⟩ := dd'; ⟨q, hq⟩
    have hm := mergeK_len more kvs
    exact ⟨.non, _, d_write (t' := s.toks) I (by rw [ha]; exact True.intro) hs he (dk_new (by omega) hd1 (KV.merge k2 k1) dd'), rfl, q⟩
/-! ### draws out of a written list -/
theorem Keep.refl (p l : Addr) (H : Hp) : Keep p l H H := fun _ _ e _ _ => e
theorem Keep.trans {p l : Addr} {H H1 H2 : Hp} (a : Keep p l H H1) (b : Keep p l H1 H2) : Keep p l H H2 := fun c o e h1 h2 => b c o (a c o e h1 h2) h1 h2
theorem Keep.of {p l : Addr} {H H1 : Hp} (a : Same H H1) : Keep p l H H1 := fun c o e _ _ => a c o e
theorem Src.same {H H1 : Hp} {p l : Addr} (S : Src H p l) (a : Same H H1) : Src H1 p l := by
  obtain ⟨st, i, ns, h1, h2, h3⟩ := S.ex
  exact ⟨st, i, ns, a _ _ h1, a _ _ h2, h3⟩
theorem Src.pl {H : Hp} {p l : Addr} (S : Src H p l) : ∃ xs, H p = some (.lst xs) := let ⟨_, _, _, h, _⟩ := S.ex; ⟨_, h⟩
theorem Src.ll {H : Hp} {p l : Addr} (S : Src H p l) : ∃ xs, H l = some (.lst xs) := let ⟨_, _, _, _, h, _⟩ := S.ex; ⟨_, h⟩
theorem Src.nep {H : Hp} {p l a : Addr} (S : Src H p l) (h : H a = none) : a ≠ p := let ⟨_, e⟩ := S.pl; (ne_of_none e h).symm
theorem Src.nel {H : Hp} {p l a : Addr} (S : Src H p l) (h : H a = none) : a ≠ l := let ⟨_, e⟩ := S.ll; (ne_of_none e h).symm
/-- a new thing -/
theorem Src.new {H : Hp} {p l a : Addr} {o : HO} (S : Src H p l) (h : H a = none) : Src (upd H a o) p l := S.same (same_new (Same.refl H) h)
/-- a thing that is not the source changes -/
theorem Src.put {H : Hp} {p l a : Addr} {o : HO} (S : Src H p l) (h1 : a ≠ p) (h2 : a ≠ l) : Src (upd H a o) p l := by
  obtain ⟨st, i, ns, e1, e2, e3⟩ := S.ex
  exact ⟨st, i, ns, by rw [upd_ne h1.symm]; exact e1, by rw [upd_ne h2.symm]; exact e2, e3⟩
theorem Keep.new {H H1 : Hp} {p l a : Addr} {o : HO} (k : Keep p l H H1) (h : H a = none) : Keep p l H (upd H1 a o) := fun c u e h1 h2 => by
  rw [upd_ne (ne_of_none e h)]
  exact k c u e h1 h2
theorem Keep.free {H H1 : Hp} {p l a : Addr} (k : Keep p l H H1) (h : H1 a = none) (h1 : a ≠ p) (h2 : a ≠ l) : H a = none := by
  cases q : H a with
  | none => rfl
  | some o =>
    rw [k a o q h1 h2] at h
    cases h
theorem drawL {K : PySem.W.Frag} {tl : TE} {σ : L2.St} {H : Hp} {Q : VK} {p l : Addr} {i : Nat} {vs : List V} {n : Int} (hl : ∀ Q' : VK, (∀ q, H q = none → Q' (.ref q) (upd H q (.lst vs))) → tl σ H Q') (hσ : σ[i]? = some (some (.ref p))) (S : Src H p l) (hn : n = (vs.length : Int)) (h0 : 0 < vs.length) (hb : vs.length < 1000)
    (k : ∀ H' z, z ∈ vs → Src H' p l → Keep p l H H' → Q z H') : tOp (rIxL K) tl (tCall spNext [] E0 (tCons (tVar i) (tCons (tC (.int n)) tNil))) σ H Q := by
  refine hl _ fun q hq => ?_
  refine ⟨_, hσ, p, l, n, rfl, S.new hq, by omega, by omega, fun H' r h1 h2 S' K' => ?_⟩
  have hq' : H' q = some (.lst vs) := K' q _ upd_same (S.nep hq) (S.nel hq)
  obtain ⟨m, rfl⟩ : ∃ m : Nat, r = (m : Int) := ⟨r.toNat, by omega⟩
  have hr : m < vs.length := by omega
  exact ⟨q, vs, _, vs[m], rfl, rfl, SqL.of hq', atI_nat (List.getElem?_eq_getElem hr), k H' _ (List.getElem_mem hr) S' (Keep.trans (Keep.of (same_new (Same.refl H) hq)) K')⟩
/-- one of two texts -/
theorem draw2 {K : PySem.W.Frag} {σ : L2.St} {H : Hp} {Q : VK} {p l : Addr} {i : Nat} {x y : Str} (hσ : σ[i]? = some (some (.ref p))) (S : Src H p l)
    (k : ∀ H' z, z ∈ [x, y] → Src H' p l → Keep p l H H' → Q (.str z) H') : tOp (rIxL K) (tLst (tCons (tC (.str x)) (tCons (tC (.str y)) tNil))) (tCall spNext [] E0 (tCons (tVar i) (tCons (tC (.int 2)) tNil))) σ H Q := by
  refine drawL (vs := [.str x, .str y]) (fun Q' h => ⟨by show 2 ≤ sizeLine; decide, fun q hq => h q hq⟩) hσ S rfl (by show 0 < 2; decide) (by show 2 < 1000; decide) fun H' z hz S' K' => ?_
  rcases List.mem_cons.mp hz with rfl | hz
  · exact k H' x List.mem_cons_self S' K'
  · rw [List.mem_singleton.mp hz]
    exact k H' y (List.mem_cons_of_mem _ List.mem_cons_self) S' K'
/-! ### _law_rule -/
def polOf (f : Str → Str) : List (Key × V) := partNames.map fun p => (Sum.inr p, V.str (f p))
section
variable {P : Program} {w : World} {K : PySem.W.Frag} {mg : Str → Option Value} {base : Heap}
def spRule : Sp := fun vs H Q _ => ∃ (p l : Addr), vs = [.ref p] ∧ Src H p l ∧ ∀ H' a f, Src H' p l → Keep p l H H' → H a = none → H' a = some (.dK (polOf f)) → (∀ q ∈ partNames, f q ∈ partWords q) → Q (.ref a) H'
theorem scRule : FnScope ["_law_h", "_law_found"] ["_law_h"] (defScope sRule) := ⟨rfl, rfl, rfl, by decide +kernel, rfl, by decide +kernel, by decide +kernel⟩
theorem ok_rule (D : Dat K mg "_law_rule" sRule) (T : Fr mg) (FN : Fn P w K mg base CX0 1 "_law_next" spNext) : Fn P w K mg base CX0 2 "_law_rule" spRule := by
  refine Fn.of0 D scRule (fun _ _ _ _ _ _ us hl => match us, hl with | [_], _ => rfl) (fun vs H Q E h => ?_) (fun f cdv A outer s H vs Q E hr h => ?_)
  · obtain ⟨p, l, rfl, _⟩ := h
    rfl
  · obtain ⟨p, l, rfl, S, k⟩ := h
    refine ⟨_, (pss_cons (ps_set (i := 1) scRule.nd rfl (Or.inl rfl) (pe_disp (pps_cons pe_str (pe_ix (ixL (K := K)) (pe_lst (pa_cons pe_str (pa_cons pe_str pa_nil))) (pf FN hr (by decide) (pa_cons (pv 0) (pa_cons pe_int pa_nil))) (fun _ _ => rfl)) (pps_cons pe_str (pe_ix (ixL (K := K)) (pe_lst (pa_cons pe_str (pa_cons pe_str pa_nil))) (pf FN hr (by decide) (pa_cons (pv 0) (pa_cons pe_int pa_nil))) (fun _ _ => rfl)) pps_nil)) (by rfl) (by rfl) (fun z => by cases z) (by decide)))
      (pss_cons (ps_expr (eBm (K := K) PySem.F.plainAttrs_dict PySem.F.slot_dict_update PySem.F.type_dict_update mt_update (pv 1) (pa_cons (pe_disp (pps_cons pe_str (pe_ix (ixL (K := K)) (pe_lst (pa_cons pe_str (pa_cons pe_str pa_nil))) (pf FN hr (by decide) (pa_cons (pv 0) (pa_cons pe_int pa_nil))) (fun _ _ => rfl)) (pps_cons pe_str (pe_ix (ixL (K := K)) (pe_lst (pa_cons pe_str (pa_cons pe_str pa_nil))) (pf FN hr (by decide) (pa_cons (pv 0) (pa_cons pe_int pa_nil))) (fun _ _ => rfl)) pps_nil)) (by rfl) (by rfl) (fun z => by cases z) (by decide)) pa_nil)))
      (pss_cons (ps_expr (eBm (K := K) PySem.F.plainAttrs_dict PySem.F.slot_dict_update PySem.F.type_dict_update mt_update (pv 1) (pa_cons (pe_disp (pps_cons pe_str (pe_ix (ixL (K := K)) (pe_lst (pa_cons pe_str (pa_cons pe_str pa_nil))) (pf FN hr (by decide) (pa_cons (pv 0) (pa_cons pe_int pa_nil))) (fun _ _ => rfl)) (pps_cons pe_str (pe_ix (ixL (K := K)) (pe_lst (pa_cons pe_str (pa_cons pe_str pa_nil))) (pf FN hr (by decide) (pa_cons (pv 0) (pa_cons pe_int pa_nil))) (fun _ _ => rfl)) pps_nil)) (by rfl) (by rfl) (fun z => by cases z) (by decide)) pa_nil)))
      (pss_one (ps_ret (pv 1)))))), ?_⟩
    intro a ha
    have S0 := S.new (o := .dK []) ha
    have nap := S.nep ha
    have nal := S.nel ha
    refine draw2 rfl S0 fun H1 z1 m1 S1 K1 => ?_
    refine draw2 rfl S1 fun H2 z2 m2 S2 K2 => ?_
    have ha2 : H2 a = some (.dK []) := K2 _ _ (K1 _ _ upd_same nap nal) nap nal
    refine ⟨ha2, [(Sum.inr "asleep", .str z1), (Sum.inr "changing", .str z2)], rfl, (by show 2 ≤ 15; decide), ?_⟩
    generalize eH3 : upd H2 a (.dK (mergeK [] [(Sum.inr "asleep", .str z1), (Sum.inr "changing", .str z2)])) = H3
    have S3 : Src H3 p l := by rw [← eH3]; exact S2.put nap nal
    have ha3 : H3 a = some (.dK (mergeK [] [(Sum.inr "asleep", .str z1), (Sum.inr "changing", .str z2)])) := by rw [← eH3, upd_same]
    have K3 : Keep p l H H3 := by rw [← eH3]; exact Keep.new (Keep.trans (Keep.of (same_new (Same.refl H) ha)) (K1.trans K2)) ha
    refine ⟨_, rfl, .inr (.inr (.inl ⟨rfl, .inl ⟨_, ha3⟩⟩)), fun b hb => ?_⟩
    have nab : a ≠ b := ne_of_none ha3 hb
    have nbp := S3.nep hb
    have nbl := S3.nel hb
    refine draw2 rfl (S3.new hb) fun H4 z3 m3 S4 K4 => ?_
    refine draw2 rfl S4 fun H5 z4 m4 S5 K5 => ?_
    have hb5 : H5 b = some (.dK []) := K5 _ _ (K4 _ _ upd_same nbp nbl) nbp nbl
    have K35 : Keep p l H3 H5 := Keep.trans (Keep.of (same_new (Same.refl H3) hb)) (K4.trans K5)
    have ha5 := K35 _ _ ha3 nap nal
    refine ⟨hb5, [(Sum.inr "count", .str z3), (Sum.inr "first", .str z4)], rfl, (by show 2 ≤ 15; decide), ?_⟩
    refine ⟨a, b, _, _, rfl, rfl, (by rw [upd_ne nab]; exact ha5), upd_same, nab, (by show 2 + 2 ≤ 1000; decide), ?_⟩
    generalize eH6 : upd (upd H5 b (.dK (mergeK [] [(Sum.inr "count", .str z3), (Sum.inr "first", .str z4)]))) a (.dK (mergeK (mergeK [] [(Sum.inr "asleep", .str z1), (Sum.inr "changing", .str z2)]) (mergeK [] [(Sum.inr "count", .str z3), (Sum.inr "first", .str z4)]))) = H6
    have S6 : Src H6 p l := by rw [← eH6]; exact (S5.put nbp nbl).put nap nal
    have ha6 : H6 a = some (.dK (mergeK (mergeK [] [(Sum.inr "asleep", .str z1), (Sum.inr "changing", .str z2)]) (mergeK [] [(Sum.inr "count", .str z3), (Sum.inr "first", .str z4)]))) := by rw [← eH6, upd_same]
    have K6 : Keep p l H H6 := by
      rw [← eH6]
      exact Keep.new (Keep.new (K3.trans K35) (K3.free hb nbp nbl)) ha
    refine ⟨_, rfl, .inr (.inr (.inl ⟨rfl, .inl ⟨_, ha6⟩⟩)), fun e he => ?_⟩
    have nae : a ≠ e := ne_of_none ha6 he
    have nep := S6.nep he
    have nel := S6.nel he
    refine draw2 rfl (S6.new he) fun H7 z5 m5 S7 K7 => ?_
    refine draw2 rfl S7 fun H8 z6 m6 S8 K8 => ?_
    have he8 : H8 e = some (.dK []) := K8 _ _ (K7 _ _ upd_same nep nel) nep nel
    have K68 : Keep p l H6 H8 := Keep.trans (Keep.of (same_new (Same.refl H6) he)) (K7.trans K8)
    have ha8 := K68 _ _ ha6 nap nal
    refine ⟨he8, [(Sum.inr "ring", .str z5), (Sum.inr "sorting", .str z6)], rfl, (by show 2 ≤ 15; decide), ?_⟩
    refine ⟨a, e, _, _, rfl, rfl, (by rw [upd_ne nae]; exact ha8), upd_same, nae, (by show 4 + 2 ≤ 1000; decide), ?_⟩
    refine ⟨_, rfl, ?_⟩
    let f : Str → Str := fun q => if q = "asleep" then z1 else if q = "changing" then z2 else if q = "count" then z3 else if q = "first" then z4 else if q = "ring" then z5 else z6
    refine k _ a f ((S8.put nep nel).put nap nal) (Keep.new (Keep.new (K6.trans K68) (K6.free he nep nel)) ha) ha ?_ ?_
    · rw [upd_same]
      rfl
    · intro q hq
      have hq' : q = "asleep" ∨ q = "changing" ∨ q = "count" ∨ q = "first" ∨ q = "ring" ∨ q = "sorting" := by
        simp only [partNames, List.mem_cons, List.not_mem_nil, or_false] at hq
        exact hq
      rcases hq' with rfl | rfl | rfl | rfl | rfl | rfl
      · exact m1
      · exact m2
      · exact m3
      · exact m4
      · exact m5
      · exact m6
end
end HP

namespace HP
open PySem PySem.Spec PyProof.Rows L2
abbrev sScene : Stmt := top 24
/-! ### _law_scene -/
theorem erase_map {α β : Type} (f : α → β) : ∀ (l : List α) (i : Nat), (l.map f).eraseIdx i = (l.eraseIdx i).map f
  | [], _ => rfl
  | x :: l, 0 => rfl
  | x :: l, i + 1 => by
    rw [List.map_cons, List.eraseIdx_cons_succ, List.eraseIdx_cons_succ, List.map_cons, erase_map f l i]
def fourNames : List Str := ["a", "c", "b", "dd"]
/-- what _law_scene draws -/
structure Drawn4 (names : List Str) (many : Int) (f : Str → Str) (words : List Str) (m w : Int) : Prop where
  nm : ∃ k : Nat, 2 ≤ k ∧ k ≤ 4 ∧ names = fourNames.take k
  m1 : 1 ≤ many
  m2 : many ≤ m
  rl : ∀ q ∈ partNames, f q ∈ partWords q
  ws : ∀ x ∈ words, x ∈ allWords
  wn : words.Nodup
  wp : words.Pairwise leS
  wl : (words.length : Int) ≤ w
/-- the list that it returns -/
structure Five (H : Hp) (a : Addr) (names : List Str) (many : Int) (f : Str → Str) (words : List Str) : Prop where
  ex : ∃ n r t e : Addr, H a = some (.lst [.ref n, .int many, .ref r, .ref t, .ref e]) ∧ H n = some (.tup (names.map V.str)) ∧ H r = some (.dK (polOf f)) ∧ H t = some (.tup (words.map V.str)) ∧ H e = some (.dK [])
section
variable {P : Program} {w : World} {K : PySem.W.Frag} {mg : Str → Option Value} {base : Heap}
def spScene : Sp := fun vs H Q _ => ∃ (p l : Addr) (t m n : Int), vs = [.ref p, .int t, .int m, .int n] ∧ Src H p l ∧ 2 ≤ t ∧ t ≤ 4 ∧ 1 ≤ m ∧ m ≤ 3 ∧ 1 ≤ n ∧ n ≤ 9 ∧
  ∀ H' a names many f words, Src H' p l → Keep p l H H' → H a = none → Five H' a names many f words → Drawn4 names many f words m n → Q (.ref a) H'
theorem scScene : FnScope ["_law_h", "_law_things", "_law_many", "_law_few", "_law_names", "_law_every", "_law_some", "_law_turn"] ["_law_h", "_law_things", "_law_many", "_law_few"] (defScope sScene) := ⟨rfl, rfl, rfl, by decide +kernel, rfl, by decide +kernel, by decide +kernel⟩
theorem ok_scene (D : Dat K mg "_law_scene" sScene) (T : Fr mg) (FN : Fn P w K mg base CX0 1 "_law_next" spNext) (FR : Fn P w K mg base CX0 2 "_law_rule" spRule) : Fn P w K mg base CX0 3 "_law_scene" spScene := by
  refine Fn.of0 D scScene (fun _ _ _ _ _ _ us hl => match us, hl with | [_, _, _, _], _ => rfl) (fun vs H Q E h => ?_) (fun f cdv A outer s H vs Q E hr h => ?_)
  · obtain ⟨p, l, t, m, n, rfl, _⟩ := h
    rfl
  · obtain ⟨p, l, t, m, n, rfl, S, ht1, ht2, hm1, hm2, hn1, hn2, k⟩ := h
    refine ⟨_, (pss_cons (ps_set (i := 4) scScene.nd rfl (Or.inl rfl) (pe_slice (slL (K := K)) (pe_lst (pa_cons pe_str (pa_cons pe_str (pa_cons pe_str (pa_cons pe_str pa_nil))))) po_none (po_some (pe_op op_add pe_int (pf FN hr (by decide) (pa_cons (pv 0) (pa_cons (pe_op op_sub (pv 1) pe_int) pa_nil)))))))
      (pss_cons (ps_set (i := 5) scScene.nd rfl (Or.inr rfl) (pe_lst (pa_cons pe_str (pa_cons pe_str (pa_cons pe_str (pa_cons pe_str (pa_cons pe_str (pa_cons pe_str (pa_cons pe_str (pa_cons pe_str (pa_cons pe_str pa_nil)))))))))))
      (pss_cons (ps_setLc (i := 6) (own := [("_law_turn", 7)]) (g := gName 7) (by rfl) scScene.nd rfl rfl (sw_true rfl rfl rfl (by decide +kernel)) (pi_range1 (by rfl) (T.fr "range" (by decide +kernel)) (pa_cons (pe_op op_add pe_int (pf FN hr (by decide) (pa_cons (pv 0) (pa_cons (pv 3) pa_nil)))) pa_nil)) (blkOk_by (own := [("_law_turn", 7)]) (N := ["_law_h", "_law_things", "_law_many", "_law_few", "_law_names", "_law_every", "_law_some", "_law_turn"]) (sc := defScope sScene) (by decide +kernel)) (fun _ _ _ _ _ => (pg_name (i := 7) scScene.nd rfl (Or.inl rfl))) (fun _ _ _ _ _ => pts_nil) (fun _ _ _ _ _ => (eBm (K := K) PySem.F.plainAttrs_list PySem.F.slot_list_pop PySem.F.type_list_pop mt_popAt (pv 5) (pa_cons (pf FN hr (by decide) (pa_cons (pv 0) (pa_cons (pe_callB (kLen (K := K)) (by rfl) (T.fr "len" (by decide +kernel)) (by decide +kernel) (pa_cons (pv 5) pa_nil)) pa_nil))) pa_nil))))
      (pss_one (ps_ret (pe_lst (pa_cons (pe_callTy (kTup (K := K)) (by rfl) (T.fr "tuple" (by decide +kernel)) (by decide +kernel) (pa_cons (pv 4) pa_nil)) (pa_cons (pe_op op_add pe_int (pf FN hr (by decide) (pa_cons (pv 0) (pa_cons (pv 2) pa_nil)))) (pa_cons (pf FR hr (by decide) (pa_cons (pv 0) pa_nil)) (pa_cons (pe_callTy (kTup (K := K)) (by rfl) (T.fr "tuple" (by decide +kernel)) (by decide +kernel) (pa_cons (pe_callB (kSortS (K := K)) (by rfl) (T.fr "sorted" (by decide +kernel)) (by decide +kernel) (pa_cons (pv 6) pa_nil)) pa_nil)) (pa_cons pe_dnewK pa_nil))))))))))), ?_⟩
    -- names
    refine ⟨(by show 4 ≤ sizeLine; decide), fun q0 hq0 => ?_⟩
    have S0 := S.new (o := .lst (fourNames.map V.str)) hq0
    refine ⟨_, rfl, _, rfl, _, _, rfl, rfl, p, l, t - 1, rfl, S0, by omega, by omega, fun H1 r hr0 hr1 S1 K1 => ?_⟩
    have K1' : Keep p l H H1 := Keep.trans (Keep.of (same_new (Same.refl H) hq0)) K1
    have hq1 : H1 q0 = some (.lst (fourNames.map V.str)) := K1 _ _ upd_same (S.nep hq0) (S.nel hq0)
    obtain ⟨kn, hk1, hk2, hcut⟩ : ∃ kn : Nat, 2 ≤ kn ∧ kn ≤ 4 ∧ cutV (fourNames.map V.str) none (some (2 + r)) = (fourNames.take kn).map V.str := by
      have h3 : r = 0 ∨ r = 1 ∨ r = 2 := by omega
      rcases h3 with rfl | rfl | rfl
      · exact ⟨2, by decide, by decide, rfl⟩
      · exact ⟨3, by decide, by decide, rfl⟩
      · exact ⟨4, by decide, by decide, rfl⟩
    refine ⟨_, _, rfl, rfl, _, rfl, q0, _, rfl, SqL.of hq1, fun nl hnl => ?_⟩
    rw [hcut]
    have S2 := S1.new (o := .lst ((fourNames.take kn).map V.str)) hnl
    have nnp := S1.nep hnl
    have nnl := S1.nel hnl
    generalize eH2 : upd H1 nl (.lst ((fourNames.take kn).map V.str)) = H2 at S2
    have hnl2 : H2 nl = some (.lst ((fourNames.take kn).map V.str)) := by rw [← eH2, upd_same]
    have K2 : Keep p l H H2 := by rw [← eH2]; exact Keep.new K1' (K1'.free hnl nnp nnl)
    -- every
    refine ⟨(by show 9 ≤ sizeLine; decide), fun ev hev => ?_⟩
    have nep := S2.nep hev
    have nel := S2.nel hev
    have nen : nl ≠ ev := ne_of_none hnl2 hev
    have S3 := S2.new (o := .lst (allWords.map V.str)) hev
    have hev3 : upd H2 ev (.lst (allWords.map V.str)) ev = some (.lst (allWords.map V.str)) := upd_same
    have K3 : Keep p l H (upd H2 ev (.lst (allWords.map V.str))) := Keep.new K2 (K2.free hev nep nel)
    have hnl3 : upd H2 ev (.lst (allWords.map V.str)) nl = some (.lst ((fourNames.take kn).map V.str)) := by rw [upd_ne nen]; exact hnl2
    have fev : H ev = none := K2.free hev nep nel
    show tSeq _ _ _ _ (upd H2 ev (.lst (allWords.map V.str)))
    generalize upd H2 ev (.lst (allWords.map V.str)) = H3 at S3 hev3 K3 hnl3
    -- some
    refine ⟨_, rfl, _, rfl, p, l, n, rfl, S3, by omega, by omega, fun H4 r2 hr20 hr21 S4 K4 => ?_⟩
    have K4' := K3.trans K4
    have hev4 := K4 _ _ hev3 nep nel
    have hnl4 := K4 _ _ hnl3 nnp nnl
    refine ⟨_, _, rfl, rfl, 1 + r2, rfl, by omega, by omega, fun D hD => ?_⟩
    have nDp := S4.nep hD
    have nDl := S4.nel hD
    have nDe : ev ≠ D := ne_of_none hev4 hD
    refine lc_range (lo := 0) (n := (1 + r2).toNat) (fun i H5 => ∃ tk rs : List Str, Src H5 p l ∧ (∀ c o, H4 c = some o → c ≠ p → c ≠ l → c ≠ ev → H5 c = some o) ∧ H5 ev = some (.lst (rs.map V.str)) ∧ H5 D = some (.lst (tk.map V.str)) ∧ (tk ++ rs).Perm allWords ∧ tk.length = i) ⟨[], allWords, S4.new hD, fun c o e _ _ _ => by rw [upd_ne (ne_of_none e hD)]; exact e, by rw [upd_ne nDe]; exact hev4, upd_same, List.Perm.refl _, rfl⟩ ?_ ?_
    · rintro i H5 hi ⟨tk, rs, S5, F5, he5, hD5, pm, htk⟩
      refine ⟨rfl, ?_⟩
      refine lc_yes ?_
      have hlen : tk.length + rs.length = 9 := by
        have := pm.length_eq
        rw [List.length_append] at this
        exact this
      refine ⟨_, rfl, .inl ⟨rfl, _, SqL.of he5⟩, ?_⟩
      refine ⟨_, rfl, _, rfl, ev, _, rfl, .inl (SqL.of he5), p, l, _, rfl, S5, by rw [List.length_map]; omega, by rw [List.length_map]; omega, fun H6 r3 h30 h31 S6 K6 => ?_⟩
      rw [List.length_map] at h31
      obtain ⟨m3, rfl⟩ : ∃ m : Nat, r3 = (m : Int) := ⟨r3.toNat, by omega⟩
      have hm3 : m3 < rs.length := by omega
      have he6 := K6 _ _ he5 nep nel
      have hD6 := K6 _ _ hD5 nDp nDl
      refine ⟨ev, rs.map V.str, _, m3, .str rs[m3], rfl, rfl, he6, by omega, by omega, ?_, ?_, ?_⟩
      · unfold seqIndex?
        rw [List.length_map]
        have h0 : ¬ ((m3 : Int) < 0) := by omega
        have h1 : (0 : Int) ≤ m3 := by omega
        have h2 : (m3 : Int) < rs.length := by omega
        simp [h0, h1, h2, hm3]
      · rw [List.getElem?_map, List.getElem?_eq_getElem hm3]
        rfl
      · refine ⟨tk.map V.str, by rw [upd_ne nDe.symm]; exact hD6, ?_, tk ++ [rs[m3]], rs.eraseIdx m3, ?_, fun c o e h1 h2 h3 => ?_, ?_, ?_, ?_, ?_⟩
        · rw [List.length_map]
          exact Nat.lt_of_le_of_lt (show tk.length ≤ 9 by omega) (by decide)
        · exact (S6.put nep nel).put nDp nDl
        · rw [upd_ne (ne_of_none e hD), upd_ne h3]
          exact K6 c o (F5 c o e h1 h2 h3) h1 h2
        · rw [upd_ne nDe, upd_same, erase_map]
        · rw [upd_same, List.map_append]
          rfl
        · refine List.Perm.trans ?_ pm
          rw [List.append_assoc]
          refine List.Perm.append_left tk ?_
          exact (erase_perm rs m3 rs[m3] (List.getElem?_eq_getElem hm3))
        · rw [List.length_append, htk]
          rfl
    · rintro H5 ⟨tk, rs, S5, F5, he5, hD5, pm, htk⟩
      have nDn : nl ≠ D := ne_of_none hnl4 hD
      have hnl5 : H5 nl = some (.lst ((fourNames.take kn).map V.str)) := F5 _ _ hnl4 nnp nnl nen
      have K5 : Keep p l H H5 := fun c o e h1 h2 => F5 c o (K4' c o e h1 h2) h1 h2 (ne_of_none e fev)
      have htl : tk.length ≤ 9 := by
        have := pm.length_eq
        rw [List.length_append] at this
        have e9 : allWords.length = 9 := rfl
        omega
      -- tuple(names)
      refine ⟨_, rfl, nl, _, rfl, .inl ⟨SqL.of hnl5, fun nt hnt => ?_⟩⟩
      have S6 := S5.new (o := .tup ((fourNames.take kn).map V.str)) hnt
      have ntp := S5.nep hnt
      have ntl := S5.nel hnt
      have K6 : Keep p l H (upd H5 nt (.tup ((fourNames.take kn).map V.str))) := Keep.new K5 (K5.free hnt ntp ntl)
      have hnt6 : upd H5 nt (.tup ((fourNames.take kn).map V.str)) nt = some (.tup ((fourNames.take kn).map V.str)) := upd_same
      have hD6 : upd H5 nt (.tup ((fourNames.take kn).map V.str)) D = some (.lst (tk.map V.str)) := by rw [upd_ne (ne_of_none hD5 hnt)]; exact hD5
      generalize upd H5 nt (.tup ((fourNames.take kn).map V.str)) = H6 at S6 K6 hnt6 hD6 ⊢
      -- 1 + next(h, many)
      refine ⟨_, rfl, _, rfl, p, l, m, rfl, S6, by omega, by omega, fun H7 r4 h40 h41 S7 K7 => ⟨_, _, rfl, rfl, ?_⟩⟩
      have K7' := K6.trans K7
      have hnt7 := K7 _ _ hnt6 ntp ntl
      have hD7 := K7 _ _ hD6 nDp nDl
      -- rule
      refine ⟨_, rfl, p, l, rfl, S7, fun H8 ra f S8 K8 hra hra8 hf => ?_⟩
      have K8' := K7'.trans K8
      have nrp := S7.nep hra
      have nrl := S7.nel hra
      have hnt8 := K8 _ _ hnt7 ntp ntl
      have hD8 := K8 _ _ hD7 nDp nDl
      -- tuple(sorted(some))
      refine ⟨_, rfl, D, tk, rfl, SqL.of hD8, by omega, fun ys q py sy hq => ?_⟩
      refine ⟨q, _, rfl, .inl ⟨SqL.of upd_same, fun wt hwt => ?_⟩⟩
      have nqw : q ≠ wt := fun e => by rw [← e, upd_same] at hwt; cases hwt
      rw [upd_ne nqw.symm] at hwt
      have nqp := S8.nep hq
      have nql := S8.nel hq
      have nwp := S8.nep hwt
      have nwl := S8.nel hwt
      have s9 : Same H8 (upd (upd H8 q (.lst (ys.map V.str))) wt (.tup (ys.map V.str))) := same_new (same_new (Same.refl H8) hq) (by rw [upd_ne nqw.symm]; exact hwt)
      have S9 := S8.same s9
      have K9 : Keep p l H (upd (upd H8 q (.lst (ys.map V.str))) wt (.tup (ys.map V.str))) := Keep.trans K8' (Keep.of s9)
      have hnt9 := s9 _ _ hnt8
      have hra9 := s9 _ _ hra8
      have hwt9 : upd (upd H8 q (.lst (ys.map V.str))) wt (.tup (ys.map V.str)) wt = some (.tup (ys.map V.str)) := upd_same
      generalize upd (upd H8 q (.lst (ys.map V.str))) wt (.tup (ys.map V.str)) = H9 at s9 S9 K9 hnt9 hra9 hwt9 ⊢
      -- {}
      intro e he
      have nep' := S9.nep he
      have nel' := S9.nel he
      refine ⟨(by show 5 ≤ sizeLine; decide), fun a ha => ?_⟩
      have nea : e ≠ a := fun z => by rw [← z, upd_same] at ha; cases ha
      have ha9 : H9 a = none := by rw [upd_ne nea.symm] at ha; exact ha
      have nap := S9.nep ha9
      have nal := S9.nel ha9
      have s10 : Same H9 (upd (upd H9 e (.dK [])) a (.lst [.ref nt, .int (1 + r4), .ref ra, .ref wt, .ref e])) := same_new (same_new (Same.refl H9) he) ha
      refine k _ a (fourNames.take kn) (1 + r4) f ys (S9.same s10) (Keep.trans K9 (Keep.of s10)) (K9.free ha9 nap nal) ⟨nt, ra, wt, e, upd_same, s10 _ _ hnt9, s10 _ _ hra9, s10 _ _ hwt9, ?_⟩ ⟨⟨kn, hk1, hk2, rfl⟩, by omega, by omega, hf, ?_, ?_, sortedS_iff.mp sy, ?_⟩
      · rw [upd_ne nea, upd_same]
      · intro x hx
        exact pm.mem_iff.mp (List.mem_append_left _ (py.mem_iff.mp hx))
      · have nd : (tk ++ rs).Nodup := pm.nodup_iff.mpr (by decide +kernel)
        exact py.nodup_iff.mpr (List.nodup_append.mp nd).1
      · rw [py.length_eq, htk]
        omega
end
end HP

namespace HP
open PySem PySem.Spec PyProof.Rows L2 SlX
abbrev sTurned : Stmt := inClass (top 19) 7
abbrev sWithout : Stmt := inClass (top 19) 8
/-! ### dicts by the parts' names -/
def dicV (g : Str → V) : List (Key × V) := partNames.map fun q => (Sum.inr q, g q)
def dicD (d : Str → PyData) : List (Key × PyData) := partNames.map fun q => (Sum.inr q, d q)
theorem putK_dic {g : Str → V} {p : Str} {v : V} (hp : p ∈ partNames) : putK (dicV g) (Sum.inr p) v = dicV (fun q => if q = p then v else g q) := by
  have h : (dicV g).any (fun kv => decide (kv.1 = Sum.inr p)) = true := by
    unfold dicV
    rw [List.any_map, List.any_eq_true]
    exact ⟨p, hp, decide_eq_true rfl⟩
  unfold putK
  rw [if_pos h]
  unfold dicV
  rw [List.map_map]
  refine List.map_congr_left fun q _ => ?_
  show (if (Sum.inr q : Key) = Sum.inr p then ((Sum.inr q : Key), v) else (Sum.inr q, g q)) = (Sum.inr q, if q = p then v else g q)
  by_cases e : q = p
  · rw [if_pos (by rw [e]), if_pos e]
  · rw [if_neg (fun z => e (Sum.inr.inj z)), if_neg e]
theorem valV_map (g : Str → V) (p : Str) : ∀ l : List Str, valV (l.map fun q => ((Sum.inr q : Key), g q)) (Sum.inr p) = if p ∈ l then some (g p) else none
  | [] => rfl
  | z :: l => by
    have ih := valV_map g p l
    unfold valV at ih ⊢
    rw [List.map_cons, List.find?_cons]
    by_cases hz : z = p
    · subst hz
      rw [show decide ((Sum.inr z : Key) = Sum.inr z) = true from decide_eq_true rfl, if_pos List.mem_cons_self]
      rfl
    · rw [show decide ((Sum.inr z : Key) = Sum.inr p) = false from decide_eq_false fun q => hz (Sum.inr.inj q)]
      have e : (p ∈ z :: l) ↔ p ∈ l := ⟨fun h => (List.mem_cons.mp h).resolve_left fun q => hz q.symm, List.mem_cons_of_mem _⟩
      simp only [e]
      exact ih
theorem valD_dic {d : Str → PyData} {p : Str} (hp : p ∈ partNames) : valD (dicD d) (Sum.inr p) = some (d p) := by
  unfold dicD
  generalize partNames = l at hp
  induction l with
  | nil => cases hp
  | cons z l ih =>
    unfold valD
    rw [List.map_cons, List.find?_cons]
    by_cases hz : z = p
    · subst hz
      rw [show decide ((Sum.inr z : Key) = Sum.inr z) = true from decide_eq_true rfl]
      rfl
    · rw [show decide ((Sum.inr z : Key) = Sum.inr p) = false from decide_eq_false fun q => hz (Sum.inr.inj q)]
      rcases List.mem_cons.mp hp with h | h
      · exact absurd h.symm hz
      · exact ih h
theorem sorted_parts : partNames.Pairwise leS := by
  have h : sortedS partNames = true := by decide +kernel
  exact sortedS_iff.mp h
theorem keys_dic (d : Str → PyData) : (dicD d).map (·.1) = partNames.map Sum.inr := by
  unfold dicD
  rw [List.map_map]
  rfl
theorem txts_dic (d : Str → PyData) : ((dicD d).map (·.1)).map txt = partNames := by
  rw [keys_dic, List.map_map]
  exact List.map_id _
theorem faultD_dic (d : Str → PyData) : faultD (dicD d) = partNames.find? fun p => !goodPart p (some (d p)) := by
  unfold faultD
  have h1 : ((dicD d).map (·.1)).all isTxt = true := by
    rw [keys_dic, List.all_map]
    exact List.all_eq_true.mpr fun _ _ => rfl
  rw [if_pos h1, txts_dic, if_pos (srtS_self sorted_parts)]
  have all : ∀ l : List Str, (∀ p ∈ l, p ∈ partNames) → l.find? (fun p => !goodPart p (valD (dicD d) (Sum.inr p))) = l.find? (fun p => !goodPart p (some (d p))) := by
    intro l
    induction l with
    | nil => intro _; rfl
    | cons z l ih =>
      intro h
      rw [List.find?_cons, List.find?_cons, valD_dic (h z List.mem_cons_self), ih fun p hp => h p (List.mem_cons_of_mem _ hp)]
  exact all partNames fun _ h => h
theorem dicP {K : PySem.W.Frag} {H : Hp} {g : Str → V} {d : Str → PyData} (h : ∀ p ∈ partNames, Dp K H (g p) (d p)) : Paired (fun (p : Key × V) (q : Key × PyData) => p.1 = q.1 ∧ Dp K H p.2 q.2) (dicV g) (dicD d) := by
  unfold dicV dicD
  generalize partNames = l at h
  induction l with
  | nil => exact .nil
  | cons z l ih => exact .cons ⟨rfl, h z List.mem_cons_self⟩ (ih fun p hp => h p (List.mem_cons_of_mem _ hp))
/-- a scene that stands -/
structure GoodSc (s : Sc) : Prop where
  nm : isThingsL (s.names.map .str) = true
  m1 : 1 ≤ s.many
  m2 : s.many ≤ 3
  rl : ∀ p ∈ partNames, s.word p ∈ partWords p
  ws : isWordsD (.tuple (s.words.map .str)) = true
  wl : s.words.length < 64
theorem GoodSc.many {s : Sc} (g : GoodSc s) : isManyD (.int s.many) = true := by
  show (decide (1 ≤ s.many) && decide (s.many ≤ 3)) = true
  rw [decide_eq_true g.m1, decide_eq_true g.m2]
  rfl
theorem map_strOf (xs : List Str) : (xs.map PyData.str).map strOf = xs := by
  rw [List.map_map]
  exact List.map_id _
theorem GoodSc.small {s : Sc} (g : GoodSc s) : Small (.tuple (s.names.map .str)) := fun ds e x hx => by
  cases e
  have h := g.nm
  unfold isThingsL at h
  rw [Bool.and_eq_true, Bool.and_eq_true, Bool.and_eq_true] at h
  have h2 := List.all_eq_true.mp h.2.2.1 _ hx
  have h3 : (decide (1 ≤ (x.length : Int)) && (decide ((x.length : Int) ≤ 8) && x.cps.toList.all isLet)) = true := h2
  rw [Bool.and_eq_true, Bool.and_eq_true] at h3
  have := of_decide_eq_true h3.2.1
  omega
section
variable {P : Program} {w : World} {K : PySem.W.Frag} {mg : Str → Option Value} {base : Heap}
theorem Raised.same {c : Cls4} {H H1 : Hp} {E : XK} {f : Fault} (s : Same H H1) (h : Raised c H E f) : Raised c H1 E f := by
  cases f with
  | things => exact fun H' e => h H' (s.trans e)
  | values => exact fun H' e => h H' (s.trans e)
  | rule p => exact fun H' d e hd => h H' d (s.trans e) (s.free hd)
  | words => exact fun H' e => h H' (s.trans e)
theorem ScArgs.same {H H1 : Hp} {vT vM vR vW : V} {dT dM dW : PyData} {r : Option (List (Key × PyData))} (s : Same H H1) (a : ScArgs K H vT vM vR vW dT dM r dW) : ScArgs K H1 vT vM vR vW dT dM r dW :=
  ⟨Dp.same s _ a.ht, a.hts, Dp.same s _ a.hm, by
    cases a.hr with
    | dat h => exact .dat (Dp.same s _ h)
    | dic h =>
      obtain ⟨kvs, ha, hp⟩ := h
      exact .dic ⟨kvs, s _ _ ha, Paired.mapP hp fun a b q => ⟨q.1, Dp.same s _ q.2⟩⟩, a.hrs, Dp.same s _ a.hw, a.hws⟩
/-- Scene(..), at the new instance -/
theorem scene_use {C x dx : Addr} {c : Cls4} {H : Hp} {Q : VK} {E : XK} {vT vM vR vW : V} {dT dM dW : PyData} {r : Option (List (Key × PyData))} (nx : H x = none) (ndx : H dx = none) (ne : dx ≠ x) (ar : ScArgs K H vT vM vR vW dT dM r dW)
    (kQ : sceneFault dT dM r dW = none → ∀ H', Same H H' → SceneAt K C H' x (scOf dT dM r dW) → Q (.ref x) H') (kE : ∀ f, sceneFault dT dM r dW = some f → Raised c H E f) :
    spInit K C c [.ref x, vT, vM, vR, vW] (upd (upd H dx (.own x)) x (.ins C dx [])) (fun v H2 => v = .non ∧ Q (.ref x) H2) E := by
  have s0 : Same H (upd (upd H dx (.own x)) x (.ins C dx [])) := same_mut (same_mut (Same.refl H) ndx) nx
  refine ⟨x, dx, vT, vM, vR, vW, dT, dM, r, dW, rfl, upd_same, by rw [upd_ne ne, upd_same], ne, ar.same s0, fun h H' fr st => ⟨rfl, kQ h H' (fun b o e => fr b o (s0 b o e) (ne_of_none e nx) (ne_of_none e ndx)) st⟩, fun f h => (kE f h).same s0⟩
/-- the class Scene can be called -/
def ScMk (P : Program) (w : World) (K : PySem.W.Frag) (mg : Str → Option Value) (base : Heap) (C : Addr) (c : Cls4) : Prop :=
  ∃ (fI : Addr) (fd : FuncData), mg "Scene" = some (.ref C) ∧ Mk K C fI ∧ Binds K fd ["self", "things", "many", "rule", "words"] [] ∧ FnOk P w K mg base (L2.CX P w) 4 fI fd ["self", "things", "many", "rule", "words"] (spInit K C c)
theorem peScene {X : Cx} {C : Addr} {c : Cls4} {n : Nat} {e : Expr} {es : List Expr} {t : TA} {p pos : Pos} {E : XK} (M : ScMk X.prog X.w X.K X.mg X.base C c) (hr : Room n X.A) (hn : 5 ≤ n) (hx : Passes (L2.CX X.prog X.w) X E) (ha : PA X (e :: es) t) (hg : Gl X "Scene" := by rfl)
    (he : starEach (e :: es) X.env = (false, eval e X.env) :: starEach es X.env := by rfl) (hpl : (backTo pos (starEach es X.env)).any (·.1) = false := by rfl) (hK : X.K = K := by rfl) : PE X (.Call (.Name "Scene" p) (e :: es) [] pos) (tMake C (spInit K C c) [] E t) := by
  subst hK
  obtain ⟨fI, fd, h1, h2, h3, h4⟩ := M
  exact pe_make h2 h4 (hr.mono hn) hg h1 h3 .nil hx ha (by decide) he hpl
/-- what turned refuses -/
def turnFault (dp dw : PyData) : Option Str := match dp with
  | .str p => if p ∈ partNames then (if goodPart p (some dw) = true then none else some p) else some ("" : Str)
  | _ => some ("" : Str)
def turnSc (s : Sc) (dp dw : PyData) : Sc := { s with word := fun q => if q = strOf dp then strOf dw else s.word q }
/-- the fault that Scene finds behind turned -/
theorem turn_fault {s : Sc} (g : GoodSc s) {p : Str} (hp : p ∈ partNames) (dw : PyData) (f : Fault) (h : sceneFault (.tuple (s.names.map .str)) (.int s.many) (some (dicD fun q => if q = p then dw else .str (s.word q))) (.tuple (s.words.map .str)) = some f) :
    f = .rule p ∧ turnFault (.str p) dw = some p := by
  unfold sceneFault at h
  rw [show isThingsD (.tuple (s.names.map .str)) = true from g.nm, g.many, g.ws] at h
  have e : faultOf (some (dicD fun q => if q = p then dw else .str (s.word q))) = partNames.find? fun q => !goodPart q (some (if q = p then dw else .str (s.word q))) := faultD_dic _
  rw [e] at h
  cases q : partNames.find? fun q => !goodPart q (some (if q = p then dw else .str (s.word q))) with
  | none => rw [q] at h; cases h
  | some z =>
    rw [q] at h
    have hz := List.find?_some q
    have hm := List.mem_of_find?_eq_some q
    by_cases ez : z = p
    · subst ez
      rw [if_pos rfl] at hz
      cases h
      refine ⟨rfl, ?_⟩
      show (if z ∈ partNames then (if goodPart z (some dw) = true then none else some z) else some ("" : Str)) = some z
      rw [if_pos hp, if_neg (fun y => by rw [y] at hz; cases hz)]
    · rw [if_neg ez] at hz
      have : goodPart z (some (.str (s.word z))) = true := decide_eq_true (g.rl z hm)
      rw [this] at hz
      cases hz
theorem turn_good {s : Sc} (g : GoodSc s) {p : Str} (hp : p ∈ partNames) (dw : PyData) (h : sceneFault (.tuple (s.names.map .str)) (.int s.many) (some (dicD fun q => if q = p then dw else .str (s.word q))) (.tuple (s.words.map .str)) = none) :
    turnFault (.str p) dw = none ∧ scOf (.tuple (s.names.map .str)) (.int s.many) (some (dicD fun q => if q = p then dw else .str (s.word q))) (.tuple (s.words.map .str)) = scOf (.tuple (s.names.map .str)) (.int s.many) (some (dicD fun q => if q = p then dw else .str (s.word q))) (.tuple (s.words.map .str)) := by
  refine ⟨?_, rfl⟩
  unfold sceneFault at h
  rw [show isThingsD (.tuple (s.names.map .str)) = true from g.nm, g.many, g.ws] at h
  have e : faultOf (some (dicD fun q => if q = p then dw else .str (s.word q))) = partNames.find? fun q => !goodPart q (some (if q = p then dw else .str (s.word q))) := faultD_dic _
  rw [e] at h
  cases q : partNames.find? fun q => !goodPart q (some (if q = p then dw else .str (s.word q))) with
  | none =>
    have := List.find?_eq_none.mp q p hp
    rw [if_pos rfl] at this
    show (if p ∈ partNames then (if goodPart p (some dw) = true then none else some p) else some ("" : Str)) = none
    rw [if_pos hp]
    cases y : goodPart p (some dw) with
    | true => rfl
    | false => rw [y] at this; exact absurd rfl this
  | some z => rw [q] at h; cases h
theorem Sc.pol_congr {s t : Sc} (h : ∀ p ∈ partNames, s.word p = t.word p) : s.pol = t.pol := by
  unfold Sc.pol
  exact List.map_congr_left fun p hp => by rw [h p hp]
theorem SceneAt.congr {K : PySem.W.Frag} {C a : Addr} {H : Hp} {s t : Sc} (h : SceneAt K C H a s) (h1 : s.names = t.names) (h2 : s.many = t.many) (h3 : s.words = t.words) (h4 : ∀ p ∈ partNames, s.word p = t.word p) : SceneAt K C H a t := by
  obtain ⟨dx, n, q, y, a1, a2, a3, a4⟩ := h
  refine ⟨dx, n, q, y, ?_, ?_, ?_, ?_⟩
  · rw [← h2]; exact a1
  · rw [← h1]; exact a2
  · rw [← Sc.pol_congr h4]; exact a3
  · rw [← h3]; exact a4
/-- what is kept of a rule's words -/
theorem polD {K : PySem.W.Frag} {H : Hp} (s : Sc) : ∀ p ∈ partNames, Dp K H (V.str (s.word p)) (.str (s.word p)) := fun p _ => .str _
def spTurned (K : PySem.W.Frag) (C : Addr) (c : Cls4) : Sp := fun vs H Q E => ∃ (a : Addr) (vp vw : V) (s : Sc) (dp dw : PyData), vs = [.ref a, vp, vw] ∧ SceneAt K C H a s ∧ GoodSc s ∧ Dp K H vp dp ∧ Dp K H vw dw ∧
  (turnFault dp dw = none → ∀ H' b, Same H H' → H b = none → SceneAt K C H' b (turnSc s dp dw) → Q (.ref b) H') ∧
  ∀ p, turnFault dp dw = some p → Raised c H E (.rule p)
theorem scTurned : FnScope ["self", "part", "word", "rule"] ["self", "part", "word"] (defScope sTurned) := ⟨rfl, rfl, rfl, by decide +kernel, rfl, by decide +kernel, by decide +kernel⟩
theorem ok_turned {C dP fT : Addr} {fd : FuncData} {pa : Str → Addr} {c : Cls4} (F : FunD K "turned" "Scene.turned" (defArgs sTurned) (defBody sTurned) (defScope sTurned) [] [] fT fd) (T : Fr mg) (Z : Pt P w K mg dP pa) (S : SlC K C)
    (XR : Exc1 P w K mg base "InvalidRule" c.rule "part" (spInit1 c.rule "part")) (M : ScMk P w K mg base C c) : FnOk P w K mg base (L2.CX P w) 6 fT fd ["self", "part", "word"] (spTurned K C c) := by
  refine F.ok scTurned (fun vs H Q E h => ?_) (fun cdv A outer s0 H vs Q E hr h => ?_)
  · obtain ⟨a, vp, vw, s, dp, dw, rfl, _⟩ := h
    rfl
  · obtain ⟨a, vp, vw, s, dp, dw, rfl, hs, gs, hp, hw, kQ, kE⟩ := h
    have hu : _ < cLine := hu_of hr
    obtain ⟨pN, kN⟩ := S.names
    obtain ⟨pS, kS⟩ := S.size
    obtain ⟨pP, kP⟩ := S.policy
    obtain ⟨pT, kT⟩ := S.told
    refine ⟨_, (pss_cons (ps_if (PW.pt (pw_or (pt_not (pt_val (pe_callB (kIsi (K := K)) (by rfl) (T.fr "isinstance" (by decide +kernel)) (by decide +kernel) (pa_cons (pv 1) (pa_cons (pe_bltn (v := .ty "str") (u := .type "str") (by rfl) (T.fr "str" (by decide +kernel)) (by decide +kernel) rfl) pa_nil))))) (pw_or1 (pt_cmpR (notInW Z.wd) (pv 1) (pe_glob (v := .ref dP) (by rfl) Z.gl rfl) (by rfl))))) (pss_one (ps_raise1 XR rfl hr (by decide) (takes_of rfl rfl rfl rfl) pe_str monoC)) pss_nil)
      (pss_cons (ps_set (i := 3) scTurned.nd rfl (Or.inl rfl) (pe_callTy call_dictD (by rfl) (T.fr "dict" (by decide +kernel)) (by decide +kernel) (pa_cons (pe_sl (pv 0)) pa_nil)))
      (pss_cons (ps_dput hu (pv 3) (pv 1) (pv 2) rfl)
      (pss_one (ps_ret (peScene (K := K) M hr (by decide) (passes_call (takes_of rfl rfl rfl rfl) (fun _ _ _ _ h => h)) (pa_cons (pe_sl (pv 0)) (pa_cons (pe_sl (pv 0)) (pa_cons (pv 3) (pa_cons (pe_sl (pv 0)) pa_nil)))))))))), ?_⟩
    have hp0 := hp
    have bad : turnFault dp dw = some ("" : Str) → ∀ d, H d = none → E (.ref c.rule) (some d) (upd H d (.xd [("part", .str "")])) := fun h d hd => kE "" h _ d (same_new (Same.refl H) hd) hd upd_same
    refine ⟨_, rfl, vp, _, _, _, _, rfl, .ty "str", dp_ty hp, kitD dp (by decide), _, rfl, ?_⟩
    cases dp with
    | str p =>
      cases hp
      refine iteF ?_
      refine ⟨_, rfl, Sum.inr p, rfl, rfl, ?_⟩
      have eV := valV_map (fun q => V.ref (pa q)) p partNames
      refine ⟨_, rfl, ?_⟩
      by_cases hm : p ∈ partNames
      · rw [if_pos hm] at eV
        rw [eV]
        refine iteF ?_
        obtain ⟨dx, n, q, t, h1, h2, h3, h4⟩ := id hs
        refine ⟨_, rfl, a, C, dx, pP, _, 1, .ref q, rfl, h1, S.cls, kP, rfl, ?_⟩
        refine ⟨q, _, rfl, .inl h3, fun r hr0 => ?_⟩
        refine ⟨_, rfl, _, rfl, _, rfl, r, _, rfl, DPut.k (k := Sum.inr p) upd_same (by rw [show s.pol.length = 6 from rfl]; decide), ?_⟩
        have e1 : putK s.pol (Sum.inr p) vw = dicV fun q => if q = p then vw else .str (s.word q) := putK_dic (g := fun q => V.str (s.word q)) hm
        rw [upd_upd, e1]
        have s1 : Same H (upd H r (.dK (dicV fun q => if q = p then vw else .str (s.word q)))) := same_new (Same.refl H) hr0
        generalize eH1 : upd H r (.dK (dicV fun q => if q = p then vw else .str (s.word q))) = H1 at s1
        have hr1 : H1 r = some (.dK (dicV fun q => if q = p then vw else .str (s.word q))) := by rw [← eH1, upd_same]
        refine ⟨_, rfl, a, C, dx, pN, _, 0, .ref n, rfl, Slt.same s1 h1, S.cls, kN, rfl, ?_⟩
        refine ⟨_, rfl, a, C, dx, pS, _, 2, .int s.many, rfl, Slt.same s1 h1, S.cls, kS, rfl, ?_⟩
        refine ⟨_, rfl, ?_⟩
        refine ⟨_, rfl, a, C, dx, pT, _, 3, .ref t, rfl, Slt.same s1 h1, S.cls, kT, rfl, ?_⟩
        intro x dx2 nx ndx ne
        have ar : ScArgs K H1 (.ref n) (.int s.many) (.ref r) (.ref t) (.tuple (s.names.map .str)) (.int s.many) (some (dicD fun q => if q = p then dw else .str (s.word q))) (.tuple (s.words.map .str)) := by
          refine ⟨.tup (SqT.same s1 h2) (dpAll_strs _), gs.small, .int _, .dic ⟨_, hr1, dicP fun q _ => ?_⟩, fun kds e => ?_, .tup (SqT.same s1 h4) (dpAll_strs _), fun ds e => ?_⟩
          · by_cases eq : q = p
            · rw [if_pos eq, if_pos eq]
              exact Dp.same s1 _ hw
            · rw [if_neg eq, if_neg eq]
              exact .str _
          · cases e
            refine ⟨by rw [show (dicD fun q => if q = p then dw else .str (s.word q)).length = 6 from rfl]; decide, ?_⟩
            rw [txts_dic]
            exact ok_partNames
          · cases e
            rw [List.length_map]
            exact gs.wl
        refine scene_use nx ndx ne ar (fun h H2 s2 st => ?_) (fun f h => ?_)
        · refine kQ (turn_good gs hm dw h).1 H2 x (s1.trans s2) (s1.free nx) (st.congr (map_strOf _) rfl (map_strOf _) fun p2 hp2 => ?_)
          show strOf ((valD (dicD fun q => if q = p then dw else .str (s.word q)) (Sum.inr p2)).getD .none) = if p2 = p then strOf dw else s.word p2
          rw [valD_dic hp2]
          show strOf (if p2 = p then dw else .str (s.word p2)) = _
          by_cases eq : p2 = p
          · rw [if_pos eq, if_pos eq]
          · rw [if_neg eq, if_neg eq]
            rfl
        · obtain ⟨rfl, hf⟩ := turn_fault gs hm dw f h
          exact (kE p hf).same s1
      · rw [if_neg hm] at eV
        rw [eV]
        refine iteT ?_
        refine bad ?_
        show (if p ∈ partNames then (if goodPart p (some dw) = true then none else some p) else some ("" : Str)) = _
        rw [if_neg hm]
    | _ =>
      refine iteT ?_
      refine iteT ?_
      exact bad rfl
end
end HP

namespace HP
open PySem PySem.Spec PyProof.Rows L2 SlX
/-! ### try with several clauses, some of them naming the exception -/
structure Cl where
  c : Value
  i : Option Nat
  ts : Addr → Value → Option Addr → TS
def Cl.ends (k : Cl) (D : Ends) : Ends := match k.i with
  | none => D
  | some i => { nx := fun σ H => D.nx (σ.set i none) H, rt := D.rt, bk := fun σ H => D.bk (σ.set i none) H, ct := fun σ H => D.ct (σ.set i none) H }
def Cl.st (k : Cl) (a : Addr) (σ : L2.St) : L2.St := match k.i with
  | none => σ
  | some i => σ.set i (some (.ref a))
def wMix (K : PySem.W.Frag) (Wo : WX) (D : Ends) : List Cl → WX
  | [] => Wo
  | k :: r => fun cls d σ H => ∃ b, PySem.W.exmOne K cls k.c = some b ∧ (b = true → ∀ a, H a = none → k.ts a cls d (k.ends D) (k.st a σ) H) ∧ (b = false → wMix K Wo D r cls d σ H)
def SuOk (X : Cx) (b : Stmt) (bs : List Stmt) (ts : Addr → Value → Option Addr → TS) : Prop := ∀ (a : Addr) (oe : Obj) (cls : Value) (d : Option Addr) (pn : List (Addr × Obj)), Zc cls d oe → (∃ vs, oe.data = .fields vs) → PSs (X.suite a ((a, oe) :: pn)) (b :: bs) (ts a cls d)
inductive ClOk (X : Cx) : ExceptHandler → Cl → Prop
  | anon {x : Str} {c : Value} {ts : Addr → Value → Option Addr → TS} {b : Stmt} {bs : List Stmt} {np p : Pos} : Names X x c → SuOk X b bs ts → ClOk X (.ExceptHandler (some (.Name x np)) none (b :: bs) p) ⟨c, none, ts⟩
  | named {x n : Str} {c : Value} {i : Nat} {ts : Addr → Value → Option Addr → TS} {b : Stmt} {bs : List Stmt} {np p : Pos} : Names X x c → X.N[i]? = some n → X.env.kindOf n = some .local → SuOk X b bs ts →
      ClOk X (.ExceptHandler (some (.Name x np)) (some n) (b :: bs) p) ⟨c, some i, ts⟩
section
variable {X : Cx}
theorem nm_run {a : Addr} {oe : Obj} {pins pn : List (Addr × Obj)} {σ : L2.St} {H : Hp} {t : Shared} {x : Str} {c : Value} {np : Pos} {Q E : Value → Shared → Prop} {Q1 : Value → Shared → Prop} (hQ : Q = Q1) (S : Inv (X.suite a ((a, oe) :: pn)) pins σ H t) (hc : Names X x c) (q : Q c t) : wpAny (model X.prog X.w) (X.A.mark (some (.ref a))) (eval (.Name x np) X.env) Q E t := by
  rcases hc with ⟨h1, h2, h3 | ⟨h3, h4, h5⟩⟩
  · exact ld_glob (X := X.suite a ((a, oe) :: pn)) S h1 h3 q h2
  · exact ld_blt (X := X.suite a ((a, oe) :: pn)) S h1 h3 h4 q h5 h2
theorem ps_try_mix {body : List Stmt} {k0 : ExceptHandler} {ks : List ExceptHandler} {l : List Cl} {pos : Pos} {tb : WX → TS} {Wo : WX} (st : X.stack = X.env :: X.outer) (fr : X.env.frame = some X.env.locals) (nd : X.N.Nodup) (tk : Takes X Wo)
    (hb : ∀ (W : WX) (pn : List (Addr × Obj)) (xe : Value → Shared → Prop), Takes (X.tr pn xe) W → PassesOwn (model X.prog X.w) X.A X.env xe → PSs (X.tr pn xe) body (tb W))
    (hk : Paired (ClOk X) (k0 :: ks) l) : PS X (.Try body (k0 :: ks) [] [] pos) (fun D σ H => tb (wMix X.K Wo D l) D σ H) := by
  refine ⟨fun pins s σ H D I h => wpAny_Try_except ?_⟩
  have ok := I.ok
  have R := (hb (wMix X.K Wo D l) (X.pn ++ pins) (fun e t1 => wpAny (model X.prog X.w) X.A (noteFrame e X.env) (fun _ t2 => wpAny (model X.prog X.w) X.A (setFlight e none) (fun _ t3 => wpAny (model X.prog X.w) X.A (handleBy e X.env (k0 :: ks)) (SP X pins D) X.xe t3) X.xe t2) X.xe t1) ?_ PassesOwn.looking).run [] s σ H D (I.toTry _) h
  · refine wpAny_mono R (fun f t q => ?_) (fun _ _ q => q)
    cases f
    case next => obtain ⟨σ1, H1, J, q1⟩ := q; exact wpAny_execs_nil ⟨σ1, H1, J.ofTry ok, q1⟩
    case ret => obtain ⟨v, σ1, H1, J, r, q1⟩ := q; exact ⟨v, σ1, H1, J.ofTry ok, r, q1⟩
    case brk => obtain ⟨σ1, H1, J, q1⟩ := q; exact ⟨σ1, H1, J.ofTry ok, q1⟩
    case cont => obtain ⟨σ1, H1, J, q1⟩ := q; exact ⟨σ1, H1, J.ofTry ok, q1⟩
  · rintro u t ⟨a, B, t0, pins1, σ1, H1, cls, d, rfl, J1, nb, up, sk, na, os, ag, w⟩
    have J := J1.ofTry (pins := pins) ok
    rw [show (X.tr (X.pn ++ pins) (fun e t1 => wpAny (model X.prog X.w) X.A (noteFrame e X.env) (fun _ t2 => wpAny (model X.prog X.w) X.A (setFlight e none) (fun _ t3 => wpAny (model X.prog X.w) X.A (handleBy e X.env (k0 :: ks)) (SP X pins D) X.xe t3) X.xe t2) X.xe t1)).stack = X.env :: X.outer from st] at sk
    refine Sky.land Zc.steady (by rw [ok.frames, st]) fr sk fun h3 fl up3 => ?_
    have J3 : Inv X pins σ1 H1 { t with heap := h3 } := J.landed nb fl.1 (up.trans up3) os ag
    obtain ⟨oe, vs, he, hz, hd⟩ := fl.there
    have nf : a ∉ frs (X.env :: X.outer) := fun hm => by
      obtain ⟨_, o1, e1, hn⟩ := fl.2.2.1.mem hm
      rw [he] at e1
      cases e1
      exact hn _ hd
    have nL : a ≠ X.env.locals := fun z => nf (List.mem_filterMap.mpr ⟨_, List.mem_cons_self, z ▸ fr⟩)
    have nF : a ∉ X.fs := fun hm => by
      obtain ⟨e, e1, e2⟩ := List.mem_filterMap.mp hm
      exact nf (List.mem_filterMap.mpr ⟨e, List.mem_cons_of_mem _ e1, e2⟩)
    have S3 := J3.suite he hd na nL nF
    have L1 : PySem.W.Looks (model X.prog X.w) h3 (typeOf (.ref a)) cls := fun _ _ _ _ k q => wpAny_typeOf_ref (k _ _ he) (hz.1 ▸ q)
    have go : ∀ {hds : List ExceptHandler} {l : List Cl}, Paired (ClOk X) hds l → wMix X.K Wo D l cls d σ1 H1 → wpAny (model X.prog X.w) X.A (handleBy (.ref a) X.env hds) (SP X pins D) X.xe { t with heap := h3 } := by
      intro hds l hk
      induction hk with
      | nil =>
        intro w
        refine wpAny_handleBy_nil ?_
        obtain ⟨_, _, _, o2, vs2, T, oT, ts2, e1, e2, e3, e4, e5⟩ := id fl
        unfold PySem.passOn
        refine wpAny_bind (wpAny_field e1 e3 e4 ?_)
        have nn : ¬ ((Value.ref T == Value.none) = true) := by simp
        rw [if_neg nn]
        have last : wpAny (model X.prog X.w) X.A (setFlight (.ref a) X.env.frame) (fun _ t4 => wpAny (model X.prog X.w) X.A (throw (.ref a) : Sem Flow) (SP X pins D) X.xe t4) X.xe { t with heap := h3 } := by
          rw [fr]
          refine HandSPX.setFlight_upZ fl fun h4 g4 up4 => wpAny_throw (tk _ _ ⟨a, B, t0, pins, σ1, H1, cls, d, rfl, J, nb, (up.trans up3).trans up4, .inr (.inr ?_), na, os, ag, w⟩)
          rw [st]
          exact g4
        first
          | exact wpAny_bind (wpAny_pure (wpAny_bind last))
          | exact wpAny_bind last
      | @cons hd k hds l hc r ih =>
        rintro ⟨b, hb1, yes, no⟩
        have L2 := PySem.W.exm_one (M := model X.prog X.w) J3.kIn L1 hb1
        cases hc with
        | anon hn hsu =>
          refine wpAny_handleBy_cons (codeAny_handlers_test ?_) (by intro q; cases q)
          refine nm_run rfl S3 hn (L2.here ?_)
          cases b with
          | false => exact ih (no rfl)
          | true =>
            refine codeAny_handlers_suite (HandSPX.lands_againZ fl fun h4 fl4 up4 => ?_)
            have J4 : Inv X pins σ1 H1 { t with heap := h4 } := J.landed nb fl4.1 ((up.trans up3).trans up4) os ag
            obtain ⟨o4, v4, e4, z4, d4⟩ := fl4.there
            refine wpAny_mono ((hsu a o4 cls d (X.pn ++ pins) z4 ⟨_, d4⟩).run [] _ _ H1 _ (J4.suite e4 d4 na nL nF) (yes rfl a na)) (fun f t6 q => ?_) (fun _ _ z => z.elim)
            cases f
            case next => obtain ⟨σ6, H6, S6, q6⟩ := q; exact ⟨_, _, S6.unsuite ok, q6⟩
            case ret => obtain ⟨v6, σ6, H6, S6, r6, q6⟩ := q; exact ⟨_, _, _, S6.unsuite ok, r6, q6⟩
            case brk => obtain ⟨σ6, H6, S6, q6⟩ := q; exact ⟨_, _, S6.unsuite ok, q6⟩
            case cont => obtain ⟨σ6, H6, S6, q6⟩ := q; exact ⟨_, _, S6.unsuite ok, q6⟩
        | @named x n c i ts b0 bs np p hn hi hl hsu =>
          refine wpAny_handleBy_cons (codeAny_handlers_test ?_) (by intro q; cases q)
          refine nm_run rfl S3 hn (L2.here ?_)
          cases b with
          | false => exact ih (no rfl)
          | true =>
            refine codeAny_handlers_suite_as (HandSPX.lands_againZ fl fun h4 fl4 up4 => ?_)
            have J4 : Inv X pins σ1 H1 { t with heap := h4 } := J.landed nb fl4.1 ((up.trans up3).trans up4) os ag
            obtain ⟨o4, v4, e4, z4, d4⟩ := fl4.there
            refine store_ok (X := X.suite a ((a, o4) :: (X.pn ++ pins))) (v := .ref a) (J4.suite e4 d4 na nL nF) nd hi (.inl hl) rfl (fun t5 S5 => ?_) (.inr hl)
            refine wpAny_mono ((hsu a o4 cls d (X.pn ++ pins) z4 ⟨_, d4⟩).run [] t5 _ H1 _ S5 (yes rfl a na)) (fun f t6 q => ?_) (fun _ _ z => z.elim)
            cases f
            case next => obtain ⟨σ6, H6, S6, q6⟩ := q; exact gone_ok (S6.unsuite ok) nd hi hl fun t7 J7 => ⟨_, _, J7, q6⟩
            case ret => obtain ⟨v6, σ6, H6, S6, r6, q6⟩ := q; exact gone_ok (S6.unsuite ok) nd hi hl fun t7 J7 => ⟨_, _, _, J7, r6, q6⟩
            case brk => obtain ⟨σ6, H6, S6, q6⟩ := q; exact gone_ok (S6.unsuite ok) nd hi hl fun t7 J7 => ⟨_, _, J7, q6⟩
            case cont => obtain ⟨σ6, H6, S6, q6⟩ := q; exact gone_ok (S6.unsuite ok) nd hi hl fun t7 J7 => ⟨_, _, J7, q6⟩
    exact go hk w
end
end HP

namespace HP
open PySem PySem.Spec PyProof.Rows L2 SlX
abbrev sIR : Stmt := inClass (top 4) 0
abbrev sUW : Stmt := inClass (top 6) 0
section
variable {P : Program} {w : World} {K : PySem.W.Frag} {mg : Str → Option Value} {base : Heap}
theorem scIR : FnScope ["self", "part"] ["self", "part"] (defScope sIR) := ⟨rfl, rfl, rfl, by decide +kernel, rfl, by decide +kernel, by decide +kernel⟩
theorem ok_initRule {C fI : Addr} {fd : FuncData} (F : FunD K "__init__" "InvalidRule.__init__" (defArgs sIR) (defBody sIR) (defScope sIR) [] [] fI fd) (O : OexC K C) (hno : PySem.W.findIn K (.ref C) "part" = some none) : FnOk P w K mg base CX0 1 fI fd ["self", "part"] (spInit1 C "part") := by
  refine F.ok scIR (fun vs H Q E h => ?_) (fun cdv A outer s0 H vs Q E hr h => ?_)
  · obtain ⟨a, y, rfl, _⟩ := h
    rfl
  · obtain ⟨a, y, rfl, ha, k⟩ := h
    refine ⟨_, (pss_one (ps_ost (pv 0) (pv 1))), ?_⟩
    exact ⟨_, rfl, _, rfl, a, C, rfl, O, hno, .inl ⟨ha, fun dx h1 h2 => k dx h1 h2⟩⟩
theorem scUW : FnScope ["self", "word"] ["self", "word"] (defScope sUW) := ⟨rfl, rfl, rfl, by decide +kernel, rfl, by decide +kernel, by decide +kernel⟩
theorem ok_initWord {C fI : Addr} {fd : FuncData} (F : FunD K "__init__" "UnknownWord.__init__" (defArgs sUW) (defBody sUW) (defScope sUW) [] [] fI fd) (O : OexC K C) (hno : PySem.W.findIn K (.ref C) "word" = some none) : FnOk P w K mg base CX0 1 fI fd ["self", "word"] (spInit1 C "word") := by
  refine F.ok scUW (fun vs H Q E h => ?_) (fun cdv A outer s0 H vs Q E hr h => ?_)
  · obtain ⟨a, y, rfl, _⟩ := h
    rfl
  · obtain ⟨a, y, rfl, ha, k⟩ := h
    refine ⟨_, (pss_one (ps_ost (pv 0) (pv 1))), ?_⟩
    exact ⟨_, rfl, _, rfl, a, C, rfl, O, hno, .inl ⟨ha, fun dx h1 h2 => k dx h1 h2⟩⟩
/-! ### without, where it refuses -/
def noWord (s : Sc) : PyData → Bool
  | .str x => !decide (x ∈ s.words)
  | _ => true
def spWithout (K : PySem.W.Frag) (C cw : Addr) : Sp := fun vs H _ E => ∃ (a : Addr) (v : V) (s : Sc) (d : PyData), vs = [.ref a, v] ∧ SceneAt K C H a s ∧ Dp K H v d ∧ noWord s d = true ∧
  ∀ H' x, Same H H' → H x = none → H' x = some (.xd [("word", v)]) → E (.ref cw) (some x) H'
theorem scWithout : FnScope ["self", "word", "other"] ["self", "word"] (defScope sWithout) := ⟨rfl, rfl, rfl, by decide +kernel, rfl, by decide +kernel, by decide +kernel⟩
theorem ok_without {C fT cw : Addr} {fd : FuncData} {c : Cls4} (F : FunD K "without" "Scene.without" (defArgs sWithout) (defBody sWithout) (defScope sWithout) [] [] fT fd) (T : Fr mg) (S : SlC K C)
    (XW : Exc1 P w K mg base "UnknownWord" cw "word" (spInit1 cw "word")) (M : ScMk P w K mg base C c) : FnOk P w K mg base (L2.CX P w) 6 fT fd ["self", "word"] (spWithout K C cw) := by
  refine F.ok scWithout (fun vs H Q E h => ?_) (fun cdv A outer s0 H vs Q E hr h => ?_)
  · obtain ⟨a, v, s, d, rfl, _⟩ := h
    rfl
  · obtain ⟨a, v, s, d, rfl, hs, hv, hn, kE⟩ := h
    obtain ⟨pT, kT⟩ := S.told
    refine ⟨_, (pss_cons (ps_if (PW.pt (pw_or (pt_not (pt_val (pe_callB (kIsi (K := K)) (by rfl) (T.fr "isinstance" (by decide +kernel)) (by decide +kernel) (pa_cons (pv 1) (pa_cons (pe_bltn (v := .ty "str") (u := .type "str") (by rfl) (T.fr "str" (by decide +kernel)) (by decide +kernel) rfl) pa_nil))))) (pw_or1 (pt_cmpR (oNotIn (K := K)) (pv 1) (pe_sl (pv 0)) (by rfl))))) (pss_one (ps_raise1 XW rfl hr (by decide) (takes_of rfl rfl rfl rfl) (pv 1) monoV)) pss_nil)
      (pss_one (ps_ret (peScene (K := K) M hr (by decide) (passes_call (takes_of rfl rfl rfl rfl) (fun _ _ _ _ h => h)) (pa_cons (pe_sl (pv 0)) (pa_cons (pe_sl (pv 0)) (pa_cons (pe_sl (pv 0)) (pa_cons (pe_callTy (kTup (K := K)) (by rfl) (T.fr "tuple" (by decide +kernel)) (by decide +kernel) (pa_cons (pe_lc (own := [("other", 2)]) (g := gName 2) (by rfl) scWithout.nd (iT (K := K) (pe_sl (pv 0))) (blkOk_by (own := [("other", 2)]) (N := ["self", "word", "other"]) (sc := defScope sWithout) (by decide +kernel)) (fun _ _ _ _ _ => (pg_name (i := 2) scWithout.nd rfl (Or.inl rfl))) (fun _ _ _ _ _ => (pts_one (pt_cmpR op_ne (pv 2) (pv 1) (nomark _)))) (fun _ _ _ _ _ => (pv 2))) pa_nil)) pa_nil)))))))), ?_⟩
    have bad : ∀ x, H x = none → E (.ref cw) (some x) (upd H x (.xd [("word", v)])) := fun x hx => kE _ x (same_new (Same.refl H) hx) hx upd_same
    refine ⟨_, rfl, v, _, _, _, _, rfl, .ty "str", dp_ty hv, kitD d (by decide), _, rfl, ?_⟩
    cases d with
    | str x =>
      cases hv
      refine iteF ?_
      obtain ⟨dx, n, q, t, h1, h2, h3, h4⟩ := id hs
      refine ⟨_, rfl, _, rfl, a, C, dx, pT, _, 3, .ref t, rfl, h1, S.cls, kT, rfl, ?_⟩
      refine ⟨t, _, rfl, .inr h4, rfl, flat_strs _, _, rfl, ?_⟩
      rw [inV_strs]
      have e : decide (x ∈ s.words) = false := by
        have z : (!decide (x ∈ s.words)) = true := hn
        cases q : decide (x ∈ s.words) with
        | true => rw [q] at z; cases z
        | false => rfl
      rw [e]
      refine iteT ?_
      exact ⟨_, rfl, bad⟩
    | _ =>
      refine iteT ?_
      refine iteT ?_
      exact ⟨_, rfl, bad⟩
/-! ### methods of a class with slots -/
def MSl (P : Program) (w : World) (K : PySem.W.Frag) (mg : Str → Option Value) (base : Heap) (k : Nat) (C : Addr) (m : Str) (sp : Sp) : Prop :=
  SCls K C ∧ ∃ (g : Addr) (fd : FuncData) (ps : List Str), Meth K C m g ∧ Binds K fd ps [] ∧ FnOk P w K mg base (L2.CX P w) k g fd ps sp
end
section
variable {X : Cx}
/-- o.m(e, ..), the wish of an exception by the slots -/
def tMslS (C : Addr) (sp : Sp) (E : L2.St → XK) (ta : TE) (t : TA) : TE := fun σ H Q => ta σ H fun x H1 => ∃ a dx vs, x = .ref a ∧ Slt H1 a C dx vs ∧ t σ H1 fun ws H2 => sp (x :: ws) H2 Q (E σ)
theorem pe_mslS {k : Nat} {C : Addr} {m : Str} {sp : Sp} {W : WX} {o e : Expr} {es : List Expr} {ta : TE} {t : TA} {apos pos : Pos} (M : MSl X.prog X.w X.K X.mg X.base k C m sp) (hr : Room k X.A) (tk : Takes X W) (ho : PE X o ta) (ha : PA X (e :: es) t) {pl : Sem Bool}
    (hst : starEach (e :: es) X.env = (false, eval e X.env) :: starEach es X.env := by rfl) (hpl : (backTo pos (starEach es X.env)).any (·.1) = false := by rfl)
    (ht : eval (.Call (.Attribute o m apos) (e :: es) [] pos) X.env = (do
      let ov ← eval o X.env; standAt apos.atName; let (f, first) ← holding [ov] (getMethod ov m pl); callWith pos f first (backTo pos (starEach (e :: es) X.env)) (backToKw pos (keywordEach [] X.env))) := by rfl) :
    PE X (.Call (.Attribute o m apos) (e :: es) [] pos) (tMslS C sp (WE W) ta t) := by
  obtain ⟨c, g, fd, ps, hm, hb, F⟩ := M
  refine ⟨fun pins s σ H Q I h => PySem.W.methodCall_KW (pl := pl) (thn (ho.run pins s σ H _ I h) fun u s1 ⟨x, H1, I1, rx, a, dx, vs, ex, hsl, q⟩ => ?_) ht⟩
  cases ex
  cases rx
  refine getmethsl_ok I1 hsl c hm (PySem.W.callWith_K (first := [.ref a]) (h₀ := X.base) I.ok.mod.kin hm.kp (thn (ha.run pos pins s1 σ H1 _ I1 q) fun us s2 ⟨ws, H2, I2, r, q2⟩ => ⟨I2.kIn, ?_⟩) hst hpl)
  exact run_fnS (E := WE W) (us := .ref a :: us) (vs := .ref a :: ws) F hr hb (passAt tk σ) I2 (.cons rfl r) q2
/-- C(e, ..), the wish of an exception by the slots -/
def tMakeS (C : Addr) (sp : Sp) (E : L2.St → XK) (t : TA) : TE := fun σ H Q => t σ H fun vs H1 => ∀ x dx, H1 x = none → H1 dx = none → dx ≠ x →
  sp (.ref x :: vs) (upd (upd H1 dx (.own x)) x (.ins C dx [])) (fun v H2 => v = .non ∧ Q (.ref x) H2) (E σ)
theorem pe_makeS {k : Nat} {f C : Addr} {fd : FuncData} {ps : List Str} {sp : Sp} {W : WX} {x : Str} {e : Expr} {es : List Expr} {t : TA} {p pos : Pos} (M : Mk X.K C f) (F : FnOk X.prog X.w X.K X.mg X.base (L2.CX X.prog X.w) k f fd ps sp) (hr : Room (k + 1) X.A) (hg : Gl X x) (hm : X.mg x = some (.ref C)) (hb : Binds X.K fd ps []) (tk : Takes X W)
    (ha : PA X (e :: es) t) (hdb : (x == ("__debug__" : Str)) = false := by decide) (he : starEach (e :: es) X.env = (false, eval e X.env) :: starEach es X.env := by rfl) (hpl : (backTo pos (starEach es X.env)).any (·.1) = false := by rfl) :
    PE X (.Call (.Name x p) (e :: es) [] pos) (tMakeS C sp (WE W) t) := by
  refine ⟨fun pins s σ H Q I h => wpAny_Call_Name_kw (ld_glob I hg hm (PySem.W.callWith_K (h₀ := X.base) I.ok.mod.kin M.kp (thn (ha.run pos pins s σ H _ I h) fun us s1 ⟨vs, H1, I1, r, q⟩ => ⟨I1.kIn, ?_⟩) he hpl) hdb)⟩
  have q1 := q (s1.heap.objs.size + 1) s1.heap.objs.size (I1.hok.fresh (Nat.le_succ _)) (I1.hok.fresh (Nat.le_refl _)) (Nat.ne_of_lt (Nat.lt_succ_self _))
  have J := Inv.made (C := C) I1
  have rr : Vals (V.ref (s1.heap.objs.size + 1) :: vs) (Value.ref (s1.heap.objs.size + 1) :: us) := .cons rfl r
  have len : (Value.ref (s1.heap.objs.size + 1) :: us).length = ps.length := rr.length.symm.trans (F.len _ _ _ _ q1)
  have bd := hb _ (Value.ref (s1.heap.objs.size + 1) :: us) J.kIn (by rw [List.append_nil]; exact len)
  rw [List.append_nil] at bd
  refine wpAny_call (make_map (f := f) I1.kIn M.makes M.init (beq_iff_eq.mp M.fn) (codeAny_mono (F.run _ X.stack _ _ ⟨Value.ref (s1.heap.objs.size + 1) :: us, []⟩ _ _ _ (WE W σ) (hr.make C us []) (J.env0.make C us []) bd rr q1) fun z t z1 => ?_))
  cases z with
  | error e => exact passAt tk σ pins _ _ e t J z1
  | ok fl =>
    cases fl
    case ret u =>
      obtain ⟨v, H3, J3, rv, ev, q3⟩ := J.after z1
      subst ev
      exact ⟨rv, ⟨V.ref (s1.heap.objs.size + 1), H3, J3, rfl, q3⟩⟩
    all_goals exact z1.elim
end
end HP

namespace HP
open PySem PySem.Spec PyProof.Rows L2 SlX
abbrev sLT : Stmt := top 28
abbrev sLO : Stmt := top 29
section
variable {P : Program} {w : World} {K : PySem.W.Frag} {mg : Str → Option Value} {base : Heap}
/-! ### _law_turned, _law_out -/
def spLT (K : PySem.W.Frag) (C : Addr) : Sp := fun vs H Q _ => ∃ (a : Addr) (vp vw : V) (s : Sc) (dp dw : PyData) (p : Str), vs = [.ref a, vp, vw] ∧ SceneAt K C H a s ∧ GoodSc s ∧ Dp K H vp dp ∧ Dp K H vw dw ∧ turnFault dp dw = some p ∧ ∀ H', Same H H' → Q (.str p) H'
theorem scLT : FnScope ["_law_scene_here", "_law_part", "_law_word", "_law_told_here", "e"] ["_law_scene_here", "_law_part", "_law_word"] (defScope sLT) := ⟨rfl, rfl, rfl, by decide +kernel, rfl, by decide +kernel, by decide +kernel⟩
theorem ok_lawTurned {C : Addr} {c : Cls4} (D : Dat K mg "_law_turned" sLT) (M : MSl P w K mg base 6 C "turned" (spTurned K C c)) (gR : mg "InvalidRule" = some (.ref c.rule)) (xR : PySem.W.exmOne K (.ref c.rule) (.ref c.rule) = some true) (XF : XfC K c.rule) (hno : PySem.W.findIn K (.ref c.rule) "part" = some none) :
    Fn P w K mg base CX0 7 "_law_turned" (spLT K C) := by
  refine Fn.of0 D scLT (fun _ _ _ _ _ _ us hl => match us, hl with | [_, _, _], _ => rfl) (fun vs H Q E h => ?_) (fun f cdv A outer s0 H vs Q E hr h => ?_)
  · obtain ⟨a, vp, vw, s, dp, dw, p, rfl, _⟩ := h
    rfl
  · obtain ⟨a, vp, vw, s, dp, dw, p, rfl, hs, gs, hp, hw, hf0, k⟩ := h
    refine ⟨_, (pss_cons (ps_set (i := 3) scLT.nd rfl (Or.inl rfl) pe_non)
      (pss_cons (ps_try_mix rfl rfl scLT.nd takes_none5 (fun W pn xe tk own => (pss_one (ps_expr (pe_mslS M hr tk (pv 0) (pa_cons (pv 1) (pa_cons (pv 2) pa_nil)))))) (.cons (.named (i := 4) ⟨rfl, by decide, .inl gR⟩ rfl rfl (fun a oe cls d pn hz hf => (pss_one (ps_set (i := 3) scLT.nd rfl (Or.inl rfl) (pe_xf (C := c.rule) XF hno hz hf (pv 4)))))) .nil))
      (pss_one (ps_ret (pv 3))))), ?_⟩
    obtain ⟨dx, n, q, t, h1, _⟩ := id hs
    refine ⟨_, rfl, a, dx, _, rfl, h1, _, rfl, _, rfl, a, vp, vw, s, dp, dw, rfl, hs, gs, hp, hw, fun h => ?_, fun p2 h => ?_⟩
    · rw [hf0] at h
      cases h
    · rw [hf0] at h
      cases h
      intro H1 d1 s1 hd1 hx1
      refine ⟨true, xR, fun _ e he => ?_, fun z => Bool.noConfusion z⟩
      refine ⟨_, rfl, rfl, rfl, d1, _, _, rfl, hx1, rfl, ?_⟩
      exact ⟨_, rfl, k H1 s1⟩
def spLO (K : PySem.W.Frag) (C : Addr) : Sp := fun vs H Q _ => ∃ (a : Addr) (v : V) (s : Sc) (d : PyData), vs = [.ref a, v] ∧ SceneAt K C H a s ∧ Dp K H v d ∧ noWord s d = true ∧ ∀ H', Same H H' → Q v H'
theorem scLO : FnScope ["_law_scene_here", "_law_word", "_law_told_here", "e"] ["_law_scene_here", "_law_word"] (defScope sLO) := ⟨rfl, rfl, rfl, by decide +kernel, rfl, by decide +kernel, by decide +kernel⟩
theorem ok_lawOut {C cw : Addr} (D : Dat K mg "_law_out" sLO) (M : MSl P w K mg base 6 C "without" (spWithout K C cw)) (gW : mg "UnknownWord" = some (.ref cw)) (xW : PySem.W.exmOne K (.ref cw) (.ref cw) = some true) (XF : XfC K cw) (hno : PySem.W.findIn K (.ref cw) "word" = some none) :
    Fn P w K mg base CX0 7 "_law_out" (spLO K C) := by
  refine Fn.of0 D scLO (fun _ _ _ _ _ _ us hl => match us, hl with | [_, _], _ => rfl) (fun vs H Q E h => ?_) (fun f cdv A outer s0 H vs Q E hr h => ?_)
  · obtain ⟨a, v, s, d, rfl, _⟩ := h
    rfl
  · obtain ⟨a, v, s, d, rfl, hs, hv, hn, k⟩ := h
    refine ⟨_, (pss_cons (ps_set (i := 2) scLO.nd rfl (Or.inl rfl) pe_str)
      (pss_cons (ps_try_mix rfl rfl scLO.nd takes_none5 (fun W pn xe tk own => (pss_one (ps_expr (pe_mslS M hr tk (pv 0) (pa_cons (pv 1) pa_nil))))) (.cons (.named (i := 3) ⟨rfl, by decide, .inl gW⟩ rfl rfl (fun a oe cls d pn hz hf => (pss_one (ps_set (i := 2) scLO.nd rfl (Or.inl rfl) (pe_xf (C := cw) XF hno hz hf (pv 3)))))) .nil))
      (pss_one (ps_ret (pv 2))))), ?_⟩
    obtain ⟨dx, n, q, t, h1, _⟩ := id hs
    refine ⟨_, rfl, a, dx, _, rfl, h1, _, rfl, a, v, s, d, rfl, hs, hv, hn, ?_⟩
    intro H1 d1 s1 hd1 hx1
    refine ⟨true, xW, fun _ e he => ?_, fun z => Bool.noConfusion z⟩
    refine ⟨_, rfl, rfl, rfl, d1, _, _, rfl, hx1, rfl, ?_⟩
    exact ⟨_, rfl, k H1 s1⟩
end
end HP

namespace HP
open PySem PySem.Spec PyProof.Rows L2 SlX
abbrev sTold : Stmt := top 27
/-- which class catches which -/
structure ExT (K : PySem.W.Frag) (c : Cls4) : Prop where
  tt : PySem.W.exmOne K (.ref c.things) (.ref c.things) = some true
  vt : PySem.W.exmOne K (.ref c.values) (.ref c.things) = some false
  vv : PySem.W.exmOne K (.ref c.values) (.ref c.values) = some true
  rt : PySem.W.exmOne K (.ref c.rule) (.ref c.things) = some false
  rv : PySem.W.exmOne K (.ref c.rule) (.ref c.values) = some false
  rr : PySem.W.exmOne K (.ref c.rule) (.ref c.rule) = some true
  wt : PySem.W.exmOne K (.ref c.words) (.ref c.things) = some false
  wv : PySem.W.exmOne K (.ref c.words) (.ref c.values) = some false
  wr : PySem.W.exmOne K (.ref c.words) (.ref c.rule) = some false
  ww : PySem.W.exmOne K (.ref c.words) (.ref c.words) = some true
section
variable {X : Cx}
def rIsX (K : PySem.W.Frag) (D a : Addr) (cls : Value) (d : Option Addr) : List V → Hp → VK → Prop := fun xs H Q => cls = .ref D ∧ d = none ∧ rIsE K D a xs H Q
theorem call_isX {a D : Addr} {oe : Obj} {cls : Value} {d : Option Addr} {pn : List (Addr × Obj)} {K : PySem.W.Frag} (C : ExcC K D) (hz : Zc cls d oe) (hf : ∃ vs, oe.data = .fields vs) (hK : X.K = K := by rfl) : CallR (X.suite a ((a, oe) :: pn)) (.builtin "isinstance") (rIsX K D a cls d) := by
  intro pins s σ H xs us Q I r h
  obtain ⟨rfl, rfl, h⟩ := h
  subst hK
  exact call_isE C hz hf pins s σ H xs us Q I r h
theorem peSceneS {C : Addr} {c : Cls4} {n : Nat} {e : Expr} {es : List Expr} {t : TA} {p pos : Pos} {W : WX} {K : PySem.W.Frag} (M : ScMk X.prog X.w X.K X.mg X.base C c) (hr : Room n X.A) (hn : 5 ≤ n) (tk : Takes X W) (ha : PA X (e :: es) t) (hg : Gl X "Scene" := by rfl)
    (he : starEach (e :: es) X.env = (false, eval e X.env) :: starEach es X.env := by rfl) (hpl : (backTo pos (starEach es X.env)).any (·.1) = false := by rfl) (hK : X.K = K := by rfl) : PE X (.Call (.Name "Scene" p) (e :: es) [] pos) (tMakeS C (spInit K C c) (WE W) t) := by
  subst hK
  obtain ⟨fI, fd, h1, h2, h3, h4⟩ := M
  exact pe_makeS h2 h4 (hr.mono hn) hg h1 h3 tk ha (by decide) he hpl
end
section
variable {P : Program} {w : World} {K : PySem.W.Frag} {mg : Str → Option Value} {base : Heap}
theorem scene_useR {C x dx : Addr} {c : Cls4} {H : Hp} {R : Hp → Prop} {E : XK} {vT vM vR vW : V} {dT dM dW : PyData} {r : Option (List (Key × PyData))} (nx : H x = none) (ndx : H dx = none) (ne : dx ≠ x) (ar : ScArgs K H vT vM vR vW dT dM r dW)
    (kQ : sceneFault dT dM r dW = none → ∀ H', Same H H' → SceneAt K C H' x (scOf dT dM r dW) → R H') (kE : ∀ f, sceneFault dT dM r dW = some f → Raised c H E f) :
    spInit K C c [.ref x, vT, vM, vR, vW] (upd (upd H dx (.own x)) x (.ins C dx [])) (fun v H2 => v = .non ∧ R H2) E := scene_use (Q := fun _ H => R H) nx ndx ne ar kQ kE
def toldD : Option Fault → PyData
  | none => .none
  | some .things => .str "things"
  | some .values => .str "many"
  | some (.rule p) => .tuple [.str "rule", .str p]
  | some .words => .str "words"
/-- the list of five that the law holds -/
def Held (K : PySem.W.Frag) (H : Hp) (a : Addr) (dT dM : PyData) (r : Option (List (Key × PyData))) (dW : PyData) : Prop := ∃ vT vM vR vW ve, H a = some (.lst [vT, vM, vR, vW, ve]) ∧ ScArgs K H vT vM vR vW dT dM r dW
def spTold (K : PySem.W.Frag) : Sp := fun vs H Q _ => ∃ (a : Addr) (dT dM : PyData) (r : Option (List (Key × PyData))) (dW : PyData), vs = [.ref a] ∧ Held K H a dT dM r dW ∧ ∀ H' v, Same H H' → Dp K H' v (toldD (sceneFault dT dM r dW)) → Q v H'
theorem scTold : FnScope ["_law_t", "_law_told_here", "e"] ["_law_t"] (defScope sTold) := ⟨rfl, rfl, rfl, by decide +kernel, rfl, by decide +kernel, by decide +kernel⟩
theorem ok_told {C hE : Addr} {c : Cls4} (D : Dat K mg "_law_told" sTold) (T : Fr mg) (M : ScMk P w K mg base C c) (gT : mg "InvalidThings" = some (.ref c.things)) (gV : mg "InvalidValues" = some (.ref c.values)) (gR : mg "InvalidRule" = some (.ref c.rule)) (gW : mg "InvalidWords" = some (.ref c.words)) (gH : mg "HandError" = some (.ref hE))
    (xT : ExT K c) (EC : ExcC K c.things) (kH : PySem.W.kitOne K (.ref c.things) (.ref hE) = some true) (XF : XfC K c.rule) (hno : PySem.W.findIn K (.ref c.rule) "part" = some none) :
    Fn P w K mg base CX0 6 "_law_told" (spTold K) := by
  refine Fn.of0 D scTold (fun _ _ _ _ _ _ us hl => match us, hl with | [_], _ => rfl) (fun vs H Q E h => ?_) (fun f cdv A outer s0 H vs Q E hr h => ?_)
  · obtain ⟨a, dT, dM, r, dW, rfl, _⟩ := h
    rfl
  · obtain ⟨a, dT, dM, r, dW, rfl, ⟨vT, vM, vR, vW, ve, ha, ar⟩, k⟩ := h
    refine ⟨_, (pss_cons (ps_set (i := 1) scTold.nd rfl (Or.inl rfl) pe_non)
      (pss_cons (ps_try_mix rfl rfl scTold.nd takes_none5 (fun W pn xe tk own => (pss_one (ps_expr (peSceneS (K := K) M hr (by decide) tk (pa_cons (pe_ix (ixL (K := K)) (pv 0) pe_int (fun _ _ => rfl)) (pa_cons (pe_ix (ixL (K := K)) (pv 0) pe_int (fun _ _ => rfl)) (pa_cons (pe_ix (ixL (K := K)) (pv 0) pe_int (fun _ _ => rfl)) (pa_cons (pe_ix (ixL (K := K)) (pv 0) pe_int (fun _ _ => rfl)) pa_nil)))))))) (.cons (.named (i := 2) ⟨rfl, by decide, .inl gT⟩ rfl rfl (fun a oe cls d pn hz hf => (pss_one (ps_set (i := 1) scTold.nd rfl (Or.inl rfl) (pe_ifExp (pt_val (pe_callB (call_isX (K := K) EC hz hf) (by rfl) (T.fr "isinstance" (by decide +kernel)) (by decide +kernel) (pa_cons (pv 2) (pa_cons (pe_glob (v := .ref hE) (by rfl) gH rfl) pa_nil)))) pe_str pe_str))))) (.cons (.anon ⟨rfl, by decide, .inl gV⟩ (fun a oe cls d pn hz hf => (pss_one (ps_set (i := 1) scTold.nd rfl (Or.inl rfl) pe_str)))) (.cons (.named (i := 2) ⟨rfl, by decide, .inl gR⟩ rfl rfl (fun a oe cls d pn hz hf => (pss_one (ps_set (i := 1) scTold.nd rfl (Or.inl rfl) (pe_tup (pa_cons pe_str (pa_cons (pe_xf (C := c.rule) XF hno hz hf (pv 2)) pa_nil))))))) (.cons (.anon ⟨rfl, by decide, .inl gW⟩ (fun a oe cls d pn hz hf => (pss_one (ps_set (i := 1) scTold.nd rfl (Or.inl rfl) pe_str)))) .nil)))))
      (pss_one (ps_ret (pv 1))))), ?_⟩
    refine ⟨_, rfl, a, _, 0, vT, rfl, rfl, SqL.of ha, rfl, ?_⟩
    refine ⟨_, rfl, a, _, 1, vM, rfl, rfl, SqL.of ha, rfl, ?_⟩
    refine ⟨_, rfl, a, _, 2, vR, rfl, rfl, SqL.of ha, rfl, ?_⟩
    refine ⟨_, rfl, a, _, 3, vW, rfl, rfl, SqL.of ha, rfl, ?_⟩
    intro x dx nx ndx ne
    refine scene_useR nx ndx ne ar (fun h H1 s1 st => ?_) (fun f h => ?_)
    · refine ⟨_, rfl, k H1 _ s1 ?_⟩
      rw [h]
      exact .non
    · cases f with
      | things =>
        intro H1 s1
        refine ⟨true, xT.tt, fun _ e he => ?_, fun z => Bool.noConfusion z⟩
        refine ⟨_, rfl, rfl, rfl, _, _, true, rfl, fun u hu => hu, kH, _, rfl, ?_⟩
        refine iteT ?_
        refine ⟨_, rfl, k H1 _ s1 ?_⟩
        rw [h]
        exact .str _
      | values =>
        intro H1 s1
        refine ⟨false, xT.vt, fun z => Bool.noConfusion z, fun _ => ?_⟩
        refine ⟨true, xT.vv, fun _ e he => ?_, fun z => Bool.noConfusion z⟩
        refine ⟨_, rfl, k H1 _ s1 ?_⟩
        rw [h]
        exact .str _
      | words =>
        intro H1 s1
        refine ⟨false, xT.wt, fun z => Bool.noConfusion z, fun _ => ?_⟩
        refine ⟨false, xT.wv, fun z => Bool.noConfusion z, fun _ => ?_⟩
        refine ⟨false, xT.wr, fun z => Bool.noConfusion z, fun _ => ?_⟩
        refine ⟨true, xT.ww, fun _ e he => ?_, fun z => Bool.noConfusion z⟩
        refine ⟨_, rfl, k H1 _ s1 ?_⟩
        rw [h]
        exact .str _
      | rule p =>
        intro H1 d1 s1 hd1 hx1
        refine ⟨false, xT.rt, fun z => Bool.noConfusion z, fun _ => ?_⟩
        refine ⟨false, xT.rv, fun z => Bool.noConfusion z, fun _ => ?_⟩
        refine ⟨true, xT.rr, fun _ e he => ?_, fun z => Bool.noConfusion z⟩
        refine ⟨_, rfl, rfl, rfl, d1, _, _, rfl, hx1, rfl, ?_⟩
        refine ⟨(by show 2 ≤ sizeLine; decide), fun q hq => ?_⟩
        refine ⟨_, rfl, k _ _ (same_new s1 hq) ?_⟩
        rw [h]
        exact .tup (SqT.of upd_same) (.cons (.str _) (.cons (.str _) .nil))
end
end HP

namespace HP
open PySem PySem.Spec PyProof.Rows L2 SlX
abbrev sDue : Stmt := top 25
def flatD : PyData → Bool
  | .none => true
  | .bool _ => true
  | .int _ => true
  | .str _ => true
  | _ => false
theorem flat_of {K : PySem.W.Frag} {H : Hp} {v : V} {d : PyData} (h : Dp K H v d) (f : flatD d = true) : flatV v = true := by
  cases h <;> first | rfl | cases f
theorem inV_part {K : PySem.W.Frag} {H : Hp} {v : V} {d : PyData} (h : Dp K H v d) (f : flatD d = true) (p : Str) : inV v ((partWords p).map V.str) = goodPart p (some d) := by
  cases h with
  | str x => exact inV_strs _ _
  | lst _ _ => cases f
  | tup _ _ => cases f
  | _ =>
    unfold inV
    rw [List.any_map]
    generalize partWords p = l
    induction l with
    | nil => rfl
    | cons z l ih =>
      rw [List.any_cons, ih]
      rfl
theorem az_is (c : Nat) : isLet c = (!decide ([c] < ("a" : Str).cps.toList) && !decide (("z" : Str).cps.toList < [c])) := by
  have e1 : ("a" : Str).cps.toList = [97] := by decide +kernel
  have e2 : ("z" : Str).cps.toList = [122] := by decide +kernel
  have e3 : az.cps.toList = List.range' 97 26 := by decide +kernel
  unfold isLet
  rw [e1, e2, e3]
  have h1 : decide ([c] < [97]) = decide (c < 97) := by
    by_cases h : c < 97
    · rw [decide_eq_true h]
      exact decide_eq_true (List.Lex.rel h)
    · rw [decide_eq_false h]
      refine decide_eq_false fun q => ?_
      cases q with
      | rel q => exact h q
      | cons q => cases q
  have h2 : decide ([122] < [c]) = decide (122 < c) := by
    by_cases h : 122 < c
    · rw [decide_eq_true h]
      exact decide_eq_true (List.Lex.rel h)
    · rw [decide_eq_false h]
      refine decide_eq_false fun q => ?_
      cases q with
      | rel q => exact h q
      | cons q => cases q
  rw [h1, h2]
  have h3 : (c ∈ List.range' 97 26) ↔ (¬ c < 97 ∧ ¬ 122 < c) := by
    rw [List.mem_range'_1]
    omega
  by_cases a : c < 97 <;> by_cases b : 122 < c <;> simp [h3, a, b]
/-- a written list of two texts -/
theorem lst2 {x y : Str} {σ : L2.St} {H : Hp} {Q : VK} (k : ∀ H' q, Same H H' → H' q = some (.lst [.str x, .str y]) → Q (.ref q) H') : tLst (tCons (tC (.str x)) (tCons (tC (.str y)) tNil)) σ H Q :=
  ⟨by show 2 ≤ sizeLine; decide, fun q hq => k _ q (same_new (Same.refl H) hq) upd_same⟩
theorem pair2 {key x y : Str} {r : List (TE × TE)} {σ : L2.St} {H : Hp} {Q : List (V × V) → Hp → Prop} (k : ∀ H' q, Same H H' → H' q = some (.lst [.str x, .str y]) → tPairs r σ H' fun ps H3 => Q ((.str key, .ref q) :: ps) H3) :
    tPairs ((tC (.str key), tLst (tCons (tC (.str x)) (tCons (tC (.str y)) tNil))) :: r) σ H Q := lst2 (σ := σ) (Q := fun y H2 => tPairs r σ H2 fun ps H3 => Q ((.str key, y) :: ps) H3) k
theorem keys_pair {K : PySem.W.Frag} {H : Hp} {kvs : List (Key × V)} {kds : List (Key × PyData)} (h : Paired (fun (p : Key × V) (q : Key × PyData) => p.1 = q.1 ∧ Dp K H p.2 q.2) kvs kds) : kvs.map (·.1) = kds.map (·.1) := by
  induction h with
  | nil => rfl
  | cons r t ih => rw [List.map_cons, List.map_cons, r.1, ih]
theorem txt_keys : ∀ {l : List Key}, l.all isTxt = true → l.map kV = (l.map txt).map V.str
  | [], _ => rfl
  | k :: l, h => by
    rw [List.all_cons, Bool.and_eq_true] at h
    rw [List.map_cons, List.map_cons, List.map_cons, ← txt_keys h.2]
    cases k with
    | inl n => cases h.1
    | inr x => rfl
def lp6 (q1 q2 q3 q4 q5 q6 : Addr) (p : Str) : Addr := if p = "asleep" then q1 else if p = "changing" then q2 else if p = "count" then q3 else if p = "first" then q4 else if p = "ring" then q5 else q6
theorem parts_cases {p : Str} (hq : p ∈ partNames) : p = "asleep" ∨ p = "changing" ∨ p = "count" ∨ p = "first" ∨ p = "ring" ∨ p = "sorting" := by
  simp only [partNames, List.mem_cons, List.not_mem_nil, or_false] at hq
  exact hq
section
variable {P : Program} {w : World} {K : PySem.W.Frag} {mg : Str → Option Value} {base : Heap}
def spDue (K : PySem.W.Frag) : Sp := fun vs H Q _ => ∃ (a : Addr) (dT dM : PyData) (r : Option (List (Key × PyData))) (dW : PyData), vs = [.ref a] ∧ Held K H a dT dM r dW ∧ (∀ kds, r = some kds → ∀ kv ∈ kds, flatD kv.2 = true) ∧ ∀ H' v, Same H H' → Dp K H' v (toldD (sceneFault dT dM r dW)) → Q v H'
theorem scDue : FnScope ["_law_t", "_law_x", "_law_good", "_law_part", "_law_every", "_law_things", "_law_many", "_law_rule_here", "_law_some", "_law_one", "_law_sign"] ["_law_t"] (defScope sDue) := ⟨rfl, rfl, rfl, by decide +kernel, rfl, by decide +kernel, by decide +kernel⟩
theorem ok_due (D : Dat K mg "_law_due" sDue) (T : Fr mg) : Fn P w K mg base CX0 1 "_law_due" (spDue K) := by
  refine Fn.of0 D scDue (fun _ _ _ _ _ _ us hl => match us, hl with | [_], _ => rfl) (fun vs H Q E h => ?_) (fun f cdv A outer s0 H vs Q E hr h => ?_)
  · obtain ⟨a, dT, dM, r, dW, rfl, _⟩ := h
    rfl
  · obtain ⟨a, dT, dM, r, dW, rfl, ⟨vT, vM, vR, vW, ve, ha, ar⟩, hfl, k⟩ := h
    have hu : _ < cLine := hu_of hr
    refine ⟨_, (pss_cons (ps_asg (pe_slice (slL (K := K)) (pv 0) po_none (po_some pe_int)) (pg_lst (by rfl) (pgs_cons (pg_name (i := 5) scDue.nd rfl (Or.inl rfl)) (pgs_cons (pg_name (i := 6) scDue.nd rfl (Or.inl rfl)) (pgs_cons (pg_name (i := 7) scDue.nd rfl (Or.inl rfl)) (pgs_cons (pg_name (i := 8) scDue.nd rfl (Or.inl rfl)) pgs_nil))))))
      (pss_cons (ps_if (PW.pt (pw_or (pt_not (pt_val (pe_callB (kIsi (K := K)) (by rfl) (T.fr "isinstance" (by decide +kernel)) (by decide +kernel) (pa_cons (pv 5) (pa_cons (pe_bltn (v := .ty "tuple") (u := .type "tuple") (by rfl) (T.fr "tuple" (by decide +kernel)) (by decide +kernel) rfl) pa_nil))))) (pw_or1 (pt_not (pt_chain op_le op_le pe_int (pe_callB (kLen (K := K)) (by rfl) (T.fr "len" (by decide +kernel)) (by decide +kernel) (pa_cons (pv 5) pa_nil)) pe_int))))) (pss_one (ps_ret pe_str)) pss_nil)
      (pss_cons (ps_for PassesOwn.never rfl (iT (K := K) (pv 5)) (pg_name (i := 1) scDue.nd rfl (Or.inl rfl)) (pss_one (ps_if (PW.pt (pw_or (pt_not (pt_val (pe_callB (kIsi (K := K)) (by rfl) (T.fr "isinstance" (by decide +kernel)) (by decide +kernel) (pa_cons (pv 1) (pa_cons (pe_bltn (v := .ty "str") (u := .type "str") (by rfl) (T.fr "str" (by decide +kernel)) (by decide +kernel) rfl) pa_nil))))) (pw_or (pt_not (pt_chain op_lt op_lt pe_int (pe_callB (kLenV (K := K)) (by rfl) (T.fr "len" (by decide +kernel)) (by decide +kernel) (pa_cons (pv 1) pa_nil)) pe_int)) (pw_or1 (pt_not (pt_val (pe_callB (kAll (K := K) rfl) (by rfl) (T.fr "all" (by decide +kernel)) (by decide +kernel) (pa_cons (pe_lc (own := [("_law_sign", 10)]) (g := gName 10) (by rfl) scDue.nd (pi_str (pv 1)) (blkOk_by (own := [("_law_sign", 10)]) (N := ["_law_t", "_law_x", "_law_good", "_law_part", "_law_every", "_law_things", "_law_many", "_law_rule_here", "_law_some", "_law_one", "_law_sign"]) (sc := defScope sDue) (by decide +kernel)) (fun _ _ _ _ _ => (pg_name (i := 10) scDue.nd rfl (Or.inl rfl))) (fun _ _ _ _ _ => pts_nil) (fun _ _ _ _ _ => (pe_chain op_le_str op_le_str pe_str (pv 10) pe_str))) pa_nil)))))))) (pss_one (ps_ret pe_str)) pss_nil)))
      (pss_cons (ps_if (pt_cmpR op_lt (pe_callB (kLenM (w := w)) (by rfl) (T.fr "len" (by decide +kernel)) (by decide +kernel) (pa_cons (pe_callTy (kSet (K := K) (w := w) rfl) (by rfl) (T.fr "set" (by decide +kernel)) (by decide +kernel) (pa_cons (pv 5) pa_nil)) pa_nil)) (pe_callB (kLen (K := K)) (by rfl) (T.fr "len" (by decide +kernel)) (by decide +kernel) (pa_cons (pv 5) pa_nil)) (nomark _)) (pss_one (ps_ret pe_str)) pss_nil)
      (pss_cons (ps_if (PW.pt (pw_or (pt_not (pt_val (pe_callB (kIsi (K := K)) (by rfl) (T.fr "isinstance" (by decide +kernel)) (by decide +kernel) (pa_cons (pv 6) (pa_cons (pe_bltn (v := .ty "int") (u := .type "int") (by rfl) (T.fr "int" (by decide +kernel)) (by decide +kernel) rfl) pa_nil))))) (pw_or (pt_val (pe_callB (kIsi (K := K)) (by rfl) (T.fr "isinstance" (by decide +kernel)) (by decide +kernel) (pa_cons (pv 6) (pa_cons (pe_bltn (v := .ty "bool") (u := .type "bool") (by rfl) (T.fr "bool" (by decide +kernel)) (by decide +kernel) rfl) pa_nil)))) (pw_or1 (pt_not (pt_chain op_le op_le pe_int (pv 6) pe_int)))))) (pss_one (ps_ret pe_str)) pss_nil)
      (pss_cons (ps_set (i := 2) scDue.nd rfl (Or.inl rfl) (pe_disp (pps_cons pe_str (pe_lst (pa_cons pe_str (pa_cons pe_str pa_nil))) (pps_cons pe_str (pe_lst (pa_cons pe_str (pa_cons pe_str pa_nil))) (pps_cons pe_str (pe_lst (pa_cons pe_str (pa_cons pe_str pa_nil))) pps_nil))) (by rfl) (by rfl) (fun z => by cases z) (by decide)))
      (pss_cons (ps_expr (eBm (K := K) PySem.F.plainAttrs_dict PySem.F.slot_dict_update PySem.F.type_dict_update mt_update (pv 2) (pa_cons (pe_disp (pps_cons pe_str (pe_lst (pa_cons pe_str (pa_cons pe_str pa_nil))) (pps_cons pe_str (pe_lst (pa_cons pe_str (pa_cons pe_str pa_nil))) (pps_cons pe_str (pe_lst (pa_cons pe_str (pa_cons pe_str pa_nil))) pps_nil))) (by rfl) (by rfl) (fun z => by cases z) (by decide)) pa_nil)))
      (pss_cons (ps_if (PW.pt (pw_or (pt_not (pt_val (pe_callB (kIsi (K := K)) (by rfl) (T.fr "isinstance" (by decide +kernel)) (by decide +kernel) (pa_cons (pv 7) (pa_cons (pe_bltn (v := .ty "dict") (u := .type "dict") (by rfl) (T.fr "dict" (by decide +kernel)) (by decide +kernel) rfl) pa_nil))))) (pw_or1 (pt_not (pt_val (pe_callB (kAll (K := K) rfl) (by rfl) (T.fr "all" (by decide +kernel)) (by decide +kernel) (pa_cons (pe_lock (pe_lc (own := [("_law_part", 3)]) (g := gName 3) (by rfl) scDue.nd (pi_keys (pv 7)) (blkOk_by (own := [("_law_part", 3)]) (N := ["_law_t", "_law_x", "_law_good", "_law_part", "_law_every", "_law_things", "_law_many", "_law_rule_here", "_law_some", "_law_one", "_law_sign"]) (sc := defScope sDue) (by decide +kernel)) (fun _ _ _ _ _ => (pg_name (i := 3) scDue.nd rfl (Or.inl rfl))) (fun _ _ _ _ _ => pts_nil) (fun _ _ _ _ _ => (pe_callB (kIsi (K := K)) (by rfl) (T.fr "isinstance" (by decide +kernel)) (by decide +kernel) (pa_cons (pv 3) (pa_cons (pe_bltn (v := .ty "str") (u := .type "str") (by rfl) (T.fr "str" (by decide +kernel)) (by decide +kernel) rfl) pa_nil)))))) pa_nil))))))) (pss_one (ps_ret (pe_tup (pa_cons pe_str (pa_cons pe_str pa_nil))))) pss_nil)
      (pss_cons (ps_if (pt_cmpR (oNeD (K := K) hr.units) (pe_callB (kSortS (K := K)) (by rfl) (T.fr "sorted" (by decide +kernel)) (by decide +kernel) (pa_cons (pe_callTy (call_list_dK rfl) (by rfl) (T.fr "list" (by decide +kernel)) (by decide +kernel) (pa_cons (pv 7) pa_nil)) pa_nil)) (pe_callB (kSortS (K := K)) (by rfl) (T.fr "sorted" (by decide +kernel)) (by decide +kernel) (pa_cons (pe_callTy (call_list_dK rfl) (by rfl) (T.fr "list" (by decide +kernel)) (by decide +kernel) (pa_cons (pv 2) pa_nil)) pa_nil)) (nomark _)) (pss_one (ps_ret (pe_tup (pa_cons pe_str (pa_cons pe_str pa_nil))))) pss_nil)
      (pss_cons (ps_for PassesOwn.never rfl (iL (K := K) (pe_callB (kSortS (K := K)) (by rfl) (T.fr "sorted" (by decide +kernel)) (by decide +kernel) (pa_cons (pe_callTy (call_list_dK rfl) (by rfl) (T.fr "list" (by decide +kernel)) (by decide +kernel) (pa_cons (pv 2) pa_nil)) pa_nil))) (pg_name (i := 3) scDue.nd rfl (Or.inl rfl)) (pss_one (ps_if (pt_cmpR (oNotIn (K := K)) (pe_dget hu (pv 7) (pv 3) (fun _ _ => rfl)) (pe_dget hu (pv 2) (pv 3) (fun _ _ => rfl)) (by rfl)) (pss_one (ps_ret (pe_tup (pa_cons pe_str (pa_cons (pv 3) pa_nil))))) pss_nil)))
      (pss_cons (ps_set (i := 4) scDue.nd rfl (Or.inr rfl) (pe_lst (pa_cons pe_str (pa_cons pe_str (pa_cons pe_str (pa_cons pe_str (pa_cons pe_str (pa_cons pe_str (pa_cons pe_str (pa_cons pe_str (pa_cons pe_str pa_nil)))))))))))
      (pss_cons (ps_if (PW.pt (pw_or (pt_not (pt_val (pe_callB (kIsi (K := K)) (by rfl) (T.fr "isinstance" (by decide +kernel)) (by decide +kernel) (pa_cons (pv 8) (pa_cons (pe_bltn (v := .ty "tuple") (u := .type "tuple") (by rfl) (T.fr "tuple" (by decide +kernel)) (by decide +kernel) rfl) pa_nil))))) (pw_or1 (pt_not (pt_val (pe_callB (kAll (K := K) rfl) (by rfl) (T.fr "all" (by decide +kernel)) (by decide +kernel) (pa_cons (pe_lc (own := [("_law_one", 9)]) (g := gName 9) (by rfl) scDue.nd (iT (K := K) (pv 8)) (blkOk_by (own := [("_law_one", 9)]) (N := ["_law_t", "_law_x", "_law_good", "_law_part", "_law_every", "_law_things", "_law_many", "_law_rule_here", "_law_some", "_law_one", "_law_sign"]) (sc := defScope sDue) (by decide +kernel)) (fun _ _ _ _ _ => (pg_name (i := 9) scDue.nd rfl (Or.inl rfl))) (fun _ _ _ _ _ => pts_nil) (fun _ _ _ _ _ => (pe_and (pe_callB (kIsi (K := K)) (by rfl) (T.fr "isinstance" (by decide +kernel)) (by decide +kernel) (pa_cons (pv 9) (pa_cons (pe_bltn (v := .ty "str") (u := .type "str") (by rfl) (T.fr "str" (by decide +kernel)) (by decide +kernel) rfl) pa_nil))) (pe_one (pe_cmpR (oIn (K := K)) (pv 9) (pv 4) (by rfl)))))) pa_nil))))))) (pss_one (ps_ret pe_str)) pss_nil)
      (pss_one (ps_ret (pe_ifExp (pt_cmpR (oEqD (K := K) hr.units) (pe_callTy (kList (K := K)) (by rfl) (T.fr "list" (by decide +kernel)) (by decide +kernel) (pa_cons (pv 8) pa_nil)) (pe_callB (kSortM (w := w) rfl) (by rfl) (T.fr "sorted" (by decide +kernel)) (by decide +kernel) (pa_cons (pe_callTy (kSet (K := K) (w := w) rfl) (by rfl) (T.fr "set" (by decide +kernel)) (by decide +kernel) (pa_cons (pv 8) pa_nil)) pa_nil)) (nomark _)) pe_non pe_str))))))))))))))), ?_⟩
    refine ⟨_, rfl, _, rfl, a, _, rfl, SqL.of ha, fun l hl => ?_⟩
    have s1 : Same H (upd H l (.lst (cutV [vT, vM, vR, vW, ve] none (some 4)))) := same_new (Same.refl H) hl
    refine ⟨l, _, rfl, SqL.of upd_same, rfl, ?_⟩
    have ar1 := ar.same s1
    generalize upd H l (.lst (cutV [vT, vM, vR, vW, ve] none (some 4))) = H1 at s1 ar1
    have eC : cutV [vT, vM, vR, vW, ve] none (some 4) = [vT, vM, vR, vW] := rfl
    rw [eC]
    refine ⟨_, _, rfl, _, _, rfl, _, _, rfl, _, _, rfl, rfl, ?_⟩
    show tSeq _ _ _ [some (.ref a), none, none, none, none, some vT, some vM, some vR, some vW, none, none] H1
    have out : ∀ f, sceneFault dT dM r dW = some f → ∀ H' v, Same H H' → Dp K H' v (toldD (some f)) → Q v H' := fun f h H' v s d => k H' v s (by rw [h]; exact d)
    refine ⟨_, rfl, vT, _, _, _, _, rfl, .ty "tuple", dp_ty ar1.ht, kitD dT (by decide), _, rfl, ?_⟩
    have badT : ∀ H', Same H H' → isThingsD dT = false → Q (.str "things") H' := fun H' s h => out .things (by unfold sceneFault; rw [h]; rfl) H' _ s (.str _)
    cases dT with
    | tuple ds =>
      refine iteF ?_
      have hT := ar1.ht
      generalize eT : vT = vT' at hT
      cases hT with
      | @tup aT xs _ hS hA =>
      subst eT
      have hlen : xs.length = ds.length := DpAll.len hA
      have en : isThingsD (.tuple ds) = (decide (1 ≤ (xs.length : Int)) && (decide ((xs.length : Int) ≤ 4) && (ds.all isNameD && distinct (ds.map strOf)))) := by rw [hlen]; rfl
      rw [en] at badT
      refine ⟨_, rfl, aT, _, rfl, .inr hS, _, _, rfl, rfl, _, rfl, ?_⟩
      cases h1 : decide (1 ≤ (xs.length : Int)) with
      | false =>
        rw [h1] at badT
        refine iteF ⟨_, rfl, ?_⟩
        refine iteT ?_
        exact badT H1 s1 rfl
      | true =>
        rw [h1] at badT
        refine iteT ⟨_, _, rfl, rfl, _, rfl, ?_⟩
        cases h2 : decide ((xs.length : Int) ≤ 4) with
        | false =>
          rw [h2] at badT
          refine iteT ?_
          exact badT H1 s1 rfl
        | true =>
          rw [h2] at badT
          refine iteF ?_
          have h4 : xs.length ≤ 4 := Int.ofNat_le.mp (of_decide_eq_true h2)
          refine ⟨_, rfl, aT, rfl, ⟨_, hS⟩, ?_⟩
          have sm : ∀ x, PyData.str x ∈ ds → x.length ≤ 100000 := fun x hx => ar.hts ds rfl x hx
          refine for_it walk_tup (fun i σ H2 => ∃ v1, σ = [some (.ref a), v1, none, none, none, some (.ref aT), some vM, some vR, some vW, none, none] ∧ Same H1 H2 ∧ (ds.take i).all isNameD = true) ⟨none, rfl, Same.refl H1, rfl⟩ (fun i σ H2 _ ⟨_, _, s2, _⟩ => SqT.same s2 hS) ?_ ?_
          · rintro i y σ H2 H3 hi ⟨v1, rfl, s2, hall⟩ ⟨rfl, hy⟩
            obtain ⟨e, he, hde⟩ := DpAll.at hA hy
            have hde := Dp.same s2 e hde
            have stop : isNameD e = false → ∀ H', Same H1 H' → Q (.str "things") H' := fun h H' s' => badT H' (s1.trans s') (by
              have : ds.all isNameD = false := by
                cases q : ds.all isNameD with
                | false => rfl
                | true =>
                  have := List.all_eq_true.mp q e (List.mem_of_getElem? he)
                  rw [h] at this
                  cases this
              rw [this]
              rfl)
            have go : isNameD e = true → (ds.take (i + 1)).all isNameD = true := fun h => by
              rw [List.take_add_one, he, List.all_append, hall]
              show (true && (isNameD e && true)) = true
              rw [h]
              rfl
            refine ⟨_, rfl, y, _, _, _, _, rfl, .ty "str", dp_ty hde, kitD e (by decide), _, rfl, ?_⟩
            cases e with
            | str x =>
              cases hde
              have hxl : x.length ≤ sizeLine := Nat.le_trans (sm x (List.mem_of_getElem? he)) (by decide)
              have en2 : isNameD (.str x) = (decide (1 ≤ (x.length : Int)) && (decide ((x.length : Int) ≤ 8) && x.cps.toList.all isLet)) := rfl
              refine iteF ?_
              refine ⟨_, rfl, _, x.length, rfl, ⟨hxl, rfl⟩, _, _, rfl, rfl, _, rfl, ?_⟩
              have c1 : decide (0 < (x.length : Int)) = decide (1 ≤ (x.length : Int)) := decide_eq_decide.mpr (by omega)
              have c2 : decide ((x.length : Int) < 9) = decide ((x.length : Int) ≤ 8) := decide_eq_decide.mpr (by omega)
              rw [c1]
              cases g1 : decide (1 ≤ (x.length : Int)) with
              | false =>
                refine iteF ⟨_, rfl, ?_⟩
                refine iteT ?_
                refine iteT ?_
                exact stop (by rw [en2, g1]; rfl) H3 s2
              | true =>
                refine iteT ⟨_, _, rfl, rfl, _, rfl, ?_⟩
                rw [c2]
                cases g2 : decide ((x.length : Int) ≤ 8) with
                | false =>
                  refine iteT ?_
                  refine iteT ?_
                  exact stop (by rw [en2, g1, g2]; rfl) H3 s2
                | true =>
                  refine iteF ?_
                  have hxs : x.cps.size ≤ 8 := Int.ofNat_le.mp (of_decide_eq_true g2)
                  refine ⟨_, rfl, x, rfl, fun D hD => ?_⟩
                  refine lc_it walk_str (Cv H3 D fun i => ((x.cps.toList.take i).map isLet).map V.bl) (cv0 hD rfl) (fun _ _ _ _ => True.intro) (fun i y H2 H4 hi p q => ?_) (fun H4 p => ?_)
                  · obtain ⟨rfl, c, hc, rfl⟩ := q
                    refine ⟨rfl, ?_⟩
                    refine lc_yes ?_
                    have fin : ∃ acc, H4 D = some (.lst acc) ∧ acc.length < sizeLine ∧ Cv H3 D (fun i => ((x.cps.toList.take i).map isLet).map V.bl) (i + 1) (upd H4 D (.lst (acc ++ [.bl (isLet c)]))) := by
                      refine cv_yes hD p.1 p.2 ?_ ?_
                      · simp only [List.length_map, List.length_take]
                        omega
                      · have hc' : x.cps.toList[i]? = some c := by rw [Array.getElem?_toList]; exact hc
                        rw [snoc_at isLet hc', List.map_append]
                        rfl
                    rw [az_is] at fin
                    refine ⟨_, rfl, _, _, rfl, rfl, _, rfl, ?_⟩
                    show if (!decide ([c] < ("a" : Str).cps.toList)) = true then _ else _
                    cases q1 : decide ([c] < ("a" : Str).cps.toList) with
                    | true =>
                      rw [q1] at fin
                      exact iteF fin
                    | false =>
                      rw [q1] at fin
                      refine iteT ⟨_, _, rfl, rfl, ?_⟩
                      exact fin
                  · have e9 : x.cps.toList.take x.cps.size = x.cps.toList := by rw [← Array.length_toList, List.take_length]
                    have hp2 : H4 D = some (.lst ((x.cps.toList.map isLet).map V.bl)) := by rw [← e9]; exact p.2
                    refine ⟨D, x.cps.toList.map isLet, rfl, SqL.of hp2, _, rfl, ?_⟩
                    have e2 : (x.cps.toList.map isLet).all id = x.cps.toList.all isLet := by rw [List.all_map]; rfl
                    rw [e2]
                    cases g3 : x.cps.toList.all isLet with
                    | false =>
                      refine iteT ?_
                      exact stop (by rw [en2, g1, g2, g3]; rfl) H4 (s2.trans p.1)
                    | true =>
                      refine iteF ?_
                      exact ⟨_, rfl, s2.trans p.1, go (by rw [en2, g1, g2, g3]; rfl)⟩
            | _ =>
              refine iteT ?_
              refine iteT ?_
              exact stop rfl H3 s2
          · rintro σ H2 ⟨v1, rfl, s2, hall⟩
            rw [hlen, List.take_length] at hall
            rw [hall] at badT
            have eds := names_strs hall
            have hvs : xs = ((ds.map strOf).map Sum.inr).map kV := by
              rw [eds] at hA
              rw [kv_strs]
              exact dp_strs hA
            have hS2 : SqT K H2 aT (((ds.map strOf).map Sum.inr).map kV) := by rw [← hvs]; exact SqT.same s2 hS
            refine ⟨_, rfl, aT, (ds.map strOf).map Sum.inr, rfl, .inr hS2, ?_, fun q hq => ?_⟩
            · simp only [List.length_map]
              omega
            refine ⟨q, _, rfl, upd_same, ?_⟩
            have s3 : Same H2 (upd H2 q (SM.SetMO w q (SM.ofKeys ((ds.map strOf).map Sum.inr)))) := same_new (Same.refl H2) hq
            have e5 : decide (((SM.ofKeys ((ds.map strOf).map Sum.inr)).length : Int) < (xs.length : Int)) = !distinct (ds.map strOf) := by
              have z := setS_len (ds.map strOf)
              rw [← ofKeys_len, ofKeys_strs, List.length_map, List.length_map, hlen]
              rw [List.length_map] at z
              by_cases y : ((setS (ds.map strOf)).length : Int) = (ds.length : Int)
              · rw [decide_eq_true y]
                exact decide_eq_false (by omega)
              · rw [decide_eq_false y]
                exact decide_eq_true (by omega)
            refine ⟨_, rfl, aT, xs, rfl, .inr (SqT.same (s2.trans s3) hS), _, _, rfl, rfl, _, rfl, ?_⟩
            rw [e5]
            have s13 := s1.trans (s2.trans s3)
            generalize upd H2 q (SM.SetMO w q (SM.ofKeys ((ds.map strOf).map Sum.inr))) = H3 at s13
            clear s3
            cases h6 : distinct (ds.map strOf) with
            | false =>
              rw [h6] at badT
              refine iteT ?_
              exact badT _ s13 rfl
            | true =>
              refine iteF ?_
              have hThings : isThingsD (.tuple ds) = true := by rw [en, h1, h2, hall, h6]; rfl
              have arM := Dp.same s13 _ ar.hm
              refine ⟨_, rfl, vM, _, _, _, _, rfl, .ty "int", dp_ty arM, kitD dM (by decide), _, rfl, ?_⟩
              have badM : isManyD dM = false → Q (.str "many") H3 := fun h => out .values (by unfold sceneFault; rw [hThings, h]; rfl) H3 _ s13 (.str _)
              cases dM with
              | int i =>
                refine iteF ?_
                generalize eM : vM = vM' at arM
                cases arM
                subst eM
                refine ⟨_, rfl, _, _, _, _, _, rfl, .ty "bool", .base (.int i), kit_ty (r := false) (by decide +kernel), _, rfl, ?_⟩
                refine iteF ?_
                refine ⟨_, rfl, _, _, rfl, rfl, _, rfl, ?_⟩
                cases h7 : decide (1 ≤ i) with
                | false =>
                  refine iteF ⟨_, rfl, ?_⟩
                  refine iteT ?_
                  exact badM (by show (decide (1 ≤ i) && decide (i ≤ 3)) = false; rw [h7]; rfl)
                | true =>
                  refine iteT ⟨_, _, rfl, rfl, _, rfl, ?_⟩
                  cases h8 : decide (i ≤ 3) with
                  | false =>
                    refine iteT ?_
                    exact badM (by show (decide (1 ≤ i) && decide (i ≤ 3)) = false; rw [h7, h8]; rfl)
                  | true =>
                    refine iteF ?_
                    have hMany : isManyD (.int i) = true := by show (decide (1 ≤ i) && decide (i ≤ 3)) = true; rw [h7, h8]; rfl
                    have outR : ∀ p, faultOf r = some p → ∀ H', Same H H' → ∀ q, H' q = none → Q (.ref q) (upd H' q (.tup [.str "rule", .str p])) := fun p h H' s q hq =>
                      out (.rule p) (by unfold sceneFault; rw [hThings, hMany, h]; rfl) _ _ (same_new s hq) (.tup (SqT.of upd_same) (.cons (.str _) (.cons (.str _) .nil)))
                    -- good
                    intro g hg
                    refine pair2 fun H4 q1 s4 e1 => ?_
                    refine pair2 fun H5 q2 s5 e2 => ?_
                    refine pair2 fun H6 q3 s6 e3 => ?_
                    refine ⟨(s4.trans (s5.trans s6)) _ _ upd_same, [(Sum.inr "asleep", .ref q1), (Sum.inr "changing", .ref q2), (Sum.inr "count", .ref q3)], rfl, (by show 3 ≤ 15; decide), ?_⟩
                    have hg6 := (s4.trans (s5.trans s6)) _ _ upd_same
                    have s7 : Same H3 (upd H6 g (.dK (mergeK [] [(Sum.inr "asleep", .ref q1), (Sum.inr "changing", .ref q2), (Sum.inr "count", .ref q3)]))) := fun b o e => by
                      rw [upd_ne (ne_of_none e hg)]
                      exact (s4.trans (s5.trans s6)) _ _ (by rw [upd_ne (ne_of_none e hg)]; exact e)
                    have n1 : q1 ≠ g := ne_of (s5.trans s6 _ _ e1) hg6 (by intro z; cases z)
                    have n2 : q2 ≠ g := ne_of (s6 _ _ e2) hg6 (by intro z; cases z)
                    have n3 : q3 ≠ g := ne_of e3 hg6 (by intro z; cases z)
                    have f1 : upd H6 g (.dK (mergeK [] [(Sum.inr "asleep", .ref q1), (Sum.inr "changing", .ref q2), (Sum.inr "count", .ref q3)])) q1 = some (.lst [.str "keep", .str "drop"]) := by rw [upd_ne n1]; exact (s5.trans s6) _ _ e1
                    have f2 : upd H6 g (.dK (mergeK [] [(Sum.inr "asleep", .ref q1), (Sum.inr "changing", .ref q2), (Sum.inr "count", .ref q3)])) q2 = some (.lst [.str "keep", .str "clear"]) := by rw [upd_ne n2]; exact s6 _ _ e2
                    have f3 : upd H6 g (.dK (mergeK [] [(Sum.inr "asleep", .ref q1), (Sum.inr "changing", .ref q2), (Sum.inr "count", .ref q3)])) q3 = some (.lst [.str "all", .str "rest"]) := by rw [upd_ne n3]; exact e3
                    have hg7 : upd H6 g (.dK (mergeK [] [(Sum.inr "asleep", .ref q1), (Sum.inr "changing", .ref q2), (Sum.inr "count", .ref q3)])) g = some (.dK (mergeK [] [(Sum.inr "asleep", .ref q1), (Sum.inr "changing", .ref q2), (Sum.inr "count", .ref q3)])) := upd_same
                    show tSeq _ _ _ _ (upd H6 g (.dK (mergeK [] [(Sum.inr "asleep", .ref q1), (Sum.inr "changing", .ref q2), (Sum.inr "count", .ref q3)])))
                    generalize upd H6 g (.dK (mergeK [] [(Sum.inr "asleep", .ref q1), (Sum.inr "changing", .ref q2), (Sum.inr "count", .ref q3)])) = H7 at s7 f1 f2 f3 hg7
                    clear s4 s5 s6 e1 e2 e3 hg6
                    refine ⟨_, rfl, .inr (.inr (.inl ⟨rfl, .inl ⟨_, hg7⟩⟩)), fun b hb => ?_⟩
                    have ngb : g ≠ b := ne_of_none hg7 hb
                    refine pair2 fun H4 q4 s4 e4 => ?_
                    refine pair2 fun H5 q5 s5 e5' => ?_
                    refine pair2 fun H6 q6 s6 e6 => ?_
                    have s76 : Same H7 H6 := (same_new (Same.refl H7) hb).trans (s4.trans (s5.trans s6))
                    have hb6 := (s4.trans (s5.trans s6)) _ _ upd_same
                    refine ⟨hb6, [(Sum.inr "first", .ref q4), (Sum.inr "ring", .ref q5), (Sum.inr "sorting", .ref q6)], rfl, (by show 3 ≤ 15; decide), ?_⟩
                    refine ⟨g, b, _, _, rfl, rfl, (by rw [upd_ne ngb]; exact s76 _ _ hg7), upd_same, ngb, (by show 3 + 3 ≤ 1000; decide), ?_⟩
                    have hg6 := s76 _ _ hg7
                    have m4 : q4 ≠ b := ne_of (s5.trans s6 _ _ e4) hb6 (by intro z; cases z)
                    have m5 : q5 ≠ b := ne_of (s6 _ _ e5') hb6 (by intro z; cases z)
                    have m6 : q6 ≠ b := ne_of e6 hb6 (by intro z; cases z)
                    have k4 : q4 ≠ g := ne_of (s5.trans s6 _ _ e4) hg6 (by intro z; cases z)
                    have k5 : q5 ≠ g := ne_of (s6 _ _ e5') hg6 (by intro z; cases z)
                    have k6 : q6 ≠ g := ne_of e6 hg6 (by intro z; cases z)
                    generalize eH8 : upd (upd H6 b (.dK (mergeK [] [(Sum.inr "first", .ref q4), (Sum.inr "ring", .ref q5), (Sum.inr "sorting", .ref q6)]))) g (.dK (mergeK (mergeK [] [(Sum.inr "asleep", .ref q1), (Sum.inr "changing", .ref q2), (Sum.inr "count", .ref q3)]) (mergeK [] [(Sum.inr "first", .ref q4), (Sum.inr "ring", .ref q5), (Sum.inr "sorting", .ref q6)]))) = H8
                    have away : ∀ c o, c ≠ g → c ≠ b → H6 c = some o → H8 c = some o := fun c o h1 h2 e => by rw [← eH8, upd_ne h1, upd_ne h2]; exact e
                    have s38 : Same H3 H8 := fun c o e => away c o (ne_of_none e hg) (ne_of_none (s7 c o e) hb) (s76 c o (s7 c o e))
                    have hg8 : H8 g = some (.dK (partNames.map fun p => (Sum.inr p, V.ref (lp6 q1 q2 q3 q4 q5 q6 p)))) := by rw [← eH8, upd_same]; rfl
                    have hl8 : ∀ p ∈ partNames, H8 (lp6 q1 q2 q3 q4 q5 q6 p) = some (.lst ((partWords p).map V.str)) := fun p hp => by
                      rcases parts_cases hp with rfl | rfl | rfl | rfl | rfl | rfl
                      · exact away q1 _ n1 (ne_of_none f1 hb) (s76 _ _ f1)
                      · exact away q2 _ n2 (ne_of_none f2 hb) (s76 _ _ f2)
                      · exact away q3 _ n3 (ne_of_none f3 hb) (s76 _ _ f3)
                      · exact away q4 _ k4 m4 (s5.trans s6 _ _ e4)
                      · exact away q5 _ k5 m5 (s6 _ _ e5')
                      · exact away q6 _ k6 m6 e6
                    generalize lp6 q1 q2 q3 q4 q5 q6 = lp at hg8 hl8
                    have s08 := s13.trans s38
                    have ar8 := ar.same s08
                    clear eH8 away s76 hb6 hg6 e4 e5' e6 s4 s5 s6 s7 f1 f2 f3 hg7 m4 m5 m6 k4 k5 k6 n1 n2 n3
                    show tSeq _ _ _ [some (.ref a), v1, some (.ref g), none, none, some (.ref aT), some (.int i), some vR, some vW, none, none] H8
                    have out0 : faultOf r = some ("" : Str) → ∀ H', Same H8 H' → ∀ q, H' q = none → Q (.ref q) (upd H' q (.tup [.str "rule", .str ""])) := fun h H' s' q hq => outR "" h H' (s08.trans s') q hq
                    have hR := ar8.hr
                    generalize eR : vR = vR' at hR
                    cases hR with
                    | @dat v d hd =>
                      subst eR
                      have nd : tyD d ≠ "dict" := by cases hd <;> simp [tyD]
                      have en3 : isaB (tyD d) "dict" = false := by
                        unfold isaB
                        rw [beq_eq_false_iff_ne.mpr nd]
                        cases (tyD d == "bool") <;> rfl
                      refine ⟨_, rfl, vR, _, _, _, _, rfl, .ty "dict", dp_ty hd, kitD d (by decide), _, rfl, ?_⟩
                      rw [en3]
                      refine iteT ?_
                      refine iteT ?_
                      exact ⟨by show 2 ≤ sizeLine; decide, fun q hq => out0 rfl H8 (Same.refl H8) q hq⟩
                    | @dic aR kds h =>
                      subst eR
                      obtain ⟨kvs, haR, hpR⟩ := h
                      obtain ⟨h64, hok⟩ := ar.hrs kds rfl
                      have hlR : kvs.length = kds.length := Paired.length hpR
                      have hks := keys_pair hpR
                      refine ⟨_, rfl, .ref aR, _, _, _, _, rfl, .ty "dict", .base (.dK haR), kit_ty (r := true) (by decide +kernel), _, rfl, ?_⟩
                      refine iteF ?_
                      refine ⟨aR, .dK kvs, haR, trivial, fun od => ?_⟩
                      refine ⟨_, rfl, aR, od, rfl, .inl ⟨kvs, upd_same, fun D hD => ?_⟩⟩
                      refine lc_it walk_keys (Cv (upd H8 aR (.frz od (.dK kvs))) D fun i => (((kds.map (·.1)).take i).map isTxt).map V.bl) (cv0 hD rfl) (fun i H2 _ p => p.1 aR _ upd_same) (fun i y H2 H4 hi p q => ?_) (fun H2 p => ?_)
                      · obtain ⟨rfl, k1, v, hk, rfl⟩ := q
                        refine ⟨rfl, ?_⟩
                        refine lc_yes ?_
                        have fin : ∃ acc, H4 D = some (.lst acc) ∧ acc.length < sizeLine ∧ Cv (upd H8 aR (.frz od (.dK kvs))) D (fun i => (((kds.map (·.1)).take i).map isTxt).map V.bl) (i + 1) (upd H4 D (.lst (acc ++ [.bl (isTxt k1)]))) := by
                          refine cv_yes hD p.1 p.2 ?_ ?_
                          · simp only [List.length_map, List.length_take]
                            omega
                          · have hk2 : (kds.map (·.1))[i]? = some k1 := by rw [← hks, List.getElem?_map, hk]; rfl
                            rw [snoc_at isTxt hk2, List.map_append]
                            rfl
                        cases k1 with
                        | inl n => exact ⟨_, rfl, _, _, _, _, _, rfl, .ty "str", .base (.int n), kit_ty (r := false) (by decide +kernel), fin⟩
                        | inr x => exact ⟨_, rfl, _, _, _, _, _, rfl, .ty "str", .base (.str x), kit_ty (r := true) (by decide +kernel), fin⟩
                      · have hp2 : H2 D = some (.lst (((kds.map (·.1)).map isTxt).map V.bl)) := by
                          have z := p.2
                          dsimp only at z
                          have e : (kds.map (·.1)).length = kvs.length := by rw [List.length_map]; exact hlR.symm
                          rw [← e, List.take_length] at z
                          exact z
                        refine ⟨p.1 aR _ upd_same, ?_⟩
                        have nDa : D ≠ aR := fun z => by rw [z, upd_same] at hD; cases hD
                        have t1 : Same H8 (upd H2 aR (.dK kvs)) := fun b o e => by
                          by_cases hb : b = aR
                          · subst hb
                            rw [haR] at e
                            cases e
                            exact upd_same
                          · rw [upd_ne hb]
                            exact p.1 b o (by rw [upd_ne hb]; exact e)
                        generalize eH3 : upd H2 aR (.dK kvs) = H9 at t1
                        have hD3 : H9 D = some (.lst (((kds.map (·.1)).map isTxt).map V.bl)) := by rw [← eH3, upd_ne nDa]; exact hp2
                        refine ⟨D, (kds.map (·.1)).map isTxt, rfl, SqL.of hD3, _, rfl, ?_⟩
                        have e2 : ((kds.map (·.1)).map isTxt).all id = (kds.map (·.1)).all isTxt := by rw [List.all_map]; rfl
                        rw [e2]
                        cases g1 : (kds.map (·.1)).all isTxt with
                        | false =>
                          refine iteT ?_
                          exact ⟨by show 2 ≤ sizeLine; decide, fun q hq => out0 (by show faultD kds = _; unfold faultD; rw [g1]; rfl) H9 t1 q hq⟩
                        | true =>
                          refine iteF ?_
                          have hkt : kvs.map (fun kv => kV kv.1) = ((kds.map (·.1)).map txt).map V.str := by
                            have e3 : (kvs.map fun kv => kV kv.1) = (kvs.map (·.1)).map kV := by rw [List.map_map]; rfl
                            rw [e3, hks]
                            exact txt_keys g1
                          refine ⟨_, rfl, aR, kvs, rfl, t1 aR _ haR, fun l hl3 => ?_⟩
                          rw [hkt]
                          refine ⟨l, (kds.map (·.1)).map txt, rfl, SqL.of upd_same, ?_, fun ys q py sy hq => ?_⟩
                          · rw [List.length_map, List.length_map]
                            exact h64
                          have ey := srtS_only py sy
                          subst ey
                          have t3 : Same H8 (upd (upd H9 l (.lst (((kds.map (·.1)).map txt).map V.str))) q (.lst ((srtS ((kds.map (·.1)).map txt)).map V.str))) := t1.trans ((same_new (Same.refl H9) hl3).trans (same_new (Same.refl _) hq))
                          have hq4 : upd (upd H9 l (.lst (((kds.map (·.1)).map txt).map V.str))) q (.lst ((srtS ((kds.map (·.1)).map txt)).map V.str)) q = some (.lst ((srtS ((kds.map (·.1)).map txt)).map V.str)) := upd_same
                          generalize upd (upd H9 l (.lst (((kds.map (·.1)).map txt).map V.str))) q (.lst ((srtS ((kds.map (·.1)).map txt)).map V.str)) = H10 at t3 hq4 ⊢
                          refine ⟨_, rfl, g, _, rfl, t3 _ _ hg8, fun m hm => ?_⟩
                          have eP : (partNames.map fun p => ((Sum.inr p : Key), V.ref (lp p))).map (fun kv => kV kv.1) = partNames.map V.str := by rw [List.map_map]; rfl
                          rw [eP]
                          refine ⟨m, partNames, rfl, SqL.of upd_same, by decide, fun ys m2 py sy hm2 => ?_⟩
                          have ey : ys = partNames := by rw [srtS_only py sy]; exact srtS_self sorted_parts
                          subst ey
                          have t4 : Same H10 (upd (upd H10 m (.lst (partNames.map V.str))) m2 (.lst (partNames.map V.str))) := same_new (same_new (Same.refl H10) hm) hm2
                          have okt : okS (srtS ((kds.map (·.1)).map txt)) := fun x hx => hok x ((srtS_perm _).mem_iff.mp hx)
                          refine ⟨.list ((srtS ((kds.map (·.1)).map txt)).map .str), .list (partNames.map .str), .lst (SqL.of (t4 _ _ hq4)) (dpAll_strs _), .lst (SqL.of upd_same) (dpAll_strs _), shaped_strs okt, shaped_strs ok_partNames, _, rfl, ?_⟩
                          have e6 : PyData.eqv (.list ((srtS ((kds.map (·.1)).map txt)).map .str)) (.list (partNames.map .str)) = decide (srtS ((kds.map (·.1)).map txt) = partNames) := eqvAll_strs _ _
                          rw [e6]
                          have t5 := t3.trans t4
                          generalize upd (upd H10 m (.lst (partNames.map V.str))) m2 (.lst (partNames.map V.str)) = H11 at t5
                          by_cases g2 : srtS ((kds.map (·.1)).map txt) = partNames
                          · rw [decide_eq_true g2]
                            refine iteF ?_
                            have hf : faultOf (some kds) = partNames.find? fun p => !goodPart p (valD kds (Sum.inr p)) := by show faultD kds = _; unfold faultD; rw [if_pos g1, if_pos g2]
                            refine ⟨_, rfl, g, _, rfl, t5 _ _ hg8, fun m3 hm3 => ?_⟩
                            rw [eP]
                            refine ⟨m3, partNames, rfl, SqL.of upd_same, by decide, fun ys m4 py sy hm4 => ?_⟩
                            have ey : ys = partNames := by rw [srtS_only py sy]; exact srtS_self sorted_parts
                            subst ey
                            have t6 : Same H11 (upd (upd H11 m3 (.lst (partNames.map V.str))) m4 (.lst (partNames.map V.str))) := same_new (same_new (Same.refl H11) hm3) hm4
                            have hm4' : upd (upd H11 m3 (.lst (partNames.map V.str))) m4 (.lst (partNames.map V.str)) m4 = some (.lst (partNames.map V.str)) := upd_same
                            generalize upd (upd H11 m3 (.lst (partNames.map V.str))) m4 (.lst (partNames.map V.str)) = H12 at t6 hm4'
                            have t7 := t5.trans t6
                            refine ⟨m4, rfl, ⟨_, SqL.of hm4'⟩, ?_⟩
                            refine for_it (walk_list (xs := partNames.map V.str)) (fun j σ H5 => ∃ v3, σ = [some (.ref a), v1, some (.ref g), v3, none, some (.ref aT), some (.int i), some (.ref aR), some vW, none, none] ∧ Same H12 H5 ∧ ∀ p ∈ partNames.take j, goodPart p (valD kds (Sum.inr p)) = true) ⟨none, rfl, Same.refl H12, fun p hp => by cases hp⟩ (fun j σ H5 _ ⟨_, _, s5, _⟩ => SqL.of (s5 _ _ hm4')) ?_ ?_
                            · rintro j y σ H5 H6 hi ⟨v3, rfl, s6, hgd⟩ ⟨rfl, hy⟩
                              rw [List.getElem?_map] at hy
                              obtain ⟨p, hpi, rfl⟩ : ∃ p, partNames[j]? = some p ∧ V.str p = y := by
                                cases q : partNames[j]? with
                                | none => rw [q] at hy; cases hy
                                | some p => rw [q] at hy; exact ⟨p, rfl, Option.some.inj hy⟩
                              have hpm : p ∈ partNames := List.mem_of_getElem? hpi
                              have hin : p ∈ (kds.map (·.1)).map txt := by rw [← g2] at hpm; exact (srtS_perm _).mem_iff.mp hpm
                              obtain ⟨d, hd, hdm⟩ : ∃ d, valD kds (Sum.inr p) = some d ∧ ∃ kv ∈ kds, kv.2 = d := by
                                obtain ⟨k1, hk, ek⟩ := List.mem_map.mp hin
                                have hkt := List.all_eq_true.mp g1 k1 hk
                                obtain ⟨⟨k2, d⟩, hkd, e⟩ := List.mem_map.mp hk
                                dsimp only at e
                                subst e
                                cases k2 with
                                | inl n => cases hkt
                                | inr x =>
                                  have ex : x = p := ek
                                  subst ex
                                  unfold valD
                                  cases q : kds.find? (fun kv => decide (kv.1 = Sum.inr x)) with
                                  | none =>
                                    have := List.find?_eq_none.mp q _ hkd
                                    simp at this
                                  | some z => exact ⟨z.2, rfl, z, List.mem_of_find?_eq_some q, rfl⟩
                              have fd : flatD d = true := by
                                obtain ⟨kv, hkv, rfl⟩ := hdm
                                exact hfl kds rfl kv hkv
                              obtain ⟨v, hv, hdv⟩ := valD_of hpR hd
                              have s86 := t7.trans s6
                              have hdv5 := Dp.same s86 d hdv
                              have hgt : DGet H6 aR (.str p) (some v) := by
                                rw [← hv]
                                exact DGet.k (k := Sum.inr p) (s86 _ _ haR)
                              have hgg : DGet H6 g (.str p) (some (.ref (lp p))) := by
                                have e := valV_map (fun q => V.ref (lp q)) p partNames
                                rw [if_pos hpm] at e
                                rw [← e]
                                exact DGet.k (k := Sum.inr p) (s86 _ _ hg8)
                              refine ⟨_, rfl, _, rfl, aR, v, rfl, hgt, ?_⟩
                              refine ⟨_, rfl, _, rfl, g, _, rfl, hgg, ?_⟩
                              refine ⟨lp p, _, rfl, .inl (SqL.of (s86 _ _ (hl8 p hpm))), flat_of hdv5 fd, flat_strs _, _, rfl, ?_⟩
                              rw [inV_part hdv5 fd, ← hd]
                              cases hb2 : goodPart p (valD kds (Sum.inr p)) with
                              | true =>
                                refine iteF ?_
                                refine ⟨_, rfl, s6, fun q hq => ?_⟩
                                rw [List.take_add_one, hpi] at hq
                                rcases List.mem_append.mp hq with hq | hq
                                · exact hgd q hq
                                · rw [List.mem_singleton.mp hq]
                                  exact hb2
                              | false =>
                                refine iteT ?_
                                refine ⟨_, rfl, by show 2 ≤ sizeLine; decide, fun q hq => outR p ?_ H6 (s08.trans s86) q hq⟩
                                rw [hf]
                                refine List.find?_eq_some_iff_getElem.mpr ⟨by rw [hb2]; rfl, j, (List.getElem?_eq_some_iff.mp hpi).1, (List.getElem?_eq_some_iff.mp hpi).2, fun j2 hj => ?_⟩
                                have hjl : j2 < partNames.length := Nat.lt_trans hj (List.getElem?_eq_some_iff.mp hpi).1
                                have := hgd partNames[j2] (List.mem_take_iff_getElem.mpr ⟨j2, by omega, rfl⟩)
                                rw [this]
                                rfl
                            · rintro σ H5 ⟨v3, rfl, s6, hgd⟩
                              have hRule : faultOf (some kds) = none := by
                                rw [hf]
                                refine List.find?_eq_none.mpr fun p hp => ?_
                                have e : partNames.take (partNames.map V.str).length = partNames := by rw [List.length_map, List.take_length]
                                rw [hgd p (by rw [e]; exact hp)]
                                decide
                              have s05 := s08.trans (t7.trans s6)
                              have eF : sceneFault (.tuple ds) (.int i) (some kds) dW = if isWordsD dW = true then none else some .words := by unfold sceneFault; rw [hThings, hMany, hRule]; rfl
                              -- words
                              refine ⟨by show 9 ≤ sizeLine; decide, fun ev hev => ?_⟩
                              have s06 : Same H (upd H5 ev (.lst (allWords.map V.str))) := same_new s05 hev
                              have hev6 : upd H5 ev (.lst (allWords.map V.str)) ev = some (.lst (allWords.map V.str)) := upd_same
                              show tSeq _ _ _ [some (.ref a), v1, some (.ref g), v3, some (.ref ev), some (.ref aT), some (.int i), some (.ref aR), some vW, none, none] (upd H5 ev (.lst (allWords.map V.str)))
                              generalize upd H5 ev (.lst (allWords.map V.str)) = H6 at s06 hev6
                              have hW6 := Dp.same s06 _ ar.hw
                              have badW : isWordsD dW = false → ∀ H', Same H6 H' → Q (.str "words") H' := fun h H' s' => out .words (by rw [eF, h]; rfl) H' _ (s06.trans s') (.str _)
                              have goodW : isWordsD dW = true → ∀ H', Same H6 H' → Q .non H' := fun h H' s' => k H' _ (s06.trans s') (by rw [eF, h]; exact .non)
                              refine ⟨_, rfl, vW, _, _, _, _, rfl, .ty "tuple", dp_ty hW6, kitD dW (by decide), _, rfl, ?_⟩
                              cases dW with
                              | tuple es =>
                                generalize eW : vW = vW' at hW6
                                cases hW6 with
                                | @tup aW zs _ hZ hB =>
                                subst eW
                                have hlenW : zs.length = es.length := DpAll.len hB
                                have h64W := ar.hws es rfl
                                have enW : isWordsD (.tuple es) = (es.all isWordD && ascS (es.map strOf)) := rfl
                                rw [enW] at badW goodW
                                refine iteF ?_
                                refine ⟨_, rfl, aW, rfl, ⟨_, hZ⟩, fun D hD => ?_⟩
                                refine lc_it walk_tup (Cv H6 D fun i => ((es.take i).map isWordD).map V.bl) (cv0 hD rfl) (fun i H2 _ p => SqT.same p.1 hZ) (fun i y H2 H3 hi p q => ?_) (fun H2 p => ?_)
                                · obtain ⟨rfl, hy⟩ := q
                                  obtain ⟨e, he, hde⟩ := DpAll.at hB hy
                                  have hde := Dp.same p.1 e hde
                                  have fin : ∃ acc, H3 D = some (.lst acc) ∧ acc.length < sizeLine ∧ Cv H6 D (fun i => ((es.take i).map isWordD).map V.bl) (i + 1) (upd H3 D (.lst (acc ++ [.bl (isWordD e)]))) := by
                                    refine cv_yes hD p.1 p.2 ?_ ?_
                                    · simp only [List.length_map, List.length_take]
                                      omega
                                    · rw [snoc_at isWordD he, List.map_append]
                                      rfl
                                  refine ⟨rfl, ?_⟩
                                  refine lc_yes ?_
                                  refine ⟨_, rfl, y, _, _, _, _, rfl, .ty "str", dp_ty hde, kitD e (by decide), _, rfl, ?_⟩
                                  cases e with
                                  | str x =>
                                    cases hde
                                    refine iteT ?_
                                    refine ⟨_, rfl, _, rfl, ev, _, rfl, .inl (SqL.of (p.1 _ _ hev6)), rfl, flat_strs allWords, ?_⟩
                                    show ∃ acc, H3 D = some (.lst acc) ∧ acc.length < sizeLine ∧ Cv H6 D (fun i => ((es.take i).map isWordD).map V.bl) (i + 1) (upd H3 D (.lst (acc ++ [.bl (inV (.str x) (allWords.map V.str))])))
                                    rw [inV_strs]
                                    exact fin
                                  | _ =>
                                    refine iteF ?_
                                    exact fin
                                · have hp2 : H2 D = some (.lst ((es.map isWordD).map V.bl)) := by
                                    have z := p.2
                                    rw [hlenW] at z
                                    dsimp only at z
                                    rw [List.take_length] at z
                                    exact z
                                  refine ⟨D, es.map isWordD, rfl, SqL.of hp2, _, rfl, ?_⟩
                                  have e2 : (es.map isWordD).all id = es.all isWordD := by rw [List.all_map]; rfl
                                  rw [e2]
                                  cases h3 : es.all isWordD with
                                  | false =>
                                    rw [h3] at badW
                                    refine iteT ?_
                                    exact badW rfl H2 p.1
                                  | true =>
                                    rw [h3] at badW goodW
                                    refine iteF ?_
                                    obtain ⟨eds2, hok2⟩ := words_strs h3
                                    have hvs2 : zs = (es.map strOf).map V.str := by
                                      rw [eds2] at hB
                                      exact dp_strs hB
                                    have hS3 : SqT K H2 aW ((es.map strOf).map V.str) := by rw [← hvs2]; exact SqT.same p.1 hZ
                                    refine ⟨_, rfl, aW, _, rfl, .inr hS3, fun l hl => ?_⟩
                                    have s3 : Same H2 (upd H2 l (.lst ((es.map strOf).map V.str))) := same_new (Same.refl H2) hl
                                    refine ⟨_, rfl, aW, (es.map strOf).map Sum.inr, rfl, .inr (by rw [kv_strs]; exact SqT.same s3 hS3), ?_, fun q hq => ?_⟩
                                    · simp only [List.length_map]
                                      omega
                                    rw [ofKeys_strs]
                                    refine ⟨q, setS (es.map strOf), rfl, upd_same, ?_, fun ys r py sy hr => ?_⟩
                                    · have := setS_len (es.map strOf)
                                      rw [List.length_map] at this
                                      omega
                                    have ey := srtS_only py sy
                                    subst ey
                                    have nlq : l ≠ q := fun z => by rw [← z, upd_same] at hq; cases hq
                                    have nlr : l ≠ r := fun z => by rw [← z, upd_ne nlq, upd_same] at hr; cases hr
                                    have oks : okS (es.map strOf) := fun x hx => ok_allWords x (hok2 x hx)
                                    have okt2 : okS (srtS (setS (es.map strOf))) := fun x hx => by
                                      have h1 : x ∈ setS (es.map strOf) := (srtS_perm _).mem_iff.mp hx
                                      have h2 : (Sum.inr x : Key) ∈ SM.ofKeys ((es.map strOf).map Sum.inr) := by rw [ofKeys_strs]; exact List.mem_map_of_mem h1
                                      rcases (ofKeys_mem _ _ _).mp h2 with z | z
                                      · cases z
                                      · obtain ⟨y, hy, e⟩ := List.mem_map.mp z
                                        cases e
                                        exact oks x hy
                                    refine ⟨.list ((es.map strOf).map .str), .list ((srtS (setS (es.map strOf))).map .str), .lst (SqL.of (xs := (es.map strOf).map V.str) ?_) (dpAll_strs _), .lst (SqL.of upd_same) (dpAll_strs _), shaped_strs oks, shaped_strs okt2, _, rfl, ?_⟩
                                    · rw [upd_ne nlr, upd_ne nlq, upd_same]
                                    · have e6 : PyData.eqv (.list ((es.map strOf).map .str)) (.list ((srtS (setS (es.map strOf))).map .str)) = ascS (es.map strOf) := eqvAll_strs _ _
                                      rw [e6]
                                      have sF := p.1.trans (s3.trans (same_new (o := .lst ((srtS (setS (es.map strOf))).map V.str)) (same_new (o := SM.SetMO w q ((setS (es.map strOf)).map Sum.inr)) (Same.refl _) hq) hr))
                                      cases h9 : ascS (es.map strOf) with
                                      | true =>
                                        rw [h9] at goodW
                                        refine iteT ?_
                                        exact goodW rfl _ sF
                                      | false =>
                                        rw [h9] at badW
                                        refine iteF ?_
                                        exact badW rfl _ sF
                              | _ =>
                                refine iteT ?_
                                refine iteT ?_
                                exact badW rfl H6 (Same.refl H6)
                          · rw [decide_eq_false g2]
                            refine iteT ?_
                            exact ⟨by show 2 ≤ sizeLine; decide, fun q hq => out0 (by show faultD kds = _; unfold faultD; rw [if_pos g1, if_neg g2]) _ t5 q hq⟩
              | bool b =>
                refine iteF ?_
                refine ⟨_, rfl, vM, _, _, _, _, rfl, .ty "bool", dp_ty arM, kitD _ (by decide), _, rfl, ?_⟩
                refine iteT ?_
                refine iteT ?_
                exact badM rfl
              | _ =>
                refine iteT ?_
                refine iteT ?_
                exact badM rfl
    | _ =>
      refine iteT ?_
      refine iteT ?_
      exact badT H1 s1 rfl
end
end HP

namespace HP
open PySem PySem.Spec PyProof.Rows L2 SlX
abbrev sSpoil : Stmt := top 26
/-! ### parts of the heap -/
def cut (p l a : Addr) (H : Hp) : Hp := fun b => if b = p ∨ b = l ∨ b = a then none else H b
theorem cut_at {p l a b : Addr} {H : Hp} {o : HO} (h1 : b ≠ p) (h2 : b ≠ l) (h3 : b ≠ a) (e : H b = some o) : cut p l a H b = some o := by
  unfold cut
  rw [if_neg (by rintro (h | h | h) <;> contradiction)]
  exact e
theorem cut_inv {p l a b : Addr} {H : Hp} {o : HO} (e : cut p l a H b = some o) : b ≠ p ∧ b ≠ l ∧ b ≠ a ∧ H b = some o := by
  unfold cut at e
  by_cases h : b = p ∨ b = l ∨ b = a
  · rw [if_pos h] at e
    cases e
  · rw [if_neg h] at e
    exact ⟨fun z => h (.inl z), fun z => h (.inr (.inl z)), fun z => h (.inr (.inr z)), e⟩
theorem cut_same {p l a : Addr} {H : Hp} : Same (cut p l a H) H := fun _ _ e => (cut_inv e).2.2.2
theorem cut_keep {p l a : Addr} {H H' : Hp} (k : Keep p l H H') : Same (cut p l a H) (cut p l a H') := fun b o e => by
  obtain ⟨h1, h2, h3, h4⟩ := cut_inv e
  exact cut_at h1 h2 h3 (k b o h4 h1 h2)
theorem cut_put {p l a : Addr} {H : Hp} {o : HO} : cut p l a (upd H a o) = cut p l a H := by
  funext b
  unfold cut
  by_cases h : b = p ∨ b = l ∨ b = a
  · rw [if_pos h, if_pos h]
  · rw [if_neg h, if_neg h, upd_ne fun z => h (.inr (.inr z))]
/-- what is new since H -/
def newer (H H' : Hp) : Hp := fun b => match H b with
  | none => H' b
  | some _ => none
theorem newer_at {H H' : Hp} {b : Addr} {o : HO} (h : H b = none) (e : H' b = some o) : newer H H' b = some o := by
  unfold newer
  rw [h]
  exact e
theorem newer_inv {H H' : Hp} {b : Addr} {o : HO} (e : newer H H' b = some o) : H b = none ∧ H' b = some o := by
  unfold newer at e
  cases h : H b with
  | none => rw [h] at e; exact ⟨rfl, e⟩
  | some _ => rw [h] at e; cases e
theorem newer_right {H H1 H2 : Hp} (s : Same H1 H2) : Same (newer H H1) (newer H H2) := fun b o e => newer_at (newer_inv e).1 (s _ _ (newer_inv e).2)
theorem newer_left {H H1 H2 : Hp} (s : Same H H1) : Same (newer H1 H2) (newer H H2) := fun b o e => newer_at (s.free (newer_inv e).1) (newer_inv e).2
abbrev Mono (Pr : Hp → V → Prop) : Prop := ∀ H H' v, Same H H' → Pr H v → Pr H' v
def Lays (Pr : Hp → V → Prop) (t : TE) : Prop := ∀ (σ : L2.St) (H : Hp) (Q : VK), (∀ H' v, Same H H' → Pr (newer H H') v → Q v H') → t σ H Q
def LaysA (Pr : Hp → V → Prop) (t : TA) (n : Nat) : Prop := ∀ (σ : L2.St) (H : Hp) (Q : List V → Hp → Prop), (∀ H' vs, Same H H' → vs.length = n → (∀ v ∈ vs, Pr (newer H H') v) → Q vs H') → t σ H Q
theorem la_nil {Pr : Hp → V → Prop} : LaysA Pr tNil 0 := fun σ H Q k => k H [] (Same.refl H) rfl fun _ h => by cases h
theorem la_cons {Pr : Hp → V → Prop} {t : TE} {u : TA} {n : Nat} (m : Mono Pr) (h : Lays Pr t) (r : LaysA Pr u n) : LaysA Pr (tCons t u) (n + 1) := fun σ H Q k => by
  refine h σ H _ fun H1 v s1 p1 => ?_
  refine r σ H1 _ fun H2 vs s2 l2 p2 => ?_
  refine k H2 (v :: vs) (s1.trans s2) (by rw [List.length_cons, l2]) fun x hx => ?_
  rcases List.mem_cons.mp hx with rfl | hx
  · exact m _ _ _ (newer_right s2) p1
  · exact m _ _ _ (newer_left s1) (p2 x hx)
section
variable {K : PySem.W.Frag}
def LayD (K : PySem.W.Frag) (t : TE) (d : PyData) : Prop := Lays (fun H v => Dp K H v d) t
def LayDs (K : PySem.W.Frag) (t : TA) (ds : List PyData) : Prop := ∀ (σ : L2.St) (H : Hp) (Q : List V → Hp → Prop), (∀ H' vs, Same H H' → DpAll K (newer H H') vs ds → Q vs H') → t σ H Q
theorem ld_non : LayD K (tC .non) .none := fun _ H _ k => k H _ (Same.refl H) .non
theorem ld_bl {b : Bool} : LayD K (tC (.bl b)) (.bool b) := fun _ H _ k => k H _ (Same.refl H) (.bl b)
theorem ld_int {i : Int} : LayD K (tC (.int i)) (.int i) := fun _ H _ k => k H _ (Same.refl H) (.int i)
theorem ld_str {x : Str} : LayD K (tC (.str x)) (.str x) := fun _ H _ k => k H _ (Same.refl H) (.str x)
theorem lds_nil : LayDs K tNil [] := fun _ H _ k => k H _ (Same.refl H) .nil
theorem lds_cons {t : TE} {u : TA} {d : PyData} {ds : List PyData} (h : LayD K t d) (r : LayDs K u ds) : LayDs K (tCons t u) (d :: ds) := fun σ H Q k => by
  refine h σ H _ fun H1 v s1 p1 => ?_
  refine r σ H1 _ fun H2 vs s2 p2 => ?_
  exact k H2 (v :: vs) (s1.trans s2) (.cons (Dp.same (newer_right s2) _ p1) (DpAll.same (newer_left s1) _ p2))
theorem ld_tup {t : TA} {ds : List PyData} (h : LayDs K t ds) (hl : ds.length ≤ sizeLine) : LayD K (tTup t) (.tuple ds) := fun σ H Q k => by
  refine h σ H _ fun H1 vs s1 p1 => ⟨by rw [DpAll.len p1]; exact hl, fun q hq => ?_⟩
  exact k _ _ (same_new s1 hq) (.tup (SqT.of (newer_at (s1.free hq) upd_same)) (DpAll.same (newer_right (same_new (Same.refl H1) hq)) _ p1))
theorem ld_lst {t : TA} {ds : List PyData} (h : LayDs K t ds) (hl : ds.length ≤ sizeLine) : LayD K (tLst t) (.list ds) := fun σ H Q k => by
  refine h σ H _ fun H1 vs s1 p1 => ⟨by rw [DpAll.len p1]; exact hl, fun q hq => ?_⟩
  exact k _ _ (same_new s1 hq) (.lst (SqL.of (newer_at (s1.free hq) upd_same)) (DpAll.same (newer_right (same_new (Same.refl H1) hq)) _ p1))
theorem lay_of {Pr : Hp → V → Prop} {t : TE} {d : PyData} (h : LayD K t d) (f : ∀ H v, Dp K H v d → Pr H v) : Lays Pr t := fun σ H Q k => h σ H Q fun H' v s p => k H' v s (f _ _ p)
end
/-- a new list of what Pr says, one of it drawn -/
theorem drawP {K : PySem.W.Frag} {Pr : Hp → V → Prop} (mono : Mono Pr) {ta : TA} {n : Nat} (L : LaysA Pr ta n) {σ : L2.St} {H : Hp} {Q : VK} {p l a : Addr} {i : Nat} {oa : HO} {m : Int} (hσ : σ[i]? = some (some (.ref p))) (S : Src H p l) (ha : H a = some oa) (hm : m = (n : Int)) (h0 : 0 < n) (hb : n < 1000)
    (k : ∀ H' z, Src H' p l → Keep p l H H' → Pr (cut p l a H') z → Q z H') : tOp (rIxL K) (tLst ta) (tCall spNext [] E0 (tCons (tVar i) (tCons (tC (.int m)) tNil))) σ H Q := by
  refine L σ H _ fun H1 vs s1 l1 p1 => ⟨by rw [l1]; exact Nat.le_trans (Nat.le_of_lt hb) (by decide), fun q hq => ?_⟩
  have S1 := S.same s1
  refine ⟨_, hσ, p, l, m, rfl, S1.new hq, by omega, by omega, fun H' r h1 h2 S' K' => ?_⟩
  have hq' : H' q = some (.lst vs) := K' q _ upd_same (S1.nep hq) (S1.nel hq)
  obtain ⟨j, rfl⟩ : ∃ j : Nat, r = (j : Int) := ⟨r.toNat, by omega⟩
  have hr : j < vs.length := by omega
  refine ⟨q, vs, _, vs[j], rfl, rfl, SqL.of hq', atI_nat (List.getElem?_eq_getElem hr), k H' _ S' (Keep.trans (Keep.of (same_new s1 hq)) K') ?_⟩
  refine mono _ _ _ (fun b o e => ?_) (p1 _ (List.getElem_mem hr))
  obtain ⟨e1, e2⟩ := newer_inv e
  have n1 := S.nep e1
  have n2 := S.nel e1
  have n3 : b ≠ a := (ne_of_none ha e1).symm
  have n4 : b ≠ q := ne_of_none e2 hq
  exact cut_at n1 n2 n3 (K' b o (by rw [upd_ne n4]; exact e2) n1 n2)
theorem seqL {Pr : Hp → V → Prop} {n : Nat} {ta : TA} {g : TG} {b : TS} {D : Ends} {σ : L2.St} {H : Hp} (L : LaysA Pr ta n) (hn : n < 1000) (k : ∀ H' q vs, Same H H' → vs.length = n → (∀ v ∈ vs, Pr (newer H H') v) → H' q = none → g (.ref q) σ (upd H' q (.lst vs)) (b D)) : tSeq (tAsg (tLst ta) g) b D σ H :=
  L σ H _ fun H' vs s l p => ⟨by rw [l]; exact Nat.le_trans (Nat.le_of_lt hn) (by decide), fun q hq => k H' q vs s l p hq⟩
theorem asgP {K : PySem.W.Frag} {Pr : Hp → V → Prop} (mono : Mono Pr) {ta : TA} {n : Nat} {g : TG} {D : Ends} {σ : L2.St} {H : Hp} {p l a : Addr} {i : Nat} {oa : HO} {m : Int} (hσ : σ[i]? = some (some (.ref p))) (S : Src H p l) (ha : H a = some oa) (hm : m = (n : Int)) (h0 : 0 < n) (hb : n < 1000) (L : LaysA Pr ta n)
    (k : ∀ H' z, Src H' p l → Keep p l H H' → Pr (cut p l a H') z → g z σ H' D.nx) : tAsg (tOp (rIxL K) (tLst ta) (tCall spNext [] E0 (tCons (tVar i) (tCons (tC (.int m)) tNil)))) g D σ H := drawP mono L hσ S ha hm h0 hb k
theorem seqP {K : PySem.W.Frag} {Pr : Hp → V → Prop} (mono : Mono Pr) {ta : TA} {n : Nat} {g : TG} {b : TS} {D : Ends} {σ : L2.St} {H : Hp} {p l a : Addr} {i : Nat} {oa : HO} {m : Int} (hσ : σ[i]? = some (some (.ref p))) (S : Src H p l) (ha : H a = some oa) (hm : m = (n : Int)) (h0 : 0 < n) (hb : n < 1000) (L : LaysA Pr ta n)
    (k : ∀ H' z, Src H' p l → Keep p l H H' → Pr (cut p l a H') z → g z σ H' (b D)) : tSeq (tAsg (tOp (rIxL K) (tLst ta) (tCall spNext [] E0 (tCons (tVar i) (tCons (tC (.int m)) tNil)))) g) b D σ H := drawP mono L hσ S ha hm h0 hb k
theorem dputP {K : PySem.W.Frag} {Pr : Hp → V → Prop} (mono : Mono Pr) {ta : TA} {n : Nat} {td ty : TE} {D : Ends} {σ : L2.St} {H : Hp} {p l a : Addr} {i : Nat} {oa : HO} {m : Int} (hσ : σ[i]? = some (some (.ref p))) (S : Src H p l) (ha : H a = some oa) (hm : m = (n : Int)) (h0 : 0 < n) (hb : n < 1000) (L : LaysA Pr ta n)
    (k : ∀ H' z, Src H' p l → Keep p l H H' → Pr (cut p l a H') z → td σ H' fun x H2 => ty σ H2 fun y H3 => ∃ a H4, x = .ref a ∧ DPut H3 a y z H4 ∧ D.nx σ H4) : sDPut td ty (tOp (rIxL K) (tLst ta) (tCall spNext [] E0 (tCons (tVar i) (tCons (tC (.int m)) tNil)))) D σ H := drawP mono L hσ S ha hm h0 hb k
/-! ### what the law's list of five holds -/
section
variable {P : Program} {w : World} {K : PySem.W.Frag} {mg : Str → Option Value} {base : Heap}
def ThgP (K : PySem.W.Frag) (H : Hp) (v : V) : Prop := ∃ d, Dp K H v d ∧ Small d
def MnyP (K : PySem.W.Frag) (H : Hp) (v : V) : Prop := ∃ d, Dp K H v d
def WrdP (K : PySem.W.Frag) (H : Hp) (v : V) : Prop := ∃ d, Dp K H v d ∧ ∀ ds, d = .tuple ds → ds.length < 64
def RulP (K : PySem.W.Frag) (m : Nat) (H : Hp) (v : V) : Prop := ∃ r, RuleV K H v r ∧ ∀ kds, r = some kds → kds.length ≤ m ∧ okS ((kds.map (·.1)).map txt) ∧ ∀ kv ∈ kds, flatD kv.2 = true
theorem RuleV.same {H H1 : Hp} {v : V} {r : Option (List (Key × PyData))} (s : Same H H1) (h : RuleV K H v r) : RuleV K H1 v r := by
  cases h with
  | dat h => exact .dat (Dp.same s _ h)
  | dic h =>
    obtain ⟨kvs, ha, hp⟩ := h
    exact .dic ⟨kvs, s _ _ ha, Paired.mapP hp fun a b q => ⟨q.1, Dp.same s _ q.2⟩⟩
theorem thgM : Mono (ThgP K) := fun _ _ _ s ⟨d, h, q⟩ => ⟨d, Dp.same s _ h, q⟩
theorem mnyM : Mono (MnyP K) := fun _ _ _ s ⟨d, h⟩ => ⟨d, Dp.same s _ h⟩
theorem wrdM : Mono (WrdP K) := fun _ _ _ s ⟨d, h, q⟩ => ⟨d, Dp.same s _ h, q⟩
theorem rulM {m : Nat} : Mono (RulP K m) := fun _ _ _ s ⟨r, h, q⟩ => ⟨r, h.same s, q⟩
theorem RulP.le {m n : Nat} {H : Hp} {v : V} (h : RulP K m H v) (e : m ≤ n) : RulP K n H v := by
  obtain ⟨r, h, q⟩ := h
  exact ⟨r, h, fun kds e2 => ⟨Nat.le_trans (q kds e2).1 e, (q kds e2).2⟩⟩
structure Five5 (K : PySem.W.Frag) (m : Nat) (H : Hp) (p l a : Addr) : Prop where
  np : a ≠ p
  nl : a ≠ l
  ex : ∃ vT vM vR vW ve, H a = some (.lst [vT, vM, vR, vW, ve]) ∧ ThgP K (cut p l a H) vT ∧ MnyP K (cut p l a H) vM ∧ RulP K m (cut p l a H) vR ∧ WrdP K (cut p l a H) vW
theorem Five5.le {m n : Nat} {H : Hp} {p l a : Addr} (h : Five5 K m H p l a) (e : m ≤ n) : Five5 K n H p l a := by
  obtain ⟨n1, n2, vT, vM, vR, vW, ve, h1, h2, h3, h4, h5⟩ := h
  exact ⟨n1, n2, vT, vM, vR, vW, ve, h1, h2, h3, h4.le e, h5⟩
def smallB : PyData → Bool
  | .tuple ds => ds.all fun d => match d with
    | .str x => decide (x.length ≤ 100000)
    | _ => true
  | _ => true
theorem small_of {d : PyData} (h : smallB d = true) : Small d := fun ds e x hx => by
  subst e
  have := List.all_eq_true.mp h _ hx
  exact of_decide_eq_true this
def shortB : PyData → Bool
  | .tuple ds => decide (ds.length < 64)
  | _ => true
theorem short_of {d : PyData} (h : shortB d = true) : ∀ ds, d = .tuple ds → ds.length < 64 := fun ds e => by
  subst e
  exact of_decide_eq_true h
def putD (kds : List (Key × PyData)) (k : Key) (d : PyData) : List (Key × PyData) :=
  if (kds.any fun kv => decide (kv.1 = k)) = true then kds.map (fun kv => if kv.1 = k then (kv.1, d) else kv) else kds ++ [(k, d)]
theorem put_pair {H : Hp} {kvs : List (Key × V)} {kds : List (Key × PyData)} {k : Key} {v : V} {d : PyData} (h : Paired (fun (p : Key × V) (q : Key × PyData) => p.1 = q.1 ∧ Dp K H p.2 q.2) kvs kds) (hd : Dp K H v d) :
    Paired (fun (p : Key × V) (q : Key × PyData) => p.1 = q.1 ∧ Dp K H p.2 q.2) (putK kvs k v) (putD kds k d) := by
  have ea : (kvs.any fun kv => decide (kv.1 = k)) = kds.any fun kv => decide (kv.1 = k) := by
    have e1 : (kvs.any fun kv => decide (kv.1 = k)) = (kvs.map (·.1)).any fun z => decide (z = k) := by rw [List.any_map]; rfl
    have e2 : (kds.any fun kv => decide (kv.1 = k)) = (kds.map (·.1)).any fun z => decide (z = k) := by rw [List.any_map]; rfl
    rw [e1, e2, keys_pair h]
  unfold putK putD
  rw [ea]
  have m1 : Paired (fun (p : Key × V) (q : Key × PyData) => p.1 = q.1 ∧ Dp K H p.2 q.2) (kvs.map fun kv => if kv.1 = k then (kv.1, v) else kv) (kds.map fun kv => if kv.1 = k then (kv.1, d) else kv) := by
    clear ea
    induction h with
    | nil => exact .nil
    | @cons a b _ _ r t ih =>
      refine .cons ?_ ih
      show (if a.1 = k then (a.1, v) else a).1 = (if b.1 = k then (b.1, d) else b).1 ∧ Dp K H (if a.1 = k then (a.1, v) else a).2 (if b.1 = k then (b.1, d) else b).2
      by_cases e : b.1 = k
      · rw [if_pos e, if_pos (r.1.trans e)]
        exact ⟨r.1, hd⟩
      · rw [if_neg e, if_neg fun z => e (r.1.symm.trans z)]
        exact r
  have m2 : Paired (fun (p : Key × V) (q : Key × PyData) => p.1 = q.1 ∧ Dp K H p.2 q.2) (kvs ++ [(k, v)]) (kds ++ [(k, d)]) := by
    clear ea m1
    induction h with
    | nil => exact .cons ⟨rfl, hd⟩ .nil
    | cons r t ih => exact .cons r ih
  split
  · exact m1
  · exact m2
theorem putD_len (kds : List (Key × PyData)) (k : Key) (d : PyData) : (putD kds k d).length ≤ kds.length + 1 := by
  unfold putD
  split
  · rw [List.length_map]; omega
  · rw [List.length_append]; exact Nat.le_refl _
theorem putD_mem {kds : List (Key × PyData)} {k : Key} {d : PyData} {kv : Key × PyData} (h : kv ∈ putD kds k d) : (kv.1 = k ∧ kv.2 = d) ∨ kv ∈ kds := by
  unfold putD at h
  split at h
  · obtain ⟨z, hz, e⟩ := List.mem_map.mp h
    split at e
    · rename_i hk
      subst e
      exact .inl ⟨hk, rfl⟩
    · subst e
      exact .inr hz
  · rcases List.mem_append.mp h with h | h
    · exact .inr h
    · rw [List.mem_singleton.mp h]
      exact .inl ⟨rfl, rfl⟩
theorem putD_keys {kds : List (Key × PyData)} {k : Key} {d : PyData} {z : Key} (h : z ∈ (putD kds k d).map (·.1)) : z = k ∨ z ∈ kds.map (·.1) := by
  obtain ⟨kv, hkv, rfl⟩ := List.mem_map.mp h
  rcases putD_mem hkv with h | h
  · exact .inl h.1
  · exact .inr (List.mem_map_of_mem h)
theorem Five5.keep {m : Nat} {H H1 : Hp} {p l a : Addr} (h : Five5 K m H p l a) (k : Keep p l H H1) : Five5 K m H1 p l a := by
  obtain ⟨n1, n2, vT, vM, vR, vW, ve, h1, h2, h3, h4, h5⟩ := h
  exact ⟨n1, n2, vT, vM, vR, vW, ve, k _ _ h1 n1 n2, thgM _ _ _ (cut_keep k) h2, mnyM _ _ _ (cut_keep k) h3, rulM _ _ _ (cut_keep k) h4, wrdM _ _ _ (cut_keep k) h5⟩
def PartP (_ : Hp) (v : V) : Prop := ∃ k : Key, v = kV k ∧ PyData.strOk (txt k) = true
def FlatP (K : PySem.W.Frag) (H : Hp) (v : V) : Prop := ∃ d, Dp K H v d ∧ flatD d = true
theorem partM : Mono PartP := fun _ _ _ _ h => h
theorem flatM : Mono (FlatP K) := fun _ _ _ s ⟨d, h, q⟩ => ⟨d, Dp.same s _ h, q⟩
theorem rul_none {m : Nat} {H : Hp} {v : V} {d : PyData} (h : Dp K H v d) : RulP K m H v := ⟨none, .dat h, fun _ e => by cases e⟩
theorem lay_part {k : Key} (h : PyData.strOk (txt k) = true) : Lays PartP (tC (kV k)) := fun _ H _ q => q H _ (Same.refl H) ⟨k, rfl, h⟩
theorem lay_d0 : Lays (RulP K 1) tDNewK := fun σ H Q k p hp => k _ _ (same_new (Same.refl H) hp) ⟨some [], .dic ⟨[], newer_at hp upd_same, .nil⟩, fun kds e => by
  cases e
  exact ⟨Nat.zero_le _, (fun x hx => by cases hx), fun kv hkv => by cases hkv⟩⟩
theorem lay_d1 {x y : Str} (hx : PyData.strOk x = true) : Lays (RulP K 1) (tDisp [(tC (.str x), tC (.str y))]) := fun σ H Q k p hp => by
  refine ⟨upd_same, [(Sum.inr x, .str y)], rfl, (by show 1 ≤ 15; decide), ?_⟩
  rw [upd_upd]
  refine k _ _ (same_new (Same.refl H) hp) ⟨some [(Sum.inr x, .str y)], .dic ⟨_, newer_at hp upd_same, .cons ⟨rfl, .str _⟩ .nil⟩, fun kds e => ?_⟩
  cases e
  refine ⟨Nat.le_refl _, fun z hz => ?_, fun kv hkv => ?_⟩
  · rw [List.mem_singleton.mp hz]
    exact hx
  · rw [List.mem_singleton.mp hkv]
    rfl
def spSpoil (K : PySem.W.Frag) : Sp := fun vs H Q _ => ∃ (p l a : Addr) (m : Nat), vs = [.ref p, .ref a] ∧ Src H p l ∧ Five5 K m H p l a ∧ m < 60 ∧ ∀ H', Src H' p l → (∀ b o, H b = some o → b ≠ p → b ≠ l → b ≠ a → H' b = some o) → Five5 K (m + 1) H' p l a → Q .non H'
theorem scSpoil : FnScope ["_law_h", "_law_t", "_law_pick", "_law_odd", "_law_part"] ["_law_h", "_law_t"] (defScope sSpoil) := ⟨rfl, rfl, rfl, by decide +kernel, rfl, by decide +kernel, by decide +kernel⟩
theorem ok_spoil (D : Dat K mg "_law_spoil" sSpoil) (T : Fr mg) (FN : Fn P w K mg base CX0 1 "_law_next" spNext) : Fn P w K mg base CX0 2 "_law_spoil" (spSpoil K) := by
  refine Fn.of0 D scSpoil (fun _ _ _ _ _ _ us hl => match us, hl with | [_, _], _ => rfl) (fun vs H Q E h => ?_) (fun f cdv A outer s0 H vs Q E hr h => ?_)
  · obtain ⟨p, l, a, m, rfl, _⟩ := h
    rfl
  · obtain ⟨p, l, a, m, rfl, S, F5, hm, k⟩ := h
    have hu : _ < cLine := hu_of hr
    refine ⟨_, (pss_cons (ps_set (i := 2) scSpoil.nd rfl (Or.inl rfl) (pf FN hr (by decide) (pa_cons (pv 0) (pa_cons pe_int pa_nil))))
      (pss_one (ps_if (pt_cmpR op_eq (pv 2) pe_int (nomark _)) (pss_cons (ps_set (i := 3) scSpoil.nd rfl (Or.inl rfl) (pe_lst (pa_cons (pe_tup pa_nil) (pa_cons (pe_tup (pa_cons pe_str pa_nil)) (pa_cons (pe_tup (pa_cons pe_str (pa_cons pe_str pa_nil))) (pa_cons (pe_lst (pa_cons pe_str (pa_cons pe_str pa_nil))) (pa_cons pe_non (pa_cons (pe_tup (pa_cons pe_str (pa_cons pe_int pa_nil))) (pa_cons (pe_tup (pa_cons pe_str (pa_cons pe_str (pa_cons pe_str (pa_cons pe_str (pa_cons pe_str pa_nil)))))) (pa_cons (pe_tup (pa_cons pe_str pa_nil)) pa_nil))))))))))
      (pss_one (ps_asg (pe_ix (ixL (K := K)) (pv 3) (pf FN hr (by decide) (pa_cons (pv 0) (pa_cons pe_int pa_nil))) (fun _ _ => rfl)) (pg_sub (pv 1) pe_int set_list)))) (pss_one (ps_if (pt_cmpR op_eq (pv 2) pe_int (nomark _)) (pss_one (ps_asg (pe_ix (ixL (K := K)) (pe_lst (pa_cons pe_int (pa_cons pe_int (pa_cons pe_bl (pa_cons pe_str (pa_cons pe_non (pa_cons pe_int pa_nil))))))) (pf FN hr (by decide) (pa_cons (pv 0) (pa_cons pe_int pa_nil))) (fun _ _ => rfl)) (pg_sub (pv 1) pe_int set_list))) (pss_one (ps_if (pt_cmpR op_eq (pv 2) pe_int (nomark _)) (pss_one (ps_asg (pe_ix (ixL (K := K)) (pe_lst (pa_cons pe_non (pa_cons (pe_lst (pa_cons pe_str pa_nil)) (pa_cons (pe_tup (pa_cons pe_str (pa_cons pe_str pa_nil))) (pa_cons (pe_tup (pa_cons pe_str (pa_cons pe_str pa_nil))) (pa_cons (pe_tup (pa_cons pe_str pa_nil)) (pa_cons (pe_tup (pa_cons pe_str pa_nil)) (pa_cons (pe_tup (pa_cons pe_int pa_nil)) (pa_cons (pe_tup pa_nil) pa_nil))))))))) (pf FN hr (by decide) (pa_cons (pv 0) (pa_cons pe_int pa_nil))) (fun _ _ => rfl)) (pg_sub (pv 1) pe_int set_list))) (pss_one (ps_if (pt_cmpR op_eq (pv 2) pe_int (nomark _)) (pss_one (ps_asg (pe_ix (ixL (K := K)) (pe_lst (pa_cons pe_non (pa_cons pe_dnewK (pa_cons (pe_lst pa_nil) (pa_cons (pe_disp (pps_cons pe_str pe_str pps_nil) (by rfl) (by rfl) (fun z => by cases z) (by decide)) pa_nil))))) (pf FN hr (by decide) (pa_cons (pv 0) (pa_cons pe_int pa_nil))) (fun _ _ => rfl)) (pg_sub (pv 1) pe_int set_list))) (pss_one (ps_if (pt_val (pe_callB (kIsi (K := K)) (by rfl) (T.fr "isinstance" (by decide +kernel)) (by decide +kernel) (pa_cons (pe_ix (ixL (K := K)) (pv 1) pe_int (fun _ _ => rfl)) (pa_cons (pe_bltn (v := .ty "dict") (u := .type "dict") (by rfl) (T.fr "dict" (by decide +kernel)) (by decide +kernel) rfl) pa_nil)))) (pss_cons (ps_asg (pe_callTy call_dictD (by rfl) (T.fr "dict" (by decide +kernel)) (by decide +kernel) (pa_cons (pe_ix (ixL (K := K)) (pv 1) pe_int (fun _ _ => rfl)) pa_nil)) (pg_sub (pv 1) pe_int set_list))
      (pss_cons (ps_set (i := 4) scSpoil.nd rfl (Or.inl rfl) (pe_ix (ixL (K := K)) (pe_lst (pa_cons pe_str (pa_cons pe_str (pa_cons pe_str (pa_cons pe_str (pa_cons pe_str (pa_cons pe_int pa_nil))))))) (pf FN hr (by decide) (pa_cons (pv 0) (pa_cons pe_int pa_nil))) (fun _ _ => rfl)))
      (pss_one (ps_dput hu (pe_ix (ixL (K := K)) (pv 1) pe_int (fun _ _ => rfl)) (pv 4) (pe_ix (ixL (K := K)) (pe_lst (pa_cons pe_str (pa_cons pe_str (pa_cons pe_non (pa_cons pe_bl (pa_cons pe_str pa_nil)))))) (pf FN hr (by decide) (pa_cons (pv 0) (pa_cons pe_int pa_nil))) (fun _ _ => rfl)) rfl)))) pss_nil))))))))))), ?_⟩
    refine ⟨_, rfl, p, l, 6, rfl, S, by decide, by decide, fun H1 r h0 h1 S1 K1 => ?_⟩
    have G5 := F5.keep K1
    obtain ⟨np, nl, vT, vM, vR, vW, ve, ha1, hT, hM, hR, hW⟩ := id G5
    have fr1 : ∀ H', Keep p l H1 H' → ∀ b o, H b = some o → b ≠ p → b ≠ l → H' b = some o := fun H' K' b o e h1 h2 => K' b o (K1 b o e h1 h2) h1 h2
    refine ⟨_, rfl, rfl, _, rfl, ?_⟩
    refine ite2 (fun _ => ?_) (fun _ => ?_)
    · -- things
      have mono := thgM (K := K)
      refine seqL (Pr := ThgP K) (n := 8) ((la_cons mono (lay_of (ld_tup lds_nil (by show 0 ≤ sizeLine; decide)) (fun _ _ h => ⟨_, h, small_of (by decide +kernel)⟩)) (la_cons mono (lay_of (ld_tup (lds_cons (ld_str (x := "A")) lds_nil) (by show 1 ≤ sizeLine; decide)) (fun _ _ h => ⟨_, h, small_of (by decide +kernel)⟩)) (la_cons mono (lay_of (ld_tup (lds_cons (ld_str (x := "a")) (lds_cons (ld_str (x := "a")) lds_nil)) (by show 2 ≤ sizeLine; decide)) (fun _ _ h => ⟨_, h, small_of (by decide +kernel)⟩)) (la_cons mono (lay_of (ld_lst (lds_cons (ld_str (x := "a")) (lds_cons (ld_str (x := "b")) lds_nil)) (by show 2 ≤ sizeLine; decide)) (fun _ _ h => ⟨_, h, small_of (by decide +kernel)⟩)) (la_cons mono (lay_of ld_non (fun _ _ h => ⟨_, h, small_of (by decide +kernel)⟩)) (la_cons mono (lay_of (ld_tup (lds_cons (ld_str (x := "a")) (lds_cons (ld_int (i := 5)) lds_nil)) (by show 2 ≤ sizeLine; decide)) (fun _ _ h => ⟨_, h, small_of (by decide +kernel)⟩)) (la_cons mono (lay_of (ld_tup (lds_cons (ld_str (x := "a")) (lds_cons (ld_str (x := "b")) (lds_cons (ld_str (x := "c")) (lds_cons (ld_str (x := "d")) (lds_cons (ld_str (x := "e")) lds_nil))))) (by show 5 ≤ sizeLine; decide)) (fun _ _ h => ⟨_, h, small_of (by decide +kernel)⟩)) (la_cons mono (lay_of (ld_tup (lds_cons (ld_str (x := "nineletter")) lds_nil) (by show 1 ≤ sizeLine; decide)) (fun _ _ h => ⟨_, h, small_of (by decide +kernel)⟩)) la_nil))))))))) (by decide) fun H2 q vs s2 l2 p2 hq => ?_
      have S2 := S1.same s2
      refine ⟨_, rfl, _, rfl, p, l, 8, rfl, S2.new hq, by decide, by decide, fun H3 r2 h20 h21 S3 K3 => ?_⟩
      have K13 : Keep p l H1 H3 := Keep.trans (Keep.of (same_new s2 hq)) K3
      have hq' : H3 q = some (.lst vs) := K3 q _ upd_same (S2.nep hq) (S2.nel hq)
      obtain ⟨j, rfl⟩ : ∃ j : Nat, r2 = (j : Int) := ⟨r2.toNat, by omega⟩
      have hj : j < vs.length := by omega
      refine ⟨q, vs, _, vs[j], rfl, rfl, SqL.of hq', atI_nat (List.getElem?_eq_getElem hj), ?_⟩
      have ha3 := K13 _ _ ha1 np nl
      refine ⟨_, rfl, a, _, _, 0, rfl, rfl, ha3, rfl, ?_⟩
      have hz : ThgP K (cut p l a H3) vs[j] := by
        refine thgM _ _ _ (fun b o e => ?_) (p2 _ (List.getElem_mem hj))
        obtain ⟨e1, e2⟩ := newer_inv e
        have n1 := S1.nep e1
        have n2 := S1.nel e1
        exact cut_at n1 n2 (ne_of_none ha1 e1).symm (K3 b o (by rw [upd_ne (ne_of_none e2 hq)]; exact e2) n1 n2)
      refine k _ (S3.put np nl) (fun b o e h1 h2 h3 => by rw [upd_ne h3]; exact fr1 H3 K13 b o e h1 h2) (Five5.le ⟨np, nl, _, vM, vR, vW, ve, upd_same, ?_, ?_, ?_, ?_⟩ (Nat.le_succ m))
      · rw [cut_put]; exact hz
      · rw [cut_put]; exact mnyM _ _ _ (cut_keep K13) hM
      · rw [cut_put]; exact rulM _ _ _ (cut_keep K13) hR
      · rw [cut_put]; exact wrdM _ _ _ (cut_keep K13) hW
    refine ⟨_, rfl, rfl, _, rfl, ?_⟩
    refine ite2 (fun _ => ?_) (fun _ => ?_)
    · -- many
      have mono := mnyM (K := K)
      refine asgP (K := K) (a := a) (n := 6) mono rfl S1 ha1 rfl (by decide) (by decide) ((la_cons mono (lay_of (ld_int (i := 0)) (fun _ _ h => ⟨_, h⟩)) (la_cons mono (lay_of (ld_int (i := 4)) (fun _ _ h => ⟨_, h⟩)) (la_cons mono (lay_of (ld_bl (b := true)) (fun _ _ h => ⟨_, h⟩)) (la_cons mono (lay_of (ld_str (x := "1")) (fun _ _ h => ⟨_, h⟩)) (la_cons mono (lay_of ld_non (fun _ _ h => ⟨_, h⟩)) (la_cons mono (lay_of (ld_int (i := 3)) (fun _ _ h => ⟨_, h⟩)) la_nil))))))) fun H3 z S3 K13 hz => ?_
      have ha3 := K13 _ _ ha1 np nl
      refine ⟨_, rfl, a, _, _, 1, rfl, rfl, ha3, rfl, ?_⟩
      refine k _ (S3.put np nl) (fun b o e h1 h2 h3 => by rw [upd_ne h3]; exact fr1 H3 K13 b o e h1 h2) (Five5.le ⟨np, nl, vT, _, vR, vW, ve, upd_same, ?_, ?_, ?_, ?_⟩ (Nat.le_succ m))
      · rw [cut_put]; exact thgM _ _ _ (cut_keep K13) hT
      · rw [cut_put]; exact hz
      · rw [cut_put]; exact rulM _ _ _ (cut_keep K13) hR
      · rw [cut_put]; exact wrdM _ _ _ (cut_keep K13) hW
    refine ⟨_, rfl, rfl, _, rfl, ?_⟩
    refine ite2 (fun _ => ?_) (fun _ => ?_)
    · -- words
      have mono := wrdM (K := K)
      refine asgP (K := K) (a := a) (n := 8) mono rfl S1 ha1 rfl (by decide) (by decide) ((la_cons mono (lay_of ld_non (fun _ _ h => ⟨_, h, short_of (by decide +kernel)⟩)) (la_cons mono (lay_of (ld_lst (lds_cons (ld_str (x := "top")) lds_nil) (by show 1 ≤ sizeLine; decide)) (fun _ _ h => ⟨_, h, short_of (by decide +kernel)⟩)) (la_cons mono (lay_of (ld_tup (lds_cons (ld_str (x := "top")) (lds_cons (ld_str (x := "place")) lds_nil)) (by show 2 ≤ sizeLine; decide)) (fun _ _ h => ⟨_, h, short_of (by decide +kernel)⟩)) (la_cons mono (lay_of (ld_tup (lds_cons (ld_str (x := "top")) (lds_cons (ld_str (x := "top")) lds_nil)) (by show 2 ≤ sizeLine; decide)) (fun _ _ h => ⟨_, h, short_of (by decide +kernel)⟩)) (la_cons mono (lay_of (ld_tup (lds_cons (ld_str (x := "free")) lds_nil) (by show 1 ≤ sizeLine; decide)) (fun _ _ h => ⟨_, h, short_of (by decide +kernel)⟩)) (la_cons mono (lay_of (ld_tup (lds_cons (ld_str (x := "go")) lds_nil) (by show 1 ≤ sizeLine; decide)) (fun _ _ h => ⟨_, h, short_of (by decide +kernel)⟩)) (la_cons mono (lay_of (ld_tup (lds_cons (ld_int (i := 1)) lds_nil) (by show 1 ≤ sizeLine; decide)) (fun _ _ h => ⟨_, h, short_of (by decide +kernel)⟩)) (la_cons mono (lay_of (ld_tup lds_nil (by show 0 ≤ sizeLine; decide)) (fun _ _ h => ⟨_, h, short_of (by decide +kernel)⟩)) la_nil))))))))) fun H3 z S3 K13 hz => ?_
      have ha3 := K13 _ _ ha1 np nl
      refine ⟨_, rfl, a, _, _, 3, rfl, rfl, ha3, rfl, ?_⟩
      refine k _ (S3.put np nl) (fun b o e h1 h2 h3 => by rw [upd_ne h3]; exact fr1 H3 K13 b o e h1 h2) (Five5.le ⟨np, nl, vT, vM, vR, _, ve, upd_same, ?_, ?_, ?_, ?_⟩ (Nat.le_succ m))
      · rw [cut_put]; exact thgM _ _ _ (cut_keep K13) hT
      · rw [cut_put]; exact mnyM _ _ _ (cut_keep K13) hM
      · rw [cut_put]; exact rulM _ _ _ (cut_keep K13) hR
      · rw [cut_put]; exact hz
    refine ⟨_, rfl, rfl, _, rfl, ?_⟩
    refine ite2 (fun _ => ?_) (fun _ => ?_)
    · -- rule
      refine asgP (K := K) (a := a) (Pr := RulP K 1) (n := 4) rulM rfl S1 ha1 rfl (by decide) (by decide) (la_cons rulM (lay_of ld_non fun _ _ h => rul_none h) (la_cons rulM lay_d0 (la_cons rulM (lay_of (ld_lst lds_nil (by show 0 ≤ sizeLine; decide)) fun _ _ h => rul_none h) (la_cons rulM (lay_d1 (x := "first") (y := "newer") (by decide +kernel)) la_nil)))) fun H3 z S3 K13 hz => ?_
      have ha3 := K13 _ _ ha1 np nl
      refine ⟨_, rfl, a, _, _, 2, rfl, rfl, ha3, rfl, ?_⟩
      refine k _ (S3.put np nl) (fun b o e h1 h2 h3 => by rw [upd_ne h3]; exact fr1 H3 K13 b o e h1 h2) ⟨np, nl, vT, vM, _, vW, ve, upd_same, ?_, ?_, ?_, ?_⟩
      · rw [cut_put]; exact thgM _ _ _ (cut_keep K13) hT
      · rw [cut_put]; exact mnyM _ _ _ (cut_keep K13) hM
      · rw [cut_put]; exact RulP.le hz (Nat.succ_le_succ (Nat.zero_le m))
      · rw [cut_put]; exact wrdM _ _ _ (cut_keep K13) hW
    obtain ⟨rr, hRv, hRc⟩ := id hR
    refine ⟨_, rfl, a, _, 2, vR, rfl, rfl, SqL.of ha1, rfl, ?_⟩
    cases hRv with
    | @dat v d hd =>
      have hd1 := Dp.same cut_same _ hd
      have nd : tyD d ≠ "dict" := by cases hd <;> simp [tyD]
      have en3 : isaB (tyD d) "dict" = false := by
        unfold isaB
        rw [beq_eq_false_iff_ne.mpr nd]
        cases (tyD d == "bool") <;> rfl
      refine ⟨vR, _, _, _, _, rfl, .ty "dict", dp_ty hd1, kitD d (by decide), _, rfl, ?_⟩
      rw [en3]
      refine iteF ?_
      exact k H1 S1 (fun b o e h1 h2 _ => K1 b o e h1 h2) (G5.le (Nat.le_succ m))
    | @dic aR kds h =>
      obtain ⟨kvs, haR, hpR⟩ := h
      obtain ⟨hlen, hok, hfl⟩ := hRc kds rfl
      have hlk : kvs.length = kds.length := Paired.length hpR
      have haR1 := cut_same _ _ haR
      refine ⟨.ref aR, _, _, _, _, rfl, .ty "dict", .base (.dK haR1), kit_ty (r := true) (by decide +kernel), _, rfl, ?_⟩
      refine iteT ?_
      refine ⟨_, rfl, a, _, 2, .ref aR, rfl, rfl, SqL.of ha1, rfl, aR, kvs, rfl, .inl haR1, fun c hc => ?_⟩
      have nca : a ≠ c := ne_of_none ha1 hc
      have ncp := S1.nep hc
      have ncl := S1.nel hc
      refine ⟨_, rfl, a, _, _, 2, rfl, rfl, (by rw [upd_ne nca]; exact ha1), rfl, ?_⟩
      have S2 : Src (upd (upd H1 c (.dK kvs)) a (.lst [vT, vM, .ref c, vW, ve])) p l := (S1.new hc).put np nl
      have ha2 : upd (upd H1 c (.dK kvs)) a (.lst [vT, vM, .ref c, vW, ve]) a = some (.lst [vT, vM, .ref c, vW, ve]) := upd_same
      have hc2 : upd (upd H1 c (.dK kvs)) a (.lst [vT, vM, .ref c, vW, ve]) c = some (.dK kvs) := by rw [upd_ne nca.symm, upd_same]
      have s2 : ∀ b o, H1 b = some o → b ≠ a → upd (upd H1 c (.dK kvs)) a (.lst [vT, vM, .ref c, vW, ve]) b = some o := fun b o e h => by rw [upd_ne h, upd_ne (ne_of_none e hc)]; exact e
      show tSeq _ _ _ [some (.ref p), some (.ref a), some (.int r), none, none] (upd (upd H1 c (.dK kvs)) a (.lst [vT, vM, .ref c, vW, ve]))
      generalize upd (upd H1 c (.dK kvs)) a (.lst [vT, vM, .ref c, vW, ve]) = H2 at S2 ha2 hc2 s2
      refine seqP (K := K) (a := a) (Pr := PartP) (n := 6) partM rfl S2 ha2 rfl (by decide) (by decide) (la_cons partM (lay_part (k := Sum.inr "asleep") (by decide +kernel)) (la_cons partM (lay_part (k := Sum.inr "count") (by decide +kernel)) (la_cons partM (lay_part (k := Sum.inr "first") (by decide +kernel)) (la_cons partM (lay_part (k := Sum.inr "ring") (by decide +kernel))  (la_cons partM (lay_part (k := Sum.inr "none") (by decide +kernel)) (la_cons partM (lay_part (k := Sum.inl 5) (by decide +kernel)) la_nil)))))) fun H3 z S3 K3 hz => ?_
      obtain ⟨key, rfl, hkey⟩ := hz
      have mono := flatM (K := K)
      have ha3 := K3 _ _ ha2 np nl
      refine dputP (K := K) (a := a) (Pr := FlatP K) (n := 5) mono rfl S3 ha3 rfl (by decide) (by decide) ((la_cons mono (lay_of (ld_str (x := "keep")) (fun _ _ h => ⟨_, h, rfl⟩)) (la_cons mono (lay_of (ld_str (x := "none")) (fun _ _ h => ⟨_, h, rfl⟩)) (la_cons mono (lay_of ld_non (fun _ _ h => ⟨_, h, rfl⟩)) (la_cons mono (lay_of (ld_bl (b := true)) (fun _ _ h => ⟨_, h, rfl⟩)) (la_cons mono (lay_of (ld_str (x := "newer")) (fun _ _ h => ⟨_, h, rfl⟩)) la_nil)))))) fun H4 z S4 K4 hz => ?_
      obtain ⟨d, hd, hdf⟩ := hz
      have ha4 := K4 _ _ ha3 np nl
      have hc4 := K4 _ _ (K3 _ _ hc2 ncp ncl) ncp ncl
      refine ⟨_, rfl, a, _, 2, .ref c, rfl, rfl, SqL.of ha4, rfl, ?_⟩
      refine ⟨_, rfl, c, _, rfl, DPut.k hc4 (by rw [hlk]; exact Nat.lt_of_le_of_lt hlen (Nat.lt_trans hm (by decide))), ?_⟩
      have sc : Same (cut p l a H1) (cut p l a (upd H4 c (.dK (putK kvs key z)))) := fun b o e => by
        obtain ⟨e1, e2, e3, e4⟩ := cut_inv e
        refine cut_at e1 e2 e3 ?_
        rw [upd_ne (ne_of_none e4 hc)]
        exact K4 b o (K3 b o (s2 b o e4 e3) e1 e2) e1 e2
      have s4 : Same (cut p l a H4) (cut p l a (upd H4 c (.dK (putK kvs key z)))) ∨ True := .inr trivial
      have hdz : Dp K (cut p l a (upd H4 c (.dK (putK kvs key z)))) z d := by
        cases hd with
        | non => exact .non
        | bl b => exact .bl b
        | int i => exact .int i
        | str x => exact .str x
        | _ => cases hdf
      refine k _ (S4.put ncp ncl) (fun b o e h1 h2 h3 => ?_) ⟨np, nl, vT, vM, .ref c, vW, ve, (by rw [upd_ne nca]; exact ha4), thgM _ _ _ sc hT, mnyM _ _ _ sc hM, ⟨some (putD kds key d), .dic ⟨_, cut_at ncp ncl nca.symm upd_same, put_pair (Paired.mapP hpR fun a b q => ⟨q.1, Dp.same sc _ q.2⟩) hdz⟩, fun kds2 e => ?_⟩, wrdM _ _ _ sc hW⟩
      · have e1 := K1 b o e h1 h2
        rw [upd_ne (ne_of_none e1 hc)]
        exact K4 b o (K3 b o (s2 b o e1 h3) h1 h2) h1 h2
      · cases e
        refine ⟨Nat.le_trans (putD_len _ _ _) (Nat.succ_le_succ hlen), fun x hx => ?_, fun kv hkv => ?_⟩
        · obtain ⟨k0, hk0, rfl⟩ := List.mem_map.mp hx
          rcases putD_keys hk0 with rfl | h
          · exact hkey
          · exact hok _ (List.mem_map_of_mem h)
        · rcases putD_mem hkv with h | h
          · rw [h.2]; exact hdf
          · exact hfl kv h
end
end HP

namespace HP
open PySem PySem.Spec PyProof.Rows L2 SlX
abbrev sLaw : Stmt := top 30
/-! ### plain facts of what is drawn -/
theorem plusS_new {xs : List Str} {x : Str} (h : x ∉ xs) : plusS xs x = xs ++ [x] := by
  unfold plusS
  rw [if_neg]
  intro q
  obtain ⟨y, hy, e⟩ := List.any_eq_true.mp q
  exact h (of_decide_eq_true e ▸ hy)
theorem setS_from : ∀ (xs acc : List Str), (acc ++ xs).Nodup → xs.foldl plusS acc = acc ++ xs
  | [], acc, _ => by rw [List.append_nil]; rfl
  | x :: xs, acc, h => by
    have hx : x ∉ acc := fun q => by
      have := (List.nodup_append.mp h).2.2 x q x List.mem_cons_self
      exact this rfl
    rw [List.foldl_cons, plusS_new hx]
    have e : acc ++ [x] ++ xs = acc ++ x :: xs := by rw [List.append_assoc]; rfl
    rw [setS_from xs (acc ++ [x]) (by rw [e]; exact h), e]
theorem setS_nodup {xs : List Str} (h : xs.Nodup) : setS xs = xs := setS_from xs [] h
theorem words_good {ws : List Str} (h1 : ∀ x ∈ ws, x ∈ allWords) (h2 : ws.Nodup) (h3 : ws.Pairwise leS) : isWordsD (.tuple (ws.map .str)) = true := by
  show ((ws.map PyData.str).all isWordD && ascS ((ws.map PyData.str).map strOf)) = true
  rw [map_strOf, Bool.and_eq_true]
  refine ⟨?_, ?_⟩
  · rw [List.all_map, List.all_eq_true]
    exact fun x hx => decide_eq_true (h1 x hx)
  · unfold ascS
    rw [setS_nodup h2, srtS_self h3]
    exact decide_eq_true rfl
theorem drawn_good {names : List Str} {many : Int} {f : Str → Str} {words : List Str} {w : Int} (d : Drawn4 names many f words 3 w) (hw : w ≤ 9) : GoodSc ⟨names, many, f, words⟩ := by
  refine ⟨?_, d.m1, d.m2, d.rl, words_good d.ws d.wn d.wp, ?_⟩
  · obtain ⟨k, h1, h2, rfl⟩ := d.nm
    have h3 : k = 2 ∨ k = 3 ∨ k = 4 := by omega
    rcases h3 with rfl | rfl | rfl
    · show isThingsL ((fourNames.take 2).map .str) = true
      decide +kernel
    · show isThingsL ((fourNames.take 3).map .str) = true
      decide +kernel
    · show isThingsL ((fourNames.take 4).map .str) = true
      decide +kernel
  · have := d.wl
    show words.length < 64
    omega
theorem good_none {s : Sc} (g : GoodSc s) : sceneFault (.tuple (s.names.map .str)) (.int s.many) (some (dicD fun q => .str (s.word q))) (.tuple (s.words.map .str)) = none := by
  unfold sceneFault
  rw [show isThingsD (.tuple (s.names.map .str)) = true from g.nm, g.many, g.ws]
  have e : faultOf (some (dicD fun q => .str (s.word q))) = none := by
    show faultD _ = none
    rw [faultD_dic]
    refine List.find?_eq_none.mpr fun p hp => ?_
    rw [show goodPart p (some (.str (s.word p))) = true from decide_eq_true (g.rl p hp)]
    decide
  rw [e]
  rfl
/-- the parts that a fault can name -/
theorem fault_part {dT dM dW : PyData} {r : Option (List (Key × PyData))} {p : Str} (h : sceneFault dT dM r dW = some (.rule p)) : p = "" ∨ p ∈ partNames := by
  unfold sceneFault at h
  split at h
  · split at h
    · split at h
      · rename_i q hq
        cases h
        cases r with
        | none => cases hq; exact .inl rfl
        | some kds =>
          have hq : faultD kds = some p := hq
          unfold faultD at hq
          split at hq
          · split at hq
            · exact .inr (List.mem_of_find?_eq_some hq)
            · cases hq; exact .inl rfl
          · cases hq; exact .inl rfl
      · split at h <;> cases h
    · cases h
  · cases h
theorem told_shaped {dT dM dW : PyData} {r : Option (List (Key × PyData))} : SeqAt.shaped (toldD (sceneFault dT dM r dW)) = true := by
  cases h : sceneFault dT dM r dW with
  | none => decide +kernel
  | some f =>
    cases f with
    | things => decide +kernel
    | values => decide +kernel
    | words => decide +kernel
    | rule p =>
      have hp : PyData.strOk p = true := by
        rcases fault_part h with rfl | hp
        · decide +kernel
        · exact ok_partNames p hp
      have e : PyData.strOk "rule" = true := by decide +kernel
      show SeqAt.shaped (.tuple [.str "rule", .str p]) = true
      simp [SeqAt.shaped, PyData.canLay0, PyData.canLayAll0, hp, e, PyData.depth, PyData.depthAll]
theorem eqv_shaped {d : PyData} (h : SeqAt.shaped d = true) : PyData.eqv d d = true := by
  unfold SeqAt.shaped at h
  rw [Bool.and_eq_true] at h
  exact SeqAt.eqv_refl d h.1
theorem newer_same {H H' : Hp} : Same (newer H H') H' := fun _ _ e => (newer_inv e).2
theorem seqLd {K : PySem.W.Frag} {te : TE} {d : PyData} {g : TG} {b : TS} {D : Ends} {σ : L2.St} {H : Hp} (L : LayD K te d) (k : ∀ H' v, Same H H' → Dp K H' v d → g v σ H' (b D)) : tSeq (tAsg te g) b D σ H :=
  L σ H _ fun H' v s p => k H' v s (Dp.same newer_same _ p)
theorem seqCat {K : PySem.W.Frag} {ta : TA} {t2 : TE} {ds : List PyData} {g : TG} {b : TS} {D : Ends} {σ : L2.St} {H : Hp} (L : LayDs K ta ds) (hl : ds.length ≤ 1000) (k : ∀ H' q vs, Same H H' → DpAll K H' vs ds → H' q = some (.lst vs) → t2 σ H' fun y H2 => rCat (.ref q) y H2 fun z H3 => g z σ H3 (b D)) :
    tSeq (tAsg (tOp rCat (tLst ta) t2) g) b D σ H := L σ H _ fun H' vs s p => ⟨by rw [DpAll.len p]; exact Nat.le_trans hl (by decide), fun q hq => k _ q vs (same_new s hq) (DpAll.same (Same.trans newer_same (same_new (Same.refl H') hq)) _ p) upd_same⟩
theorem dpAll_app {K : PySem.W.Frag} {H : Hp} : ∀ {xs ys : List V} {ds es : List PyData}, DpAll K H xs ds → DpAll K H ys es → DpAll K H (xs ++ ys) (ds ++ es)
  | _, _, _, _, .nil, h => h
  | _, _, _, _, .cons a r, h => .cons a (dpAll_app r h)
def odd5 : List PyData := [.tuple [.str "first", .str "none", .str "first"], .tuple [.str "first", .none, .str "first"], .tuple [.str "none", .str "newer", .str ""], .tuple [.int 5, .str "newer", .str ""], .tuple [.none, .int 1, .str ""]]
theorem odd5_ok : ∀ e ∈ odd5, ∃ dp dw z, e = .tuple [dp, dw, .str z] ∧ turnFault dp dw = some z := fun e he => by
  simp only [odd5, List.mem_cons, List.not_mem_nil, or_false] at he
  rcases he with rfl | rfl | rfl | rfl | rfl
  · exact ⟨_, _, _, rfl, by decide +kernel⟩
  · exact ⟨_, _, _, rfl, by decide +kernel⟩
  · exact ⟨_, _, _, rfl, by decide +kernel⟩
  · exact ⟨_, _, _, rfl, rfl⟩
  · exact ⟨_, _, _, rfl, rfl⟩
def out5 : List PyData := [.str "none", .str "free", .none, .int 5, .tuple [.str "top"]]
theorem out5_ok {s : Sc} (h : ∀ x ∈ s.words, x ∈ allWords) : ∀ e ∈ out5, noWord s e = true ∧ SeqAt.shaped e = true := fun e he => by
  have nw : ∀ x, x ∉ allWords → noWord s (.str x) = true := fun x hx => by
    show (!decide (x ∈ s.words)) = true
    rw [decide_eq_false fun q => hx (h x q)]
    rfl
  simp only [out5, List.mem_cons, List.not_mem_nil, or_false] at he
  rcases he with rfl | rfl | rfl | rfl | rfl
  · exact ⟨nw _ (by decide +kernel), by decide +kernel⟩
  · exact ⟨nw _ (by decide +kernel), by decide +kernel⟩
  · exact ⟨rfl, by decide +kernel⟩
  · exact ⟨rfl, by decide +kernel⟩
  · exact ⟨rfl, by decide +kernel⟩
section
variable {P : Program} {w : World} {K : PySem.W.Frag} {mg : Str → Option Value} {base : Heap}
def spLaw (K : PySem.W.Frag) : Sp := fun vs H Q _ => ∃ (a : Addr) (ns : List Int), vs = [.ref a] ∧ SqL K H a (ns.map V.int) ∧ ns.length ≤ 63 ∧ ∀ H', Q (.bl true) H'
theorem scLaw : FnScope ["_law_script", "_law_h", "_law_t", "_law_scene_here", "_law_odd", "_law_out_here", "_law_turn", "_law_word", "_law_one"] ["_law_script"] (defScope sLaw) := ⟨rfl, rfl, rfl, by decide +kernel, rfl, by decide +kernel, by decide +kernel⟩
theorem ok_law {C : Addr} {c : Cls4} {f : Addr} {fd : FuncData} (F : FunD K "law" "law" (defArgs sLaw) (defBody sLaw) (defScope sLaw) [] [] f fd) (T : Fr mg) (M : ScMk P w K mg base C c) (FM : Fn P w K mg base CX0 1 "_law_mix" (spMix K)) (FN : Fn P w K mg base CX0 1 "_law_next" spNext) (FS : Fn P w K mg base CX0 3 "_law_scene" spScene)
    (FT : Fn P w K mg base CX0 7 "_law_turned" (spLT K C)) (FO : Fn P w K mg base CX0 7 "_law_out" (spLO K C)) (FP : Fn P w K mg base CX0 2 "_law_spoil" (spSpoil K)) (FG : Fn P w K mg base CX0 6 "_law_told" (spTold K)) (FD : Fn P w K mg base CX0 1 "_law_due" (spDue K)) :
    FnOk P w K mg base CX0 8 f fd ["_law_script"] (spLaw K) := by
  refine F.ok scLaw (fun vs H Q E h => ?_) (fun cdv A outer s0 H vs Q E hr h => ?_)
  · obtain ⟨a, ns, rfl, _⟩ := h
    rfl
  · obtain ⟨a, ns, rfl, hS, hlen, k⟩ := h
    suffices hh : ∃ t, PSs (cxOf CX0 P w K mg base _ "law" (defScope sLaw) f cdv A outer s0 H E).nox (defBody sLaw) t ∧ t { nx := fun _ H' => Q .non H', rt := Q } (L2.start _ [.ref a]) H by
      obtain ⟨t, h1, h2⟩ := hh
      exact ⟨t, h1.nox, h2⟩
    refine ⟨_, (pss_cons (ps_set (i := 1) scLaw.nd rfl (Or.inl rfl) (pf FM hr (by decide) (pa_cons (pv 0) (pa_cons pe_int pa_nil))))
      (pss_cons (ps_set (i := 2) scLaw.nd rfl (Or.inr rfl) (pf FS hr (by decide) (pa_cons (pv 1) (pa_cons pe_int (pa_cons pe_int (pa_cons pe_int pa_nil))))))
      (pss_cons (ps_set (i := 3) scLaw.nd rfl (Or.inr rfl) (peScene (K := K) M hr (by decide) (passes_call (E := fun _ _ _ => False) takes_none5 (fun _ _ _ _ h => h)) (pa_cons (pe_ix (ixL (K := K)) (pv 2) pe_int (fun _ _ => rfl)) (pa_cons (pe_ix (ixL (K := K)) (pv 2) pe_int (fun _ _ => rfl)) (pa_cons (pe_ix (ixL (K := K)) (pv 2) pe_int (fun _ _ => rfl)) (pa_cons (pe_ix (ixL (K := K)) (pv 2) pe_int (fun _ _ => rfl)) pa_nil))))))
      (pss_cons (ps_set (i := 4) scLaw.nd rfl (Or.inl rfl) (pe_lst (pa_cons (pe_tup (pa_cons pe_str (pa_cons pe_str (pa_cons pe_str pa_nil)))) (pa_cons (pe_tup (pa_cons pe_str (pa_cons pe_non (pa_cons pe_str pa_nil)))) (pa_cons (pe_tup (pa_cons pe_str (pa_cons pe_str (pa_cons pe_str pa_nil)))) (pa_cons (pe_tup (pa_cons pe_int (pa_cons pe_str (pa_cons pe_str pa_nil)))) (pa_cons (pe_tup (pa_cons pe_non (pa_cons pe_int (pa_cons pe_str pa_nil)))) pa_nil)))))))
      (pss_cons (ps_if (pt_not (pt_val (pe_callB (kAll (K := K) rfl) (by rfl) (T.fr "all" (by decide +kernel)) (by decide +kernel) (pa_cons (pe_lc (own := [("_law_one", 8)]) (g := gName 8) (by rfl) scLaw.nd (iL (K := K) (pv 4)) (blkOk_by (own := [("_law_one", 8)]) (N := ["_law_script", "_law_h", "_law_t", "_law_scene_here", "_law_odd", "_law_out_here", "_law_turn", "_law_word", "_law_one"]) (sc := defScope sLaw) (by decide +kernel)) (fun _ _ _ _ _ => (pg_name (i := 8) scLaw.nd rfl (Or.inl rfl))) (fun _ _ _ _ _ => pts_nil) (fun _ _ _ _ _ => (pe_cmpR op_eq (pf FT hr (by decide) (pa_cons (pv 3) (pa_cons (pe_ix (ixT (K := K)) (pv 8) pe_int (fun _ _ => rfl)) (pa_cons (pe_ix (ixT (K := K)) (pv 8) pe_int (fun _ _ => rfl)) pa_nil)))) (pe_ix (ixT (K := K)) (pv 8) pe_int (fun _ _ => rfl)) (nomark _)))) pa_nil)))) (pss_one (ps_ret pe_bl)) pss_nil)
      (pss_cons (ps_set (i := 5) scLaw.nd rfl (Or.inl rfl) (pe_op op_cat (pe_lst (pa_cons pe_str (pa_cons pe_str (pa_cons pe_non (pa_cons pe_int (pa_cons (pe_tup (pa_cons pe_str pa_nil)) pa_nil)))))) (pe_lc (own := [("_law_word", 7)]) (g := gName 7) (by rfl) scLaw.nd (iL (K := K) (pe_lst (pa_cons pe_str (pa_cons pe_str pa_nil)))) (blkOk_by (own := [("_law_word", 7)]) (N := ["_law_script", "_law_h", "_law_t", "_law_scene_here", "_law_odd", "_law_out_here", "_law_turn", "_law_word", "_law_one"]) (sc := defScope sLaw) (by decide +kernel)) (fun _ _ _ _ _ => (pg_name (i := 7) scLaw.nd rfl (Or.inl rfl))) (fun _ _ _ _ _ => (pts_one (pt_cmpR (oNotIn (K := K)) (pv 7) (pe_ix (ixL (K := K)) (pv 2) pe_int (fun _ _ => rfl)) (by rfl)))) (fun _ _ _ _ _ => (pv 7)))))
      (pss_cons (ps_if (pt_not (pt_val (pe_callB (kAll (K := K) rfl) (by rfl) (T.fr "all" (by decide +kernel)) (by decide +kernel) (pa_cons (pe_lc (own := [("_law_one", 8)]) (g := gName 8) (by rfl) scLaw.nd (iL (K := K) (pv 5)) (blkOk_by (own := [("_law_one", 8)]) (N := ["_law_script", "_law_h", "_law_t", "_law_scene_here", "_law_odd", "_law_out_here", "_law_turn", "_law_word", "_law_one"]) (sc := defScope sLaw) (by decide +kernel)) (fun _ _ _ _ _ => (pg_name (i := 8) scLaw.nd rfl (Or.inl rfl))) (fun _ _ _ _ _ => pts_nil) (fun _ _ _ _ _ => (pe_cmpR (oEqD (K := K) hr.units) (pf FO hr (by decide) (pa_cons (pv 3) (pa_cons (pv 8) pa_nil))) (pv 8) (nomark _)))) pa_nil)))) (pss_one (ps_ret pe_bl)) pss_nil)
      (pss_cons (ps_for PassesOwn.never rfl (pi_range1 (by rfl) (T.fr "range" (by decide +kernel)) (pa_cons (pf FN hr (by decide) (pa_cons (pv 1) (pa_cons pe_int pa_nil))) pa_nil)) (pg_name (i := 6) scLaw.nd rfl (Or.inl rfl)) (pss_one (ps_expr (pf FP hr (by decide) (pa_cons (pv 1) (pa_cons (pv 2) pa_nil))))))
      (pss_one (ps_ret (pe_cmpR (oEqD (K := K) hr.units) (pf FG hr (by decide) (pa_cons (pv 2) pa_nil)) (pf FD hr (by decide) (pa_cons (pv 2) pa_nil)) (nomark _)))))))))))), ?_⟩
    refine ⟨_, rfl, a, ns, 4, rfl, hS, hlen, fun H1 p l s1 hp hl S1 => ?_⟩
    refine ⟨_, rfl, p, l, 4, 3, 6, rfl, S1, by decide, by decide, by decide, by decide, by decide, by decide, fun H2 t names many fr words S2 K2 ht five dr => ?_⟩
    obtain ⟨nA, rA, tA, eA, ht2, hn2, hr2, hw2, he2⟩ := five.ex
    have gs : GoodSc ⟨names, many, fr, words⟩ := drawn_good dr (by decide)
    refine ⟨_, rfl, t, _, 0, .ref nA, rfl, rfl, SqL.of ht2, rfl, ?_⟩
    refine ⟨_, rfl, t, _, 1, .int many, rfl, rfl, SqL.of ht2, rfl, ?_⟩
    refine ⟨_, rfl, t, _, 2, .ref rA, rfl, rfl, SqL.of ht2, rfl, ?_⟩
    refine ⟨_, rfl, t, _, 3, .ref tA, rfl, rfl, SqL.of ht2, rfl, ?_⟩
    intro x dx nx ndx ne
    have pd : ∀ H', H' rA = some (.dK (polOf fr)) → RuleV K H' (.ref rA) (some (dicD fun q => .str (fr q))) := fun H' h => .dic ⟨_, h, dicP (g := fun q => .str (fr q)) fun q _ => .str _⟩
    have ar : ScArgs K H2 (.ref nA) (.int many) (.ref rA) (.ref tA) (.tuple (names.map .str)) (.int many) (some (dicD fun q => .str (fr q))) (.tuple (words.map .str)) := by
      refine ⟨.tup (SqT.of hn2) (dpAll_strs _), gs.small, .int _, pd H2 hr2, fun kds e => ?_, .tup (SqT.of hw2) (dpAll_strs _), fun ds e => ?_⟩
      · cases e
        refine ⟨by rw [show (dicD fun q => PyData.str (fr q)).length = 6 from rfl]; decide, ?_⟩
        rw [txts_dic]
        exact ok_partNames
      · cases e
        rw [List.length_map]
        exact gs.wl
    refine scene_useR nx ndx ne ar (fun h H3 s3 st => ?_) (fun f h => by rw [show sceneFault (.tuple (names.map .str)) (.int many) (some (dicD fun q => .str (fr q))) (.tuple (words.map .str)) = none from good_none gs] at h; cases h)
    have hsc : SceneAt K C H3 x ⟨names, many, fr, words⟩ := st.congr (map_strOf _) rfl (map_strOf _) fun q hq => by
      show strOf ((valD (dicD fun q => .str (fr q)) (Sum.inr q)).getD .none) = fr q
      rw [valD_dic hq]
      rfl
    have S3 := S2.same s3
    -- turned
    refine seqLd (K := K) (d := .list odd5) (ld_lst (lds_cons (ld_tup (lds_cons (ld_str (x := "first")) (lds_cons (ld_str (x := "none")) (lds_cons (ld_str (x := "first")) lds_nil))) (by show 3 ≤ sizeLine; decide)) (lds_cons (ld_tup (lds_cons (ld_str (x := "first")) (lds_cons ld_non (lds_cons (ld_str (x := "first")) lds_nil))) (by show 3 ≤ sizeLine; decide)) (lds_cons (ld_tup (lds_cons (ld_str (x := "none")) (lds_cons (ld_str (x := "newer")) (lds_cons (ld_str (x := "")) lds_nil))) (by show 3 ≤ sizeLine; decide)) (lds_cons (ld_tup (lds_cons (ld_int (i := 5)) (lds_cons (ld_str (x := "newer")) (lds_cons (ld_str (x := "")) lds_nil))) (by show 3 ≤ sizeLine; decide)) (lds_cons (ld_tup (lds_cons ld_non (lds_cons (ld_int (i := 1)) (lds_cons (ld_str (x := "")) lds_nil))) (by show 3 ≤ sizeLine; decide)) lds_nil))))) (by show 5 ≤ sizeLine; decide)) fun H4 v s4 d4 => ?_
    have s24 := s3.trans s4
    have hsc4 := hsc.same s4
    cases d4 with
    | @lst q xs _ hq hA =>
    have hlx : xs.length = 5 := DpAll.len hA
    refine ⟨_, rfl, q, rfl, ⟨_, hq⟩, fun D hD => ?_⟩
    refine lc_it walk_list (Cv H4 D fun i => List.replicate i (V.bl true)) (cv0 hD rfl) (fun i H5 _ p => SqL.same p.1 hq) (fun i y H5 H6 hi p2 q2 => ?_) (fun H5 p2 => ?_)
    · obtain ⟨rfl, hy⟩ := q2
      obtain ⟨e, he, hde⟩ := DpAll.at hA hy
      obtain ⟨dp, dw, z, rfl, htf⟩ := odd5_ok e (List.mem_of_getElem? he)
      refine ⟨rfl, ?_⟩
      refine lc_yes ?_
      cases Dp.same p2.1 _ hde with
      | @tup q3 ys _ hq3 hB =>
      cases hB with
      | cons b1 hB =>
      cases hB with
      | cons b2 hB =>
      cases hB with
      | cons b3 hB =>
      cases hB
      cases b3
      refine ⟨_, rfl, _, rfl, q3, _, 0, _, rfl, rfl, hq3, rfl, _, rfl, q3, _, 1, _, rfl, rfl, hq3, rfl, x, _, _, _, dp, dw, z, rfl, hsc4.same p2.1, gs, b1, b2, htf, fun H7 s7 => ?_⟩
      refine ⟨_, rfl, q3, _, 2, .str z, rfl, rfl, SqT.same s7 hq3, rfl, rfl, ?_⟩
      show ∃ acc, H7 D = some (.lst acc) ∧ acc.length < sizeLine ∧ Cv H4 D (fun i => List.replicate i (V.bl true)) (i + 1) (upd H7 D (.lst (acc ++ [.bl (decide (V.str z = V.str z))])))
      rw [show decide (V.str z = V.str z) = true from decide_eq_true rfl]
      refine cv_yes hD (p2.1.trans s7) (s7 _ _ p2.2) ?_ ?_
      · rw [List.length_replicate]
        omega
      · exact List.replicate_succ'
    have hp2 : H5 D = some (.lst ((List.replicate xs.length true).map V.bl)) := by rw [List.map_replicate]; exact p2.2
    refine ⟨D, List.replicate xs.length true, rfl, SqL.of hp2, _, rfl, ?_⟩
    rw [show (List.replicate xs.length true).all id = true from List.all_eq_true.mpr fun b hb => List.eq_of_mem_replicate hb]
    refine iteF ?_
    have s25 := s24.trans p2.1
    have hsc5 := hsc4.same p2.1
    -- without
    refine seqCat (K := K) (ds := out5) (lds_cons (ld_str (x := "none")) (lds_cons (ld_str (x := "free")) (lds_cons ld_non (lds_cons (ld_int (i := 5)) (lds_cons (ld_tup (lds_cons (ld_str (x := "top")) lds_nil) (by show 1 ≤ sizeLine; decide)) lds_nil))))) (by decide) fun H6 o5 vs s6 d6 ho5 => ?_
    refine ⟨by show 2 ≤ sizeLine; decide, fun q7 hq7 => ?_⟩
    have s67 : Same H6 (upd H6 q7 (.lst [.str "top", .str "sort"])) := same_new (Same.refl H6) hq7
    have hq7' : upd H6 q7 (.lst [.str "top", .str "sort"]) q7 = some (.lst [.str "top", .str "sort"]) := upd_same
    generalize upd H6 q7 (.lst [.str "top", .str "sort"]) = H7 at s67 hq7'
    refine ⟨q7, rfl, ⟨_, SqL.of hq7'⟩, fun D2 hD2 => ?_⟩
    have s27 := s25.trans (s6.trans s67)
    refine lc_it (walk_list (xs := [V.str "top", V.str "sort"])) (fun i H8 => ∃ ws : List Str, Same H7 H8 ∧ H8 D2 = some (.lst (ws.map V.str)) ∧ ws.length ≤ i ∧ ∀ x ∈ ws, x ∉ words ∧ PyData.strOk x = true) ⟨[], fun b o e => by rw [upd_ne (ne_of_none e hD2)]; exact e, upd_same, Nat.le_refl _, fun x hx => by cases hx⟩ (fun i H8 _ ⟨ws, h, _⟩ => SqL.of (h _ _ hq7')) ?_ ?_
    · rintro i y H8 H9 hi ⟨ws, s8, hw8, hl8, hx8⟩ ⟨rfl, hy⟩
      obtain ⟨wd, rfl, hok⟩ : ∃ wd : Str, y = .str wd ∧ PyData.strOk wd = true := by
        have hi2 : i < 2 := hi
        have h3 : i = 0 ∨ i = 1 := by omega
        rcases h3 with rfl | rfl
        · cases hy; exact ⟨"top", rfl, by decide +kernel⟩
        · cases hy; exact ⟨"sort", rfl, by decide +kernel⟩
      have s28 := s27.trans s8
      refine ⟨rfl, ?_⟩
      refine ⟨_, rfl, _, rfl, t, _, 3, .ref tA, rfl, rfl, SqL.of (s28 _ _ ht2), rfl, tA, _, rfl, .inr (SqT.of (s28 _ _ hw2)), rfl, flat_strs _, _, rfl, ?_⟩
      rw [inV_strs]
      by_cases hm : wd ∈ words
      · rw [decide_eq_true hm]
        refine iteF ?_
        exact ⟨ws, s8, hw8, Nat.le_succ_of_le hl8, hx8⟩
      · rw [decide_eq_false hm]
        refine iteT ?_
        refine ⟨_, rfl, _, hw8, ?_, ws ++ [wd], fun b o e => ?_, ?_, ?_, fun x hx => ?_⟩
        · rw [List.length_map]
          have hi2 : i < 2 := hi
          exact Nat.lt_of_le_of_lt (show ws.length ≤ 2 by omega) (by decide)
        · rw [upd_ne (ne_of_none e hD2)]
          exact s8 b o e
        · rw [upd_same, List.map_append]
          rfl
        · rw [List.length_append]
          exact Nat.succ_le_succ hl8
        · rcases List.mem_append.mp hx with hx | hx
          · exact hx8 x hx
          · rw [List.mem_singleton.mp hx]
            exact ⟨hm, hok⟩
    rintro H8 ⟨ws, s8, hw8, hl8, hx8⟩
    have hl8 : ws.length ≤ 2 := hl8
    have hlv : vs.length = 5 := DpAll.len d6
    refine ⟨o5, D2, vs, ws.map V.str, rfl, rfl, (s67.trans s8) _ _ ho5, hw8, ?_, fun oo hoo => ?_⟩
    · rw [List.length_map, hlv]
      exact Nat.le_trans (show 5 + ws.length ≤ 7 by omega) (by decide)
    have s89 : Same H8 (upd H8 oo (.lst (vs ++ ws.map V.str))) := same_new (Same.refl H8) hoo
    have hoo9 : upd H8 oo (.lst (vs ++ ws.map V.str)) oo = some (.lst (vs ++ ws.map V.str)) := upd_same
    show tSeq _ _ _ _ (upd H8 oo (.lst (vs ++ ws.map V.str)))
    generalize upd H8 oo (.lst (vs ++ ws.map V.str)) = H9 at s89 hoo9
    have s29 := s27.trans (s8.trans s89)
    have hsc9 := hsc5.same (s6.trans (s67.trans (s8.trans s89)))
    have d9 : DpAll K H9 (vs ++ ws.map V.str) (out5 ++ ws.map .str) := dpAll_app (DpAll.same (s67.trans (s8.trans s89)) _ d6) (dpAll_strs _)
    have ok9 : ∀ e ∈ out5 ++ ws.map PyData.str, noWord ⟨names, many, fr, words⟩ e = true ∧ SeqAt.shaped e = true := fun e he => by
      rcases List.mem_append.mp he with he | he
      · exact out5_ok (s := ⟨names, many, fr, words⟩) dr.ws e he
      · obtain ⟨z, hz, rfl⟩ := List.mem_map.mp he
        obtain ⟨z1, z2⟩ := hx8 z hz
        refine ⟨?_, ?_⟩
        · show (!decide (z ∈ words)) = true
          rw [decide_eq_false z1]
          rfl
        · simp [SeqAt.shaped, PyData.canLay0, z2, PyData.depth]
    refine ⟨_, rfl, oo, rfl, ⟨_, SqL.of hoo9⟩, fun D3 hD3 => ?_⟩
    refine lc_it (walk_list (xs := vs ++ ws.map V.str)) (Cv H9 D3 fun i => List.replicate i (V.bl true)) (cv0 hD3 rfl) (fun i H5 _ p => SqL.of (p.1 _ _ hoo9)) (fun i y H10 H11 hi p3 q3 => ?_) (fun H10 p3 => ?_)
    · obtain ⟨rfl, hy⟩ := q3
      obtain ⟨e, he, hde⟩ := DpAll.at d9 hy
      obtain ⟨k1, k2⟩ := ok9 e (List.mem_of_getElem? he)
      refine ⟨rfl, ?_⟩
      refine lc_yes ?_
      refine ⟨_, rfl, _, rfl, x, y, _, e, rfl, hsc9.same p3.1, Dp.same p3.1 _ hde, k1, fun H12 s12 => ?_⟩
      refine ⟨_, rfl, e, e, Dp.same (p3.1.trans s12) _ hde, Dp.same (p3.1.trans s12) _ hde, k2, k2, ?_⟩
      rw [eqv_shaped k2]
      refine cv_yes hD3 (p3.1.trans s12) (s12 _ _ p3.2) ?_ ?_
      · rw [List.length_replicate]
        rw [List.length_append, List.length_map, hlv] at hi
        omega
      · exact List.replicate_succ'
    have hp3 : H10 D3 = some (.lst ((List.replicate (vs ++ ws.map V.str).length true).map V.bl)) := by rw [List.map_replicate]; exact p3.2
    refine ⟨D3, List.replicate (vs ++ ws.map V.str).length true, rfl, SqL.of hp3, _, rfl, ?_⟩
    rw [show (List.replicate (vs ++ ws.map V.str).length true).all id = true from List.all_eq_true.mpr fun b hb => List.eq_of_mem_replicate hb]
    refine iteF ?_
    have s2A := s29.trans p3.1
    have SA := S2.same s2A
    -- spoil
    refine ⟨_, rfl, p, l, 3, rfl, SA, by decide, by decide, fun HB r h0 h1 SB KB => ?_⟩
    refine ⟨r, rfl, by omega, by omega, ?_⟩
    obtain ⟨lp1, lp2⟩ := SB.pl
    obtain ⟨ll1, ll2⟩ := SB.ll
    have tne : t ≠ p ∧ t ≠ l := by
      obtain ⟨y1, y2⟩ := S1.pl
      obtain ⟨y3, y4⟩ := S1.ll
      exact ⟨(ne_of_none y2 ht).symm, (ne_of_none y4 ht).symm⟩
    have htB := KB _ _ (s2A _ _ ht2) tne.1 tne.2
    have cutB : ∀ b o, H2 b = some o → (∀ xs, o ≠ .lst xs) → cut p l t HB b = some o := fun b o e hn => by
      obtain ⟨y1, y2⟩ := S2.pl
      obtain ⟨y3, y4⟩ := S2.ll
      have n1 : b ≠ p := ne_of e y2 fun z => hn _ z
      have n2 : b ≠ l := ne_of e y4 fun z => hn _ z
      have n3 : b ≠ t := ne_of e ht2 fun z => hn _ z
      exact cut_at n1 n2 n3 (KB _ _ (s2A _ _ e) n1 n2)
    have fB : Five5 K 6 HB p l t := by
      refine ⟨tne.1, tne.2, _, _, _, _, _, htB, ⟨_, .tup (SqT.of (cutB _ _ hn2 fun xs z => by cases z)) (dpAll_strs _), gs.small⟩, ⟨_, .int many⟩, ⟨_, pd _ (cutB _ _ hr2 fun xs z => by cases z), fun kds e => ?_⟩, ⟨_, .tup (SqT.of (cutB _ _ hw2 fun xs z => by cases z)) (dpAll_strs _), fun ds e => ?_⟩⟩
      · cases e
        refine ⟨Nat.le_refl _, by rw [txts_dic]; exact ok_partNames, fun kv hkv => ?_⟩
        obtain ⟨z, _, rfl⟩ := List.mem_map.mp hkv
        rfl
      · cases e
        rw [List.length_map]
        exact gs.wl
    refine for_range (lo := 0) (n := r.toNat) (fun i σ HC => ∃ v6, σ = [some (.ref a), some (.ref p), some (.ref t), some (.ref x), some (.ref q), some (.ref oo), v6, none, none] ∧ Src HC p l ∧ Five5 K (6 + i) HC p l t) ⟨none, rfl, SB, fB⟩ ?_ ?_
    · rintro i σ HC hi ⟨v6, rfl, SC, fC⟩
      refine ⟨_, rfl, _, rfl, p, l, t, 6 + i, rfl, SC, fC, by omega, fun HD SD _ fD => ?_⟩
      exact ⟨_, rfl, SD, fD⟩
    rintro σ HC ⟨v6, rfl, SC, fC⟩
    obtain ⟨_, _, vT, vM, vR, vW, ve, g1, ⟨dT, g2, g2'⟩, ⟨dM, g3⟩, ⟨rr, g4, g4'⟩, ⟨dW, g5, g5'⟩⟩ := fC
    have arC : ScArgs K HC vT vM vR vW dT dM rr dW := ⟨Dp.same cut_same _ g2, g2', Dp.same cut_same _ g3, g4.same cut_same, fun kds e => ⟨Nat.lt_of_le_of_lt (g4' kds e).1 (by omega), (g4' kds e).2.1⟩, Dp.same cut_same _ g5, g5'⟩
    refine ⟨_, rfl, t, dT, dM, rr, dW, rfl, ⟨_, _, _, _, _, g1, arC⟩, fun HD v1 sD e1 => ?_⟩
    refine ⟨_, rfl, t, dT, dM, rr, dW, rfl, ⟨_, _, _, _, _, sD _ _ g1, arC.same sD⟩, fun kds e => (g4' kds e).2.2, fun HE v2 sE e2 => ?_⟩
    refine ⟨_, _, Dp.same sE _ e1, e2, told_shaped, told_shaped, ?_⟩
    rw [eqv_shaped told_shaped]
    exact k HE
end
end HP

namespace HP
open PySem PySem.Spec PyProof.Rows L2 SlX
/-! ### what the Bools of the written part say -/
section
variable {K : PySem.W.Frag} {h : Heap} {mg : Str → Option Value} {P : Program} {w : World} {base : Heap}
theorem ea_ok {a b : Option (Option Value)} (h : ea a b = true) : a = b := of_decide_eq_true h
theorem excB_ok (X : K.In h) (G : h.Ns mainGlobals mg) {x : Str} (c : excB K x = true) : Exc0 K mg x (He.ga K x) := by
  obtain ⟨c1, c⟩ := He.ba c
  obtain ⟨c2, c⟩ := He.ba c
  obtain ⟨c3, c⟩ := He.ba c
  obtain ⟨c4, c5⟩ := He.ba c
  exact ⟨PySem.W.mg_of X G (ea_ok c5), c1, c2, of_decide_eq_true c3, of_decide_eq_true c4⟩
theorem clsB_ok {C : Addr} (c : clsB K C = true) : ∃ nm q N bs bm sn sub ab col dd k0 k1 k2 k3 k5, K.lookup C = some (excClassObj nm q C N bs bm true sn sub ab col dd k0 k1 k2 k3 k5 "ValueError.__new__") ∧ PySem.HandSPX.refsVE bm = true := by
  unfold clsB at c
  split at c
  · rename_i o dd cd sl q
    split at c
    · rename_i C2 bm k0 k1 k2 k3 n k5 e1 e2
      obtain ⟨c, c5⟩ := He.ba c
      obtain ⟨c, c4⟩ := He.ba c
      obtain ⟨c, c3⟩ := He.ba c
      obtain ⟨c1, c2⟩ := He.ba c
      have z1 : C2 = C := beq_iff_eq.mp c1
      have z2 : n = "ValueError.__new__" := beq_iff_eq.mp c2
      subst z1 z2
      obtain ⟨nm, bs, mro, ns, qn, hd, sn, sub, ab, col, hdl⟩ := cd
      dsimp only at e1 c3 c4
      subst e1
      have z3 : hdl = false := by cases hdl <;> first | rfl | cases c3
      subst z3
      have z4 : hd = true := c4
      subst z4
      have z5 : sl = #[k0, k1, k2, k3, some (.builtin "ValueError.__new__"), k5] := by
        rw [← e2]
      subst z5
      exact ⟨nm, qn, ns, bs, bm, sn, sub, ab, col, dd, k0, k1, k2, k3, k5, q, c5⟩
    · cases c
  · cases c
theorem oexB_ok {C : Addr} (c : oexB K C = true) : OexC K C := by
  obtain ⟨c1, c⟩ := He.ba c
  obtain ⟨c2, c⟩ := He.ba c
  obtain ⟨c3, c⟩ := He.ba c
  obtain ⟨c4, c5⟩ := He.ba c
  exact ⟨clsB_ok c1, ea_ok c2, of_decide_eq_true c3, of_decide_eq_true c4, c5⟩
structure Ex1 (K : PySem.W.Frag) (mg : Str → Option Value) (x f : Str) : Prop where
  oc : OexC K (He.ga K x)
  gl : mg x = some (.ref (He.ga K x))
  ini : PySem.W.findIn K (.ref (He.ga K x)) "__init__" = some (some (.ref (He.ma K (He.ga K x) "__init__")))
  ty : PySem.W.typeIn K (.ref (He.ma K (He.ga K x) "__init__")) = some (.type "function")
  no : PySem.W.findIn K (.ref (He.ga K x)) f = some none
  xf : XfC K (He.ga K x)
theorem exc1B_ok (X : K.In h) (G : h.Ns mainGlobals mg) {x f : Str} (c : exc1B K x f = true) : Ex1 K mg x f := by
  obtain ⟨c1, c⟩ := He.ba c
  obtain ⟨c2, c⟩ := He.ba c
  obtain ⟨c3, c⟩ := He.ba c
  obtain ⟨c4, c⟩ := He.ba c
  obtain ⟨c5, c6⟩ := He.ba c
  exact ⟨oexB_ok c1, PySem.W.mg_of X G (ea_ok c2), ea_ok c3, of_decide_eq_true c4, ea_ok c5, xfB_ok c6⟩
theorem slotB_ok {C : Addr} {f : Str} {i : Nat} (c : slotB K C f i = true) : ∃ p, Slot1 K C f p i := by
  obtain ⟨c1, c⟩ := He.ba c
  obtain ⟨c2, c⟩ := He.ba c
  obtain ⟨c3, c⟩ := He.ba c
  obtain ⟨c4, c⟩ := He.ba c
  obtain ⟨c5, c6⟩ := He.ba c
  exact ⟨_, ea_ok c1, ea_ok c2, of_decide_eq_true c3, of_decide_eq_true c4, of_decide_eq_true c5, of_decide_eq_true c6⟩
theorem sceneB_ok (c : sceneB K = true) : SlC K (He.ga K "Scene") := by
  obtain ⟨c1, c⟩ := He.ba c
  obtain ⟨c2, c⟩ := He.ba c
  obtain ⟨c3, c⟩ := He.ba c
  obtain ⟨c4, c5⟩ := He.ba c
  obtain ⟨d1, d⟩ := He.ba c1
  obtain ⟨d2, d⟩ := He.ba d
  obtain ⟨d3, d4⟩ := He.ba d
  exact ⟨⟨d1, d2, d3, ea_ok d4⟩, slotB_ok c2, slotB_ok c4, slotB_ok c3, slotB_ok c5⟩
theorem tupAt_ok {a : Addr} {ws : List Str} (c : tupAt K a ws = true) (H : Hp) : SqT K H a (ws.map V.str) := by
  unfold tupAt at c
  split at c
  · rename_i o cl dd its fl sl q
    obtain ⟨c1, c⟩ := He.ba c
    obtain ⟨c2, c3⟩ := He.ba c
    have z : cl = "tuple" := of_decide_eq_true c1
    subst z
    exact .inr ⟨_, its, _, q, rfl, rfl, of_decide_eq_true c2, He.relAll_ok c3⟩
  · cases c
/-! ### the table PARTS -/
def entAd (es : List DictEntry) (p : Str) : Addr := match es.find? (fun e => match e.key with
    | .str x _ => decide (x = p)
    | _ => false) with
  | some e => (match e.val with
    | .ref a => a
    | _ => 0)
  | none => 0
def entsB (f : Str → Addr) : List Str → List DictEntry → Bool
  | [], [] => true
  | p :: ps, e :: es => (match e.key with
      | .str x _ => decide (x = p)
      | _ => false) && (decide (e.val = .ref (f p)) && entsB f ps es)
  | _, _ => false
def partPa (K : PySem.W.Frag) (p : Str) : Addr := match K.lookup (He.ga K "PARTS") with
  | some ⟨_, _, .dict es _, _⟩ => entAd es.toList p
  | _ => 0
def tabB (K : PySem.W.Frag) : Bool := (match K.lookup (He.ga K "PARTS") with
  | some ⟨_, _, .dict es _, _⟩ => entsB (partPa K) partNames es.toList
  | _ => false) && (partNames.all fun p => tupAt K (partPa K p) (partWords p))
theorem ents_ok {f : Str → Addr} : ∀ {ps : List Str} {es : List DictEntry}, entsB f ps es = true → Pairs (mixKind P w) es (ps.map fun p => (Sum.inr p, Value.ref (f p)))
  | [], [], _ => .nil
  | [], _ :: _, c => by cases c
  | _ :: _, [], c => by cases c
  | p :: ps, e :: es, c => by
    obtain ⟨c1, c⟩ := He.ba c
    obtain ⟨c2, c3⟩ := He.ba c
    refine .cons ?_ (of_decide_eq_true c2) (ents_ok c3)
    split at c1
    · rename_i x t q
      have z : x = p := of_decide_eq_true c1
      subst z
      show keyIs (Sum.inr x) e.key = true
      rw [q]
      exact keyIs_str x t
    · cases c1
theorem kv_refs {f : Str → Addr} : ∀ ps : List Str, KV (ps.map fun p => ((Sum.inr p : Key), V.ref (f p))) (ps.map fun p => (Sum.inr p, Value.ref (f p)))
  | [] => .nil
  | p :: ps => .cons ⟨rfl, rfl⟩ (kv_refs ps)
theorem wd_of {es : Array DictEntry} {n : Nat} (D : KDict K w (He.ga K "PARTS") es n) (c : tabB K = true) : WD P w K (He.ga K "PARTS") (partNames.map fun p => (Sum.inr p, V.ref (partPa K p))) := by
  obtain ⟨c1, _⟩ := He.ba c
  rw [D.at_] at c1
  have c1 : entsB (partPa K) partNames es.toList = true := c1
  refine ⟨D.low, _, es, n, partNames.map fun p => (Sum.inr p, Value.ref (partPa K p)), D.at_, ⟨rfl, rfl, rfl⟩, rfl, kv_refs partNames, fun e he => ?_, ents_ok c1, ?_⟩
  · obtain ⟨x, t, e1, e2⟩ := D.lit.all e (Array.mem_toList_iff.mpr he)
    exact ⟨Sum.inr x, (by rw [e1]; exact mixKind_str P w x t), e2⟩
  · rw [List.map_map]
    exact List.Pairwise.map _ (fun a b hab e => hab (Sum.inr.inj e)) nodup_parts
end
end HP

set_option maxHeartbeats 0
namespace HP
open PySem PySem.Spec PyProof.Rows L2 SlX
/-! ### the head -/
def excCB (K : PySem.W.Frag) (D : Addr) : Bool := ea (PySem.W.findIn K (.ref D) "__getattribute__") (some (some (.builtin "BaseException.__getattribute__"))) && (ea (PySem.W.findIn K (.ref D) "__getattr__") (some none) && (decide (PySem.W.subIn K (.ref D) (.type "BaseException") = some true) && (PySem.W.hasDictIn K D &&
  (ea (PySem.W.findIn K (.ref D) "__class__") (some (some (.builtin "object.__class__"))) && (ea (PySem.W.specialIn K (.builtin "object.__class__") "__get__") (some (some (.builtin "getset_descriptor.__get__"))) && (decide (PySem.W.takesIn K (.builtin "object.__class__") = some true) && decide (PySem.W.mroIn K D (.type "object") = some true)))))))
theorem excCB_ok {K : PySem.W.Frag} {D : Addr} (c : excCB K D = true) : ExcC K D := by
  obtain ⟨c1, c⟩ := He.ba c
  obtain ⟨c2, c⟩ := He.ba c
  obtain ⟨c3, c⟩ := He.ba c
  obtain ⟨c4, c⟩ := He.ba c
  obtain ⟨c5, c⟩ := He.ba c
  obtain ⟨c6, c⟩ := He.ba c
  obtain ⟨c7, c8⟩ := He.ba c
  exact ⟨ea_ok c1, ea_ok c2, of_decide_eq_true c3, c4, ea_ok c5, ea_ok c6, of_decide_eq_true c7, of_decide_eq_true c8⟩
def exB (K : PySem.W.Frag) : Bool := excB K "InvalidThings" && (excB K "InvalidValues" && (excB K "InvalidWords" && (exc1B K "InvalidRule" "part" && (exc1B K "UnknownWord" "word" && (sceneB K && (tabB K && (tupAt K (He.ga K "WORDS") allWords && (excCB K (He.ga K "InvalidThings") && decide (PySem.W.kitOne K (.ref (He.ga K "InvalidThings")) (.ref (He.ga K "HandError")) = some true)))))))))
def df0 : He.DefD := ⟨("_law_mix", none), "_law_mix", "_law_mix", defArgs sMix, defBody sMix, defScope sMix, [], []⟩
def df1 : He.DefD := ⟨("_law_next", none), "_law_next", "_law_next", defArgs sNext, defBody sNext, defScope sNext, [], []⟩
def df2 : He.DefD := ⟨("_law_rule", none), "_law_rule", "_law_rule", defArgs sRule, defBody sRule, defScope sRule, [], []⟩
def df3 : He.DefD := ⟨("_law_scene", none), "_law_scene", "_law_scene", defArgs sScene, defBody sScene, defScope sScene, [], []⟩
def df4 : He.DefD := ⟨("_law_due", none), "_law_due", "_law_due", defArgs sDue, defBody sDue, defScope sDue, [], []⟩
def df5 : He.DefD := ⟨("_law_spoil", none), "_law_spoil", "_law_spoil", defArgs sSpoil, defBody sSpoil, defScope sSpoil, [], []⟩
def df6 : He.DefD := ⟨("_law_told", none), "_law_told", "_law_told", defArgs sTold, defBody sTold, defScope sTold, [], []⟩
def df7 : He.DefD := ⟨("_law_turned", none), "_law_turned", "_law_turned", defArgs sLT, defBody sLT, defScope sLT, [], []⟩
def df8 : He.DefD := ⟨("_law_out", none), "_law_out", "_law_out", defArgs sLO, defBody sLO, defScope sLO, [], []⟩
def df9 : He.DefD := ⟨("law", none), "law", "law", defArgs sLaw, defBody sLaw, defScope sLaw, [], []⟩
def df10 : He.DefD := ⟨("is_integer", none), "is_integer", "is_integer", defArgs sIsInt, defBody sIsInt, defScope sIsInt, [], []⟩
def df11 : He.DefD := ⟨("is_name", none), "is_name", "is_name", defArgs sIsName, defBody sIsName, defScope sIsName, [], []⟩
def df12 : He.DefD := ⟨("are_things", none), "are_things", "are_things", defArgs sThings, defBody sThings, defScope sThings, [], []⟩
def df13 : He.DefD := ⟨("look_at_rule", none), "look_at_rule", "look_at_rule", defArgs sLook, defBody sLook, defScope sLook, [], []⟩
def df14 : He.DefD := ⟨("are_words", none), "are_words", "are_words", defArgs sWords, defBody sWords, defScope sWords, [], []⟩
def df15 : He.DefD := ⟨("Scene", some "__init__"), "__init__", "Scene.__init__", defArgs sInit, defBody sInit, defScope sInit, [], []⟩
def df16 : He.DefD := ⟨("Scene", some "turned"), "turned", "Scene.turned", defArgs sTurned, defBody sTurned, defScope sTurned, [], []⟩
def df17 : He.DefD := ⟨("Scene", some "without"), "without", "Scene.without", defArgs sWithout, defBody sWithout, defScope sWithout, [], []⟩
def df18 : He.DefD := ⟨("InvalidRule", some "__init__"), "__init__", "InvalidRule.__init__", defArgs sIR, defBody sIR, defScope sIR, [], []⟩
def df19 : He.DefD := ⟨("UnknownWord", some "__init__"), "__init__", "UnknownWord.__init__", defArgs sUW, defBody sUW, defScope sUW, [], []⟩
def fnL : List He.DefD := [df0, df1, df2, df3, df4, df5, df6, df7, df8, df9, df10, df11, df12, df13, df14, df15, df16, df17, df18, df19]
def faL : List He.Fa := [.glo "_law_mix", .glo "_law_next", .glo "_law_rule", .glo "_law_scene", .glo "_law_due", .glo "_law_spoil", .glo "_law_told", .glo "_law_turned", .glo "_law_out", .glo "law", .glo "is_integer", .glo "is_name", .glo "are_things", .glo "look_at_rule", .glo "are_words", .glo "HandError", .glo "InvalidThings", .glo "InvalidValues", .glo "InvalidRule", .glo "InvalidWords", .glo "UnknownWord", .glo "PARTS", .glo "WORDS", .glo "Scene", .free "int", .free "list", .free "len", .free "max", .free "min", .free "isinstance", .free "sorted", .free "all", .free "any", .free "tuple", .free "set", .free "str", .free "bool", .free "dict", .free "range", .free "zip", .free "enumerate", .free "ValueError", .free "super", .int "MOST_NAME" 8, .int "MOST_THINGS" 4, .int "MOST_VALUES" 3, .str "LETTERS" az, .mkr "Scene", .meth "Scene" "turned", .meth "Scene" "without", .exm "InvalidThings" "InvalidThings" true, .exm "InvalidValues" "InvalidThings" false, .exm "InvalidValues" "InvalidValues" true, .exm "InvalidRule" "InvalidThings" false, .exm "InvalidRule" "InvalidValues" false, .exm "InvalidRule" "InvalidRule" true, .exm "InvalidWords" "InvalidThings" false, .exm "InvalidWords" "InvalidValues" false, .exm "InvalidWords" "InvalidRule" false, .exm "InvalidWords" "InvalidWords" true, .exm "UnknownWord" "UnknownWord" true]
def tsL : He.Tab := (fun K => He.ga K "PARTS", partNames)
abbrev R : PySem.W.OpenRow := PySem.W.OpenLaw.row PySem.Challenge.rw_handplaced_k04_scenes_refused
abbrev hk : PySem.W.Hook := He.hookX 5 faL fnL [tsL] [] exB
def ob (s : PySem.W.SharedT) : He.AlX := He.obsX 5 faL fnL [tsL] [] exB (HandSHeadRun.getT s)
theorem ob_eq (s : PySem.W.SharedT) : ob s = hk.obs s.abs := He.obsX_eq (HandSHeadRun.getT_eq s)
def loose : List PySem.Str := ["__name__", "HandError", "InvalidThings", "InvalidValues", "InvalidRule", "InvalidWords", "UnknownWord", "LETTERS", "MOST_NAME", "MOST_THINGS", "MOST_VALUES", "PARTS", "WORDS", "is_integer", "is_name", "are_things", "look_at_rule", "are_words", "Scene", "_law_mix", "_law_next", "_law_rule", "_law_scene", "_law_due", "_law_spoil", "_law_told", "_law_turned", "_law_out"]
theorem facts {P : Program} {w : World} {K : PySem.W.Frag} {h h0 : Heap} {mg : Str → Option Value} {f : Addr} (X : K.In h) (G : h.Ns mainGlobals mg) (hfa : mg ("law" : Str) = some (.ref f)) (c : He.SaysX faL fnL [tsL] [] exB w h0 K) :
    ∃ fd : FuncData, (∀ (s : Shared) (v : Value), BindsTo s fd ⟨[v], []⟩ [("_law_script", v)]) ∧ ∀ base : Heap, K.In base → base.Ns mainGlobals mg → FnOk P w K mg base CX0 8 f fd ["_law_script"] (spLaw K) := by
  obtain ⟨fd0, F0⟩ := c.t.d.def_ 0 (d := df0) rfl
  obtain ⟨fd1, F1⟩ := c.t.d.def_ 1 (d := df1) rfl
  obtain ⟨fd2, F2⟩ := c.t.d.def_ 2 (d := df2) rfl
  obtain ⟨fd3, F3⟩ := c.t.d.def_ 3 (d := df3) rfl
  obtain ⟨fd4, F4⟩ := c.t.d.def_ 4 (d := df4) rfl
  obtain ⟨fd5, F5⟩ := c.t.d.def_ 5 (d := df5) rfl
  obtain ⟨fd6, F6⟩ := c.t.d.def_ 6 (d := df6) rfl
  obtain ⟨fd7, F7⟩ := c.t.d.def_ 7 (d := df7) rfl
  obtain ⟨fd8, F8⟩ := c.t.d.def_ 8 (d := df8) rfl
  obtain ⟨fd9, F9⟩ := c.t.d.def_ 9 (d := df9) rfl
  obtain ⟨fd10, F10⟩ := c.t.d.def_ 10 (d := df10) rfl
  obtain ⟨fd11, F11⟩ := c.t.d.def_ 11 (d := df11) rfl
  obtain ⟨fd12, F12⟩ := c.t.d.def_ 12 (d := df12) rfl
  obtain ⟨fd13, F13⟩ := c.t.d.def_ 13 (d := df13) rfl
  obtain ⟨fd14, F14⟩ := c.t.d.def_ 14 (d := df14) rfl
  obtain ⟨fd15, F15⟩ := c.t.d.def_ 15 (d := df15) rfl
  obtain ⟨fd16, F16⟩ := c.t.d.def_ 16 (d := df16) rfl
  obtain ⟨fd17, F17⟩ := c.t.d.def_ 17 (d := df17) rfl
  obtain ⟨fd18, F18⟩ := c.t.d.def_ 18 (d := df18) rfl
  obtain ⟨fd19, F19⟩ := c.t.d.def_ 19 (d := df19) rfl
  have cm : exB K = true := c.more
  obtain ⟨m1, cm⟩ := He.ba cm
  obtain ⟨m2, cm⟩ := He.ba cm
  obtain ⟨m3, cm⟩ := He.ba cm
  obtain ⟨m4, cm⟩ := He.ba cm
  obtain ⟨m5, cm⟩ := He.ba cm
  obtain ⟨m6, cm⟩ := He.ba cm
  obtain ⟨m7, cm⟩ := He.ba cm
  obtain ⟨m8, cm⟩ := He.ba cm
  obtain ⟨m9, m10⟩ := He.ba cm
  have X1 := excB_ok X G m1
  have X2 := excB_ok X G m2
  have X4 := excB_ok X G m3
  have E3 := exc1B_ok X G m4
  have E5 := exc1B_ok X G m5
  have S := sceneB_ok m6
  obtain ⟨es, ne, KD⟩ := c.t.tab 0 (t := tsL) rfl
  have WDp : WD P w K (He.ga K "PARTS") _ := wd_of (P := P) KD m7
  have Z : Pt P w K mg (He.ga K "PARTS") (partPa K) := ⟨(He.glo_ok X G (c.t.d.fact 21 (f := .glo "PARTS") rfl)), WDp, fun p hp H => tupAt_ok (List.all_eq_true.mp (He.ba m7).2 p hp) H⟩
  have T : Fr mg := ⟨fun x hx => by
    have hx : x ∈ frees := List.contains_iff_mem.mp hx
    simp only [frees, List.mem_cons, List.not_mem_nil, or_false] at hx
    rcases hx with rfl | rfl | rfl | rfl | rfl | rfl | rfl | rfl | rfl | rfl | rfl | rfl | rfl | rfl | rfl | rfl | rfl | rfl | rfl
    · exact He.free_ok X G (c.t.d.fact 24 (f := .free "int") rfl)
    · exact He.free_ok X G (c.t.d.fact 25 (f := .free "list") rfl)
    · exact He.free_ok X G (c.t.d.fact 26 (f := .free "len") rfl)
    · exact He.free_ok X G (c.t.d.fact 27 (f := .free "max") rfl)
    · exact He.free_ok X G (c.t.d.fact 28 (f := .free "min") rfl)
    · exact He.free_ok X G (c.t.d.fact 29 (f := .free "isinstance") rfl)
    · exact He.free_ok X G (c.t.d.fact 30 (f := .free "sorted") rfl)
    · exact He.free_ok X G (c.t.d.fact 31 (f := .free "all") rfl)
    · exact He.free_ok X G (c.t.d.fact 32 (f := .free "any") rfl)
    · exact He.free_ok X G (c.t.d.fact 33 (f := .free "tuple") rfl)
    · exact He.free_ok X G (c.t.d.fact 34 (f := .free "set") rfl)
    · exact He.free_ok X G (c.t.d.fact 35 (f := .free "str") rfl)
    · exact He.free_ok X G (c.t.d.fact 36 (f := .free "bool") rfl)
    · exact He.free_ok X G (c.t.d.fact 37 (f := .free "dict") rfl)
    · exact He.free_ok X G (c.t.d.fact 38 (f := .free "range") rfl)
    · exact He.free_ok X G (c.t.d.fact 39 (f := .free "zip") rfl)
    · exact He.free_ok X G (c.t.d.fact 40 (f := .free "enumerate") rfl)
    · exact He.free_ok X G (c.t.d.fact 41 (f := .free "ValueError") rfl)
    · exact He.free_ok X G (c.t.d.fact 42 (f := .free "super") rfl)⟩
  have Cc : Cs K mg := ⟨He.str_ok X G (c.t.d.fact 46 (f := .str "LETTERS" az) rfl), He.int_ok X G (c.t.d.fact 43 (f := .int "MOST_NAME" 8) rfl), He.int_ok X G (c.t.d.fact 44 (f := .int "MOST_THINGS" 4) rfl), He.int_ok X G (c.t.d.fact 45 (f := .int "MOST_VALUES" 3) rfl)⟩
  have CW : CsW K mg := ⟨_, (He.glo_ok X G (c.t.d.fact 22 (f := .glo "WORDS") rfl)), fun H => tupAt_ok m8 H⟩
  let c4 : Cls4 := ⟨He.ga K "InvalidThings", He.ga K "InvalidValues", He.ga K "InvalidRule", He.ga K "InvalidWords"⟩
  have xT : ExT K c4 := ⟨He.exm_ok (c.t.d.fact 50 (f := .exm "InvalidThings" "InvalidThings" true) rfl), He.exm_ok (c.t.d.fact 51 (f := .exm "InvalidValues" "InvalidThings" false) rfl), He.exm_ok (c.t.d.fact 52 (f := .exm "InvalidValues" "InvalidValues" true) rfl), He.exm_ok (c.t.d.fact 53 (f := .exm "InvalidRule" "InvalidThings" false) rfl), He.exm_ok (c.t.d.fact 54 (f := .exm "InvalidRule" "InvalidValues" false) rfl), He.exm_ok (c.t.d.fact 55 (f := .exm "InvalidRule" "InvalidRule" true) rfl), He.exm_ok (c.t.d.fact 56 (f := .exm "InvalidWords" "InvalidThings" false) rfl), He.exm_ok (c.t.d.fact 57 (f := .exm "InvalidWords" "InvalidValues" false) rfl), He.exm_ok (c.t.d.fact 58 (f := .exm "InvalidWords" "InvalidRule" false) rfl), He.exm_ok (c.t.d.fact 59 (f := .exm "InvalidWords" "InvalidWords" true) rfl)⟩
  refine ⟨fd9, ?_, fun base Kb Gb => ?_⟩
  · have b := FunD.bindsA (ps := ["_law_script"]) F9 fun _ _ _ _ _ _ us hl => match us, hl with | [_], _ => rfl
    exact fun s v => b s [v] rfl
  have XR : Exc1 P w K mg base "InvalidRule" c4.rule "part" (spInit1 c4.rule "part") := ⟨E3.gl, E3.oc, _, _, _, E3.ini, E3.ty, (F18.bindsN fun _ _ _ _ _ _ us hl => match us, hl with | [_, _], _ => rfl), ok_initRule F18 E3.oc E3.no⟩
  have XW : Exc1 P w K mg base "UnknownWord" (He.ga K "UnknownWord") "word" (spInit1 (He.ga K "UnknownWord") "word") := ⟨E5.gl, E5.oc, _, _, _, E5.ini, E5.ty, (F19.bindsN fun _ _ _ _ _ _ us hl => match us, hl with | [_, _], _ => rfl), ok_initWord F19 E5.oc E5.no⟩
  have GI : Fn P w K mg base CX0 1 "is_integer" (spIsInt K) := ok_isInt ⟨_, _, (He.glo_ok X G (c.t.d.fact 10 (f := .glo "is_integer") rfl)), F10⟩ T
  have GN : Fn P w K mg base CX0 1 "is_name" (spIsName K) := ok_isName ⟨_, _, (He.glo_ok X G (c.t.d.fact 11 (f := .glo "is_name") rfl)), F11⟩ T Cc
  have GT : Fn P w K mg base CX0 2 "are_things" (spThings K) := ok_things ⟨_, _, (He.glo_ok X G (c.t.d.fact 12 (f := .glo "are_things") rfl)), F12⟩ T Cc GN
  have GW : Fn P w K mg base CX0 1 "are_words" (spWords K) := ok_words ⟨_, _, (He.glo_ok X G (c.t.d.fact 14 (f := .glo "are_words") rfl)), F14⟩ T CW
  have GL : Fn P w K mg base (L2.CX P w) 3 "look_at_rule" (spLook K c4.rule) := ok_look ⟨_, _, (He.glo_ok X G (c.t.d.fact 13 (f := .glo "look_at_rule") rfl)), F13⟩ T Z XR
  have FI := ok_init (P := P) (w := w) (base := base) (c := c4) F15 T Cc Z S X1 X2 X4 GT GI GL GW
  have M : ScMk P w K mg base (He.ga K "Scene") c4 := ⟨_, _, (He.glo_ok X G (c.t.d.fact 23 (f := .glo "Scene") rfl)), He.mkr_ok (c.t.d.fact 47 (f := .mkr "Scene") rfl), (F15.bindsN fun _ _ _ _ _ _ us hl => match us, hl with | [_, _, _, _, _], _ => rfl), FI⟩
  have FT := ok_turned (P := P) (w := w) (base := base) (c := c4) F16 T Z S XR M
  have FW := ok_without (P := P) (w := w) (base := base) (c := c4) F17 T S XW M
  have MT : MSl P w K mg base 6 (He.ga K "Scene") "turned" (spTurned K (He.ga K "Scene") c4) := ⟨S.cls, _, _, _, He.meth_ok (c.t.d.fact 48 (f := .meth "Scene" "turned") rfl), (F16.bindsN fun _ _ _ _ _ _ us hl => match us, hl with | [_, _, _], _ => rfl), FT⟩
  have MW : MSl P w K mg base 6 (He.ga K "Scene") "without" (spWithout K (He.ga K "Scene") (He.ga K "UnknownWord")) := ⟨S.cls, _, _, _, He.meth_ok (c.t.d.fact 49 (f := .meth "Scene" "without") rfl), (F17.bindsN fun _ _ _ _ _ _ us hl => match us, hl with | [_, _], _ => rfl), FW⟩
  have Gmix : Fn P w K mg base CX0 1 "_law_mix" (spMix K) := ok_mix ⟨_, _, (He.glo_ok X G (c.t.d.fact 0 (f := .glo "_law_mix") rfl)), F0⟩ T
  have Gnext : Fn P w K mg base CX0 1 "_law_next" spNext := ok_next ⟨_, _, (He.glo_ok X G (c.t.d.fact 1 (f := .glo "_law_next") rfl)), F1⟩ T
  have Grule : Fn P w K mg base CX0 2 "_law_rule" spRule := ok_rule ⟨_, _, (He.glo_ok X G (c.t.d.fact 2 (f := .glo "_law_rule") rfl)), F2⟩ T Gnext
  have Gscene : Fn P w K mg base CX0 3 "_law_scene" spScene := ok_scene ⟨_, _, (He.glo_ok X G (c.t.d.fact 3 (f := .glo "_law_scene") rfl)), F3⟩ T Gnext Grule
  have Gdue : Fn P w K mg base CX0 1 "_law_due" (spDue K) := ok_due ⟨_, _, (He.glo_ok X G (c.t.d.fact 4 (f := .glo "_law_due") rfl)), F4⟩ T
  have Gspoil : Fn P w K mg base CX0 2 "_law_spoil" (spSpoil K) := ok_spoil ⟨_, _, (He.glo_ok X G (c.t.d.fact 5 (f := .glo "_law_spoil") rfl)), F5⟩ T Gnext
  have Gtold : Fn P w K mg base CX0 6 "_law_told" (spTold K) := ok_told (C := He.ga K "Scene") (c := c4) ⟨_, _, (He.glo_ok X G (c.t.d.fact 6 (f := .glo "_law_told") rfl)), F6⟩ T M X1.gC X2.gC E3.gl X4.gC (He.glo_ok X G (c.t.d.fact 15 (f := .glo "HandError") rfl)) xT (excCB_ok m9) (of_decide_eq_true m10) E3.xf E3.no
  have Glt : Fn P w K mg base CX0 7 "_law_turned" (spLT K (He.ga K "Scene")) := ok_lawTurned (c := c4) ⟨_, _, (He.glo_ok X G (c.t.d.fact 7 (f := .glo "_law_turned") rfl)), F7⟩ MT E3.gl xT.rr E3.xf E3.no
  have Glo : Fn P w K mg base CX0 7 "_law_out" (spLO K (He.ga K "Scene")) := ok_lawOut ⟨_, _, (He.glo_ok X G (c.t.d.fact 8 (f := .glo "_law_out") rfl)), F8⟩ MW E5.gl (He.exm_ok (c.t.d.fact 60 (f := .exm "UnknownWord" "UnknownWord" true) rfl)) E5.xf E5.no
  have e := hfa.symm.trans (He.glo_ok X G (c.t.d.fact 9 (f := .glo "law") rfl))
  cases e
  exact ok_law F9 T M Gmix Gnext Gscene Glt Glo Gspoil Gtold Gdue
end HP

namespace HP
open PySem PySem.Spec PyProof.Rows L2
theorem run (w : World) : HandSHeadRun.RunEq R (PySem.W.view R.prog [30]) hk ob 12000 loose w :=
  PySem.W.byRow2 "special-get-raises" (P := fun w => HandSHeadRun.RunEq R (PySem.W.view R.prog [30]) hk ob 12000 loose w) (fun w os => by kernel_rfl) (fun w os => by kernel_rfl) w
end HP

open PySem PySem.W PySem.Calls PyProof.Rows
theorem PySem.Challenge.cw_handplaced_k04_scenes_refused_holds : PySem.Challenge.rw_handplaced_k04_scenes_refused.Holds := by
  w_on; o_law
  refine HandSHeadRun.head_any (r := OpenLaw.row PySem.Challenge.rw_handplaced_k04_scenes_refused) (q := view (OpenLaw.row PySem.Challenge.rw_handplaced_k04_scenes_refused).prog [30]) (H := HP.hk) (ob := HP.ob) (M := 12000) (loose := HP.loose) (d := HandSHeadRun.topDef (OpenLaw.row PySem.Challenge.rw_handplaced_k04_scenes_refused).prog 30) (kwd := []) HP.ob_eq
    (by kernel_rfl) (fun s => by kernel_rfl) HP.run (by kernel_rfl) (by kernel_rfl) (by kernel_rfl) (by rfl) (by first | assumption | decide +kernel) (by decide +kernel) ⟨rfl, rfl, rfl, rfl, rfl, by decide +kernel⟩ ?hw ?hc
  case hw => w_witness2
  case hc =>
    refine L2.walk_ofE (l := PySem.Challenge.rw_handplaced_k04_scenes_refused) (n := 63) (k := 8) (x := "_law_script") (CX := L2.CX0) rfl (by decide) (by kernel_rfl) ⟨rfl, by decide, by decide⟩ ?F (fun _ _ _ _ z => z)
    intro w mg fa h Y G hmg0
    obtain ⟨K, KX, c⟩ := Y
    have hmg : mg ("law" : PySem.Str) = some (.ref fa) := by
      have e : (HandSHeadRun.topDef (OpenLaw.row PySem.Challenge.rw_handplaced_k04_scenes_refused).prog 30).name = ("law" : PySem.Str) := by kernel_rfl
      rw [← e]
      exact hmg0
    obtain ⟨fd, hb, hF⟩ := HP.facts (P := (PySem.Challenge.rw_handplaced_k04_scenes_refused).prog) (w := w) KX G hmg c
    exact ⟨K, fd, HP.spLaw K, KX, hb, fun H a ns hl _ hS => ⟨a, ns, rfl, hS, hl, fun _ => rfl⟩, hF⟩
