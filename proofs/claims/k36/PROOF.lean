import PyProof.Rows.All
import Wide.All
import OpenK.AllK
import Wide.FinOn
import HandS.WordsDict
import HandS.Strs
import HandS.Base
import HandS.Call
import HandS.List
import HandS.Comp
import HandS.Iter
import HandS.Text
import KE.DataEq
import KE.DataIsa
import HandS.Words
import HandS.Exc
import HandS.ExcOwn
import HandS.WordsExc
import HandS.TryMany
import HandS.CallSlots
import HandS.TupAny
import HandS.Flow
import HandS.Defaults
import HandS.Dict
import PyProof.Rows.SortShellAny
import HandS.Set
import HandS.SetFor
import PyProof.DictStraight
import KE.KDictPairs
import HandS.Small
import HandS.Conv
import PyProof.ListStr
import HandS.Sort
import HandS.TupLe
import HandS.TupSets
import KE.LtData
import HandS.Keys
import HandS.More
import HandS.ListItems
import HandS.Zip
import HandS.DictComp
import KE.KStateDown
import HandS.Ends
import HandS.Head0
import HandS.Head1
import HandS.Head2
import HandS.HeadEnd
import HandS.HeadHook1
import HandS.HeadHook2
import PySem.Challenge.RW_namesbound_k36_codes_tables_and_patterns
set_option Elab.async false
set_option linter.all false
section
set_option autoImplicit false
set_option maxRecDepth 100000
set_option maxHeartbeats 4000000
/-! MnS: sets of texts: set(xs), len, sorted. -/
namespace Mn
open PySem PySem.Spec PyProof.Rows L2
def strE (e : Int × Value) : Str := match e.2 with
  | .str x _ => x
  | _ => Str.empty
def GoodS (w : World) (e : Int × Value) : Prop := ∃ x tk, e.2 = Value.str x tk ∧ e.1 = hashStr w x
/-- the set at a has the texts zs -/
def SetTx (w : World) (h : Heap) (a : Addr) (zs : List Str) : Prop :=
  ∃ o es ep t, h.get? a = some o ∧ o.ExactSet ∧ o.data = .set es ep t ∧ (∀ e ∈ es.toList, GoodS w e) ∧ (es.toList.map strE).Perm zs ∧ zs.Nodup ∧
    es.size < scanBound ∧ t.fits es.size = true ∧ Ris t.place.toList ∧ (w.params.followText "set-order" = true ∨ t.led = true)
section
variable {P : Program} {w : World} {h h' : Heap} {a : Addr} {zs : List Str}
theorem SetTx.at (R : SetTx w h a zs) (k : ∀ o, h.get? a = some o → h'.get? a = some o) : SetTx w h' a zs := by
  obtain ⟨o, es, ep, t, e, r⟩ := R
  exact ⟨o, es, ep, t, k o e, r⟩
theorem goodS_el {l : List (Int × Value)} (q : ∀ e ∈ l, GoodS w e) : ElemsOf (PySem.strKind P w) l := fun e he => by
  obtain ⟨x, tk, h1, h2⟩ := q e he
  exact ⟨⟨x, by rw [h1]; exact strKind_is P w x tk, h2⟩, by rw [h1]; rfl⟩
theorem goodS_is {e : Int × Value} (q : GoodS w e) (x : Str) : (PySem.strKind P w).is x e.2 = true ↔ strE e = x := by
  obtain ⟨y, tk, h1, h2⟩ := q
  unfold strE
  rw [h1]
  constructor
  · intro z
    have z' : Value.isStrOf x (.str y tk) = true := z
    obtain ⟨t, ht⟩ := Value.isStrOf_shape z'
    injection ht
  · intro z
    have z' : y = x := z
    rw [z']; exact strKind_is P w x tk
theorem goodS_mem {l : List (Int × Value)} (q : ∀ e ∈ l, GoodS w e) (x : Str) : x ∈ l.map strE ↔ ∃ e ∈ l, (PySem.strKind P w).is x e.2 = true := by
  rw [List.mem_map]
  constructor
  · rintro ⟨e, he, z⟩; exact ⟨e, he, (goodS_is (q e he) x).mpr z⟩
  · rintro ⟨e, he, z⟩; exact ⟨e, he, (goodS_is (q e he) x).mp z⟩
end
section
variable {P : Program} {w : World} {A : Around} {E : Value → Shared → Prop} {s : Shared} {a : Addr} {zs : List Str}
theorem txTail {f : Bool → Sem Unit} (hf : ∀ (b : Bool) (s1 : Shared) (Q' : Unit → Shared → Prop), Q' () s1 → wpAny (model P w) A (f b) Q' E s1)
    {o : Obj} {es : Array (Int × Value)} {ep : Nat} {t : SetTable} (ho : s.heap.get? a = some o) (hx : o.ExactSet) (hd : o.data = .set es ep t)
    {es1 : Array (Int × Value)} {t2 : SetTable} (g1 : ∀ e ∈ es1.toList, GoodS w e) (p1 : (es1.toList.map strE).Perm zs) (nd : zs.Nodup)
    (b1 : es1.size < scanBound) (f2 : t2.fits es1.size = true) (hr : Ris t2.place.toList) (hl : w.params.followText "set-order" = true ∨ t2.led = true) {wd : Bool} {R : Option Bool → Shared → Prop}
    (k : ∀ h', Heap.SameBut a s.heap h' → SetTx w h' a zs → R (some true) { s with heap := h' }) :
    wpAny (model P w) A (do storeSet a es1 t2; if (!wd && t2.tooFull) = true then do { f (relayAll t2 es1 (SetTable.grown es1.size)).2.2; storeSet a (relayAll t2 es1 (SetTable.grown es1.size)).1 (relayAll t2 es1 (SetTable.grown es1.size)).2.1; pure (some true) } else pure (some true)) R E s := by
  refine wpAny_bind (wpAny_storeSet_of ho hd ?_ (fits_of_scanBound b1))
  have o1 := store_at (es' := es1) (t' := t2) ho hd
  have s1 := Heap.SameBut.update s.heap a (Obj.putSet es1 t2)
  split
  · have q1 := relayAll_perm t2 es1 (SetTable.grown es1.size)
    have q2 := relayAll_fits t2 es1 (SetTable.grown es1.size)
    have q3 := relayAll_ris t2 es1 (SetTable.grown es1.size)
    have q4 := relayAll_led t2 es1 (SetTable.grown es1.size)
    generalize relayAll t2 es1 (SetTable.grown es1.size) = Z at q1 q2 q3 q4 ⊢
    obtain ⟨es2, t3, gv⟩ := Z
    dsimp only at q1 q2 q3 q4 ⊢
    have sz : es2.size = es1.size := by rw [← Array.length_toList, q1.length_eq, Array.length_toList]
    have b2 : es2.size < scanBound := by rw [sz]; exact b1
    refine wpAny_bind (hf _ _ _ (wpAny_bind (wpAny_storeSet_of o1 rfl ?_ (fits_of_scanBound b2))))
    have o2 := store_at (es' := es2) (t' := t3) o1 rfl
    refine wpAny_pure (k _ (s1.trans (Heap.SameBut.update _ a _)) ?_)
    exact ⟨_, es2, _, t3, o2, hx, rfl, fun e he => g1 e (q1.mem_iff.mp he), (q1.map strE).trans p1, nd, b2, q2, q3, hl.imp id fun z => by rw [q4]; exact z⟩
  · exact wpAny_pure (k _ s1 ⟨_, es1, _, t2, o1, hx, rfl, g1, p1, nd, b1, f2, hr, hl⟩)
theorem txAdd {x : Str} {tk : Tok} {Q : Bool → Shared → Prop} (R : SetTx w s.heap a zs) (room : zs.length + 1 < scanBound)
    (k1 : x ∈ zs → Q false s) (k2 : x ∉ zs → ∀ h', Heap.SameBut a s.heap h' → SetTx w h' a (zs ++ [x]) → Q true { s with heap := h' }) :
    wpAny (model P w) A (setAddHashed a (.str x tk) ((PySem.strKind P w).hash x)) Q E s := by
  obtain ⟨o, es, ep, t, ho, hx, hd, g0, p0, nd, hb, hf, hr, hl⟩ := R
  have key : (PySem.strKind P w).is x (.str x tk) = true := strKind_is P w x tk
  have sc : (Value.str x tk).scannable = true := rfl
  have el : ElemsOf (PySem.strKind P w) es.toList := goodS_el g0
  unfold setAddHashed setAddHashedIn
  refine wpAny_holding (wpAny_bind (wpAny_setState_of ho hd hf ?_))
  dsimp only
  rw [byScan_of sc hb el]
  simp only [↓reduceIte]
  unfold setAddByScan
  refine wpAny_bind (wpAny_bind (wpAny_rule (wpAny_bind (wpAny_setScan_of key ho hd hf el ?_))))
  cases fi : List.findIdx? (fun e => (PySem.strKind P w).is x e.2) es.toList with
  | some j =>
    dsimp only
    obtain ⟨hj, pj, _⟩ := List.findIdx?_eq_some_iff_getElem.mp fi
    have hm : x ∈ zs := p0.mem_iff.mp ((goodS_mem (P := P) g0 x).mpr ⟨es.toList[j], List.getElem_mem hj, pj⟩)
    exact wpAny_pure (wpAny_pure (k1 hm))
  | none =>
    dsimp only
    have hn : x ∉ zs := fun z => by
      obtain ⟨e, he, q⟩ := (goodS_mem (P := P) g0 x).mp (p0.mem_iff.mpr z)
      have c := List.findIdx?_eq_none_iff.mp fi e he
      rw [q] at c; cases c
    have gw : ∀ (b : Bool) {s1 : Shared} {Q' : Unit → Shared → Prop}, Q' () s1 → wpAny (model P w) A (match b with | true => rule "set.scan.the-table-gave-way" | false => pure ()) Q' E s1 :=
      fun b s1 Q' q => by cases b <;> first | exact wpAny_pure q | exact wpAny_rule q
    have q1 := layNew_perm t es ((PySem.strKind P w).hash x) (.str x tk)
    have q2 := layNew_fits t es ((PySem.strKind P w).hash x) (.str x tk)
    have q3 := layNew_ris t es ((PySem.strKind P w).hash x) (.str x tk) hr
    have q4 := layNew_led t es ((PySem.strKind P w).hash x) (.str x tk)
    generalize layNew t es ((PySem.strKind P w).hash x) (.str x tk) = Z at q1 q2 q3 q4 ⊢
    obtain ⟨es1, t1, wd, gv⟩ := Z
    dsimp only at q1 q2 q3 q4 ⊢
    rw [Array.toList_push] at q1
    have g1 : ∀ e ∈ es1.toList, GoodS w e := fun e he => by
      rcases List.mem_append.mp (q1.mem_iff.mp he) with z | z
      · exact g0 e z
      · rw [List.mem_singleton.mp z]; exact ⟨x, tk, rfl, rfl⟩
    have p1 : (es1.toList.map strE).Perm (zs ++ [x]) := by
      have := q1.map strE
      rw [List.map_append] at this
      exact this.trans (p0.append_right _)
    have nd1 : (zs ++ [x]).Nodup := by
      rw [List.nodup_append]
      exact ⟨nd, by simp, fun y hy z hz => by rw [List.mem_singleton.mp hz]; intro e; rw [e] at hy; exact hn hy⟩
    have sz : es1.size = zs.length + 1 := by
      have := p1.length_eq
      rw [List.length_map, Array.length_toList] at this
      rw [this]; simp
    have b1 : es1.size < scanBound := by rw [sz]; exact room
    have led1 : w.params.followText "set-order" = true ∨ t1.led = true := hl.imp id fun z => by rw [q4]; exact z
    refine wpAny_bind (gw _ ?_)
    split
    · refine wpAny_bind ?_
      rw [hashByValue_scannable 8 sc]
      refine wpAny_pure (txTail ?_ ho hx hd g1 p1 nd1 b1 ?_ ?_ ?_ ?_)
      · intro b s1 Q' q; cases b <;> first | exact wpAny_pure q | exact wpAny_rule q
      · first | (split <;> first | exact q2 | exact SetTable.fits_plain_off q2) | exact q2
      · first | (split <;> exact q3) | exact q3
      · first | (split <;> exact led1) | exact led1
      · intro h' sb r; dsimp only; exact wpAny_pure (k2 hn h' sb r)
    · refine wpAny_bind (wpAny_pure ?_)
      simp only [↓reduceIte]
      refine txTail ?_ ho hx hd g1 p1 nd1 b1 q2 q3 led1 ?_
      · intro b s1 Q' q; cases b <;> first | exact wpAny_pure q | exact wpAny_rule q
      · intro h' sb r; dsimp only; exact wpAny_pure (k2 hn h' sb r)
theorem txFresh {h : Heap} (w : World) : SetTx w (h.push { cls := .type "set", dict := none, data := .set #[] 0 (.fresh 0 0 (!w.params.followText "set-order")) }) h.objs.size [] :=
  ⟨_, #[], 0, _, Heap.get?_push_size _ rfl, ⟨rfl, rfl, rfl⟩, rfl, (fun e he => by simp at he), .nil, .nil, (by decide), rfl, List.Pairwise.nil, by
    show _ ∨ (!w.params.followText "set-order") = true
    cases w.params.followText "set-order" <;> simp⟩
end
/-- the texts as they are first met -/
def firstS : List Str → List Str → List Str
  | acc, [] => acc
  | acc, x :: r => if x ∈ acc then firstS acc r else firstS (acc ++ [x]) r
theorem firstS_len : ∀ (l acc : List Str), (firstS acc l).length ≤ acc.length + l.length
  | [], acc => by simp [firstS]
  | x :: r, acc => by
    unfold firstS
    split
    · have := firstS_len r acc; simp; omega
    · have := firstS_len r (acc ++ [x]); simp at this ⊢; omega
theorem firstS_snoc : ∀ (l acc : List Str) (x : Str), firstS acc (l ++ [x]) = if x ∈ firstS acc l then firstS acc l else firstS acc l ++ [x]
  | [], acc, x => by by_cases h : x ∈ acc <;> simp [firstS, h]
  | y :: r, acc, x => by
    show firstS acc (y :: (r ++ [x])) = _
    unfold firstS
    split
    · exact firstS_snoc r acc x
    · exact firstS_snoc r _ x
section
variable {P : Program} {w : World} {A : Around} {R : Result → Shared → Prop} {I : Addr} {fp wr : List Addr} {G : Array GenState → Array GenState → Prop} {n : Nat} {Pv : Nat → Value → Prop} {St : Nat → Shared → Prop}
theorem txLoop (W : WalksS P w A.in1 I fp wr G n Pv St) (S : Addr) (hSf : S ∉ fp) (xs : List Str) (hn : n = xs.length) (hval : ∀ i v, Pv i v → ∃ x t, xs[i]? = some x ∧ v = .str x t) (hb : n + 1 < scanBound) :
    ∀ (k i : Nat) (s : Shared), n - i = k → i ≤ n → St i s → SetTx w s.heap S (firstS [] (xs.take i)) →
      (∀ s', Moved (S :: wr) G s s' → SetTx w s'.heap S (firstS [] xs) → R (.ok (.ret .none)) s') → codeAny (model P w) A (.builtin "set.update.loop" ⟨[.ref S, .ref I], []⟩) R s := by
  have nw : S ∉ wr := fun h => hSf (W.sub _ h)
  have sb : ∀ b ∈ wr, b ∈ S :: wr := fun b hb => List.mem_cons_of_mem _ hb
  intro k
  induction k with
  | zero =>
    intro i s hk hi st hS hR
    have e : i = n := by omega
    subst e
    refine codeAny_builtin F.entry_set_update_loop ?_
    rw [Around.under_plainId F.plain_set_update_loop _]
    show wpAny _ A.in1 (pyNext (.ref I) >>= _) _ _ s
    refine wpAny_bind (W.done s _ _ st fun s' hm => ?_)
    show wpAny _ A.in1 (ret Value.none) _ _ s'
    rw [hn, List.take_length] at hS
    exact wpAny_pure (hR s' (hm.mono sb) (hS.at fun o e => hm.heap S o nw e))
  | succ k ih =>
    intro i s hk hi st hS hR
    have lt : i < n := by omega
    refine codeAny_builtin F.entry_set_update_loop ?_
    rw [Around.under_plainId F.plain_set_update_loop _]
    show wpAny _ A.in1 (pyNext (.ref I) >>= _) _ _ s
    refine wpAny_bind (W.item i s _ _ lt st fun v s' hP st' hm => ?_)
    obtain ⟨x, t, hx, rfl⟩ := hval i v hP
    have hS' : SetTx w s'.heap S (firstS [] (xs.take i)) := hS.at fun o e => hm.heap S o nw e
    show wpAny _ A.in1 (holding [Value.str x t] (setAdd S (.str x t)) >>= _) _ _ s'
    refine wpAny_bind (wpAny_holding ?_)
    unfold setAdd
    refine wpAny_holding (wpAny_bind ((PySem.strKind P w).pyHash (k := x) (strKind_is _ _ _ _) ?_))
    have tk1 : xs.take (i + 1) = xs.take i ++ [x] := by
      rw [List.take_add_one, hx]; rfl
    have rm : (firstS [] (xs.take i)).length + 1 < scanBound := by
      have h1 := firstS_len (xs.take i) []
      rw [List.length_take] at h1
      simp at h1
      omega
    refine txAdd (s := { s' with toks := s'.toks + 1 }) hS' rm (fun hin => ?_) fun hout h' hsb hS2 => ?_
    · have hS3 : SetTx w s'.heap S (firstS [] (xs.take (i + 1))) := by rw [tk1, firstS_snoc, if_pos hin]; exact hS'
      refine wpAny_pure ⟨plainId_quiet F.plain_set_update_loop _, ih (i + 1) _ (by omega) lt (W.frame _ s' _ _ st' (Nat.le_succ _) fun b hb o e => e) hS3 fun s'' m2 hS'' => ?_⟩
      exact hR s'' (Moved.trans W.gtrans ((hm.mono sb).then_heap (Nat.le_succ _) fun b o hb e => e) m2) hS''
    · have hS3 : SetTx w h' S (firstS [] (xs.take (i + 1))) := by rw [tk1, firstS_snoc, if_neg hout]; exact hS2
      refine wpAny_pure ⟨plainId_quiet F.plain_set_update_loop _, ih (i + 1) _ (by omega) lt (W.frame _ s' _ _ st' (Nat.le_succ _) fun b hb o e => ?_) hS3 fun s'' m2 hS'' => ?_⟩
      · rw [hsb.2 b (fun h : b = S => hSf (by rw [← h]; exact hb))]; exact e
      · refine hR s'' (Moved.trans W.gtrans ((hm.mono sb).then_heap (Nat.le_succ _) fun b o hb e => ?_) m2) hS''
        rw [hsb.2 b (fun h : b = S => hb (by rw [h]; exact List.mem_cons_self))]; exact e
end
section
variable {P : Program} {w : World} {A : Around} {E : Value → Shared → Prop} {s : Shared}
theorem strAt : ∀ {us : List Value} {xs : List Str}, StrsAre us xs → ∀ (i : Nat) (v : Value), us[i]? = some v → ∃ x t, xs[i]? = some x ∧ v = .str x t
  | _, _, .nil, i, v, e => by simp at e
  | _, _, .cons y t r, 0, v, e => by cases e; exact ⟨y, t, rfl, rfl⟩
  | _, _, .cons y t r, i + 1, v, e => strAt r i v e
/-- set(xs), xs a list of texts -/
theorem txSet {l : Addr} {items : Array Value} {xs : List Str} {Q : Value → Shared → Prop} (hh : A.handled = none) (hl : s.heap.IsList l items) (hi : StrsAre items.toList xs) (hb : items.size + 1 < scanBound)
    (h : ∀ (h' : Heap) (tk : Nat), SetTx w h' s.heap.objs.size (firstS [] xs) → (∀ b o, s.heap.get? b = some o → h'.get? b = some o) → Q (.ref s.heap.objs.size) { s with heap := h', toks := tk }) :
    wpAny (model P w) A (call (.type "set") [.ref l]) Q E s := by
  have isz : items.size = xs.length := by
    have q := hi.length
    rw [Array.length_toList] at q; exact q
  obtain ⟨c, tl, m0⟩ := F.called_set.mro
  have m1 := F.called_set.made
  have m2 := F.called_set.sub
  refine wpAny_call (codeAny_of_tree (show wpAny _ _ (callAny (.type "set") _) _ _ _ from ?_))
  refine wpAny_pure ⟨Code.quiet_builtin _ (by decide +kernel), codeAny_builtin F.entry_type_call ?_⟩
  rw [Around.under_plain (weight_type_call_type "set" [.ref l] []) rfl]
  have m3 := F.called_set.notType
  have m4 := F.called_set.canCreate
  have m5 := F.typeCall_set_1 (.ref l)
  repeat (any_goals (first | assumption | wp_step))
  refine codeAny_mono (code_set_led1 (.ref l) (E := E) (Q₁ := fun obj z => obj = .ref s.heap.objs.size ∧ z = { s with heap := s.heap.push { cls := .type "set", dict := none, data := .set #[] 0 (.fresh 0 0 (!w.params.followText "set-order")) } }) ⟨rfl, rfl⟩) fun r z hr => ?_
  cases r with
  | error e => exact hr
  | ok fl =>
    cases fl with
    | ret obj =>
      obtain ⟨rfl, rfl⟩ := hr
      generalize hX : s.heap.push { cls := .type "set", dict := none, data := .set #[] 0 (.fresh 0 0 (!w.params.followText "set-order")) } = X
      have oS : X.get? s.heap.objs.size = some { cls := .type "set", dict := none, data := .set #[] 0 (.fresh 0 0 (!w.params.followText "set-order")) } := by rw [← hX]; exact Heap.get?_push_size _ rfl
      have kX : ∀ b o, s.heap.get? b = some o → X.get? b = some o := fun b o e => by rw [← hX]; exact Heap.get?_push_of_some _ e
      have zX : X.objs.size = s.heap.objs.size + 1 := by rw [← hX, Heap.size_push]
      have fX : SetTx w X s.heap.objs.size [] := by rw [← hX]; exact txFresh w
      have hT : Shared.TypeIs { s with heap := X } (.ref s.heap.objs.size) "set" := ⟨_, oS, rfl⟩
      have i1 := F.called_set.init.lookup
      have i2 := F.called_set.init.bind (.ref s.heap.objs.size)
      repeat (any_goals (first | assumption | wp_step))
      refine codeAny_mono (codeAny_call_builtin (R := wants (fun r z => r = .none ∧ ∃ h' tk, z = { s with heap := h', toks := tk } ∧ SetTx w h' s.heap.objs.size (firstS [] xs) ∧ (∀ b o, s.heap.get? b = some o → h'.get? b = some o)) E)
        F.called_set.init.plain F.entry_set_init (check_set_init_1 hT ?_)) fun r2 z2 hr2 => ?_
      · obtain ⟨ol, hol, hcl, nl, hdl⟩ := hl
        obtain ⟨ocls, odict, odata, oslots⟩ := ol
        simp only at hcl hdl
        subst hcl; subst hdl
        have hol' : X.get? l = some { cls := .type "list", dict := odict, data := .seq items nl, slots := oslots } := kX _ _ hol
        have s1 := F.sub_list_set
        have s2 := F.sub_list_frozenset
        have s3 : (Value.type "list" == Value.type "dict") = false := by decide
        have hl1 : X.IsList l items := ⟨_, hol', rfl, nl, rfl⟩
        unfold Builtin.«set.__init__» noKeywords Builtin.Frozenset.updateFrom
        generalize hPI : pyIter = PI
        wp_walk
        subst hPI
        refine wpAny_pyIter_list hl1 (wpAny_bind (wpAny_runValue ?_))
        have lS : l < s.heap.objs.size := Heap.lt_size hol
        have h3 : A.in1.in1.in1.handled = none := by simp [hh]
        have ne1 : l ≠ X.objs.size := by rw [zX]; exact Nat.ne_of_lt (Nat.lt_succ_of_lt lS)
        have sf : s.heap.objs.size ∉ [X.objs.size, l] := by
          rw [zX]; simp only [List.mem_cons, List.mem_singleton, List.not_mem_nil, or_false, not_or]
          exact ⟨Nat.ne_of_lt (Nat.lt_succ_self _), Nat.ne_of_gt lS⟩
        refine txLoop ((Walks.list h3 _ l ne1 items).toS) s.heap.objs.size sf xs isz (fun i v hv => strAt hi i v (by rw [Array.getElem?_toList]; exact hv)) hb (items.size - 0) 0 _ (by omega) (Nat.zero_le _)
          ⟨⟨_, Heap.get?_push_size _ rfl, rfl, rfl⟩, (hl1.push _)⟩ (fX.at fun o e => Heap.get?_push_of_some _ e) fun s' hm hS' => ?_
        obtain ⟨h', g', d', tk', os'⟩ := s'
        have eg : g' = s.gens := hm.gens
        have ed : d' = s.drawn := hm.drawn
        have eo : os' = s.os := hm.os
        subst eg; subst ed; subst eo
        show wpAny _ _ _ _ _ _
        refine wpAny_pure (show wpAny _ _ (ret Value.none) _ _ _ from wpAny_pure ⟨rfl, h', tk', rfl, hS', fun b o e => ?_⟩)
        have lt := Heap.lt_size e
        refine hm.heap b o ?_ (Heap.get?_push_of_some _ (kX b o e))
        simp only [List.mem_cons, List.mem_singleton, List.not_mem_nil, or_false, not_or]
        exact ⟨Nat.ne_of_lt lt, by rw [zX]; exact Nat.ne_of_lt (Nat.lt_succ_of_lt lt)⟩
      · cases r2 with
        | error e => exact hr2
        | ok fl2 =>
          cases fl2 with
          | ret r =>
            obtain ⟨rfl, h', tk, rfl, hS', hk'⟩ := hr2
            repeat (any_goals (first | assumption | wp_step))
            exact h _ _ hS' hk'
          | _ => exact hr2.elim
    | _ => exact hr.elim
/-- sorted(the set) -/
theorem txSorted {a : Addr} {zs : List Str} {Q : Value → Shared → Prop} (R : SetTx w s.heap a zs) (hh : A.handled = none)
    (hQ : ∀ s' p (out : Array Value) (c : Nat) (ys : List Str), (∀ b o, s.heap.get? b = some o → s'.heap.get? b = some o) → s'.gens = s.gens → s'.os = s.os → s.heap.objs.size ≤ p →
      s'.heap.get? p = some (seqObj "list" out c) → StrsAre out.toList ys → ys.Perm zs → sortedS ys = true → Q (.ref p) s') :
    wpAny (model P w) A (call (.builtin "sorted") [.ref a]) Q E s := by
  obtain ⟨o, es, ep, t, ho, hx, hd, g0, p0, nd, hb, hf, hr, hl⟩ := R
  refine Calls.call_function_entry kind_sorted plain_sorted entry_sorted (args_sorted1 _) ?_
  unfold Builtin.«sorted»
  refine wpAny_bind (m := checkCount "sorted" 1 1 _) (wpAny_pure (wpAny_bind (collect_set (A := A.in1) hh ⟨o, ho, hx.1, hd⟩ hf hb hr hl fun s1 vs k1 z1 e1 e2 pm => ?_)))
  have sv : ∃ ss, StrsAre vs ss ∧ ss.Perm (es.toList.map strE) := by
    have gd : ∀ v ∈ vs, ∃ x tk, v = Value.str x tk := fun v hv => by
      obtain ⟨e, he, q⟩ := List.mem_map.mp (pm.mem_iff.mp hv)
      obtain ⟨x, tk, h1, _⟩ := g0 e he
      exact ⟨x, tk, by rw [← q]; exact h1⟩
    have mk : ∀ l : List Value, (∀ v ∈ l, ∃ x tk, v = Value.str x tk) → StrsAre l (l.map fun v => strE (0, v)) := by
      intro l
      induction l with
      | nil => intro _; exact .nil
      | cons v r ih =>
        intro q
        obtain ⟨x, tk, rfl⟩ := q _ List.mem_cons_self
        exact .cons x tk (ih fun u hu => q u (List.mem_cons_of_mem _ hu))
    refine ⟨_, mk vs gd, ?_⟩
    have q := pm.map fun v => strE (0, v)
    rw [List.map_map] at q
    exact q
  obtain ⟨ss, hss, pss⟩ := sv
  have vl : vs.length ≤ sizeLine := by
    rw [pm.length_eq, List.length_map, Array.length_toList]
    exact fits_of_scanBound hb
  refine wpAny_bind (wpAny_newList ?_ vl)
  have oL : (s1.heap.push (seqObj "list" vs.toArray 0)).get? s1.heap.objs.size = some (seqObj "list" vs.toArray 0) := Heap.get?_push_size _ rfl
  refine wpAny_bind (wpAny_holding (wpAny_call_entry slot_list_sort ⟨_, oL, rfl⟩ entry_list_sort (list_sort_treeKAny strKind_oneLt oL hss.keysOf (fun v1 v2 rest e => keyKind_strs (by rw [← e]; exact hss)) vl fun st' hp hs => ⟨_, rfl, ?_⟩) (args_list_sort _)))
  obtain ⟨ys, y1, y2, y3⟩ := sorted_out_str hss hp hs
  obtain ⟨c, hc⟩ := sortedHeap_at (vs := vs) (out := (arrOf st').map (·.2)) oL
  refine wpAny_pure ⟨_, rfl, hQ _ s1.heap.objs.size _ c ys (fun b u e => ?_) e1 e2 z1 hc y1 ((y2.trans pss).trans p0) y3⟩
  have q := k1 b u e
  have lt := Heap.lt_size q
  show (sortedHeap (s1.heap.push (seqObj "list" vs.toArray 0)) s1.heap.objs.size vs _).get? b = some u
  rw [sortedHeap_old (Nat.ne_of_lt lt) (by rw [size_push']; exact Nat.lt_succ_of_lt lt)]
  exact Heap.get?_push_of_some _ q
end
end Mn
end
section
set_option autoImplicit false
/-! MnU: tuples of which it is known that they bear no attributes (they stand frozen, so that a method may be asked of them). -/
namespace Mn
open PySem PySem.Spec L2
open PyProof.Rows (IsTup StrsAre)
def SqN (K : PySem.W.Frag) (H : Hp) (a : Addr) (xs : List V) : Prop := (∃ ob, H a = some (.frz ob (.tup xs)) ∧ ob.dict = none) ∨
  ∃ (ob : Obj) (arr : Array Value) (k : Nat), K.lookup a = some ob ∧ ob.cls = .type "tuple" ∧ ob.dict = none ∧ ob.data = .seq arr k ∧ arr.size ≤ sizeLine ∧ Vals xs arr.toList
theorem SqN.t {K : PySem.W.Frag} {H : Hp} {a : Addr} {xs : List V} (h : SqN K H a xs) : SqT K H a xs := by
  rcases h with ⟨ob, h, _⟩ | ⟨ob, arr, k, h1, h2, h3, h4, h5, h6⟩
  · exact .inl (.inr ⟨ob, h⟩)
  · exact .inr ⟨ob, arr, k, h1, h2, h4, h5, h6⟩
/-- a new tuple is wished for -/
def NewN (H : Hp) (xs : List V) (Q : VK) : Prop := ∀ (p : Addr) (ob : Obj), H p = none → ob.dict = none → Q (.ref p) (upd H p (.frz ob (.tup xs)))
section
variable {X : Cx} {pins : List (Addr × Obj)} {σ : St} {H : Hp} {s : Shared}
theorem SqN.at_ {a : Addr} {xs : List V} (I : Inv X pins σ H s) (h : SqN X.K H a xs) : s.TypeIs (.ref a) "tuple" ∧ ∃ ob, s.heap.get? a = some ob ∧ ob.dict = none := by
  obtain ⟨its, _, ht, _⟩ := I.tuple h.t
  refine ⟨ht.typeIs, ?_⟩
  rcases h with ⟨ob, h, hd⟩ | ⟨ob, arr, k, h1, h2, h3, h4, h5, h6⟩
  · exact ⟨ob, (I.hok a _ h).1, hd⟩
  · exact ⟨ob, I.kIn a ob h1, h3⟩
/-- a tuple just made -/
theorem newN {Q : VK} {h1 : Heap} {us : List Value} {xs : List V} {tk : Nat} (I : Inv X pins σ H { s with heap := h1, toks := tk }) (r : Vals xs us) (z : xs.length ≤ sizeLine) (q : NewN H xs Q) :
    EP X pins σ Q (.ref h1.objs.size) { s with heap := h1.push { cls := .type "tuple", data := .seq us.toArray }, toks := tk } := by
  have hn : H h1.objs.size = none := I.hok.fresh (Nat.le_refl _)
  have J := I.laid (t' := tk) (h' := h1.push { cls := .type "tuple", data := .seq us.toArray }) (a := h1.objs.size) (o := .frz { cls := .type "tuple", data := .seq us.toArray } (.tup xs))
    (fun b u e => Heap.get?_push_of_some _ e) (Nat.le_refl _) ⟨Heap.get?_push_size _ rfl, z, us, r, ⟨_, Heap.get?_push_size _ rfl, rfl, _, rfl⟩⟩
  exact ⟨.ref h1.objs.size, _, J, rfl, q _ _ hn rfl⟩
end
def tTupN (t : TA) : TE := fun σ H Q => t σ H fun xs H1 => xs.length ≤ sizeLine ∧ NewN H1 xs Q
section
variable {X : Cx}
theorem pe_tupN {es : List Expr} {t : TA} {k : Nat} {pos : Pos} (hp : PA X es t) : PE X (.Tuple es k pos) (tTupN t) := by
  refine ⟨fun pins s σ H Q I hq => ?_⟩
  refine wpAny_Tuple_spliced (thn (hp.run pos pins s σ H _ I hq) fun us s1 ⟨xs, H1, I1, r, z, q⟩ => ⟨by rw [← r.length]; exact z, ?_⟩)
  exact newN (s := s1) (tk := s1.toks) I1 r z q
def rCatN (K : PySem.W.Frag) : R2 := fun x y H Q => ∃ a b xs ys, x = .ref a ∧ y = .ref b ∧ SqT K H a xs ∧ SqT K H b ys ∧ xs.length + ys.length ≤ sizeLine ∧
  (xs = [] → Q (.ref b) H) ∧ (xs ≠ [] → ys = [] → Q (.ref a) H) ∧ (xs ≠ [] → ys ≠ [] → NewN H (xs ++ ys) Q)
theorem op_catN : OpR X (binaryOp .Add) (rCatN X.K) := by
  intro pins s σ H x y v u Q I rx ry hh
  obtain ⟨a, b, xs, ys, rfl, rfl, ha, hb, hz, q0, q1, q2⟩ := hh
  by_cases hy : xs ≠ [] ∧ ys ≠ []
  · cases rx
    cases ry
    obtain ⟨us, r1, p1, _⟩ := I.tuple ha
    obtain ⟨ws, r2, p2, _⟩ := I.tuple hb
    have hu : us ≠ [] := fun z => hy.1 (r1.nil_iff.mp z)
    have hw : ws ≠ [] := fun z => hy.2 (r2.nil_iff.mp z)
    refine HT.cat_tup p1 p2 hu (fun z => absurd z hw) (fun _ => ?_) (by rw [← r1.length, ← r2.length]; exact hz)
    exact newN (s := s) (h1 := s.heap) (tk := s.toks) I (r1.append r2) (by rw [List.length_append]; exact hz) (q2 hy.1 hy.2)
  · refine op_catA pins s σ H _ _ v u Q I rx ry ⟨a, b, xs, ys, rfl, rfl, ha, hb, hz, q0, q1, fun h1 h2 => absurd ⟨h1, h2⟩ hy⟩
def rSlN (K : PySem.W.Frag) : V → Option Int → Option Int → Hp → VK → Prop := fun x lo hi H Q => ∃ a xs, x = .ref a ∧ SqT K H a xs ∧
  (HT.sIx xs.length 0 lo = 0 ∧ HT.sIx xs.length xs.length hi = xs.length → Q (.ref a) H) ∧ (¬ (HT.sIx xs.length 0 lo = 0 ∧ HT.sIx xs.length xs.length hi = xs.length) → NewN H (cutV xs lo hi) Q)
theorem sl_tupN : SlR X (rSlN X.K) := by
  intro pins s σ H x v vl vu lo hi sl Q I rx hs pl pu hh
  obtain ⟨a, xs, rfl, hx, q1, q2⟩ := hh
  by_cases hw : HT.sIx xs.length 0 lo = 0 ∧ HT.sIx xs.length xs.length hi = xs.length
  · exact sl_tupA pins s σ H _ v vl vu lo hi sl Q I rx hs pl pu ⟨a, xs, rfl, hx, q1, fun c => absurd hw c⟩
  · cases rx
    obtain ⟨us, r, ht, hz⟩ := I.tuple hx
    have hl : us.toArray.size = xs.length := by rw [List.size_toArray]; exact r.length.symm
    refine ⟨"tuple", _, PyProof.Rows.slot_tuple_getitem.lookup, ht.typeIs, ?_⟩
    refine HT.getItem_tuple_cut ht hs pl pu (by rw [hl]; exact hw) ?_ (by rw [hl]; exact hz)
    rw [hl]
    exact newN (s := s) (h1 := s.heap) (tk := s.toks) I ((r.drop (HT.sIx xs.length 0 lo)).take (HT.sIx xs.length xs.length hi - HT.sIx xs.length 0 lo)) (Nat.le_trans (cutV_length xs lo hi) hz) (q2 hw)
theorem cr_tupN : CallR X (.type "tuple") (fun xs H Q => ∃ p ys, xs = [.ref p] ∧ ((SqL X.K H p ys ∧ NewN H ys Q) ∨ (SqT X.K H p ys ∧ Q (.ref p) H))) := by
  intro pins s σ H xs us Q I r hh
  obtain ⟨p, ys, rfl, hh⟩ := hh
  rcases hh with ⟨hq, q⟩ | ⟨hq, q⟩
  · obtain ⟨u, rfl, rx⟩ := vals1 r
    cases rx
    obtain ⟨ws, r', pl, hz⟩ := I.list hq
    have hl := r'.length
    refine call_tuple_list pl.isList (fun h' kp => ?_) (by simp only [List.size_toArray] <;> omega)
    have I1 : Inv X pins σ H { s with heap := h' } := I.kept (t' := s.toks) kp
    exact newN (s := s) (h1 := h') (tk := s.toks) I1 r' hz q
  · exact call_tuple_of pins s σ H _ us Q I r ⟨p, ys, rfl, .inr ⟨hq, q⟩⟩
/-- t.index(x) -/
def rTix (K : PySem.W.Frag) : V → List V → Hp → VK → Prop := fun x xs H Q => ∃ p, ∃ ys : List Str, ∃ z j, x = .ref p ∧ xs = [.str z] ∧ SqT K H p (ys.map V.str) ∧ ys[j]? = some z ∧ (∀ m, m < j → ys[m]? ≠ some z) ∧ Q (.int (j : Nat)) H
def tTix (K : PySem.W.Frag) (to : TE) (t : TA) : TE := fun σ H Q => to σ H fun x H1 => (∃ p ys, x = .ref p ∧ SqN K H1 p ys) ∧ t σ H1 fun xs H2 => rTix K x xs H2 Q
/-- a method of a built-in type, what its type is being told by ty -/
def TyR (X : Cx) (T : String) (ty : V → Hp → Prop) : Prop := ∀ (pins : List (Addr × Obj)) (s : Shared) (σ : St) (H : Hp) (x : V) (v : Value), Inv X pins σ H s → RelV x v → ty x H → s.TypeIs v T ∧ ∀ a, v = .ref a → ∃ ob, s.heap.get? a = some ob ∧ ob.dict = none
def tBMG (ty : V → Hp → Prop) (r : V → List V → Hp → VK → Prop) (to : TE) (t : TA) : TE := fun σ H Q => to σ H fun x H1 => ty x H1 ∧ t σ H1 fun xs H2 => r x xs H2 Q
theorem pe_bmG {o e : Expr} {es : List Expr} {to : TE} {t : TA} {name : Str} {apos cpos : Pos} {T id : String} {ty : V → Hp → Prop} {r : V → List V → Hp → VK → Prop} (pa : PlainAttrs T) (sl : Slot T name id) (ht : typeOf (.builtin id) = pure (.type "method_descriptor"))
    (hT : TyR X T ty) (hm : MtR X id r) (ho : PE X o to) (ha : PA X (e :: es) t) (hb : attributeBase o name X.env (eval o X.env) = eval o X.env)
    (hfew : ((backTo cpos (starEach (e :: es) X.env)).all (fun x => !x.1) && (backToKw cpos (keywordEach [] X.env)).all (fun x => x.1.isSome) && decide ((e :: es).length + ([] : List Keyword).length + (if ([] : List Keyword).isEmpty then 0 else 1) < 30)) = true)
    (hl : (apos.endLine == cpos.line) = true) (hs : starEach (e :: es) X.env = (false, eval e X.env) :: starEach es X.env) (hp : (backTo cpos (starEach es X.env)).any (·.1) = false) :
    PE X (.Call (.Attribute o name apos) (e :: es) [] cpos) (tBMG ty r to t) := by
  refine ⟨fun pins s σ H Q I hh => ?_⟩
  refine wpAny_Call_method_late hb hfew hl rfl (thn (ho.run pins s σ H _ I hh) fun v s1 ⟨x, H1, I1, r1, hty, q1⟩ => ?_)
  obtain ⟨h1, h2⟩ := hT pins s1 σ H1 x v I1 r1 hty
  refine ⟨T, id, pa, sl, ht, h1, h2, ?_⟩
  have hA := ha.run cpos pins s1 σ H1 _ I1 q1
  rw [hs] at hA ⊢
  refine Calls.callWith_builtin (by show (false || (backTo cpos (starEach es X.env)).any (·.1)) = false; rw [hp] <;> rfl) (Calls.evalArgs_plain ?_)
  exact thn hA fun us s2 ⟨vs, H2, I2, r2, q2⟩ => hm pins s2 σ H2 x vs v us Q I2 r1 r2 q2
theorem tyN : TyR X "tuple" (fun x H => ∃ p ys, x = .ref p ∧ SqN X.K H p ys) := by
  intro pins s σ H x v I rx hh
  obtain ⟨p, ys, rfl, hN⟩ := hh
  cases rx
  obtain ⟨h1, h2⟩ := hN.at_ I
  exact ⟨h1, fun a ea => by cases ea; exact h2⟩
theorem tyB {T : String} : TyR X T (fun x H => tyV X.K T x H) := fun pins s σ H x v I rx h => tyV_is I rx h
end
end Mn
end
section
set_option autoImplicit false
/-! MnD: dict(pairs), a tuple or a list of pairs whose first parts are keys. -/
namespace Mn
open PySem PySem.Spec L2
/-- x is a pair of the key k and v -/
def PairV (K : PySem.W.Frag) (H : Hp) (x : V) (k : Key) (v : V) : Prop := ∃ T, x = .ref T ∧ SqT K H T [kV k, v]
def mergeV (kvs : List (Key × V)) : List (Key × V) := kvs.foldl (fun acc q => putK acc q.1 q.2) []
def rDictP (K : PySem.W.Frag) : List V → Hp → VK → Prop := fun args H Q => ∃ p xs kvs, args = [.ref p] ∧ (SqN K H p xs ∨ H p = some (.lst xs)) ∧ xs.length = kvs.length ∧ (∀ (i : Nat) (x : V) (q : Key × V), xs[i]? = some x → kvs[i]? = some q → PairV K H x q.1 q.2) ∧
  xs.length ≤ sizeLine ∧ ∀ d, H d = none → Q (.ref d) (upd H d (.dK (mergeV kvs)))
theorem foldl_kv {kvs : List (Key × V)} {vs : List (Key × Value)} (r : KV kvs vs) : ∀ {acc : List (Key × V)} {bcc : List (Key × Value)}, KV acc bcc → KV (kvs.foldl (fun acc q => putK acc q.1 q.2) acc) (vs.foldl (fun acc q => stored acc q.1 q.2) bcc) := by
  induction r with
  | nil => intro acc bcc h; exact h
  | cons h t ih =>
    intro acc bcc ha
    rename_i a b l m
    obtain ⟨k1, v1⟩ := a
    obtain ⟨k2, v2⟩ := b
    obtain ⟨h1, h2⟩ := h
    dsimp only at h1 h2
    subst h1
    exact ih (ha.put k1 h2)
theorem mergeV_len (kvs : List (Key × V)) : (mergeV kvs).length ≤ kvs.length := by
  have : ∀ (l acc : List (Key × V)), (l.foldl (fun acc q => putK acc q.1 q.2) acc).length ≤ acc.length + l.length := by
    intro l
    induction l with
    | nil => intro acc; simp
    | cons a r ih =>
      intro acc
      have h1 := ih (putK acc a.1 a.2)
      have h2 := length_putK acc a.1 a.2
      simp only [List.foldl_cons, List.length_cons]
      omega
  have h := this kvs []
  unfold mergeV
  simpa using h
section
variable {X : Cx} {pins : List (Addr × Obj)} {σ : St} {H : Hp} {s : Shared}
theorem pairs_lay (I : Inv X pins σ H s) : ∀ {xs : List V} {its : List Value} (rv : Vals xs its) {kvs : List (Key × V)}, xs.length = kvs.length → (∀ (i : Nat) (x : V) (q : Key × V), xs[i]? = some x → kvs[i]? = some q → PairV X.K H x q.1 q.2) →
    ∃ (Ts : Nat → Addr) (ps : List (Value × Value)) (ws : List (Key × Value)), ps.length = its.length ∧ ws.length = its.length ∧ KV kvs ws ∧
      ∀ (j : Nat) (k v : Value), ps[j]? = some (k, v) → its[j]? = some (Value.ref (Ts j)) ∧ PairAt s.heap (Ts j) k v ∧ ∃ kk, ws[j]? = some (kk, v) ∧ (mixKind X.prog X.w).is kk k = true := by
  intro xs its rv
  induction rv with
  | nil =>
    intro kvs hl hpr
    cases kvs with
    | nil => exact ⟨fun _ => 0, [], [], rfl, rfl, .nil, fun j k v h => by simp at h⟩
    | cons a b => simp at hl
  | cons rx rr ih =>
    intro kvs hl hpr
    cases kvs with
    | nil => simp at hl
    | cons a b =>
      obtain ⟨Ts, ps, ws, h1, h2, h3, h4⟩ := ih (kvs := b) (by simpa using hl) (fun i x q e1 e2 => hpr (i + 1) x q e1 e2)
      obtain ⟨T, rfl, hT⟩ := hpr 0 _ a rfl rfl
      cases rx
      obtain ⟨its2, rv2, ht2, _⟩ := I.tuple hT
      obtain ⟨w1, w2, rfl, hw1, hw2⟩ := vals2 rv2
      refine ⟨fun j => match j with | 0 => T | j + 1 => Ts j, (w1, w2) :: ps, (a.1, w2) :: ws, by simp [h1], by simp [h2], .cons ⟨rfl, hw2⟩ h3, fun j k v hj => ?_⟩
      cases j with
      | zero =>
        cases hj
        obtain ⟨o, ho, hc, n, hd⟩ := ht2
        exact ⟨rfl, .inl ⟨o, ho, hc, n, hd⟩, a.1, rfl, kV_is hw1⟩
      | succ j => exact h4 j k v hj
theorem cr_dictP (hh : X.A.handled = none) : CallR X (.type "dict") (rDictP X.K) := by
  intro pins s σ H args us Q I r hh'
  obtain ⟨p, xs, kvs, rfl, hp, hl, hpr, hz, q⟩ := hh'
  obtain ⟨u, rfl, ru⟩ := vals1 r
  cases ru
  have fin : ∀ (its : List Value) (ws : List (Key × Value)), Vals xs its → KV kvs ws → ws.length = its.length → ∀ (h' : Heap) (tk : Nat), h'.DictOf (mixKind X.prog X.w) s.heap.objs.size (merged [] ws) → (∀ b o, b ∉ ([] : List Addr) → s.heap.get? b = some o → h'.get? b = some o) →
      EP X pins σ Q (.ref s.heap.objs.size) { s with heap := h', toks := tk } := fun its ws rv hkv hw h' tk hd hk => by
    have hn : H s.heap.objs.size = none := I.hok.fresh (Nat.le_refl _)
    have new : ObjOk X.prog X.w (upd H s.heap.objs.size (.dK (mergeV kvs))) h' s.heap.objs.size (.dK (mergeV kvs)) :=
      ⟨Nat.le_trans (mergeV_len kvs) (by rw [← hl]; exact hz), beq_eq_false_iff_ne.mpr (Ne.symm (Nat.ne_of_lt I.big)), _, foldl_kv hkv .nil, hd⟩
    exact ⟨.ref s.heap.objs.size, _, I.laid (t' := tk) (fun b o e => hk b o (by simp) e) (Nat.le_refl _) new, rfl, q _ hn⟩
  rcases hp with hp | hp
  · obtain ⟨its, rv, ht, _⟩ := I.tuple hp.t
    obtain ⟨_, ob, hob, hd⟩ := hp.at_ I
    obtain ⟨o, ho, hc, n, hdat⟩ := ht
    rw [hob] at ho; cases ho
    obtain ⟨Ts, ps, ws, h1, h2, h3, h4⟩ := pairs_lay I rv hl hpr
    have hps : ps.length ≤ sizeLine := by rw [h1, ← rv.length]; exact hz
    exact call_dict_pairs (knd := mixKind X.prog X.w) (kvs := ws) (PairArg.tuple p its.toArray Ts ps) hh ⟨⟨ob, n, hob, hc, hd, hdat⟩, by rw [List.size_toArray, h1], fun j k v hj => by
      obtain ⟨e1, e2, _⟩ := h4 j k v hj
      exact ⟨by simpa using e1, e2⟩⟩ ⟨by rw [h2, h1], fun i k v hi => by obtain ⟨_, _, kk, e3, e4⟩ := h4 i k v hi; exact ⟨kk, e3, e4⟩⟩ hps (fin its ws rv h3 h2)
  · obtain ⟨its, n, rv, ho, _⟩ := I.lst hp
    obtain ⟨Ts, ps, ws, h1, h2, h3, h4⟩ := pairs_lay I rv hl hpr
    have hps : ps.length ≤ sizeLine := by rw [h1, ← rv.length]; exact hz
    exact call_dict_pairs (knd := mixKind X.prog X.w) (kvs := ws) (PairArg.list p its.toArray Ts ps) hh ⟨⟨_, n, ho, rfl, rfl, rfl⟩, by rw [List.size_toArray, h1], fun j k v hj => by
      obtain ⟨e1, e2, _⟩ := h4 j k v hj
      exact ⟨by simpa using e1, e2⟩⟩ ⟨by rw [h2, h1], fun i k v hi => by obtain ⟨_, _, kk, e3, e4⟩ := h4 i k v hi; exact ⟨kk, e3, e4⟩⟩ hps (fin its ws rv h3 h2)
/-- list(x) of a text -/
def rListS : List V → Hp → VK → Prop := fun args H Q => ∃ z : Str, args = [.str z] ∧ z.length ≤ sizeLine ∧ ∀ q, H q = none → Q (.ref q) (upd H q (.lst (z.cps.toList.map fun c => V.str ⟨#[c]⟩)))
theorem cr_listS (hh : X.A.handled = none) : CallR X (.type "list") rListS := by
  intro pins s σ H args us Q I r hx
  obtain ⟨z, rfl, hz, q⟩ := hx
  obtain ⟨u, rfl, t, rfl⟩ := vals1 r
  refine call_list_str hh z t (hn := hz) fun h' tk acc' c' hk hS' hacc => ?_
  have hn : H s.heap.objs.size = none := I.hok.fresh (Nat.le_refl _)
  have rv : Vals (z.cps.toList.map fun c => V.str ⟨#[c]⟩) acc'.toList := by
    refine vals_of_at (by simp [hacc.1]) fun j x u h1 h2 => ?_
    obtain ⟨c, tt, hc, rfl⟩ := hacc.2 j u (by simpa using h2)
    rw [List.getElem?_map] at h1
    have hc' : z.cps.toList[j]? = some c := by simpa using hc
    rw [hc'] at h1
    cases h1
    exact ⟨tt, rfl⟩
  have new : ObjOk X.prog X.w (upd H s.heap.objs.size (.lst (z.cps.toList.map fun c => V.str ⟨#[c]⟩))) h' s.heap.objs.size (.lst (z.cps.toList.map fun c => V.str ⟨#[c]⟩)) :=
    ⟨by simpa [Str.length] using hz, acc'.toList, c', rv, by simpa using hS'⟩
  exact ⟨.ref s.heap.objs.size, _, I.laid (t' := tk) (fun b o e => hk b o e) (Nat.le_refl _) new, rfl, q _ hn⟩
end
end Mn
end
section
/-! Mn1: a small language ("Mini") for the part of Python that the package uses: values are trees, lists, dicts, instances stand in a store. -/
namespace Mn
open PySem
/-- data; lst stands in views alone, never in a value -/
inductive PV where
  | non | bl (b : Bool) | int (i : Int) | str (s : List Nat) | tup (l : List PV) | lst (l : List PV)
/-- values: data without lists, an object of the store, a tuple that holds such, a function, a list that nobody changes -/
inductive MV where
  | p (v : PV) | r (n : Nat) | t (l : List MV) | f (i : Nat) | w (l : List MV)
inductive MO where
  | lst (l : List MV) | dic (l : List (List Nat × MV)) | lck (l : List (List Nat × MV)) | set (l : List PV) | ins (c : Nat) (fs : List (Nat × MV))
/-- what an expression gives: a value, or a new object that nobody holds yet -/
inductive EV where
  | v (m : MV) | o (o : MO)
abbrev Sto := List MO
abbrev Env := List (Option MV)
inductive Res (α : Type) where
  | ok (a : α) (s : Sto) | exc (c : Nat) (x : Option Int) (s : Sto) | stk
def Res.bind {α β : Type} (r : Res α) (f : α → Sto → Res β) : Res β :=
  match r with
  | .ok a s => f a s
  | .exc c x s => .exc c x s
  | .stk => .stk
/-- how a statement ends -/
inductive Fl where
  | nx | rt (r : EV) | bk | ct
inductive RS where
  | ok (f : Fl) (e : Env) (s : Sto) | exc (c : Nat) (x : Option Int) (e : Env) (s : Sto) | stk
/-! ### data -/
mutual
def PV.eqv : PV → PV → Bool
  | .non, .non => true
  | .bl a, .bl b => a == b
  | .bl a, .int j => (if a = true then 1 else 0) == j
  | .int i, .bl b => i == (if b = true then 1 else 0)
  | .int i, .int j => i == j
  | .str a, .str b => a == b
  | .tup a, .tup b => PV.eqvs a b
  | .lst a, .lst b => PV.eqvs a b
  | _, _ => false
def PV.eqvs : List PV → List PV → Bool
  | [], [] => true
  | a :: as, b :: bs => PV.eqv a b && PV.eqvs as bs
  | _, _ => false
end
mutual
def PV.dep : PV → Nat
  | .tup l => PV.deps l + 1
  | .lst l => PV.deps l + 1
  | _ => 0
def PV.deps : List PV → Nat
  | [] => 0
  | a :: as => max (PV.dep a) (PV.deps as)
end
def lim : Nat := 16777216
def dlim : Nat := 60
def allP : List MV → Option (List PV)
  | [] => some []
  | .p v :: r => match allP r with
    | some l => some (v :: l)
    | none => none
  | _ :: _ => none
def mkTup (l : List MV) : MV := match allP l with
  | some ps => .p (.tup ps)
  | none => .t l
def objSeq : MO → Option (List MV)
  | .lst l => some l
  | _ => none
def tupSeq : MV → Option (List MV)
  | .p (.tup l) => some (l.map .p)
  | .t l => some l
  | _ => none
def isRef : MV → Bool
  | .r _ => true
  | _ => false
/-- the object that is meant -/
def objOf (e : EV) (s : Sto) : Option MO := match e with
  | .o o => some o
  | .v (.r n) => s[n]?
  | _ => none
/-- a list's items -/
def lstOf (e : EV) (s : Sto) : Option (List MV) := match e with
  | .v (.w l) => some l
  | e => match objOf e s with
    | some (.lst l) => some l
    | _ => none
def tupOf : EV → Option (List MV)
  | .v m => tupSeq m
  | _ => none
/-- a list's or a tuple's items -/
def seqOf (e : EV) (s : Sto) : Option (List MV) := match tupOf e with
  | some l => some l
  | none => lstOf e s
/-- a value to be held: a new object goes into the store -/
def hold (e : EV) (s : Sto) : MV × Sto := match e with
  | .v m => (m, s)
  | .o o => (.r s.length, s ++ [o])
def evP (v : PV) : EV := .v (.p v)
def mapO {α β : Type} (f : α → Option β) : List α → Option (List β)
  | [] => some []
  | a :: r => match f a with
    | some b => match mapO f r with
      | some l => some (b :: l)
      | none => none
    | none => none
/-- data as it stands, lists within, some levels deep -/
def viewM (s : Sto) : Nat → MV → Option PV
  | _, .p v => some v
  | k + 1, .r n => match s[n]? with
    | some (.lst l) => (mapO (viewM s k) l).map .lst
    | _ => none
  | k + 1, .t l => (mapO (viewM s k) l).map .tup
  | k + 1, .w l => (mapO (viewM s k) l).map .lst
  | _, _ => none
def view (e : EV) (s : Sto) : Option PV := match e with
  | .v m => viewM s 3 m
  | .o (.lst l) => (mapO (viewM s 3) l).map .lst
  | _ => none
/-! ### operations by values -/
/-- an index -/
def ixN (n : Nat) (i : Int) : Option Nat := if 0 ≤ i then (if i < n then some i.toNat else none) else if -(n : Int) ≤ i then some (i + n).toNat else none
def at_ {α : Type} (l : List α) (i : Int) : Option α := (ixN l.length i).bind fun j => l[j]?
/-- a slice's ends -/
def sIx (n d : Nat) : Option Int → Nat
  | none => d
  | some v => if v < 0 then (v + (n : Int)).toNat else min v.toNat n
def cut {α : Type} (l : List α) (lo hi : Option Int) : List α := (l.drop (sIx l.length 0 lo)).take (sIx l.length l.length hi - sIx l.length 0 lo)
def truth (e : EV) (s : Sto) : Option Bool := match e with
  | .v (.p .non) => some false
  | .v (.p (.bl b)) => some b
  | .v (.p (.int i)) => some (i != 0)
  | .v (.p (.str z)) => if z.length ≤ lim then some (!z.isEmpty) else none
  | e => match seqOf e s with
    | some l => some (!l.isEmpty)
    | none => none
inductive BOp where
  | add | sub | mul | fdiv | mod
inductive COp where
  | eq | ne | lt | le | gt | ge | inn | nin | isn | notn
def small (i : Int) : Bool := decide (-(2 ^ 64) < i) && decide (i < 2 ^ 64)
inductive Kd where
  | int (i : Int) | str (l : List Nat) | tup (l : List MV) | lst (l : List MV) | oth
/-- what it is -/
def kdOf (e : EV) (s : Sto) : Kd := match e with
  | .v (.p (.int i)) => .int i
  | .v (.p (.str l)) => .str l
  | e => match tupOf e with
    | some l => .tup l
    | none => match objOf e s with
      | some (.lst l) => .lst l
      | _ => .oth
def binop (op : BOp) (a b : EV) (s : Sto) : Res EV := match op, kdOf a s, kdOf b s with
  | .add, .int i, .int j => .ok (evP (.int (i + j))) s
  | .sub, .int i, .int j => .ok (evP (.int (i - j))) s
  | .mul, .int i, .int j => if small i || small j then .ok (evP (.int (i * j))) s else .stk
  | .mod, .int i, .int j => if 0 < j then .ok (evP (.int (i % j))) s else .stk
  | .fdiv, .int i, .int j => if 0 < j ∧ j < 1073741824 then .ok (evP (.int (i / j))) s else .stk
  | .add, .str x, .str y => if x.length + y.length ≤ lim then .ok (evP (.str (x ++ y))) s else .stk
  | .add, .tup x, .tup y => if x.length + y.length ≤ lim then .ok (.v (mkTup (x ++ y))) s else .stk
  | .add, .lst x, .lst y => if x.length + y.length ≤ lim then .ok (.o (.lst (x ++ y))) s else .stk
  | .mul, .lst x, .int j => if -(2 ^ 63) ≤ j ∧ j < 2 ^ 63 ∧ x.length * j.toNat ≤ lim then .ok (.o (.lst (List.replicate j.toNat x).flatten)) s else .stk
  | _, _, _ => .stk
def bl (b : Bool) : EV := .v (.p (.bl b))
def ltS : List Nat → List Nat → Bool
  | _, [] => false
  | [], _ :: _ => true
  | a :: as, b :: bs => if a = b then ltS as bs else decide (a < b)
/-! ### the order of data -/
mutual
/-- the less, as far as they can be compared -/
def PV.lt : PV → PV → Option Bool
  | .int i, .int j => some (decide (i < j))
  | .str a, .str b => some (ltS a b)
  | .tup a, .tup b => PV.lts a b
  | _, _ => none
def PV.lts : List PV → List PV → Option Bool
  | [], [] => some false
  | [], _ :: _ => some true
  | _ :: _, [] => some false
  | a :: as, b :: bs => if PV.eqv a b then PV.lts as bs else PV.lt a b
end
mutual
/-- neither truth values nor lists within -/
def PV.pl : PV → Bool
  | .bl _ => false
  | .lst _ => false
  | .tup l => PV.pls l
  | _ => true
def PV.pls : List PV → Bool
  | [] => true
  | a :: r => PV.pl a && PV.pls r
end
def PV.ins (x : PV) : List PV → List PV
  | [] => [x]
  | y :: r => if PV.lt y x = some true then y :: PV.ins x r else x :: y :: r
def PV.isort : List PV → List PV
  | [] => []
  | x :: r => PV.ins x (PV.isort r)
/-- x may stand ahead of y -/
def PV.leq (x y : PV) : Bool := PV.eqv x y || (PV.lt x y == some true && PV.lt y x == some false)
def PV.chk : List PV → Bool
  | [] => true
  | x :: r => (PV.lt x x == some false) && r.all (PV.leq x) && PV.chk r
def PV.fstS : PV → Bool
  | .tup (.str _ :: _) => true
  | _ => false
def PV.fstI : PV → Bool
  | .tup (.int _ :: _) => true
  | _ => false
/-- a list of tuples, sorted -/
def sortP (l : List PV) : Option (List PV) := if (l.all PV.fstS || l.all PV.fstI) && PV.pls l && decide (l.length < 64) && decide (PV.deps l ≤ dlim) && PV.chk (PV.isort l) then some (PV.isort l) else none
/-- equality of data; None by itself -/
def eqD (a b : EV) (s : Sto) : Option Bool := match view a s, view b s with
  | some x, some y => if min x.dep y.dep ≤ dlim then some (x.eqv y) else none
  | _, _ => none
def inD (a b : EV) (s : Sto) : Option Bool := match view a s, view b s with
  | some x, some (.tup l) => if min (PV.deps l) x.dep ≤ dlim then some (l.any fun y => y.eqv x) else none
  | some x, some (.lst l) => if min (PV.deps l) x.dep ≤ dlim then some (l.any fun y => y.eqv x) else none
  | some (.str [c]), some (.str z) => some (z.contains c)
  | _, _ => none
def ordD (op : COp) (a b : EV) : Option Bool := match op, a, b with
  | .lt, .v (.p (.int i)), .v (.p (.int j)) => some (decide (i < j))
  | .le, .v (.p (.int i)), .v (.p (.int j)) => some (decide (i ≤ j))
  | .gt, .v (.p (.int i)), .v (.p (.int j)) => some (decide (j < i))
  | .ge, .v (.p (.int i)), .v (.p (.int j)) => some (decide (j ≤ i))
  | _, _, _ => none
def cmpop (op : COp) (a b : EV) (s : Sto) : Option Bool := match op with
  | .eq => eqD a b s
  | .ne => (eqD a b s).map (!·)
  | .inn => inD a b s
  | .nin => (inD a b s).map (!·)
  | .isn => match a, b with
    | .v (.p .non), .v (.p .non) => some true
    | _, .v (.p .non) => some false
    | _, _ => none
  | .notn => match a, b with
    | .v (.p .non), .v (.p .non) => some false
    | _, .v (.p .non) => some true
    | _, _ => none
  | op => ordD op a b
def index (a i : EV) (s : Sto) : Option EV := match i with
  | .v (.p (.int k)) => match a with
    | .v (.p (.str z)) => if z.length ≤ lim then (at_ z k).map fun c => evP (.str [c]) else none
    | a => match seqOf a s with
      | some l => (at_ l k).map .v
      | none => none
  | _ => none
def partI : Option EV → Option (Option Int)
  | none => some none
  | some (.v (.p (.int i))) => some (some i)
  | _ => none
def slice (a : EV) (lo hi : Option Int) (s : Sto) : Option EV := match tupOf a with
  | some l => some (.v (mkTup (cut l lo hi)))
  | none => match lstOf a s with
    | some l => some (.o (.lst (cut l lo hi)))
    | none => none
end Mn
end
section
/-! Mn2: Mini's syntax and its evaluation. -/
namespace Mn
open PySem
inductive BI where
  | len | tuple | list | sorted | set | all | any | sum | max | min | abs | int | dict | str
inductive ME where
  | append | extend | pop | insert | index | get | setdefault | add
inductive TyN where
  | bool | int | str | tuple | list
/-- a target: a name's slot, or several -/
inductive MT where
  | nm (i : Nat) | tp (l : List Nat)
mutual
inductive MX where
  | var (i : Nat) | lit (v : PV) | glb (x : Nat)
  | tup (es : MXs) | lst (es : MXs) | dic (ks vs : MXs)
  | bin (op : BOp) (a b : MX) | cmp (op : COp) (a b : MX) | chn (o1 o2 : COp) (a b c : MX)
  | and (a b : MX) | or (a b : MX) | not (a : MX) | neg (a : MX) | ite (c a b : MX)
  | ix (a i : MX) | slf (a lo : MX) | slt (a hi : MX) | slb (a lo hi : MX)
  | call (f : Nat) (es : MXs) | cv (i : Nat) (es : MXs) | bi (b : BI) (es : MXs) | isi (a : MX) (t : TyN) | me (m : ME) (o : MX) (es : MXs)
  | mk (c : Nat) (es : MXs) | um (m : Nat) (o : MX) (es : MXs) | fld (o : MX) (x : Nat)
  | lc (elt : MX) (tg : MT) (it : MI) (cs : MXs) (own : List Nat)
  | lc2 (elt : MX) (tg : MT) (it : MI) (cs : MXs) (tg2 : MT) (it2 : MI) (cs2 : MXs) (own own2 : List Nat)
  | dcp (k v : MX) (tg : MT) (it : MI) (cs : MXs) (own : List Nat)
  | lock (i : Nat) (e : MX) | dix (o k : MX) | dg1 (o k : MX) | dg2 (o k d : MX) | din (k o : MX) | dnin (k o : MX)
  | fst (es : MXs)
  | dsp (ks : List (List Nat)) (vs : MXs) | dadd (d k v : MX)
inductive MXs where
  | nil | cons (e : MX) (r : MXs)
inductive MI where
  | ex (e : MX) | rng (es : MXs) | enum (e : MX) | zip (a b : MX) | rev (e : MX) | items (e : MX) | vals (e : MX)
end
mutual
inductive MS where
  | dsub (o k e : MX) | asg (t : MT) (e : MX) | par (i j : Nat) (a b : MX) | sub (o i e : MX) | fst (o : MX) (x : Nat) (e : MX)
  | aug (i : Nat) (sg : Bool) (e : MX) | augm (i : Nat) (ml : Bool) (e : MX) | ex (e : MX) | iff (c : MX) (a b : MSs) | whl (c : MX) (b : MSs) | forr (t : MT) (it : MI) (b : MSs)
  | ret (e : MX) | retN | brk | cnt | pass | rse (c : Nat) | tri (b : MSs) (h : List (Nat × PV))
inductive MSs where
  | nil | cons (s : MS) (r : MSs)
end
/-- sources of loops -/
inductive Sq where
  | snap (l : List MV) | live (n : Nat)
inductive Src where
  | sq (q : Sq) | en (q : Sq) | zp (a b : Sq) | zt (l k : List MV) | rv (q : Sq) (n : Nat) | rg (lo c : Int) (n : Nat) | its (l : List (List Nat × MV)) | vls (l : List (List Nat × MV))
def sqAt (q : Sq) (s : Sto) : Option (List MV) := match q with
  | .snap l => some l
  | .live n => match s[n]? with
    | some o => objSeq o
    | none => none
/-- the item of a turn: none: no such source any more; some none: the end -/
def itm (src : Src) (s : Sto) (i : Nat) : Option (Option MV) := match src with
  | .sq q => (sqAt q s).map fun l => l[i]?
  | .en q => (sqAt q s).map fun l => (l[i]?).map fun x => mkTup [.p (.int i), x]
  | .zp a b => match sqAt a s, sqAt b s with
    | some l, some k => some (match l[i]?, k[i]? with
      | some x, some y => some (mkTup [x, y])
      | _, _ => none)
    | _, _ => none
  | .zt l k => some (match l[i]?, k[i]? with
    | some x, some y => some (mkTup [x, y])
    | _, _ => none)
  | .rv q n => (sqAt q s).bind fun l => if i < n then (l[n - 1 - i]?).map some else some none
  | .rg lo c n => some (if i < n then some (.p (.int (lo + c * i))) else none)
  | .its l => some ((l[i]?).map fun q => mkTup [.p (.str q.1), q.2])
  | .vls l => some ((l[i]?).map fun q => q.2)
/-- a list alone -/
def sqL (e : EV) (s : Sto) : Option Sq := match e with
  | .v (.r n) => match s[n]? with
    | some (.lst _) => some (.live n)
    | _ => none
  | .o (.lst l) => some (.snap l)
  | .v (.w l) => some (.snap l)
  | _ => none
/-- a list or a tuple -/
def sqOf (e : EV) (s : Sto) : Option Sq := match sqL e s with
  | some q => some q
  | none => match tupOf e with
    | some l => some (.snap l)
    | none => none
def strSq (e : EV) : Option Sq := match e with
  | .v (.p (.str z)) => some (.snap (z.map fun c => .p (.str [c])))
  | _ => none
def optR {α : Type} (o : Option α) (s : Sto) : Res α := match o with
  | some a => .ok a s
  | none => .stk
/-- within a comprehension nothing may be raised -/
def noX {α : Type} (r : Res α) : Res α := match r with
  | .exc _ _ _ => .stk
  | r => r
def wipeE (env : Env) : List Nat → Env
  | [] => env
  | v :: vs => (wipeE env vs).set v none
def setMany (env : Env) : List Nat → List MV → Option Env
  | [], [] => some env
  | i :: is, m :: ms => setMany (env.set i (some m)) is ms
  | _, _ => none
def setT (t : MT) (m : MV) (env : Env) : Option Env := match t with
  | .nm i => some (env.set i (some m))
  | .tp is => match tupSeq m with
    | some l => setMany env is l
    | none => none
def holdAll : List EV → Sto → List MV × Sto
  | [], s => ([], s)
  | e :: es, s => ((hold e s).1 :: (holdAll es (hold e s).2).1, (holdAll es (hold e s).2).2)
/-- a comprehension's loop -/
def lcGo (src : Src) (f : MV → Sto → Res (List MV)) : Nat → Nat → Sto → Res (List MV)
  | 0, _, _ => .stk
  | k + 1, i, s => match itm src s i with
    | none => .stk
    | some none => .ok [] s
    | some (some x) => (f x s).bind fun a s1 => (lcGo src f k (i + 1) s1).bind fun b s2 => .ok (a ++ b) s2
def dget (k : List Nat) : List (List Nat × MV) → Option MV
  | [] => none
  | (a, v) :: r => if a = k then some v else dget k r
def dput (k : List Nat) (v : MV) : List (List Nat × MV) → List (List Nat × MV)
  | [] => [(k, v)]
  | (a, u) :: r => if a = k then (a, v) :: r else (a, u) :: dput k v r
/-- a dict's table -/
def dicOf (e : EV) (s : Sto) : Option (List (List Nat × MV)) := match objOf e s with
  | some (.dic l) => some l
  | some (.lck l) => some l
  | _ => none
def kstr : EV → Option (List Nat)
  | .v (.p (.str z)) => some z
  | _ => none
def pairOf (m : MV) : Option (List Nat × MV) := match tupSeq m with
  | some [.p (.str z), v] => some (z, v)
  | _ => none
/-- the pairs of a tuple or a list -/
def pairsOf (e : EV) (s : Sto) : Option (List (List Nat × MV)) := match tupOf e with
  | some l => mapO pairOf l
  | none => match objOf e s with
    | some (.lst l) => mapO pairOf l
    | _ => none
/-- a dict comprehension's loop -/
def dcGo (src : Src) (f : MV → Sto → Res (Option (List Nat × MV))) : Nat → Nat → List (List Nat × MV) → Sto → Res (List (List Nat × MV))
  | 0, _, _, _ => .stk
  | k + 1, i, acc, s => match itm src s i with
    | none => .stk
    | some none => .ok acc s
    | some (some x) => (f x s).bind fun a s1 => dcGo src f k (i + 1) (match a with
      | some q => dput q.1 q.2 acc
      | none => acc) s1
def wfuel : Nat := 1099511627776
/-- what a call of one's own def gives: where no argument is an object of the store, it runs by itself -/
def refFree : List MV → Bool
  | [] => true
  | .p _ :: r => refFree r
  | _ :: _ => false
def pureL : List MV → Bool := refFree
/-- the result of a call that ran by itself -/
def isoOut (r : EV) (s' : Sto) : Option EV := match r with
  | .v (.p v) => some (.v (.p v))
  | .v (.r n) => match s'[n]? with
    | some (.lst l) => if refFree l then some (.o (.lst l)) else none
    | _ => none
  | .o (.lst l) => if refFree l then some (.o (.lst l)) else none
  | _ => none
def isoCall (C : Nat → List MV → Sto → Res EV) (f : Nat) (ms : List MV) (s : Sto) : Option (Res EV) := if refFree ms then (match C f ms [] with
    | .ok r s' => (isoOut r s').map fun r => .ok r s
    | .exc c x _ => some (.exc c x s)
    | .stk => none) else none
def doCall (C : Nat → List MV → Sto → Res EV) (f : Nat) (ms : List MV) (s : Sto) : Res EV := match isoCall C f ms s with
  | some r => r
  | none => C f ms s
/-! ### built-ins by values -/
def dedup : List PV → List PV → List PV
  | acc, [] => acc
  | acc, x :: r => if acc.any (fun y => y.eqv x) then dedup acc r else dedup (acc ++ [x]) r
def allBl : List MV → Option (List Bool)
  | [] => some []
  | .p (.bl b) :: r => (allBl r).map (b :: ·)
  | _ :: _ => none
def allInt : List MV → Option (List Int)
  | [] => some []
  | .p (.int b) :: r => (allInt r).map (b :: ·)
  | _ :: _ => none
def allStr : List MV → Option (List (List Nat))
  | [] => some []
  | .p (.str b) :: r => (allStr r).map (b :: ·)
  | _ :: _ => none
def insS (x : List Nat) : List (List Nat) → List (List Nat)
  | [] => [x]
  | y :: r => if ltS y x then y :: insS x r else x :: y :: r
def sortS : List (List Nat) → List (List Nat)
  | [] => []
  | x :: r => insS x (sortS r)
def maxI : Int → List Int → Int
  | a, [] => a
  | a, b :: r => maxI (if a < b then b else a) r
def minI : Int → List Int → Int
  | a, [] => a
  | a, b :: r => minI (if b < a then b else a) r
def sumI : List Int → Int
  | [] => 0
  | a :: r => a + sumI r
def strsOf (e : EV) (s : Sto) : Option (List (List Nat)) := match lstOf e s with
  | some l => allStr l
  | none => none
def lenOf (e : EV) (s : Sto) : Option Nat := match e with
  | .v (.p (.str z)) => if z.length ≤ lim then some z.length else none
  | e => match seqOf e s with
    | some l => some l.length
    | none => match objOf e s with
      | some (.set l) => some l.length
      | some (.dic l) => some l.length
      | _ => none
def setStr : List PV → Option (List (List Nat))
  | [] => some []
  | .str z :: r => (setStr r).map (z :: ·)
  | _ :: _ => none
def biF (b : BI) (es : List EV) (s : Sto) : Res EV := match b, es with
  | .len, [e] => match lenOf e s with
    | some n => .ok (evP (.int n)) s
    | none => .stk
  | .tuple, [e] => match tupOf e with
    | some _ => .ok e s
    | none => match lstOf e s with
      | some l => .ok (.v (mkTup l)) s
      | none => .stk
  | .list, [e] => match seqOf e s with
    | some l => .ok (.o (.lst l)) s
    | none => match e with
      | .v (.p (.str z)) => if z.length ≤ lim then .ok (.o (.lst (z.map fun c => .p (.str [c])))) s else .stk
      | _ => .stk
  | .sorted, [e] => match objOf e s with
    | some (.set l) => match setStr l with
      | some zs => if zs.length < 64 then .ok (.o (.lst ((sortS zs).map fun z => .p (.str z)))) s else .stk
      | none => .stk
    | some (.lst l) => match allStr l with
      | some zs => if zs.length < 64 then .ok (.o (.lst ((sortS zs).map fun z => .p (.str z)))) s else .stk
      | none => match allP l with
        | some ps => match sortP ps with
          | some k => .ok (.o (.lst (k.map .p))) s
          | none => .stk
        | none => .stk
    | some (.dic l) => if l.length < 64 then .ok (.o (.lst ((sortS (l.map (·.1))).map fun z => .p (.str z)))) s else .stk
    | _ => .stk
  | .set, [e] => match strsOf e s with
    | some zs => if zs.length < 4000 then .ok (.o (.set (dedup [] (zs.map .str)))) s else .stk
    | none => .stk
  | .all, [e] => match lstOf e s with
    | some l => match allBl l with
      | some bs => .ok (bl (bs.all id)) s
      | none => .stk
    | none => .stk
  | .any, [e] => match lstOf e s with
    | some l => match allBl l with
      | some bs => .ok (bl (bs.any id)) s
      | none => .stk
    | none => .stk
  | .sum, [e] => match lstOf e s with
    | some l => match allInt l with
      | some is => .ok (evP (.int is.sum)) s
      | none => .stk
    | none => .stk
  | .max, [e] => match lstOf e s with
    | some l => match allInt l with
      | some (i :: is) => .ok (evP (.int (maxI i is))) s
      | _ => .stk
    | none => .stk
  | .min, [e] => match lstOf e s with
    | some l => match allInt l with
      | some (i :: is) => .ok (evP (.int (minI i is))) s
      | _ => .stk
    | none => .stk
  | .max, [.v (.p (.int i)), .v (.p (.int j))] => .ok (evP (.int (if j > i then j else i))) s
  | .min, [.v (.p (.int i)), .v (.p (.int j))] => .ok (evP (.int (if j < i then j else i))) s
  | .dict, [e] => match pairsOf e s with
    | some ps => if ps.length ≤ lim then .ok (.o (.dic (ps.foldl (fun acc q => dput q.1 q.2 acc) []))) s else .stk
    | none => match objOf e s with
      | some (.dic l) => .ok (.o (.dic l)) s
      | _ => .stk
  | .abs, [.v (.p (.int i))] => .ok (evP (.int (if i < 0 then -i else i))) s
  | .int, [.v (.p (.int i))] => .ok (evP (.int i)) s
  | _, _ => .stk
/-- the first place of a text in a tuple of texts -/
def idxS (z : List Nat) : List (List Nat) → Nat → Option Nat
  | [], _ => none
  | y :: r, k => if y = z then some k else idxS z r (k + 1)
def isStrP : PV → Option (List Nat)
  | .str z => some z
  | _ => none
/-- methods of lists, tuples, dicts -/
def mef (m : ME) (o : EV) (es : List EV) (s : Sto) : Res EV := match m, o, es with
  | .append, .v (.r n), [e] => match s[n]? with
    | some (.lst l) => if l.length < lim then (match hold e s with
        | (x, s1) => .ok (evP .non) (s1.set n (.lst (l ++ [x])))) else .stk
    | _ => .stk
  | .extend, .v (.r n), [e] => match s[n]?, e with
    | some (.lst l), .o (.lst k) => if l.length + k.length ≤ lim then .ok (evP .non) (s.set n (.lst (l ++ k))) else .stk
    | _, _ => .stk
  | .pop, .v (.r n), [] => match s[n]? with
    | some (.lst l) => match l.getLast? with
      | some x => .ok (.v x) (s.set n (.lst l.dropLast))
      | none => .stk
    | _ => .stk
  | .index, o, [.v (.p (.str z))] => match tupOf o with
    | some l => match allStr l with
      | some zs => match idxS z zs 0 with
        | some k => .ok (evP (.int k)) s
        | none => .stk
      | none => .stk
    | none => .stk
  | _, _, _ => .stk
def tyP (t : TyN) : PV → Bool
  | .non => false
  | .bl _ => match t with | .bool => true | .int => true | _ => false
  | .int _ => match t with | .int => true | _ => false
  | .str _ => match t with | .str => true | _ => false
  | .tup _ => match t with | .tuple => true | _ => false
  | .lst _ => match t with | .list => true | _ => false
def typeIs (t : TyN) (e : EV) (s : Sto) : Option Bool := match view e s with
  | some p => some (tyP t p)
  | none => none
/-- the receiver is of the method's type -/
def meTy (m : ME) (e : EV) (s : Sto) : Bool := match m with
  | .index => match tupOf e with
    | some _ => true
    | none => false
  | _ => match objOf e s with
    | some (.lst _) => true
    | _ => false
def lookF (x : Nat) : List (Nat × MV) → Option MV
  | [] => none
  | (y, v) :: r => if x = y then some v else lookF x r
def putFM (x : Nat) (v : MV) : List (Nat × MV) → List (Nat × MV)
  | [] => [(x, v)]
  | (y, u) :: r => if y = x then (y, v) :: r else (y, u) :: putFM x v r
structure FD where
  n : Nat
  np : Nat
  body : MSs
structure Prg where
  fs : List FD
  glob : List (Option MV)
  meth : Nat → Nat → Option Nat
  init : Nat → Option Nat
  /-- does a raised class match the one that a clause names -/
  exm : Nat → Nat → Option Bool
def rngOf : List EV → Option Src
  | [.v (.p (.int j))] => if -(2 ^ 62) ≤ j ∧ j < 2 ^ 62 then some (.rg 0 1 j.toNat) else none
  | [.v (.p (.int i)), .v (.p (.int j))] => if -(2 ^ 62) ≤ i ∧ i < 2 ^ 62 ∧ -(2 ^ 62) ≤ j ∧ j < 2 ^ 62 then some (.rg i 1 (j - i).toNat) else none
  | _ => none
/-- a dict comprehension's turn -/
def turnD (env : Env) (tg : MT) (cond : Env → Sto → Res Bool) (kx vx : Env → Sto → Res EV) (x : MV) (s : Sto) : Res (Option (List Nat × MV)) := match setT tg x env with
  | none => .stk
  | some env1 => (noX (cond env1 s)).bind fun b s1 => if b then (noX (kx env1 s1)).bind (fun y s2 => (noX (vx env1 s2)).bind fun z s3 => match kstr y with
      | some k => .ok (some (k, (hold z s3).1)) (hold z s3).2
      | none => .stk) else .ok none s1
/-- the items of a clause's turn: the target set, the test asked, the element held -/
def turnE (env : Env) (tg : MT) (cond : Env → Sto → Res Bool) (elt : Env → Sto → Res (List MV)) (x : MV) (s : Sto) : Res (List MV) := match setT tg x env with
  | none => .stk
  | some env1 => (noX (cond env1 s)).bind fun b s1 => if b then noX (elt env1 s1) else .ok [] s1
/-- an expression as a test -/
def tst (r : Res EV) : Res Bool := r.bind fun x s1 => optR (truth x s1) s1
mutual
def evE (P : Prg) (C : Nat → List MV → Sto → Res EV) : MX → Env → Sto → Res EV
  | .var i, env, s => match env[i]? with
    | some (some m) => .ok (.v m) s
    | _ => .stk
  | .lit v, env, s => .ok (evP v) s
  | .glb x, env, s => match P.glob[x]? with
    | some (some m) => .ok (.v m) s
    | _ => .stk
  | .tup es, env, s => (evL P C es env s).bind fun l s1 => match holdAll l s1 with
    | (ms, s2) => if ms.length ≤ lim then .ok (.v (mkTup ms)) s2 else .stk
  | .lst es, env, s => (evL P C es env s).bind fun l s1 => match holdAll l s1 with
    | (ms, s2) => if ms.length ≤ lim then .ok (.o (.lst ms)) s2 else .stk
  | .dic _ _, _, _ => .stk
  | .bin op a b, env, s => (evE P C a env s).bind fun x s1 => (evE P C b env s1).bind fun y s2 => binop op x y s2
  | .cmp op a b, env, s => (evE P C a env s).bind fun x s1 => (evE P C b env s1).bind fun y s2 => match cmpop op x y s2 with
    | some b => .ok (bl b) s2
    | none => .stk
  | .chn o1 o2 a b c, env, s => (evE P C a env s).bind fun x s1 => (evE P C b env s1).bind fun y s2 => match cmpop o1 x y s2 with
    | some true => (evE P C c env s2).bind fun z s3 => match cmpop o2 y z s3 with
      | some b => .ok (bl b) s3
      | none => .stk
    | some false => .ok (bl false) s2
    | none => .stk
  | .and a b, env, s => (evE P C a env s).bind fun x s1 => match truth x s1 with
    | some true => evE P C b env s1
    | some false => .ok x s1
    | none => .stk
  | .or a b, env, s => (evE P C a env s).bind fun x s1 => match truth x s1 with
    | some true => .ok x s1
    | some false => evE P C b env s1
    | none => .stk
  | .not a, env, s => (evE P C a env s).bind fun x s1 => match truth x s1 with
    | some b => .ok (bl (!b)) s1
    | none => .stk
  | .neg a, env, s => (evE P C a env s).bind fun x s1 => match x with
    | .v (.p (.int i)) => .ok (evP (.int (-i))) s1
    | _ => .stk
  | .ite c a b, env, s => (tst (evE P C c env s)).bind fun k s1 => if k then evE P C a env s1 else evE P C b env s1
  | .ix a i, env, s => (evE P C a env s).bind fun x s1 => (evE P C i env s1).bind fun y s2 => optR (index x y s2) s2
  | .slf a lo, env, s => (evE P C a env s).bind fun x s1 => (evE P C lo env s1).bind fun y s2 => match y with
    | .v (.p (.int i)) => optR (slice x (some i) none s2) s2
    | _ => .stk
  | .slt a hi, env, s => (evE P C a env s).bind fun x s1 => (evE P C hi env s1).bind fun y s2 => match y with
    | .v (.p (.int i)) => optR (slice x none (some i) s2) s2
    | _ => .stk
  | .slb a lo hi, env, s => (evE P C a env s).bind fun x s1 => (evE P C lo env s1).bind fun y s2 => match y with
    | .v (.p (.int i)) => (evE P C hi env s2).bind fun z s3 => match z with
      | .v (.p (.int j)) => optR (slice x (some i) (some j) s3) s3
      | _ => .stk
    | _ => .stk
  | .call f es, env, s => (evL P C es env s).bind fun l s1 => match holdAll l s1 with
    | (ms, s2) => doCall C f ms s2
  | .cv i es, env, s => match env[i]? with
    | some (some (.f g)) => if g < P.fs.length then (evL P C es env s).bind fun l s1 => match holdAll l s1 with
      | (ms, s2) => doCall C g ms s2 else .stk
    | _ => .stk
  | .bi b es, env, s => (evL P C es env s).bind fun l s1 => biF b l s1
  | .isi a t, env, s => (evE P C a env s).bind fun x s1 => match typeIs t x s1 with
    | some b => .ok (bl b) s1
    | none => .stk
  | .me m o es, env, s => (evE P C o env s).bind fun x s1 => if meTy m x s1 then (evL P C es env s1).bind fun l s2 => mef m x l s2 else .stk
  | .mk c es, env, s => match P.init c with
    | some f => (evL P C es env s).bind fun l s1 => match holdAll l s1 with
      | (ms, s2) => match C f (.r s2.length :: ms) (s2 ++ [.ins c []]) with
        | .ok (.v (.p .non)) s3 => .ok (.v (.r s2.length)) s3
        | _ => .stk
    | none => .stk
  | .um m o es, env, s => (evE P C o env s).bind fun x s1 => match x with
    | .v (.r n) => match s1[n]? with
      | some (.ins c fs) => match P.meth c m with
        | some f => (evL P C es env s1).bind fun l s2 => match holdAll l s2 with
          | (ms, s3) => C f (.r n :: ms) s3
        | none => .stk
      | _ => .stk
    | _ => .stk
  | .fld o x, env, s => (evE P C o env s).bind fun v s1 => match v with
    | .v (.r n) => match s1[n]? with
      | some (.ins c fs) => match P.init c with
        | some _ => match lookF x fs with
          | some m => .ok (.v m) s1
          | none => .stk
        | none => .stk
      | _ => .stk
    | _ => .stk
  | .lc elt tg it cs own, env, s => (evI P C it env s).bind fun src s0 =>
      (noX (lcGo src (turnE (wipeE env own) tg (fun e1 s1 => evC P C cs e1 s1) (fun e1 s1 => (evE P C elt e1 s1).bind fun r s2 => .ok [(hold r s2).1] (hold r s2).2)) wfuel 0 s0)).bind fun l s3 =>
        if l.length ≤ lim then .ok (.o (.lst l)) s3 else .stk
  | .lc2 elt tg it cs tg2 it2 cs2 own own2, env, s => (evI P C it env s).bind fun src s0 =>
      (noX (lcGo src (turnE (wipeE env own) tg (fun e1 s1 => evC P C cs e1 s1) (fun e1 s1 => (evI P C it2 e1 s1).bind fun src2 s2 =>
        lcGo src2 (turnE (wipeE e1 own2) tg2 (fun e2 s3 => evC P C cs2 e2 s3) (fun e2 s3 => (evE P C elt e2 s3).bind fun r s4 => .ok [(hold r s4).1] (hold r s4).2)) wfuel 0 s2)) wfuel 0 s0)).bind fun l s3 =>
        if l.length ≤ lim then .ok (.o (.lst l)) s3 else .stk
  | .dcp kx vx tg it cs own, env, s => (evI P C it env s).bind fun src s0 =>
      (noX (dcGo src (turnD (wipeE env own) tg (fun e1 s1 => evC P C cs e1 s1) (fun e1 s1 => evE P C kx e1 s1) (fun e1 s1 => evE P C vx e1 s1)) wfuel 0 [] s0)).bind fun l s3 =>
        if l.length < lim then .ok (.o (.dic l)) s3 else .stk
  | .lock i e, env, s => match env[i]? with
    | some (some (.r n)) => match s[n]? with
      | some (.dic l) => (noX (evE P C e env (s.set n (.lck l)))).bind fun r s1 => match s1[n]? with
        | some (.lck k) => .ok r (s1.set n (.dic k))
        | _ => .stk
      | _ => .stk
    | _ => .stk
  | .dix o k, env, s => (evE P C o env s).bind fun x s1 => (evE P C k env s1).bind fun y s2 => match dicOf x s2, kstr y with
    | some l, some z => optR ((dget z l).map .v) s2
    | _, _ => .stk
  | .dg1 o k, env, s => (evE P C o env s).bind fun x s1 => match dicOf x s1 with
    | some _ => (evE P C k env s1).bind fun y s2 => match dicOf x s2, kstr y with
      | some l, some z => .ok (.v ((dget z l).getD (.p .non))) s2
      | _, _ => .stk
    | none => .stk
  | .dg2 o k d, env, s => (evE P C o env s).bind fun x s1 => match dicOf x s1 with
    | some _ => (evE P C k env s1).bind fun y s2 => (evE P C d env s2).bind fun w s3 => match dicOf x s3, kstr y with
      | some l, some z => (match dget z l with
        | some v => .ok (.v v) s3
        | none => .ok w s3)
      | _, _ => .stk
    | none => .stk
  | .din k o, env, s => (evE P C k env s).bind fun y s1 => (evE P C o env s1).bind fun x s2 => match dicOf x s2, kstr y with
    | some l, some z => .ok (bl (dget z l).isSome) s2
    | _, _ => .stk
  | .dnin k o, env, s => (evE P C k env s).bind fun y s1 => (evE P C o env s1).bind fun x s2 => match dicOf x s2, kstr y with
    | some l, some z => .ok (bl (!(dget z l).isSome)) s2
    | _, _ => .stk
  | .fst _, _, _ => .stk
  | .dsp ks vs, env, s => (evL P C vs env s).bind fun l s1 => match holdAll l s1 with
    | (ms, s2) => if ks.length = ms.length ∧ ks.length ≤ 15 then .ok (.o (.dic ((ks.zip ms).foldl (fun acc q => dput q.1 q.2 acc) []))) s2 else .stk
  | .dadd d k v, env, s => (evE P C d env s).bind fun x s1 => match objOf x s1 with
    | some (.dic l) => (evE P C k env s1).bind fun y s2 => (evE P C v env s2).bind fun z s3 => match kstr y with
      | some q => if l.length < 1000 then .ok (.o (.dic ((l ++ [(q, (hold z s3).1)]).foldl (fun acc q => dput q.1 q.2 acc) []))) (hold z s3).2 else .stk
      | none => .stk
    | _ => .stk
def evL (P : Prg) (C : Nat → List MV → Sto → Res EV) : MXs → Env → Sto → Res (List EV)
  | .nil, env, s => .ok [] s
  | .cons e r, env, s => (evE P C e env s).bind fun x s1 => (evL P C r env s1).bind fun l s2 => .ok (x :: l) s2
def evC (P : Prg) (C : Nat → List MV → Sto → Res EV) : MXs → Env → Sto → Res Bool
  | .nil, env, s => .ok true s
  | .cons e .nil, env, s => tst (evE P C e env s)
  | _, _, _ => .stk
def evI (P : Prg) (C : Nat → List MV → Sto → Res EV) : MI → Env → Sto → Res Src
  | .ex e, env, s => (evE P C e env s).bind fun x s1 => match sqOf x s1 with
    | some q => .ok (.sq q) s1
    | none => match strSq x with
      | some q => .ok (.sq q) s1
      | none => .stk
  | .rng es, env, s => (evL P C es env s).bind fun l s1 => optR (rngOf l) s1
  | .enum e, env, s => (evE P C e env s).bind fun x s1 => match sqL x s1 with
    | some q => .ok (.en q) s1
    | none => .stk
  | .zip a b, env, s => (evE P C a env s).bind fun x s1 => (evE P C b env s1).bind fun y s2 => match sqL x s2, sqL y s2 with
    | some q, some r => .ok (.zp q r) s2
    | _, _ => match tupOf x, tupOf y with
      | some l, some k => .ok (.zt l k) s2
      | _, _ => .stk
  | .rev e, env, s => (evE P C e env s).bind fun x s1 => match lstOf x s1, sqL x s1 with
    | some l, some q => .ok (.rv q l.length) s1
    | _, _ => .stk
  | .items e, env, s => (evE P C e env s).bind fun x s1 => match objOf x s1 with
    | some (.lck l) => .ok (.its l) s1
    | _ => .stk
  | .vals e, env, s => (evE P C e env s).bind fun x s1 => match objOf x s1 with
    | some (.lck l) => .ok (.vls l) s1
    | _ => .stk
end
end Mn
end
section
/-! Mn3: statements, defs. -/
namespace Mn
open PySem
def RS.bindE {α : Type} (r : Res α) (env : Env) (f : α → Sto → RS) : RS := match r with
  | .ok a s => f a s
  | .exc c x s => .exc c x env s
  | .stk => .stk
def RS.seq (r : RS) (f : Env → Sto → RS) : RS := match r with
  | .ok .nx e s => f e s
  | r => r
/-- a while's turns -/
def whGo (c : Env → Sto → Res Bool) (b : Env → Sto → RS) : Nat → Env → Sto → RS
  | 0, _, _ => .stk
  | k + 1, e, s => RS.bindE (c e s) e fun t s1 => if t then (match b e s1 with
      | .ok .nx e2 s2 => whGo c b k e2 s2
      | .ok .ct e2 s2 => whGo c b k e2 s2
      | .ok .bk e2 s2 => .ok .nx e2 s2
      | r => r) else .ok .nx e s1
def foGo (src : Src) (tg : MT) (b : Env → Sto → RS) : Nat → Nat → Env → Sto → RS
  | 0, _, _, _ => .stk
  | k + 1, i, e, s => match itm src s i with
    | none => .stk
    | some none => .ok .nx e s
    | some (some x) => match setT tg x e with
      | none => .stk
      | some e1 => match b e1 s with
        | .ok .nx e2 s2 => foGo src tg b k (i + 1) e2 s2
        | .ok .ct e2 s2 => foGo src tg b k (i + 1) e2 s2
        | .ok .bk e2 s2 => .ok .nx e2 s2
        | r => r
/-- o[i] = v -/
def setIx (o i : EV) (v : MV) (s : Sto) : Option Sto := match o, i with
  | .v (.r n), .v (.p (.int k)) => match s[n]? with
    | some (.lst l) => (ixN l.length k).map fun j => s.set n (.lst (l.set j v))
    | _ => none
  | _, _ => none
def stOr (o : Option Sto) (f : Sto → RS) : RS := match o with
  | some s => f s
  | none => .stk
/-- the clauses of a try: each hands back a constant -/
def evH (P : Prg) (c : Nat) (x : Option Int) : List (Nat × PV) → Env → Sto → RS
  | [], env, s => .exc c x env s
  | (d, v) :: r, env, s => match P.exm c d with
    | some true => .ok (.rt (evP v)) env s
    | some false => evH P c x r env s
    | none => .stk
mutual
def evS (P : Prg) (C : Nat → List MV → Sto → Res EV) : MS → Env → Sto → RS
  | .asg t e, env, s => RS.bindE (evE P C e env s) env fun x s1 => match setT t (hold x s1).1 env with
    | some env1 => .ok .nx env1 (hold x s1).2
    | none => .stk
  | .par i j a b, env, s => RS.bindE (evL P C (.cons a (.cons b .nil)) env s) env fun l s1 => match holdAll l s1 with
    | ([u, v], s3) => .ok .nx ((env.set i (some u)).set j (some v)) s3
    | _ => .stk
  | .sub o i e, env, s => RS.bindE (evE P C e env s) env fun x s1 => RS.bindE (evE P C o env s1) env fun y s2 => RS.bindE (evE P C i env s2) env fun z s3 => stOr (setIx y z (hold x s3).1 (hold x s3).2) fun s5 => .ok .nx env s5
  | .dsub o k e, env, s => RS.bindE (evE P C e env s) env fun x s1 => RS.bindE (evE P C o env s1) env fun y s2 => RS.bindE (evE P C k env s2) env fun z s3 => match y, kstr z with
    | .v (.r n), some q => match (hold x s3).2[n]? with
      | some (.dic l) => if l.length < lim then .ok .nx env ((hold x s3).2.set n (.dic (dput q (hold x s3).1 l))) else .stk
      | _ => .stk
    | _, _ => .stk
  | .fst o f e, env, s => RS.bindE (evE P C e env s) env fun x s1 => RS.bindE (evE P C o env s1) env fun y s2 => match y with
    | .v (.r n) => match s2[n]? with
      | some (.ins c fs) => if fs.length < 900 ∧ (P.init c).isSome = true then .ok .nx env ((hold x s2).2.set n (.ins c (putFM f (hold x s2).1 fs))) else .stk
      | _ => .stk
    | _ => .stk
  | .aug i sg e, env, s => match env[i]? with
    | some (some (.p (.int a))) => RS.bindE (evE P C e env s) env fun y s1 => match y with
      | .v (.p (.int b)) => .ok .nx (env.set i (some (.p (.int (if sg then a + b else a - b))))) s1
      | _ => .stk
    | _ => .stk
  | .augm i ml e, env, s => match env[i]? with
    | some (some (.p (.int a))) => RS.bindE (evE P C e env s) env fun y s1 => match y with
      | .v (.p (.int b)) => if ml then (if small a || small b then .ok .nx (env.set i (some (.p (.int (a * b))))) s1 else .stk) else (if 0 < b ∧ b < 1073741824 then .ok .nx (env.set i (some (.p (.int (a / b))))) s1 else .stk)
      | _ => .stk
    | _ => .stk
  | .ex e, env, s => RS.bindE (evE P C e env s) env fun _ s1 => .ok .nx env s1
  | .iff c a b, env, s => RS.bindE (tst (evE P C c env s)) env fun k s1 => if k then evSs P C a env s1 else evSs P C b env s1
  | .whl c b, env, s => whGo (fun e s => tst (evE P C c e s)) (fun e s => evSs P C b e s) wfuel env s
  | .forr t it b, env, s => RS.bindE (evI P C it env s) env fun src s1 => foGo src t (fun e s => evSs P C b e s) wfuel 0 env s1
  | .ret e, env, s => RS.bindE (evE P C e env s) env fun x s1 => .ok (.rt x) env s1
  | .retN, env, s => .ok (.rt (evP .non)) env s
  | .brk, env, s => .ok .bk env s
  | .cnt, env, s => .ok .ct env s
  | .pass, env, s => .ok .nx env s
  | .rse c, env, s => match P.exm c c with
    | some _ => .exc c none env s
    | none => .stk
  | .tri b h, env, s => match evSs P C b env s with
    | .exc c x e1 s1 => evH P c x h e1 s1
    | r => r
def evSs (P : Prg) (C : Nat → List MV → Sto → Res EV) : MSs → Env → Sto → RS
  | .nil, env, s => .ok .nx env s
  | .cons a r, env, s => (evS P C a env s).seq fun e1 s1 => evSs P C r e1 s1
end
/-- a def's run -/
def runFn (P : Prg) (C : Nat → List MV → Sto → Res EV) (d : FD) (ms : List MV) (s : Sto) : Res EV :=
  if ms.length = d.np then match evSs P C d.body (ms.map some ++ List.replicate (d.n - ms.length) none) s with
    | .ok .nx _ s1 => .ok (evP .non) s1
    | .ok (.rt r) _ s1 => .ok r s1
    | .ok _ _ _ => .stk
    | .exc c x _ s1 => .exc c x s1
    | .stk => .stk
  else .stk
def callM (P : Prg) : Nat → Nat → List MV → Sto → Res EV
  | 0, _, _, _ => .stk
  | k + 1, f, ms, s => match P.fs[f]? with
    | some d => runFn P (callM P k) d ms s
    | none => .stk
end Mn
end
section
set_option autoImplicit false
/-! Mn4: how Mini's values and store stand in the abstract heap of the hand layer. -/
namespace Mn
open PySem L2
/-- what is fixed through a law: the written part, the addresses of the defs and the classes by their numbers -/
structure G where
  w : World
  K : PySem.W.Frag
  fnA : Nat → Addr
  clA : Nat → Addr
  fld : Nat → Str
def toStr (l : List Nat) : Str := ⟨l.toArray⟩
mutual
def PV.d : PV → PyData
  | .non => .none
  | .bl b => .bool b
  | .int i => .int i
  | .str l => .str (toStr l)
  | .tup l => .tuple (PV.ds l)
  | .lst l => .list (PV.ds l)
def PV.ds : List PV → List PyData
  | [] => []
  | a :: r => PV.d a :: PV.ds r
end
/-- a value stands for data without lists -/
inductive PR (K : PySem.W.Frag) (H : Hp) : V → PV → Prop
  | non : PR K H .non .non
  | bl (b : Bool) : PR K H (.bl b) (.bl b)
  | int (i : Int) : PR K H (.int i) (.int i)
  | str (l : List Nat) : PR K H (.str (toStr l)) (.str l)
  | tup {a : Addr} {xs : List V} {l : List PV} (h : SqN K H a xs) (len : xs.length = l.length) (r : ∀ (i : Nat) (x : V) (p : PV), xs[i]? = some x → l[i]? = some p → PR K H x p) : PR K H (.ref a) (.tup l)
/-- a list that nobody changes: known to the object, or of the written part -/
def WL (K : PySem.W.Frag) (H : Hp) (a : Addr) (xs : List V) : Prop := (∃ o, H a = some (.frz o (.lst xs))) ∨ ∀ H', SqL K H' a xs
theorem WL.sq {K : PySem.W.Frag} {H : Hp} {a : Addr} {xs : List V} (h : WL K H a xs) : SqL K H a xs := h.elim (fun ⟨o, h⟩ => .inl (.inr ⟨o, h⟩)) fun h => h H
/-- .. for a value of Mini; ρ: where the store's objects stand -/
inductive VR (g : G) (ρ : List Addr) (H : Hp) : V → MV → Prop
  | p {v : V} {x : PV} (h : PR g.K H v x) : VR g ρ H v (.p x)
  | r {a : Addr} {n : Nat} (h : ρ[n]? = some a) : VR g ρ H (.ref a) (.r n)
  | t {a : Addr} {xs : List V} {l : List MV} (h : SqN g.K H a xs) (len : xs.length = l.length) (r : ∀ (i : Nat) (x : V) (m : MV), xs[i]? = some x → l[i]? = some m → VR g ρ H x m) : VR g ρ H (.ref a) (.t l)
  | f (i : Nat) : VR g ρ H (.ref (g.fnA i)) (.f i)
  | w {a : Addr} {xs : List V} {l : List MV} (h : WL g.K H a xs) (len : xs.length = l.length) (r : ∀ (i : Nat) (x : V) (m : MV), xs[i]? = some x → l[i]? = some m → VR g ρ H x m) : VR g ρ H (.ref a) (.w l)
def VRs (g : G) (ρ : List Addr) (H : Hp) (xs : List V) (l : List MV) : Prop := xs.length = l.length ∧ ∀ (i : Nat) (x : V) (m : MV), xs[i]? = some x → l[i]? = some m → VR g ρ H x m
/-- a dict's key; a set of texts -/
def keyS (z : List Nat) : Key := .inr (toStr z)
/-- a dict's table -/
def DK (g : G) (ρ : List Addr) (H : Hp) (kvs : List (Key × V)) (l : List (List Nat × MV)) : Prop := kvs.map (·.1) = l.map (fun q => keyS q.1) ∧ VRs g ρ H (kvs.map (·.2)) (l.map (·.2)) ∧ (l.map (·.1)).Nodup
def setO (w : World) (a : Addr) (zs : List Str) : HO := .ext fun h => SetTx w h a zs
/-- an object -/
def OR (g : G) (ρ : List Addr) (H : Hp) (a : Addr) : MO → Prop
  | .lst l => ∃ xs, H a = some (.lst xs) ∧ VRs g ρ H xs l
  | .ins c fs => ∃ dx gs, H a = some (.ins (g.clA c) dx gs) ∧ gs.map (·.1) = fs.map (fun q => g.fld q.1) ∧ VRs g ρ H (gs.map (·.2)) (fs.map (·.2))
  | .dic l => ∃ kvs : List (Key × V), H a = some (.dK kvs) ∧ DK g ρ H kvs l
  | .lck l => ∃ (ob : Obj) (kvs : List (Key × V)), H a = some (.frz ob (.dK kvs)) ∧ DK g ρ H kvs l
  | .set l => ∃ zs : List Str, H a = some (setO g.w a zs) ∧ l = zs.map fun z => .str z.cps.toList
/-- the store -/
structure SR (g : G) (ρ : List Addr) (st : Sto) (H : Hp) : Prop where
  nd : ρ.Nodup
  len : ρ.length = st.length
  at_ : ∀ (n : Nat) (a : Addr) (o : MO), ρ[n]? = some a → st[n]? = some o → OR g ρ H a o
/-- what runs: the heap grows, the store's objects may change -/
structure Ext (ρ : List Addr) (H : Hp) (ρ' : List Addr) (H' : Hp) : Prop where
  pre : ∃ l, ρ' = ρ ++ l
  new : ∀ a ∈ ρ', a ∉ ρ → H a = none
  keep : ∀ a o, H a = some o → a ∉ ρ → H' a = some o
  tup : ∀ a xs, H a = some (.tup xs) → H' a = some (.tup xs)
  frz : ∀ a o u, H a = some (.frz o u) → H' a = some (.frz o u)
  dom : ∀ a, H' a = none → H a = none
theorem Ext.refl {ρ : List Addr} {H : Hp} : Ext ρ H ρ H := ⟨⟨[], by simp⟩, fun a h1 h2 => absurd h1 h2, fun _ _ h _ => h, fun _ _ h => h, fun _ _ _ h => h, fun _ h => h⟩
theorem Ext.trans {ρ ρ1 ρ2 : List Addr} {H H1 H2 : Hp} (a : Ext ρ H ρ1 H1) (b : Ext ρ1 H1 ρ2 H2) : Ext ρ H ρ2 H2 := by
  obtain ⟨l1, e1⟩ := a.pre
  obtain ⟨l2, e2⟩ := b.pre
  refine ⟨⟨l1 ++ l2, by rw [e2, e1, List.append_assoc]⟩, fun x hx hn => ?_, fun x o e hn => ?_, fun x xs e => b.tup x xs (a.tup x xs e), fun x o u e => b.frz x o u (a.frz x o u e), fun x e => a.dom x (b.dom x e)⟩
  · by_cases h : x ∈ ρ1
    · exact a.new x h hn
    · exact a.dom x (b.new x hx h)
  · refine b.keep x o (a.keep x o e hn) fun h => ?_
    have := a.new x h hn
    rw [e] at this; cases this
theorem Ext.sqT {K : PySem.W.Frag} {ρ ρ' : List Addr} {H H' : Hp} (e : Ext ρ H ρ' H') {a : Addr} {xs : List V} (h : SqT K H a xs) : SqT K H' a xs := by
  rcases h with h | h
  · rcases h with h | ⟨o, h⟩
    · exact .inl (.inl (e.tup _ _ h))
    · exact .inl (.inr ⟨o, e.frz _ _ _ h⟩)
  · exact .inr h
theorem Ext.sqN {K : PySem.W.Frag} {ρ ρ' : List Addr} {H H' : Hp} (e : Ext ρ H ρ' H') {a : Addr} {xs : List V} (h : SqN K H a xs) : SqN K H' a xs := h.imp (fun ⟨ob, h, d⟩ => ⟨ob, e.frz _ _ _ h, d⟩) id
theorem Ext.get {ρ ρ' : List Addr} {H H' : Hp} (e : Ext ρ H ρ' H') {n : Nat} {a : Addr} (h : ρ[n]? = some a) : ρ'[n]? = some a := by
  obtain ⟨l, rfl⟩ := e.pre
  rw [List.getElem?_append_left (by exact (List.getElem?_eq_some_iff.mp h).1)]; exact h
theorem PR.mono {K : PySem.W.Frag} {ρ ρ' : List Addr} {H H' : Hp} (e : Ext ρ H ρ' H') {v : V} {x : PV} (h : PR K H v x) : PR K H' v x := by
  induction h with
  | non => exact .non
  | bl b => exact .bl b
  | int i => exact .int i
  | str l => exact .str l
  | tup h len _ ih => exact .tup (e.sqN h) len ih
theorem VR.mono {g : G} {ρ ρ' : List Addr} {H H' : Hp} (e : Ext ρ H ρ' H') {v : V} {x : MV} (h : VR g ρ H v x) : VR g ρ' H' v x := by
  induction h with
  | p h => exact .p (h.mono e)
  | r h => exact .r (e.get h)
  | t h len _ ih => exact .t (e.sqN h) len ih
  | f i => exact .f i
  | w h len _ ih => exact .w (h.elim (fun ⟨o, h⟩ => .inl ⟨o, e.frz _ _ _ h⟩) .inr) len ih
theorem VRs.mono {g : G} {ρ ρ' : List Addr} {H H' : Hp} (e : Ext ρ H ρ' H') {v : List V} {x : List MV} (h : VRs g ρ H v x) : VRs g ρ' H' v x := ⟨h.1, fun i x m h1 h2 => (h.2 i x m h1 h2).mono e⟩
/-- an object that is not the store's -/
theorem OR.mono {g : G} {ρ ρ' : List Addr} {H H' : Hp} (e : Ext ρ H ρ' H') {a : Addr} {o : MO} (ha : ∀ u, H a = some u → H' a = some u) (h : OR g ρ H a o) : OR g ρ' H' a o := by
  cases o with
  | lst l => obtain ⟨xs, h1, h2⟩ := h; exact ⟨xs, ha _ h1, h2.mono e⟩
  | ins c fs => obtain ⟨dx, gs, h1, h2, h3⟩ := h; exact ⟨dx, gs, ha _ h1, h2, h3.mono e⟩
  | dic _ => obtain ⟨kvs, h1, h2, h3, h4⟩ := h; exact ⟨kvs, ha _ h1, h2, h3.mono e, h4⟩
  | set _ => obtain ⟨zs, h1, h2⟩ := h; exact ⟨zs, ha _ h1, h2⟩
  | lck _ => obtain ⟨ob, kvs, h1, h2, h3, h4⟩ := h; exact ⟨ob, kvs, ha _ h1, h2, h3.mono e, h4⟩
/-- a result; H0: the heap ahead of it -/
def ER (g : G) (H0 : Hp) (ρ : List Addr) (H : Hp) (v : V) : EV → Prop
  | .v m => VR g ρ H v m
  | .o o => ∃ a, v = .ref a ∧ a ∉ ρ ∧ H0 a = none ∧ H a ≠ none ∧ OR g ρ H a o
theorem ER.mono {g : G} {ρ ρ' : List Addr} {H0 H H' : Hp} (e : Ext ρ H ρ' H') {v : V} {x : EV} (h : ER g H0 ρ H v x) : ER g H0 ρ' H' v x := by
  cases x with
  | v m => exact VR.mono e h
  | o o =>
    obtain ⟨a, rfl, hn, h0, hd, ho⟩ := h
    exact ⟨a, rfl, fun h => hd (e.new a h hn), h0, fun h => hd (e.dom a h), ho.mono e fun u hu => e.keep a u hu hn⟩
theorem ER.back {g : G} {ρ : List Addr} {H0 H1 H : Hp} (d : ∀ a, H1 a = none → H0 a = none) {v : V} {x : EV} (h : ER g H1 ρ H v x) : ER g H0 ρ H v x := by
  cases x with
  | v m => exact h
  | o o =>
    obtain ⟨a, rfl, hn, h0, hd, ho⟩ := h
    exact ⟨a, rfl, hn, d a h0, hd, ho⟩
/-- the address of a new object -/
def tmp : V → EV → Option Addr
  | .ref a, .o _ => some a
  | _, _ => none
/-- several results; their new objects are apart -/
inductive ERs (g : G) (H0 : Hp) (ρ : List Addr) (H : Hp) : List V → List EV → Prop
  | nil : ERs g H0 ρ H [] []
  | cons {v : V} {x : EV} {vs : List V} {xs : List EV} (h : ER g H0 ρ H v x) (ap : ∀ a, tmp v x = some a → ∀ (i : Nat) (u : V) (y : EV), vs[i]? = some u → xs[i]? = some y → tmp u y ≠ some a) (r : ERs g H0 ρ H vs xs) : ERs g H0 ρ H (v :: vs) (x :: xs)
theorem ERs.mono {g : G} {ρ ρ' : List Addr} {H0 H H' : Hp} (e : Ext ρ H ρ' H') {v : List V} {x : List EV} (h : ERs g H0 ρ H v x) : ERs g H0 ρ' H' v x := by
  induction h with
  | nil => exact .nil
  | cons h ap _ ih => exact .cons (h.mono e) ap ih
theorem ERs.back {g : G} {ρ : List Addr} {H0 H1 H : Hp} (d : ∀ a, H1 a = none → H0 a = none) {v : List V} {x : List EV} (h : ERs g H1 ρ H v x) : ERs g H0 ρ H v x := by
  induction h with
  | nil => exact .nil
  | cons h ap _ ih => exact .cons (h.back d) ap ih
/-- the names' values -/
def NR (g : G) (ρ : List Addr) (H : Hp) (σ : St) (env : Env) : Prop := σ.length = env.length ∧ ∀ (i : Nat) (m : MV), env[i]? = some (some m) → ∃ v, σ[i]? = some (some v) ∧ VR g ρ H v m
theorem NR.mono {g : G} {ρ ρ' : List Addr} {H H' : Hp} (e : Ext ρ H ρ' H') {σ : St} {env : Env} (h : NR g ρ H σ env) : NR g ρ' H' σ env := ⟨h.1, fun i m hi => by
  obtain ⟨v, h1, h2⟩ := h.2 i m hi
  exact ⟨v, h1, h2.mono e⟩⟩
/-! ### the store's steps -/
section
variable {g : G} {ρ ρ' : List Addr} {st : Sto} {H H' H0 : Hp} {a : Addr}
theorem SR.ob (S : SR g ρ st H) {n : Nat} {o : MO} (h : st[n]? = some o) : ∃ a, ρ[n]? = some a ∧ OR g ρ H a o := by
  have hl : n < ρ.length := by rw [S.len]; exact (List.getElem?_eq_some_iff.mp h).1
  exact ⟨ρ[n], List.getElem?_eq_getElem hl, S.at_ n _ o (List.getElem?_eq_getElem hl) h⟩
theorem SR.mem {n : Nat} (h : ρ[n]? = some a) : a ∈ ρ := List.mem_of_getElem? h
/-- the store's objects stay as they are -/
theorem SR.mono (S : SR g ρ st H) (e : Ext ρ H ρ H') (k : ∀ b ∈ ρ, ∀ u, H b = some u → H' b = some u) : SR g ρ st H' :=
  ⟨S.nd, S.len, fun n b o h1 h2 => (S.at_ n b o h1 h2).mono e (k b (List.mem_of_getElem? h1))⟩
/-- a new object, not yet the store's -/
theorem Ext.made {o : HO} (hn : H a = none) : Ext ρ H ρ (upd H a o) :=
  ⟨⟨[], by simp⟩, fun b h1 h2 => absurd h1 h2, fun b u h _ => by rw [upd_ne (ne_of_none h hn)]; exact h, fun b u h => by rw [upd_ne (ne_of_none h hn)]; exact h, fun b u v h => by rw [upd_ne (ne_of_none h hn)]; exact h, fun b h => by
    by_cases e : b = a
    · rw [e]; exact hn
    · rw [upd_ne e] at h; exact h⟩
theorem SR.made {o : HO} (S : SR g ρ st H) (hn : H a = none) : SR g ρ st (upd H a o) :=
  S.mono (Ext.made hn) fun b _ u h => by rw [upd_ne (ne_of_none h hn)]; exact h
/-- the object is the store's from now on -/
theorem SR.push {o : MO} (S : SR g ρ st H) (ha : a ∉ ρ) (h : OR g ρ H a o) (k : ∀ {b : Addr} {u : MO}, OR g ρ H b u → OR g (ρ ++ [a]) H b u) : SR g (ρ ++ [a]) (st ++ [o]) H := by
  refine ⟨?_, by simp [S.len], fun n b u h1 h2 => ?_⟩
  · rw [List.nodup_append]
    exact ⟨S.nd, by simp, fun x hx y hy => by rw [List.mem_singleton] at hy; subst hy; intro e; subst e; exact ha hx⟩
  · by_cases hl : n < ρ.length
    · rw [List.getElem?_append_left hl] at h1
      rw [List.getElem?_append_left (by rw [← S.len]; exact hl)] at h2
      exact k (S.at_ n b u h1 h2)
    · rw [List.getElem?_append_right (by omega)] at h1
      rw [List.getElem?_append_right (by rw [← S.len]; omega)] at h2
      rw [← S.len] at h2
      cases hk : n - ρ.length with
      | zero =>
        rw [hk] at h1 h2
        cases h1; cases h2
        exact k h
      | succ m =>
        rw [hk] at h1
        simp at h1
end
/-- more objects in the store, the heap as it is -/
theorem VR.more {g : G} {ρ : List Addr} {H : Hp} {l : List Addr} {v : V} {x : MV} (h : VR g ρ H v x) : VR g (ρ ++ l) H v x := by
  induction h with
  | p h => exact .p h
  | r h => exact .r (by rw [List.getElem?_append_left (List.getElem?_eq_some_iff.mp h).1]; exact h)
  | t h len _ ih => exact .t h len ih
  | f i => exact .f i
  | w h len _ ih => exact .w h len ih
theorem VRs.more {g : G} {ρ : List Addr} {H : Hp} {l : List Addr} {v : List V} {x : List MV} (h : VRs g ρ H v x) : VRs g (ρ ++ l) H v x := ⟨h.1, fun i x m h1 h2 => (h.2 i x m h1 h2).more⟩
theorem OR.more {g : G} {ρ : List Addr} {H : Hp} {l : List Addr} {a : Addr} {o : MO} (h : OR g ρ H a o) : OR g (ρ ++ l) H a o := by
  cases o with
  | lst l => obtain ⟨xs, h1, h2⟩ := h; exact ⟨xs, h1, h2.more⟩
  | ins c fs => obtain ⟨dx, gs, h1, h2, h3⟩ := h; exact ⟨dx, gs, h1, h2, h3.more⟩
  | dic _ => obtain ⟨kvs, h1, h2, h3, h4⟩ := h; exact ⟨kvs, h1, h2, h3.more, h4⟩
  | set _ => exact h
  | lck _ => obtain ⟨ob, kvs, h1, h2, h3, h4⟩ := h; exact ⟨ob, kvs, h1, h2, h3.more, h4⟩
theorem Ext.more {ρ0 ρ : List Addr} {H0 H : Hp} {a : Addr} (e : Ext ρ0 H0 ρ H) (h0 : H0 a = none) : Ext ρ0 H0 (ρ ++ [a]) H := by
  obtain ⟨l, hl⟩ := e.pre
  refine ⟨⟨l ++ [a], by rw [hl, List.append_assoc]⟩, fun b hb hn => ?_, e.keep, e.tup, e.frz, e.dom⟩
  rcases List.mem_append.mp hb with h | h
  · exact e.new b h hn
  · rw [List.mem_singleton] at h; rw [h]; exact h0
/-- a value is held -/
theorem hold_ok {g : G} {ρ0 ρ : List Addr} {H0 H : Hp} {st : Sto} {v : V} {x : EV} (e : Ext ρ0 H0 ρ H) (S : SR g ρ st H) (h : ER g H0 ρ H v x) :
    ∃ l, Ext ρ0 H0 (ρ ++ l) H ∧ SR g (ρ ++ l) (hold x st).2 H ∧ VR g (ρ ++ l) H v (hold x st).1 ∧ ∀ b ∈ l, tmp v x = some b := by
  cases x with
  | v m => exact ⟨[], by rw [List.append_nil]; exact ⟨e, S, h, fun b hb => absurd hb (by simp)⟩⟩
  | o o =>
    obtain ⟨a, rfl, hn, h0, hd, ho⟩ := h
    refine ⟨[a], e.more h0, S.push hn ho fun h => h.more, ?_, fun b hb => by rw [List.mem_singleton] at hb; rw [hb]; rfl⟩
    refine .r ?_
    show (ρ ++ [a])[st.length]? = some a
    rw [← S.len, List.getElem?_append_right (Nat.le_refl _)]
    simp
theorem ER.more {g : G} {ρ : List Addr} {H0 H : Hp} {l : List Addr} {v : V} {x : EV} (h : ER g H0 ρ H v x) (ap : ∀ b ∈ l, tmp v x ≠ some b) : ER g H0 (ρ ++ l) H v x := by
  cases x with
  | v m => exact VR.more h
  | o o =>
    obtain ⟨a, rfl, hn, h0, hd, ho⟩ := h
    exact ⟨a, rfl, fun h => (List.mem_append.mp h).elim hn fun h => ap a h rfl, h0, hd, ho.more⟩
theorem ERs.more {g : G} {ρ : List Addr} {H0 H : Hp} {l : List Addr} {vs : List V} {xs : List EV} (h : ERs g H0 ρ H vs xs) : (∀ b ∈ l, ∀ (i : Nat) (u : V) (y : EV), vs[i]? = some u → xs[i]? = some y → tmp u y ≠ some b) → ERs g H0 (ρ ++ l) H vs xs := by
  induction h with
  | nil => intro _; exact .nil
  | cons h ap _ ih => exact fun q => .cons (h.more fun b hb => q b hb 0 _ _ rfl rfl) ap (ih fun b hb i u y h1 h2 => q b hb (i + 1) u y h1 h2)
theorem holdAll_ok {g : G} {ρ0 : List Addr} {H0 H : Hp} {vs : List V} {xs : List EV} : ∀ {ρ : List Addr} {st : Sto}, Ext ρ0 H0 ρ H → SR g ρ st H → ERs g H0 ρ H vs xs →
    ∃ l, Ext ρ0 H0 (ρ ++ l) H ∧ SR g (ρ ++ l) (holdAll xs st).2 H ∧ VRs g (ρ ++ l) H vs (holdAll xs st).1 := by
  intro ρ st e S h
  induction xs generalizing vs ρ st with
  | nil =>
    cases h
    exact ⟨[], by rw [List.append_nil]; exact ⟨e, S, rfl, fun i x m h1 _ => by simp at h1⟩⟩
  | cons x xs ih =>
    cases h with
    | cons hx ap hr =>
      rename_i v vs
      obtain ⟨l, e1, S1, r1, t1⟩ := hold_ok e S hx
      obtain ⟨l2, e2, S2, r2⟩ := ih e1 S1 (hr.more fun b hb i u y h1 h2 => ap b (t1 b hb) i u y h1 h2)
      rw [List.append_assoc] at e2 S2 r2
      refine ⟨l ++ l2, e2, S2, congrArg (· + 1) r2.1, fun i z m h1 h2 => ?_⟩
      cases i with
      | zero =>
        cases h1; cases h2
        rw [← List.append_assoc]
        exact r1.more
      | succ i => exact r2.2 i z m h1 h2
/-! ### how a run lands -/
def Lands {α : Type} (g : G) (ρ : List Addr) (H : Hp) (r : Res α) (Q : α → Sto → List Addr → Hp → Prop) (E : Nat → Option Int → Sto → List Addr → Hp → Prop) : Prop := match r with
  | .ok a s => ∀ ρ' H', Ext ρ H ρ' H' → SR g ρ' s H' → Q a s ρ' H'
  | .exc c x s => ∀ ρ' H', Ext ρ H ρ' H' → SR g ρ' s H' → E c x s ρ' H'
  | .stk => False
theorem Lands.from {α : Type} {g : G} {ρ ρ1 : List Addr} {H H1 : Hp} {r : Res α} {Q : α → Sto → List Addr → Hp → Prop} {E : Nat → Option Int → Sto → List Addr → Hp → Prop} (h : Lands g ρ H r Q E) (e : Ext ρ H ρ1 H1) : Lands g ρ1 H1 r Q E := by
  cases r with
  | ok a s => exact fun ρ' H' e' S => h ρ' H' (e.trans e') S
  | exc c x s => exact fun ρ' H' e' S => h ρ' H' (e.trans e') S
  | stk => exact h
/-- what is wished of an exception -/
def XW (g : G) (W : WX) (σ : St) (c : Nat) (x : Option Int) (ρ : List Addr) (H : Hp) : Prop := match x with
  | none => W (.ref (g.clA c)) none σ H
  | some i => ∀ d, H d = some (.xd [(Str.ofString "line", .int i)]) → W (.ref (g.clA c)) (some d) σ H
/-- an expression's reading by its evaluation -/
def tE (g : G) (W : WX) (ev : Env → Sto → Res EV) : TE := fun σ H Q => ∃ ρ st env, SR g ρ st H ∧ NR g ρ H σ env ∧
  Lands g ρ H (ev env st) (fun r _ ρ' H' => ∀ v, ER g H ρ' H' v r → Q v H') (fun c x _ ρ' H' => XW g W σ c x ρ' H')
def tL (g : G) (W : WX) (ev : Env → Sto → Res (List EV)) : TA := fun σ H Q => ∃ ρ st env, SR g ρ st H ∧ NR g ρ H σ env ∧
  Lands g ρ H (ev env st) (fun r _ ρ' H' => ∀ vs, ERs g H ρ' H' vs r → Q vs H') (fun c x _ ρ' H' => XW g W σ c x ρ' H')
def tT (g : G) (W : WX) (ev : Env → Sto → Res Bool) : TT := fun σ H Q => ∃ ρ st env, SR g ρ st H ∧ NR g ρ H σ env ∧
  Lands g ρ H (ev env st) (fun r _ _ H' => Q r H') (fun c x _ ρ' H' => XW g W σ c x ρ' H')
theorem PE.weak {X : Cx} {e : Expr} {t t' : TE} (h : PE X e t) (w : ∀ σ H Q, t' σ H Q → t σ H Q) : PE X e t' := ⟨fun pins s σ H Q I q => h.run pins s σ H Q I (w σ H Q q)⟩
theorem PT.weak {X : Cx} {e : Expr} {t t' : TT} (h : PT X e t) (w : ∀ σ H Q, t' σ H Q → t σ H Q) : PT X e t' := ⟨fun pins s σ H Q I q => h.run pins s σ H Q I (w σ H Q q)⟩
theorem PA.weak {X : Cx} {e : List Expr} {t t' : TA} (h : PA X e t) (w : ∀ σ H Q, t' σ H Q → t σ H Q) : PA X e t' := ⟨fun pos pins s σ H Q I q => h.run pos pins s σ H Q I (w σ H Q q)⟩
theorem PE.or {X : Cx} {e : Expr} {t t' : TE} (h : PE X e t) (h' : PE X e t') : PE X e (fun σ H Q => t σ H Q ∨ t' σ H Q) :=
  ⟨fun pins s σ H Q I q => q.elim (fun q => h.run pins s σ H Q I q) fun q => h'.run pins s σ H Q I q⟩
/-- one part, then what follows by values -/
theorem tE_step {α : Type} {g : G} {W : WX} {ea : Env → Sto → Res EV} {env : Env} {f : EV → Sto → Res α} {σ : St} {ρ : List Addr} {st : Sto} {H : Hp} {Q : α → Sto → List Addr → Hp → Prop} {R : V → Hp → Prop}
    (S : SR g ρ st H) (N : NR g ρ H σ env) (h : Lands g ρ H ((ea env st).bind f) Q (fun c x _ ρ' H' => XW g W σ c x ρ' H'))
    (k : ∀ x st1 ρ1 H1 v, Ext ρ H ρ1 H1 → SR g ρ1 st1 H1 → NR g ρ1 H1 σ env → ER g H ρ1 H1 v x → Lands g ρ H (f x st1) Q (fun c x _ ρ' H' => XW g W σ c x ρ' H') → R v H1) : tE g W ea σ H R := by
  refine ⟨ρ, st, env, S, N, ?_⟩
  cases e : ea env st with
  | ok x st1 =>
    rw [e] at h
    exact fun ρ1 H1 e1 S1 v hv => k x st1 ρ1 H1 v e1 S1 (N.mono e1) hv h
  | exc c x s =>
    rw [e] at h
    exact h
  | stk =>
    rw [e] at h
    exact h
end Mn
end
section
set_option autoImplicit false
set_option maxRecDepth 20000
/-! Mn5: Mini's operations by values keep what the hand layer asks. -/
namespace Mn
open PySem L2
section
variable {g : G} {ρ : List Addr} {st : Sto} {H H0 : Hp} {v : V} {x : EV}
theorem PR.int_inv {K : PySem.W.Frag} {i : Int} (h : PR K H v (.int i)) : v = .int i := by cases h; rfl
theorem PR.str_inv {K : PySem.W.Frag} {l : List Nat} (h : PR K H v (.str l)) : v = .str (toStr l) := by cases h; rfl
theorem PR.bl_inv {K : PySem.W.Frag} {b : Bool} (h : PR K H v (.bl b)) : v = .bl b := by cases h; rfl
theorem PR.non_inv {K : PySem.W.Frag} (h : PR K H v .non) : v = .non := by cases h; rfl
theorem VR.p_inv {p : PV} (h : VR g ρ H v (.p p)) : PR g.K H v p := by cases h; assumption
theorem ER.p_inv {p : PV} (h : ER g H0 ρ H v (.v (.p p))) : PR g.K H v p := VR.p_inv h
theorem ER.int_inv {i : Int} (h : ER g H0 ρ H v (.v (.p (.int i)))) : v = .int i := h.p_inv.int_inv
theorem ER.str_inv {l : List Nat} (h : ER g H0 ρ H v (.v (.p (.str l)))) : v = .str (toStr l) := h.p_inv.str_inv
theorem ER.bl_inv {b : Bool} (h : ER g H0 ρ H v (.v (.p (.bl b)))) : v = .bl b := h.p_inv.bl_inv
theorem ER.non_inv (h : ER g H0 ρ H v (.v (.p .non))) : v = .non := h.p_inv.non_inv
theorem ER.ofP {p : PV} (h : PR g.K H v p) : ER g H0 ρ H v (evP p) := VR.p h
theorem ER.int (i : Int) : ER g H0 ρ H (.int i) (evP (.int i)) := VR.p (.int i)
theorem ER.bl (b : Bool) : ER g H0 ρ H (.bl b) (Mn.bl b) := VR.p (.bl b)
theorem VRs.ofP {xs : List V} {l : List PV} (len : xs.length = l.length) (r : ∀ (i : Nat) (x : V) (p : PV), xs[i]? = some x → l[i]? = some p → PR g.K H x p) : VRs g ρ H xs (l.map .p) := by
  refine ⟨by simpa using len, fun i x m h1 h2 => ?_⟩
  rw [List.getElem?_map] at h2
  cases e : l[i]? with
  | none => rw [e] at h2; cases h2
  | some p => rw [e] at h2; cases h2; exact .p (r i x p h1 e)
theorem VRs.nil : VRs g ρ H [] [] := ⟨rfl, fun i x m h => by simp at h⟩
theorem VRs.cons {m : MV} {xs : List V} {l : List MV} (h : VR g ρ H v m) (r : VRs g ρ H xs l) : VRs g ρ H (v :: xs) (m :: l) := ⟨congrArg (· + 1) r.1, fun i x m' h1 h2 => by
  cases i with
  | zero => cases h1; cases h2; exact h
  | succ i => exact r.2 i x m' h1 h2⟩
theorem VRs.inv {m : MV} {xs : List V} {l : List MV} (h : VRs g ρ H (v :: xs) (m :: l)) : VR g ρ H v m ∧ VRs g ρ H xs l := ⟨h.2 0 v m rfl rfl, Nat.succ.inj h.1, fun i x m' h1 h2 => h.2 (i + 1) x m' h1 h2⟩
theorem VRs.nil_inv {xs : List V} (h : VRs g ρ H xs []) : xs = [] := List.length_eq_zero_iff.mp h.1
theorem VRs.cons_inv {m : MV} {xs : List V} {l : List MV} (h : VRs g ρ H xs (m :: l)) : ∃ v ys, xs = v :: ys ∧ VR g ρ H v m ∧ VRs g ρ H ys l := by
  cases xs with
  | nil => exact absurd h.1 (by simp)
  | cons v ys => exact ⟨v, ys, rfl, h.inv⟩
theorem VRs.append {xs ys : List V} {l k : List MV} (h : VRs g ρ H xs l) (r : VRs g ρ H ys k) : VRs g ρ H (xs ++ ys) (l ++ k) := by
  refine ⟨by simp [h.1, r.1], fun i x m h1 h2 => ?_⟩
  by_cases hl : i < xs.length
  · rw [List.getElem?_append_left hl] at h1
    rw [List.getElem?_append_left (by rw [← h.1]; exact hl)] at h2
    exact h.2 i x m h1 h2
  · rw [List.getElem?_append_right (by omega)] at h1
    rw [List.getElem?_append_right (by rw [← h.1]; omega), ← h.1] at h2
    exact r.2 _ x m h1 h2
theorem VRs.get {xs : List V} {l : List MV} {i : Nat} {m : MV} (h : VRs g ρ H xs l) (e : l[i]? = some m) : ∃ x, xs[i]? = some x ∧ VR g ρ H x m := by
  have hl : i < xs.length := by rw [h.1]; exact (List.getElem?_eq_some_iff.mp e).1
  exact ⟨xs[i], List.getElem?_eq_getElem hl, h.2 i _ m (List.getElem?_eq_getElem hl) e⟩
theorem VRs.drop {xs : List V} {l : List MV} (h : VRs g ρ H xs l) (n : Nat) : VRs g ρ H (xs.drop n) (l.drop n) := ⟨by simp [h.1], fun i x m h1 h2 => by
  rw [List.getElem?_drop] at h1 h2; exact h.2 _ x m h1 h2⟩
theorem VRs.take {xs : List V} {l : List MV} (h : VRs g ρ H xs l) (n : Nat) : VRs g ρ H (xs.take n) (l.take n) := ⟨by simp [h.1], fun i x m h1 h2 => by
  rw [List.getElem?_take] at h1 h2
  by_cases hi : i < n
  · rw [if_pos hi] at h1 h2; exact h.2 _ x m h1 h2
  · rw [if_neg hi] at h1; cases h1⟩
theorem VRs.set {xs : List V} {l : List MV} (h : VRs g ρ H xs l) {m : MV} (r : VR g ρ H v m) (n : Nat) : VRs g ρ H (xs.set n v) (l.set n m) := ⟨by simp [h.1], fun i x z h1 h2 => by
  rw [List.getElem?_set] at h1 h2
  by_cases hi : n = i
  · rw [if_pos hi] at h1 h2
    by_cases hl : n < xs.length
    · rw [if_pos hl] at h1
      rw [if_pos (by rw [← h.1]; exact hl)] at h2
      cases h1; cases h2; exact r
    · rw [if_neg hl] at h1; cases h1
  · rw [if_neg hi] at h1 h2; exact h.2 _ x z h1 h2⟩
theorem allP_ok : ∀ {l : List MV} {ps : List PV}, allP l = some ps → l = ps.map .p
  | [], ps, h => by cases h; rfl
  | .p v :: r, ps, h => by
    unfold allP at h
    cases e : allP r with
    | none => rw [e] at h; cases h
    | some q => rw [e] at h; cases h; rw [allP_ok e]; rfl
  | .r _ :: _, _, h => by cases h
  | .t _ :: _, _, h => by cases h
  | .f _ :: _, _, h => by cases h
  | .w _ :: _, _, h => by cases h
@[simp] theorem allP_map : ∀ l : List PV, allP (l.map .p) = some l
  | [] => rfl
  | a :: r => by show (match allP (r.map .p) with | some l => some (a :: l) | none => none) = _; rw [allP_map r]
theorem mkTup_ok {a : Addr} {xs : List V} {l : List MV} (h : SqN g.K H a xs) (r : VRs g ρ H xs l) : VR g ρ H (.ref a) (mkTup l) := by
  unfold mkTup
  cases e : allP l with
  | none => exact .t h r.1 r.2
  | some ps =>
    have q := allP_ok e
    subst q
    refine .p (.tup h (by simpa using r.1) fun i x p h1 h2 => ?_)
    exact (r.2 i x (.p p) h1 (by rw [List.getElem?_map, h2]; rfl)).p_inv
theorem tup_inv {l : List MV} {m : MV} (h : VR g ρ H v m) (e : tupSeq m = some l) : ∃ a xs, v = .ref a ∧ SqN g.K H a xs ∧ VRs g ρ H xs l := by
  cases h with
  | p h =>
    cases h with
    | tup hs len r => cases e; exact ⟨_, _, rfl, hs, VRs.ofP len r⟩
    | _ => cases e
  | t hs len r => cases e; exact ⟨_, _, rfl, hs, len, r⟩
  | r _ => cases e
  | f _ => cases e
  | w _ _ _ => cases e
theorem tupOf_inv {l : List MV} (h : ER g H0 ρ H v x) (e : tupOf x = some l) : ∃ a xs, v = .ref a ∧ SqN g.K H a xs ∧ VRs g ρ H xs l := by
  cases x with
  | v m => exact tup_inv h e
  | o o => cases e
theorem obj_inv {o : MO} (S : SR g ρ st H) (h : ER g H0 ρ H v x) (e : objOf x st = some o) : ∃ a, v = .ref a ∧ OR g ρ H a o := by
  cases x with
  | v m =>
    cases m with
    | r n =>
      obtain ⟨a, h1, h2⟩ := S.ob e
      cases h with
      | r h => rw [h] at h1; cases h1; exact ⟨_, rfl, h2⟩
    | _ => cases e
  | o o' => cases e; obtain ⟨a, rfl, _, _, _, ho⟩ := h; exact ⟨a, rfl, ho⟩
theorem lst_inv {l : List MV} (S : SR g ρ st H) (h : ER g H0 ρ H v x) (e : objOf x st = some (.lst l)) : ∃ a xs, v = .ref a ∧ H a = some (.lst xs) ∧ VRs g ρ H xs l := by
  obtain ⟨a, rfl, xs, h1, h2⟩ := obj_inv S h e
  exact ⟨a, xs, rfl, h1, h2⟩
theorem lstOf_inv {l : List MV} (S : SR g ρ st H) (h : ER g H0 ρ H v x) (e : lstOf x st = some l) : ∃ a xs, v = .ref a ∧ SqL g.K H a xs ∧ VRs g ρ H xs l := by
  unfold lstOf at e
  split at e
  · cases e
    cases h with
    | w h len r => exact ⟨_, _, rfl, h.sq, len, r⟩
  · split at e
    · rename_i l' e1
      cases e
      obtain ⟨a, xs, h1, h2, h3⟩ := lst_inv S h e1
      exact ⟨a, xs, h1, SqL.of h2, h3⟩
    · cases e
theorem seqOf_inv {l : List MV} (S : SR g ρ st H) (h : ER g H0 ρ H v x) (e : seqOf x st = some l) : ∃ a xs, v = .ref a ∧ (SqL g.K H a xs ∨ SqT g.K H a xs) ∧ VRs g ρ H xs l := by
  unfold seqOf at e
  split at e
  · rename_i l' e1
    cases e
    obtain ⟨a, xs, h1, h2, h3⟩ := tupOf_inv h e1
    exact ⟨a, xs, h1, .inr h2.t, h3⟩
  · obtain ⟨a, xs, h1, h2, h3⟩ := lstOf_inv S h e
    exact ⟨a, xs, h1, .inl h2, h3⟩
end
/-! ### what is new -/
abbrev QR (g : G) (H0 : Hp) (Q : VK) : EV → Sto → List Addr → Hp → Prop := fun r _ ρ' H' => ∀ v, ER g H0 ρ' H' v r → Q v H'
section
variable {g : G} {ρ : List Addr} {st : Sto} {H H0 : Hp} {Q : VK} {E : Nat → Option Int → Sto → List Addr → Hp → Prop}
/-- a value at the heap as it is -/
theorem Lands.now {r : EV} (S : SR g ρ st H) (h : Lands g ρ H (.ok r st) (QR g H0 Q) E) {v : V} (hv : ER g H0 ρ H v r) : Q v H := h ρ H Ext.refl S v hv
theorem sqN_new {K : PySem.W.Frag} {a : Addr} {ob : Obj} {xs : List V} (d : ob.dict = none) : SqN K (upd H a (.frz ob (.tup xs))) a xs := .inl ⟨ob, upd_same, d⟩
theorem VRs.made {a : Addr} {o : HO} {xs : List V} {l : List MV} (r : VRs g ρ H xs l) (hn : H a = none) : VRs g ρ (upd H a o) xs l := r.mono (Ext.made hn)
/-- a new tuple -/
theorem Lands.tup {l : List MV} {xs : List V} (S : SR g ρ st H) (h : Lands g ρ H (.ok (.v (mkTup l)) st) (QR g H0 Q) E) (r : VRs g ρ H xs l) : NewN H xs Q := fun a ob hn d =>
  h ρ _ (Ext.made hn) (S.made hn) (.ref a) (mkTup_ok (sqN_new d) (r.made hn))
theorem OR.there {g : G} {ρ : List Addr} {H : Hp} {a : Addr} {o : MO} (h : OR g ρ H a o) : H a ≠ none := by
  intro hn
  cases o with
  | lst l => obtain ⟨xs, e, _⟩ := h; rw [hn] at e; cases e
  | ins c fs => obtain ⟨dx, gs, e, _⟩ := h; rw [hn] at e; cases e
  | dic _ => obtain ⟨kvs, e, _⟩ := h; rw [hn] at e; cases e
  | set _ => obtain ⟨zs, e, _⟩ := h; rw [hn] at e; cases e
  | lck _ => obtain ⟨ob, kvs, e, _⟩ := h; rw [hn] at e; cases e
theorem SR.out (S : SR g ρ st H) {a : Addr} (hn : H a = none) : a ∉ ρ := fun hm => by
  obtain ⟨n, hl, hn2⟩ := List.getElem_of_mem hm
  have h1 : ρ[n]? = some a := by rw [List.getElem?_eq_getElem hl, hn2]
  have h2 : n < st.length := by rw [← S.len]; exact hl
  exact (S.at_ n a st[n] h1 (List.getElem?_eq_getElem h2)).there hn
/-- a new list -/
theorem Lands.lst {l : List MV} {xs : List V} (S : SR g ρ st H) (d : ∀ a, H a = none → H0 a = none) (h : Lands g ρ H (.ok (.o (.lst l)) st) (QR g H0 Q) E) (r : VRs g ρ H xs l) {a : Addr} (hn : H a = none) : Q (.ref a) (upd H a (.lst xs)) := by
  exact h ρ _ (Ext.made hn) (S.made hn) (.ref a) ⟨a, rfl, S.out hn, d a hn, by rw [upd_same]; simp, xs, upd_same, r.made hn⟩
end
end Mn
end
section
set_option autoImplicit false
set_option maxRecDepth 20000
/-! Mn6: operators, comparisons, truth, subscripts. -/
namespace Mn
open PySem L2
def pyB : BOp → Operator
  | .add => .Add | .sub => .Sub | .mul => .Mult | .fdiv => .FloorDiv | .mod => .Mod
def rB (K : PySem.W.Frag) : BOp → R2
  | .add => fun x y H Q => rI0 (fun i j => .int (i + j)) x y H Q ∨ (∃ i j, x = .str i ∧ y = .str j ∧ i.length + j.length ≤ sizeLine ∧ Q (.str (i ++ j)) H) ∨ rCatN K x y H Q ∨ rCat x y H Q
  | .sub => rI0 fun i j => .int (i - j)
  | .mul => fun x y H Q => rI CMul (fun i j => .int (i * j)) x y H Q ∨ rRep x y H Q
  | .fdiv => rI CDiv fun i j => .int (i / j)
  | .mod => rI (fun _ j => 0 < j) fun i j => .int (i % j)
theorem binop_rule {X : Cx} (op : BOp) : OpR X (binaryOp (pyB op)) (rB X.K op) := by
  cases op with
  | add => exact OpR.or op_add (OpR.or op_add_str (OpR.or op_catN op_cat))
  | sub => exact op_sub
  | mul => exact OpR.or op_mul op_rep
  | fdiv => exact op_fdiv
  | mod => exact op_mod
section
variable {g : G} {ρ : List Addr} {st : Sto} {H H0 : Hp} {v u : V} {x y : EV} {Q : VK} {E : Nat → Option Int → Sto → List Addr → Hp → Prop}
theorem lim_eq : lim = sizeLine := by rw [PySem.sizeLine_eq]; rfl
theorem toStr_len (l : List Nat) : (toStr l).length = l.length := by simp [toStr, Str.length]
theorem toStr_app (a b : List Nat) : toStr a ++ toStr b = toStr (a ++ b) := by
  show Str.mk _ = Str.mk _
  simp [toStr]
theorem kd_int {i : Int} (e : kdOf x st = .int i) : x = .v (.p (.int i)) := by
  unfold kdOf at e
  split at e
  · cases e; rfl
  · cases e
  · split at e
    · cases e
    · split at e <;> cases e
theorem kd_str {l : List Nat} (e : kdOf x st = .str l) : x = .v (.p (.str l)) := by
  unfold kdOf at e
  split at e
  · cases e
  · cases e; rfl
  · split at e
    · cases e
    · split at e <;> cases e
theorem kd_tup {l : List MV} (e : kdOf x st = .tup l) : tupOf x = some l := by
  unfold kdOf at e
  split at e
  · cases e
  · cases e
  · split at e
    · cases e; assumption
    · split at e <;> cases e
theorem kd_lst {l : List MV} (e : kdOf x st = .lst l) : objOf x st = some (.lst l) := by
  unfold kdOf at e
  split at e
  · cases e
  · cases e
  · split at e
    · cases e
    · split at e
      · cases e; assumption
      · cases e
theorem small_ok {i : Int} (h : small i = true) : -(2 ^ 64) < i ∧ i < 2 ^ 64 := by
  unfold small at h
  simp only [Bool.and_eq_true, decide_eq_true_eq] at h
  exact h
theorem VRs.rep {xs : List V} {l : List MV} (h : VRs g ρ H xs l) : ∀ n : Nat, VRs g ρ H (List.replicate n xs).flatten (List.replicate n l).flatten
  | 0 => VRs.nil
  | n + 1 => by rw [List.replicate_succ, List.replicate_succ, List.flatten_cons, List.flatten_cons]; exact h.append (VRs.rep h n)
theorem binop_read {op : BOp} (S : SR g ρ st H) (d : ∀ a, H a = none → H0 a = none) (hx : ER g H0 ρ H v x) (hy : ER g H0 ρ H u y) (h : Lands g ρ H (binop op x y st) (QR g H0 Q) E) : rB g.K op v u H Q := by
  unfold binop at h
  split at h
  · rename_i i j e1 e2
    have e1 := kd_int e1; have e2 := kd_int e2; subst e1; subst e2
    exact .inl ⟨i, j, hx.int_inv, hy.int_inv, h.now S (ER.int _)⟩
  · rename_i i j e1 e2
    have e1 := kd_int e1; have e2 := kd_int e2; subst e1; subst e2
    exact ⟨i, j, hx.int_inv, hy.int_inv, h.now S (ER.int _)⟩
  · rename_i i j e1 e2
    have e1 := kd_int e1; have e2 := kd_int e2; subst e1; subst e2
    split at h
    · rename_i hs
      rw [Bool.or_eq_true] at hs
      exact .inl ⟨i, j, hx.int_inv, hy.int_inv, hs.imp small_ok small_ok, h.now S (ER.int _)⟩
    · exact h.elim
  · rename_i i j e1 e2
    have e1 := kd_int e1; have e2 := kd_int e2; subst e1; subst e2
    split at h
    · rename_i hs
      exact ⟨i, j, hx.int_inv, hy.int_inv, hs, h.now S (ER.int _)⟩
    · exact h.elim
  · rename_i i j e1 e2
    have e1 := kd_int e1; have e2 := kd_int e2; subst e1; subst e2
    split at h
    · rename_i hs
      exact ⟨i, j, hx.int_inv, hy.int_inv, hs, h.now S (ER.int _)⟩
    · exact h.elim
  · rename_i a b e1 e2
    have e1 := kd_str e1; have e2 := kd_str e2; subst e1; subst e2
    split at h
    · rename_i hs
      refine .inr (.inl ⟨_, _, hx.str_inv, hy.str_inv, by rw [toStr_len, toStr_len, ← lim_eq]; exact hs, ?_⟩)
      rw [toStr_app]
      exact h.now S (ER.ofP (.str _))
    · exact h.elim
  · rename_i a b e1 e2
    obtain ⟨p, xs, rfl, q1, r1⟩ := tupOf_inv hx (kd_tup e1)
    obtain ⟨q, ys, rfl, q2, r2⟩ := tupOf_inv hy (kd_tup e2)
    split at h
    · rename_i hs
      refine .inr (.inr (.inl ⟨p, q, xs, ys, rfl, rfl, q1.t, q2.t, by rw [r1.1, r2.1, ← lim_eq]; exact hs, fun e => ?_, fun _ e => ?_, fun _ _ => h.tup S (r1.append r2)⟩))
      · subst e
        have : a = [] := List.length_eq_zero_iff.mp r1.1.symm
        subst this
        exact h.now S (mkTup_ok q2 r2)
      · subst e
        have : b = [] := List.length_eq_zero_iff.mp r2.1.symm
        subst this
        rw [List.append_nil] at h
        exact h.now S (mkTup_ok q1 r1)
    · exact h.elim
  · rename_i a b e1 e2
    obtain ⟨p, xs, rfl, q1, r1⟩ := lst_inv S hx (kd_lst e1)
    obtain ⟨q, ys, rfl, q2, r2⟩ := lst_inv S hy (kd_lst e2)
    split at h
    · rename_i hs
      exact .inr (.inr (.inr ⟨p, q, xs, ys, rfl, rfl, q1, q2, by rw [r1.1, r2.1, ← lim_eq]; exact hs, fun t ht => h.lst S d (r1.append r2) ht⟩))
    · exact h.elim
  · rename_i a j e1 e2
    obtain ⟨p, xs, rfl, q1, r1⟩ := lst_inv S hx (kd_lst e1)
    have e2 := kd_int e2; subst e2
    split at h
    · rename_i hs
      refine .inr ⟨p, j, xs, rfl, hy.int_inv, q1, hs.1, hs.2.1, by rw [r1.1, ← lim_eq]; exact hs.2.2, fun t ht => ?_⟩
      exact h.lst S d (r1.rep j.toNat) ht
    · exact h.elim
  · exact h.elim
end
end Mn
end
section
set_option autoImplicit false
set_option maxRecDepth 20000
/-! Mn7: data as it stands; comparisons, truth, subscripts, slices. -/
namespace Mn
open PySem L2
theorem toStr_inj {a b : List Nat} (h : toStr a = toStr b) : a = b := by
  have := congrArg (fun z : Str => z.cps.toList) h
  simpa [toStr] using this
theorem toStr_beq (a b : List Nat) : (toStr a == toStr b) = (a == b) := by
  by_cases e : a = b
  · subst e; simp
  · have h : toStr a ≠ toStr b := fun q => e (toStr_inj q)
    rw [beq_eq_false_iff_ne.mpr e]; exact beq_eq_false_iff_ne.mpr h
mutual
theorem d_plain : ∀ p : PV, p.d.plain = true
  | .non => rfl | .bl _ => rfl | .int _ => rfl | .str _ => rfl
  | .tup l => by show PyData.plainAll (PV.ds l) = true; exact ds_plain l
  | .lst l => by show PyData.plainAll (PV.ds l) = true; exact ds_plain l
theorem ds_plain : ∀ l : List PV, PyData.plainAll (PV.ds l) = true
  | [] => rfl
  | a :: r => by show (PyData.plain a.d && PyData.plainAll (PV.ds r)) = true; rw [d_plain a, ds_plain r]; rfl
end
mutual
theorem d_depth : ∀ p : PV, p.d.depth = p.dep
  | .non => rfl | .bl _ => rfl | .int _ => rfl | .str _ => rfl
  | .tup l => by show PyData.depthAll (PV.ds l) + 1 = PV.deps l + 1; rw [ds_depth l]
  | .lst l => by show PyData.depthAll (PV.ds l) + 1 = PV.deps l + 1; rw [ds_depth l]
theorem ds_depth : ∀ l : List PV, PyData.depthAll (PV.ds l) = PV.deps l
  | [] => rfl
  | a :: r => by show max a.d.depth (PyData.depthAll (PV.ds r)) = max a.dep (PV.deps r); rw [d_depth a, ds_depth r]
end
mutual
theorem d_eqv : ∀ p q : PV, PyData.eqv p.d q.d = p.eqv q
  | .non, q => by cases q <;> simp only [PV.d, PyData.eqv, PV.eqv]
  | .bl _, q => by cases q <;> simp only [PV.d, PyData.eqv, PV.eqv]
  | .int _, q => by cases q <;> simp only [PV.d, PyData.eqv, PV.eqv]
  | .str a, q => by
    cases q with
    | str b => simp only [PV.d, PyData.eqv, PV.eqv]; exact toStr_beq a b
    | _ => simp only [PV.d, PyData.eqv, PV.eqv]
  | .tup l, q => by
    cases q with
    | tup k => simp only [PV.d, PyData.eqv, PV.eqv]; exact ds_eqv l k
    | _ => simp only [PV.d, PyData.eqv, PV.eqv]
  | .lst l, q => by
    cases q with
    | lst k => simp only [PV.d, PyData.eqv, PV.eqv]; exact ds_eqv l k
    | _ => simp only [PV.d, PyData.eqv, PV.eqv]
theorem ds_eqv : ∀ l k : List PV, PyData.eqvAll (PV.ds l) (PV.ds k) = PV.eqvs l k
  | [], [] => by simp only [PV.ds, PyData.eqvAll, PV.eqvs]
  | [], _ :: _ => by simp only [PV.ds, PyData.eqvAll, PV.eqvs]
  | _ :: _, [] => by simp only [PV.ds, PyData.eqvAll, PV.eqvs]
  | a :: r, b :: s => by simp only [PV.ds, PyData.eqvAll, PV.eqvs]; rw [d_eqv a b, ds_eqv r s]
end
theorem dpAll_of {K : PySem.W.Frag} {H : Hp} : ∀ {xs : List V} {l : List PV}, xs.length = l.length → (∀ (i : Nat) (x : V) (p : PV), xs[i]? = some x → l[i]? = some p → Dp K H x p.d) → DpAll K H xs (PV.ds l)
  | [], [], _, _ => .nil
  | [], _ :: _, h, _ => absurd h (by simp)
  | _ :: _, [], h, _ => absurd h (by simp)
  | x :: xs, a :: l, h, r => .cons (r 0 x a rfl rfl) (dpAll_of (Nat.succ.inj h) fun i y p h1 h2 => r (i + 1) y p h1 h2)
theorem PR.dp {K : PySem.W.Frag} {H : Hp} {v : V} {p : PV} (h : PR K H v p) : Dp K H v p.d := by
  induction h with
  | non => exact .non
  | bl b => exact .bl b
  | int i => exact .int i
  | str l => exact .str _
  | tup h len _ ih => exact .tup h.t (dpAll_of len ih)
theorem mapO_get {α β : Type} {f : α → Option β} : ∀ {l : List α} {k : List β}, mapO f l = some k → l.length = k.length ∧ ∀ (i : Nat) (a : α) (b : β), l[i]? = some a → k[i]? = some b → f a = some b
  | [], k, h => by cases h; exact ⟨rfl, fun i a b h => by simp at h⟩
  | x :: r, k, h => by
    unfold mapO at h
    split at h
    · rename_i b e
      split at h
      · rename_i q e2
        cases h
        obtain ⟨h1, h2⟩ := mapO_get e2
        refine ⟨congrArg (· + 1) h1, fun i a b h3 h4 => ?_⟩
        cases i with
        | zero => cases h3; cases h4; exact e
        | succ i => exact h2 i a b h3 h4
      · cases h
    · cases h
section
variable {g : G} {ρ : List Addr} {st : Sto} {H H0 : Hp} {v u : V} {x y : EV}
theorem VRs.dps {xs : List V} {l : List MV} {k : List PV} (r : VRs g ρ H xs l) {n : Nat} (ih : ∀ (v : V) (m : MV) (p : PV), VR g ρ H v m → viewM st n m = some p → Dp g.K H v p.d) (e : mapO (viewM st n) l = some k) : DpAll g.K H xs (PV.ds k) := by
  obtain ⟨h1, h2⟩ := mapO_get e
  refine dpAll_of (by rw [r.1, h1]) fun i x p h3 h4 => ?_
  have hl : i < l.length := by rw [h1]; exact (List.getElem?_eq_some_iff.mp h4).1
  exact ih x l[i] p (r.2 i x _ h3 (List.getElem?_eq_getElem hl)) (h2 i _ p (List.getElem?_eq_getElem hl) h4)
theorem viewM_ok (S : SR g ρ st H) : ∀ (n : Nat) (v : V) (m : MV) (p : PV), VR g ρ H v m → viewM st n m = some p → Dp g.K H v p.d := by
  intro n
  induction n with
  | zero =>
    intro v m p h e
    cases h with
    | p h => cases e; exact h.dp
    | r _ => cases e
    | t _ _ _ => cases e
    | f _ => cases e
    | w _ _ _ => cases e
  | succ n ih =>
    intro v m p h e
    cases h with
    | p h => cases e; exact h.dp
    | r h =>
      rename_i a k
      unfold viewM at e
      split at e
      · rename_i l e1
        obtain ⟨b, h1, xs, h2, h3⟩ := S.ob e1
        rw [h] at h1; cases h1
        cases e2 : mapO (viewM st n) l with
        | none => rw [e2] at e; cases e
        | some q => rw [e2] at e; cases e; exact .lst (SqL.of h2) (h3.dps ih e2)
      · cases e
    | t h len r =>
      rename_i a xs l
      unfold viewM at e
      cases e2 : mapO (viewM st n) l with
      | none => rw [e2] at e; cases e
      | some q => rw [e2] at e; cases e; exact .tup h.t (VRs.dps ⟨len, r⟩ ih e2)
    | f _ => cases e
    | w h len r =>
      rename_i a xs l
      unfold viewM at e
      cases e2 : mapO (viewM st n) l with
      | none => rw [e2] at e; cases e
      | some q => rw [e2] at e; cases e; exact .lst h.sq (VRs.dps ⟨len, r⟩ ih e2)
theorem view_ok (S : SR g ρ st H) {p : PV} (h : ER g H0 ρ H v x) (e : view x st = some p) : Dp g.K H v p.d := by
  unfold view at e
  split at e
  · exact viewM_ok S 3 v _ p h e
  · rename_i l
    obtain ⟨a, rfl, _, _, _, xs, h1, h2⟩ := h
    cases e2 : mapO (viewM st 3) l with
    | none => rw [e2] at e; cases e
    | some q => rw [e2] at e; cases e; exact .lst (SqL.of h1) (h2.dps (viewM_ok S 3) e2)
  · cases e
end
/-! ### rules -/
section
variable {X : Cx}
def rEqP (K : PySem.W.Frag) (neg : Bool) : R2 := fun x y H Q => ∃ d e : PV, Dp K H x d.d ∧ Dp K H y e.d ∧ min d.dep e.dep ≤ dlim ∧ Q (.bl (if neg then !d.eqv e else d.eqv e)) H
theorem op_eqP (hu : X.A.units + 200 < cLine) : OpR X (compareOp .Eq) (rEqP X.K false) := by
  intro pins s σ H x y v u Q I rx ry h
  obtain ⟨d, e, hd, he, hm, q⟩ := h
  obtain ⟨as, r1⟩ := Dp.reads I d.d x v hd rx
  obtain ⟨bs, r2⟩ := Dp.reads I e.d y u he ry
  refine SeqAt.eq_plain r1 r2 (d_plain d) (d_plain e) ?_ (by rw [d_eqv]; exact ⟨.bl _, H, I, rfl, q⟩)
  rw [d_depth, d_depth]
  have : dlim = 60 := rfl
  omega
theorem op_neP (hu : X.A.units + 200 < cLine) : OpR X (compareOp .NotEq) (rEqP X.K true) := by
  intro pins s σ H x y v u Q I rx ry h
  obtain ⟨d, e, hd, he, hm, q⟩ := h
  obtain ⟨as, r1⟩ := Dp.reads I d.d x v hd rx
  obtain ⟨bs, r2⟩ := Dp.reads I e.d y u he ry
  refine SeqAt.ne_plain r1 r2 (d_plain d) (d_plain e) ?_ (by rw [d_eqv]; exact ⟨.bl _, H, I, rfl, q⟩)
  rw [d_depth, d_depth]
  have : dlim = 60 := rfl
  omega
/-- x in xs, by data -/
def rInP (K : PySem.W.Frag) (neg : Bool) : R2 := fun x y H Q => ∃ (d : PV) (l : List PV), Dp K H x d.d ∧ (Dp K H y (.list (PV.ds l)) ∨ Dp K H y (.tuple (PV.ds l))) ∧ min (PV.deps l) d.dep ≤ dlim ∧
  Q (.bl (if neg then !(l.any fun z => z.eqv d) else l.any fun z => z.eqv d)) H
theorem any_ds (d : PV) : ∀ l : List PV, ((PV.ds l).any fun y => PyData.eqv y d.d) = l.any fun z => z.eqv d
  | [] => rfl
  | a :: r => by
    show (PyData.eqv a.d d.d || (PV.ds r).any fun y => PyData.eqv y d.d) = _
    rw [any_ds d r, d_eqv]; rfl
theorem op_inP (hu : X.A.units + 200 < cLine) : OpR X (compareOp .In) (rInP X.K false) := by
  intro pins s σ H x y v u Q I rx ry h
  obtain ⟨d, l, hd, hl, hm, q⟩ := h
  obtain ⟨as, r1⟩ := Dp.reads I d.d x v hd rx
  have hb : X.A.units + 1 + min (PyData.depthAll (PV.ds l)) d.d.depth < cLine := by
    rw [d_depth, ds_depth]
    have : dlim = 60 := rfl
    omega
  rcases hl with hl | hl
  · obtain ⟨bs, r2⟩ := Dp.reads I _ y u hl ry
    exact SeqAt.in_list_data r2 r1 (ds_plain l) (d_plain d) hb (by rw [any_ds]; exact ⟨.bl _, H, I, rfl, q⟩)
  · obtain ⟨bs, r2⟩ := Dp.reads I _ y u hl ry
    exact SeqAt.in_tuple_data r2 r1 (ds_plain l) (d_plain d) hb (by rw [any_ds]; exact ⟨.bl _, H, I, rfl, q⟩)
theorem op_ninP (hu : X.A.units + 200 < cLine) : OpR X (compareOp .NotIn) (rInP X.K true) := by
  intro pins s σ H x y v u Q I rx ry h
  obtain ⟨d, l, hd, hl, hm, q⟩ := h
  obtain ⟨as, r1⟩ := Dp.reads I d.d x v hd rx
  have hb : X.A.units + 1 + min (PyData.depthAll (PV.ds l)) d.d.depth < cLine := by
    rw [d_depth, ds_depth]
    have : dlim = 60 := rfl
    omega
  rcases hl with hl | hl
  · obtain ⟨bs, r2⟩ := Dp.reads I _ y u hl ry
    exact SeqAt.notIn_list_data r2 r1 (ds_plain l) (d_plain d) hb (by rw [any_ds]; exact ⟨.bl _, H, I, rfl, q⟩)
  · obtain ⟨bs, r2⟩ := Dp.reads I _ y u hl ry
    exact SeqAt.notIn_tuple_data r2 r1 (ds_plain l) (d_plain d) hb (by rw [any_ds]; exact ⟨.bl _, H, I, rfl, q⟩)
def rInS (neg : Bool) : R2 := fun x y H Q => ∃ (c : Nat) (z : Str), x = .str ⟨#[c]⟩ ∧ y = .str z ∧ Q (.bl (if neg then !decide (c ∈ z.cps.toList) else decide (c ∈ z.cps.toList))) H
def pyC : COp → CmpOp
  | .eq => .Eq | .ne => .NotEq | .lt => .Lt | .le => .LtE | .gt => .Gt | .ge => .GtE | .inn => .In | .nin => .NotIn | .isn => .Is | .notn => .IsNot
def rC (K : PySem.W.Frag) : COp → R2
  | .eq => rEqP K false
  | .ne => rEqP K true
  | .lt => rI0 fun i j => .bl (decide (i < j))
  | .le => rI0 fun i j => .bl (decide (i ≤ j))
  | .gt => rI0 fun i j => .bl (decide (j < i))
  | .ge => rI0 fun i j => .bl (decide (j ≤ i))
  | .inn => fun x y H Q => rInP K false x y H Q ∨ rInS false x y H Q
  | .nin => fun x y H Q => rInP K true x y H Q ∨ rInS true x y H Q
  | .isn => fun x y H Q => y = .non ∧ Q (.bl (decide (x = .non))) H
  | .notn => fun x y H Q => y = .non ∧ Q (.bl (!decide (x = .non))) H
theorem cmpop_rule (op : COp) (hu : X.A.units + 200 < cLine) : OpR X (compareOp (pyC op)) (rC X.K op) := by
  cases op with
  | eq => exact op_eqP hu
  | ne => exact op_neP hu
  | lt => exact op_lt
  | le => exact op_le
  | gt => exact op_gt
  | ge => exact op_ge
  | inn => exact OpR.or (op_inP hu) op_in_sign
  | nin => exact OpR.or (op_ninP hu) op_notIn_sign
  | isn => exact op_isN
  | notn => exact op_notN
end
section
variable {g : G} {ρ : List Addr} {st : Sto} {H H0 : Hp} {v u : V} {x y : EV} {Q : VK} {E : Nat → Option Int → Sto → List Addr → Hp → Prop}
theorem ER.isNon (h : ER g H0 ρ H v x) : (v = .non) ↔ x = .v (.p .non) := by
  constructor
  · intro e
    subst e
    cases x with
    | v m =>
      cases h with
      | p h => cases h; rfl
    | o o => obtain ⟨a, e, _⟩ := h; cases e
  · intro e; subst e; exact h.non_inv
theorem contains_mem (c : Nat) (z : List Nat) : z.contains c = decide (c ∈ (toStr z).cps.toList) := by
  have : (toStr z).cps.toList = z := by simp [toStr]
  rw [this]
  simp
theorem inD_read (S : SR g ρ st H) (hx : ER g H0 ρ H v x) (hy : ER g H0 ρ H u y) (neg : Bool) {b : Bool} (e : inD x y st = some b) (h : Q (.bl (if neg then !b else b)) H) : rInP g.K neg v u H Q ∨ rInS neg v u H Q := by
  unfold inD at e
  split at e
  · rename_i d l e1 e2
    split at e
    · rename_i hm
      cases e
      exact .inl ⟨d, l, view_ok S hx e1, .inr (view_ok S hy e2), hm, h⟩
    · cases e
  · rename_i d l e1 e2
    split at e
    · rename_i hm
      cases e
      exact .inl ⟨d, l, view_ok S hx e1, .inl (view_ok S hy e2), hm, h⟩
    · cases e
  · rename_i c z e1 e2
    cases e
    have h1 := view_ok S hx e1
    have h2 := view_ok S hy e2
    refine .inr ⟨c, toStr z, ?_, ?_, by rw [contains_mem] at h; exact h⟩
    · generalize hd : PV.d (.str [c]) = d at h1
      cases h1 with
      | str z => cases hd; rfl
      | _ => cases hd
    · generalize hd : PV.d (.str z) = d at h2
      cases h2 with
      | str z => cases hd; rfl
      | _ => cases hd
  · cases e
theorem cmpop_read {op : COp} {b : Bool} (S : SR g ρ st H) (hx : ER g H0 ρ H v x) (hy : ER g H0 ρ H u y) (e : cmpop op x y st = some b) (h : Q (.bl b) H) : rC g.K op v u H Q := by
  cases op with
  | eq =>
    have e' : eqD x y st = some b := e
    unfold eqD at e'
    split at e'
    · rename_i p q e1 e2
      split at e'
      · rename_i hm
        cases e'
        exact ⟨p, q, view_ok S hx e1, view_ok S hy e2, hm, h⟩
      · cases e'
    · cases e'
  | ne =>
    have e' : (eqD x y st).map (!·) = some b := e
    unfold eqD at e'
    split at e'
    · rename_i p q e1 e2
      split at e'
      · rename_i hm
        cases e'
        exact ⟨p, q, view_ok S hx e1, view_ok S hy e2, hm, h⟩
      · cases e'
    · cases e'
  | inn => exact inD_read S hx hy false (show inD x y st = some b from e) h
  | nin =>
    have e' : (inD x y st).map (!·) = some b := e
    cases e1 : inD x y st with
    | none => rw [e1] at e'; cases e'
    | some c => rw [e1] at e'; cases e'; exact inD_read S hx hy true e1 h
  | isn =>
    unfold cmpop at e
    dsimp only at e
    split at e
    · cases e
      refine ⟨hy.non_inv, ?_⟩
      rw [decide_eq_true hx.non_inv]; exact h
    · rename_i hn
      cases e
      refine ⟨hy.non_inv, ?_⟩
      rw [decide_eq_false fun q => hn (hx.isNon.mp q)]; exact h
    · cases e
  | notn =>
    unfold cmpop at e
    dsimp only at e
    split at e
    · cases e
      refine ⟨hy.non_inv, ?_⟩
      rw [decide_eq_true hx.non_inv]; exact h
    · rename_i hn
      cases e
      refine ⟨hy.non_inv, ?_⟩
      rw [decide_eq_false fun q => hn (hx.isNon.mp q)]; exact h
    · cases e
  | lt =>
    have e' : ordD .lt x y = some b := e
    unfold ordD at e'
    split at e' <;> first | (cases e'; done) | skip
    all_goals (rename_i hop; first | (cases hop; done) | skip)
    cases e'
    exact ⟨_, _, hx.int_inv, hy.int_inv, h⟩
  | le =>
    have e' : ordD .le x y = some b := e
    unfold ordD at e'
    split at e' <;> first | (cases e'; done) | skip
    all_goals (rename_i hop; first | (cases hop; done) | skip)
    cases e'
    exact ⟨_, _, hx.int_inv, hy.int_inv, h⟩
  | gt =>
    have e' : ordD .gt x y = some b := e
    unfold ordD at e'
    split at e' <;> first | (cases e'; done) | skip
    all_goals (rename_i hop; first | (cases hop; done) | skip)
    cases e'
    exact ⟨_, _, hx.int_inv, hy.int_inv, h⟩
  | ge =>
    have e' : ordD .ge x y = some b := e
    unfold ordD at e'
    split at e' <;> first | (cases e'; done) | skip
    all_goals (rename_i hop; first | (cases hop; done) | skip)
    cases e'
    exact ⟨_, _, hx.int_inv, hy.int_inv, h⟩
/-! ### truth -/
theorem truth_read {b : Bool} (S : SR g ρ st H) (hx : ER g H0 ρ H v x) (e : truth x st = some b) : TruV g.K v H b := by
  unfold truth at e
  split at e
  · cases e; rw [hx.non_inv]; rfl
  · cases e; rw [hx.bl_inv]; rfl
  · cases e; rw [hx.int_inv]; rfl
  · rename_i z
    split at e
    · rename_i hl
      cases e
      rw [hx.str_inv]
      refine ⟨by rw [toStr_len, ← lim_eq]; exact hl, ?_⟩
      rw [toStr_len]
      cases z with
      | nil => rfl
      | cons a r => 
        have : ((((a :: r).length : Nat) : Int) != 0) = true := by simp; omega
        rw [this]; rfl
    · cases e
  · split at e
    · rename_i l e1
      cases e
      obtain ⟨a, xs, rfl, h1, r⟩ := seqOf_inv S hx e1
      have he : (!l.isEmpty) = !xs.isEmpty := by
        cases xs with
        | nil => cases l with
          | nil => rfl
          | cons _ _ => exact absurd r.1 (by simp)
        | cons _ _ => cases l with
          | nil => exact absurd r.1 (by simp)
          | cons _ _ => rfl
      rw [he]
      rcases h1 with h1 | h1
      · exact .inl ⟨xs, h1, rfl⟩
      · exact .inr (.inl ⟨xs, h1, rfl⟩)
    · cases e
/-! ### subscripts -/
theorem at_atI {α : Type} (l : List α) (i : Int) : at_ l i = atI l i := rfl
theorem VRs.atI {xs : List V} {l : List MV} {i : Int} {m : MV} (r : VRs g ρ H xs l) (e : at_ l i = some m) : ∃ w, atI xs i = some w ∧ VR g ρ H w m := by
  rw [at_atI] at e
  unfold L2.atI at e ⊢
  rw [r.1]
  cases k : L2.ixN l.length i with
  | none => rw [k] at e; cases e
  | some j => rw [k] at e; exact r.get e
theorem index_read {z : EV} (S : SR g ρ st H) (hx : ER g H0 ρ H v x) (hy : ER g H0 ρ H u y) (e : index x y st = some z) (h : ∀ w, ER g H0 ρ H w z → Q w H) : rIx g.K v u H Q := by
  unfold index at e
  split at e
  · rename_i k
    have eu := hy.int_inv
    split at e
    · rename_i z'
      split at e
      · rename_i hl
        cases q : at_ z' k with
        | none => rw [q] at e; cases e
        | some c =>
          rw [q] at e; cases e
          refine .inr (.inr ⟨toStr z', k, c, hx.str_inv, eu, by rw [toStr_len, ← lim_eq]; exact hl, ?_, h _ (ER.ofP (.str [c]))⟩)
          have : (toStr z').cps.toList = z' := by simp [toStr]
          rw [this]; exact q
      · cases e
    · split at e
      · rename_i l e1
        obtain ⟨a, xs, rfl, h1, r⟩ := seqOf_inv S hx e1
        cases q : at_ l k with
        | none => rw [q] at e; cases e
        | some m =>
          rw [q] at e; cases e
          obtain ⟨w, h2, h3⟩ := r.atI q
          rcases h1 with h1 | h1
          · exact .inl ⟨a, xs, k, w, rfl, eu, h1, h2, h w h3⟩
          · exact .inr (.inl ⟨a, xs, k, w, rfl, eu, h1, h2, h w h3⟩)
      · cases e
  · cases e
def rSl (K : PySem.W.Frag) : V → Option Int → Option Int → Hp → VK → Prop := fun x lo hi H Q => rSlN K x lo hi H Q ∨ rSlL K x lo hi H Q ∨ rSlS x lo hi H Q
theorem SlR.or {X : Cx} {r r' : V → Option Int → Option Int → Hp → VK → Prop} (h : SlR X r) (h' : SlR X r') : SlR X (fun x lo hi H Q => r x lo hi H Q ∨ r' x lo hi H Q) :=
  fun pins s σ H x v vl vu lo hi sl Q I rx hs pl pu q => q.elim (fun q => h pins s σ H x v vl vu lo hi sl Q I rx hs pl pu q) fun q => h' pins s σ H x v vl vu lo hi sl Q I rx hs pl pu q
theorem sl_rule {X : Cx} : SlR X (rSl X.K) := SlR.or sl_tupN (SlR.or sl_list sl_str)
theorem sIx_eq (n d : Nat) (i : Option Int) : HT.sIx n d i = sIx n d i := by cases i <;> rfl
theorem VRs.cut {xs : List V} {l : List MV} (r : VRs g ρ H xs l) (lo hi : Option Int) : VRs g ρ H (cutV xs lo hi) (cut l lo hi) := by
  unfold cutV Mn.cut
  rw [sIx_eq, sIx_eq, r.1]
  exact (r.drop _).take _
theorem slice_read {z : EV} {lo hi : Option Int} (S : SR g ρ st H) (d : ∀ a, H a = none → H0 a = none) (hx : ER g H0 ρ H v x) (e : slice x lo hi st = some z) (h : Lands g ρ H (.ok z st) (QR g H0 Q) E) : rSl g.K v lo hi H Q := by
  unfold slice at e
  split at e
  · rename_i l e1
    cases e
    obtain ⟨a, xs, rfl, h1, r⟩ := tupOf_inv hx e1
    refine .inl ⟨a, xs, rfl, h1.t, fun hw => ?_, fun _ => h.tup S (r.cut lo hi)⟩
    have hc : Mn.cut l lo hi = l := by
      unfold Mn.cut
      rw [sIx_eq, sIx_eq, r.1] at hw
      rw [hw.1, hw.2]
      simp
    rw [hc] at h
    exact h.now S (mkTup_ok h1 r)
  · split at e
    · rename_i l e1
      cases e
      obtain ⟨a, xs, rfl, h1, r⟩ := lstOf_inv S hx e1
      exact .inr (.inl ⟨a, xs, rfl, h1, fun p hp => h.lst S d (r.cut lo hi) hp⟩)
    · cases e
end
end Mn
end
section
set_option autoImplicit false
set_option maxRecDepth 100000
/-! MnT: the order of nested tuples of numbers and texts, as far as they can be compared; sorts of such. -/
namespace MnT
open PySem PySem.SeqAt
open PySem.AutoSeq1 (wpAny_loadPart')
open PySem.MeetsSeq PySem.MeetsSeq2 PySem.MeetsSeq3
/-- what walking two rows side by side gives: the first pair that differs decides -/
def Lx (A : Around) (s : Shared) (z k : Bool) : List (Value × Value) → Prop
  | [] => z = k
  | pq :: r => ∃ b, EqAt A s pq.1 pq.2 b ∧ (b = true → Lx A s z k r) ∧ (b = false → RcLt A s pq.1 pq.2 k)
theorem tupLt (l m : Addr) (us ws : Array Value) (c c2 : Nat) (d1 d2 : Option Addr) (o1 o2 : Array (Option Value)) (k : Bool) :
    Meets (Builtin.«tuple.__lt__» ⟨[.ref l, .ref m], []⟩)
      (fun A R s => (s.heap.get? l = some { cls := .type "tuple", dict := d1, data := .seq us c, slots := o1 }) ∧ (s.heap.get? m = some { cls := .type "tuple", dict := d2, data := .seq ws c2, slots := o2 }) ∧
        Lx A.in1 s (decide (us.size < ws.size)) k (us.toList.zip ws.toList) ∧ R (.ok (.ret (.bool k))) s) :=
  .of_wp fun prog w A R s h => by
    obtain ⟨hp, g, d, tk, os⟩ := s
    obtain ⟨gl, gm, lx, h⟩ := h
    have tt := AutoSeq1.sub_tuple_tuple
    wp_walk using wpAny_loadPart' gl, wpAny_loadPart' gm, wpAny_forIn_list _ (fun rest b t => b.1 = none ∧ t = ⟨hp, g, d, tk, os⟩ ∧ Lx A.in1 ⟨hp, g, d, tk, os⟩ (decide (us.size < ws.size)) k rest) _
    case turn =>
      rintro ⟨y, x⟩ rest b t ⟨_, rfl, e, q1, q2, q3⟩
      refine wpAny_bind (q1 prog w _ _ ?_)
      cases e with
      | true =>
        wp_walk
        exact ⟨rfl, rfl, q2 rfl⟩
      | false =>
        have q4 := q3 rfl prog w
        wp_walk using q4
        exact ⟨_, rfl, by simpa using h⟩
    case fin =>
      rintro ⟨b1, b2⟩ t ⟨hb, rfl, q⟩
      simp only at hb
      subst hb
      have q' : decide (us.size < ws.size) = k := q
      subst q'
      wp_walk
      exact ⟨_, rfl, by simpa [Builtin.Tuple.tupleCompareSizes] using h⟩
    case h => exact ⟨rfl, rfl, lx⟩
theorem lt_tuples {A : Around} {s : Shared} {l m : Addr} {us ws : Array Value} {k : Bool} (hl : s.heap.IsTuple l us) (hm : s.heap.IsTuple m ws) (hu : A.units < cLine) (h : Lx A.in1 s (decide (us.size < ws.size)) k (us.toList.zip ws.toList)) : RcLt A s (.ref l) (.ref m) k := by
  intro prog w E Q q
  obtain ⟨⟨c1, x1, y1, z1⟩, g1, t1, n1, e1⟩ := id hl
  obtain ⟨⟨c2, x2, y2, z2⟩, g2, t2, n2, e2⟩ := id hm
  simp only at t1 e1 t2 e2
  subst t1 e1 t2 e2
  exact richCompare_meets_room (op := .Lt) ⟨_, g1, rfl⟩ ⟨_, g2, rfl⟩ F.slot_tuple_lt F.entry_tuple_lt (F.args_tuple_lt_2 _ _) (tupLt l m us ws n1 n2 x1 x2 z1 z2 k) ⟨g1, g2, h, (fun x => nomatch x), q⟩ hu
end MnT
end
section
set_option autoImplicit false
set_option maxRecDepth 20000
/-! MnQ: sorted(xs), xs a list of tuples of data. -/
namespace Mn
open PySem PySem.Spec PySem.SeqAt L2
open MnT (Lx lt_tuples)
theorem ltS_dec (a b : List Nat) : ltS a b = decide ((toStr a).cps.toList < (toStr b).cps.toList) := by
  have h : ∀ a b : List Nat, ltS a b = decide (a < b) := by
    intro a
    induction a with
    | nil =>
      intro b
      cases b with
      | nil => simp [ltS]
      | cons y b => simp [ltS]
    | cons x a ih =>
      intro b
      cases b with
      | nil => simp [ltS]
      | cons y b =>
        simp only [ltS]
        by_cases e : x = y
        · subst e; rw [if_pos rfl, ih b]; simp
        · rw [if_neg e]; simp [List.cons_lt_cons_iff, e]
  have e : ∀ z : List Nat, (toStr z).cps.toList = z := fun z => by simp [toStr]
  rw [e, e]; exact h a b
mutual
/-- a < b of data that can be compared -/
theorem rcLt_d : ∀ (x y : PV) (A : Around) (s : Shared) (a b : Value) (as bs : List Addr) (k : Bool), Reads s.heap a x.d as → Reads s.heap b y.d bs → A.units + min x.dep y.dep < cLine → PV.lt x y = some k → RcLt A s a b k
  | .int i, y, A, s, a, b, as, bs, k, ra, rb, hu, h => by
    cases y <;> simp only [PV.lt] at h <;> try (cases h; done)
    cases h; cases ra; cases rb
    intro prog w E Q hq
    exact PyProof.Rows.lt_int hq
  | .str i, y, A, s, a, b, as, bs, k, ra, rb, hu, h => by
    cases y <;> simp only [PV.lt] at h <;> try (cases h; done)
    cases h; cases ra; cases rb
    intro prog w E Q hq
    rw [ltS_dec] at hq
    exact PyProof.Rows.lt_str hq
  | .tup xs, y, A, s, a, b, as, bs, k, ra, rb, hu, h => by
    cases y with
    | tup ys =>
      simp only [PV.lt] at h
      cases ra with
      | @tuple l o vs n _ as₁ h1 h2 h3 h4 =>
        cases rb with
        | @tuple l' o' vs' n' _ bs₁ k1 k2 k3 k4 =>
          have hu' : A.in1.units + min (PV.deps xs) (PV.deps ys) < cLine := by
            simp only [PV.dep] at hu
            have : A.in1.units = A.units + 1 := rfl
            omega
          refine lt_tuples ⟨_, h1, h2, _, h3⟩ ⟨_, k1, k2, _, k3⟩ (by simp only [PV.dep] at hu; omega) ?_
          refine lx_d xs ys A.in1 s vs.toList vs'.toList _ _ k _ h4 k4 hu' h ?_
          rw [Array.length_toList, Array.length_toList]
    | _ => simp only [PV.lt] at h; cases h
  | .non, y, _, _, _, _, _, _, _, _, _, _, h => by cases y <;> simp only [PV.lt] at h <;> cases h
  | .bl _, y, _, _, _, _, _, _, _, _, _, _, h => by cases y <;> simp only [PV.lt] at h <;> cases h
  | .lst _, y, _, _, _, _, _, _, _, _, _, _, h => by cases y <;> simp only [PV.lt] at h <;> cases h
theorem lx_d : ∀ (xs ys : List PV) (A : Around) (s : Shared) (vs ws : List Value) (as bs : List Addr) (k z : Bool), ReadsAll s.heap vs (PV.ds xs) as → ReadsAll s.heap ws (PV.ds ys) bs → A.units + min (PV.deps xs) (PV.deps ys) < cLine → PV.lts xs ys = some k →
    z = decide (vs.length < ws.length) → Lx A s z k (vs.zip ws)
  | [], [], A, s, vs, ws, as, bs, k, z, ra, rb, hu, h, hz => by
    simp only [PV.ds] at ra rb
    cases ra; cases rb
    simp only [PV.lts] at h
    cases h
    exact hz
  | [], y :: ys, A, s, vs, ws, as, bs, k, z, ra, rb, hu, h, hz => by
    simp only [PV.ds] at ra rb
    cases ra; cases rb
    simp only [PV.lts] at h
    cases h
    rw [List.zip_nil_left]
    exact hz.trans (by simp)
  | x :: xs, [], A, s, vs, ws, as, bs, k, z, ra, rb, hu, h, hz => by
    simp only [PV.ds] at ra rb
    cases ra; cases rb
    simp only [PV.lts] at h
    cases h
    rw [List.zip_nil_right]
    exact hz.trans (by simp)
  | x :: xs, y :: ys, A, s, vs, ws, as, bs, k, z, ra, rb, hu, h, hz => by
    simp only [PV.ds] at ra rb
    simp only [PV.deps] at hu
    simp only [PV.lts] at h
    cases ra with
    | cons r rs =>
      cases rb with
      | cons r' rs' =>
        rw [List.zip_cons_cons]
        refine ⟨PV.eqv x y, ?_, fun e => ?_, fun e => ?_⟩
        · rw [← d_eqv]
          exact eqAt_plain x.d y.d A s _ _ _ _ r r' (d_plain x) (d_plain y) (by rw [d_depth, d_depth]; omega)
        · rw [e, if_pos rfl] at h
          refine lx_d xs ys A s _ _ _ _ k z rs rs' (by omega) h ?_
          rw [hz]
          simp only [List.length_cons, Nat.add_lt_add_iff_right]
        · rw [e, if_neg (by simp)] at h
          exact rcLt_d x y A s _ _ _ _ k r r' (by omega) h
end
/-! ### the sort's road, by ranks -/
section
open PyProof.Rows
variable {prog : Program} {w : World} {A : Around} {E : Value → Shared → Prop} {s : Shared}
/-- what stands ahead of a sort stands as it was while it runs -/
def TupKept (h h' : Heap) : Prop := ∀ b o, h.get? b = some o → o.cls = .type "tuple" → h'.get? b = some o
theorem mid_kept {h : Heap} {a : Addr} {vs : List Value} {n : Nat} (ho : h.get? a = some (seqObj "list" vs.toArray n)) : TupKept h (TS.midHeap h a vs) := fun b o q c => by
  refine TS.midHeap_old (fun e => ?_) q
  subst e
  rw [ho] at q
  have q2 : seqObj "list" vs.toArray n = o := Option.some.inj q
  subst q2
  have c2 : Value.type "list" = Value.type "tuple" := c
  injection c2 with c3
  exact absurd c3 (by decide)
abbrev preSort (h : Heap) (vs : List Value) : Heap := ((h.push (seqObj "list" #[] 0)).update h.objs.size (Obj.mapSeq (· ++ vs.toArray))).push (seqObj "list" vs.toArray 0)
theorem pre_size (h : Heap) (vs : List Value) : ((h.push (seqObj "list" #[] 0)).update h.objs.size (Obj.mapSeq (· ++ vs.toArray))).objs.size = h.objs.size + 1 :=
  (Heap.size_update ..).trans (size_push' ..)
theorem pre_at (h : Heap) (vs : List Value) : (preSort h vs).get? (h.objs.size + 1) = some (seqObj "list" vs.toArray 0) := by
  have := pre_size h vs
  rw [← this]
  exact Heap.get?_push_size _ rfl
theorem pre_kept (h : Heap) (vs : List Value) : TupKept h (preSort h vs) := fun b o q _ => by
  have lt := Heap.lt_size q
  have z := pre_size h vs
  have ne := Nat.ne_of_lt lt
  refine (Heap.get?_push_ne _ _ _ (by rw [z]; exact Nat.ne_of_lt (Nat.lt_succ_of_lt lt))).trans ?_
  refine (Heap.get?_update_ne _ _ _ _ ne).trans ?_
  exact (Heap.get?_push_ne _ _ _ ne).trans q
theorem sorted_r {l : Addr} {vs : List Value} {Q : Value → Shared → Prop} (r : Value → Int) (hl : s.heap.IsList l vs.toArray) (h64 : vs.length < 64)
    (hK : ∀ h', TupKept s.heap h' → 2 ≤ vs.length → ∀ (Q : SortKind → Shared → Prop) (E : Value → Shared → Prop), (∀ κ, TS.Cmp prog w A.in1.in1 { s with heap := h' } κ (PyProof.Rows.pairsOf vs) r → Q κ { s with heap := h' }) → wpAny (model prog w) A.in1.in1 (keyKind' vs.toArray) Q E { s with heap := h' })
    (h : ∀ (ps : List (Value × Value)) (out : Array Value), out.toList = ps.map Prod.snd → ps.Perm (vs.zip vs) → ps.Pairwise (fun p q => r p.1 ≤ r q.1) → Q (.ref (s.heap.objs.size + 1)) { s with heap := sortedAll s.heap vs out }) :
    wpAny (model prog w) A (call (.builtin "sorted") [.ref l]) Q E s := by
  have big : vs.toArray.size ≤ sizeLine := by rw [List.size_toArray, sizeLine_eq]; omega
  refine Calls.call_function_entry kind_sorted plain_sorted entry_sorted (args_sorted1 _) ?_
  unfold Builtin.«sorted»
  refine wpAny_bind (m := checkCount "sorted" 1 1 _) (wpAny_pure ?_)
  refine wpAny_bind (collect_list hl ?_ (by first | exact big | (rw [sizeLine_eq]; omega)))
  refine wpAny_bind (wpAny_newList ?_ (by first | exact big | (rw [sizeLine_eq]; omega)))
  show wpAny _ _ _ _ _ { s with heap := preSort s.heap vs }
  rw [pre_size]
  have ob := pre_at s.heap vs
  refine wpAny_bind (wpAny_holding (wpAny_call_entry slot_list_sort ⟨_, ob, rfl⟩ entry_list_sort (SK.plain_sort (s := { s with heap := preSort s.heap vs }) (r := r) ob h64 (fun h2 Q' q' => ?_) fun ps out e1 e2 e3 => ⟨_, rfl, ?_⟩) (args_list_sort _)))
  · refine hK _ (fun b o q c => ?_) h2 Q' _ q'
    exact mid_kept ob b o (pre_kept s.heap vs b o q c) c
  · exact wpAny_pure ⟨_, rfl, h ps out e1 e2 e3⟩
end
/-! ### comparing, as a sort does -/
def PV.atom : PV → Bool
  | .str _ => true
  | .int _ => true
  | _ => false
section
open PyProof.Rows
variable {prog : Program} {w : World} {A : Around} {E : Value → Shared → Prop} {s : Shared}
theorem one_atom {x y : PV} {a b : Value} {as bs : List Addr} {k : Bool} {Q : Bool → Shared → Prop} (hx : x.atom = true) (ra : Reads s.heap a x.d as) (rb : Reads s.heap b y.d bs) (h : PV.lt x y = some k) (q : Q k s) : wpAny (model prog w) A (oneLt' true a b) Q E s := by
  cases x with
  | str z =>
    cases y <;> simp only [PV.lt] at h <;> try (cases h; done)
    cases h; cases ra; cases rb
    rw [ltS_dec] at q
    exact oneLt_str q
  | int z =>
    cases y <;> simp only [PV.lt] at h <;> try (cases h; done)
    cases h; cases ra; cases rb
    exact oneLt_int q
  | _ => cases hx
theorem one_more {x y : PV} {a b : Value} {as bs : List Addr} {k : Bool} {Q : Bool → Shared → Prop} (ra : Reads s.heap a x.d as) (rb : Reads s.heap b y.d bs) (hu : A.units + min x.dep y.dep < cLine) (h : PV.lt x y = some k) (q : Q k s) : wpAny (model prog w) A (oneLt' false a b) Q E s :=
  PySem.W.kat_one a b (rcLt_d x y A s a b as bs k ra rb hu h prog w E _ q)
theorem katLex_d {Q : Bool → Shared → Prop} : ∀ (xs ys : List PV) (i : Nat) (vs ws : List Value) (as bs : List Addr) (k fin : Bool), ReadsAll s.heap vs (PV.ds xs) as → ReadsAll s.heap ws (PV.ds ys) bs → A.units + min (PV.deps xs) (PV.deps ys) < cLine → PV.lts xs ys = some k →
    (i = 0 → ∀ x r, xs = x :: r → x.atom = true) → fin = decide (vs.length < ws.length) → Q k s → PySem.W.KatLex prog w A true fin Q (vs.zip ws) i s
  | [], [], i, vs, ws, as, bs, k, fin, ra, rb, hu, h, h0, hz, q => by
    simp only [PV.ds] at ra rb
    cases ra; cases rb
    simp only [PV.lts] at h
    cases h
    have e : fin = false := hz
    subst e
    exact PySem.W.kat_nil q
  | [], y :: ys, i, vs, ws, as, bs, k, fin, ra, rb, hu, h, h0, hz, q => by
    simp only [PV.ds] at ra rb
    cases ra; cases rb
    simp only [PV.lts] at h
    cases h
    have e : fin = true := hz.trans (by simp)
    subst e
    rw [List.zip_nil_left]
    exact PySem.W.kat_nil q
  | x :: xs, [], i, vs, ws, as, bs, k, fin, ra, rb, hu, h, h0, hz, q => by
    simp only [PV.ds] at ra rb
    cases ra; cases rb
    simp only [PV.lts] at h
    cases h
    have e : fin = false := hz.trans (by simp)
    subst e
    rw [List.zip_nil_right]
    exact PySem.W.kat_nil q
  | x :: xs, y :: ys, i, vs, ws, as, bs, k, fin, ra, rb, hu, h, h0, hz, q => by
    simp only [PV.ds] at ra rb
    simp only [PV.deps] at hu
    simp only [PV.lts] at h
    cases ra with
    | cons r rs =>
      cases rb with
      | cons r' rs' =>
        rw [List.zip_cons_cons]
        refine PySem.W.kat_cons (eqAt_plain x.d y.d A s _ _ _ _ r r' (d_plain x) (d_plain y) (by rw [d_depth, d_depth]; omega) prog w _ _ ?_)
        rw [d_eqv]
        cases e : PV.eqv x y with
        | true =>
          rw [e, if_pos rfl] at h
          refine PySem.W.kat_yes (katLex_d xs ys (i + 1) _ _ _ _ k fin rs rs' (by omega) h (fun z => absurd z (Nat.succ_ne_zero i)) ?_ q)
          rw [hz]
          simp only [List.length_cons, Nat.add_lt_add_iff_right]
        | false =>
          rw [e, if_neg (by simp)] at h
          refine PySem.W.kat_no ?_
          by_cases hi : i = 0
          · subst hi
            exact one_atom (h0 rfl x xs rfl) r r' h q
          · have hb : (true && i == 0) = false := by simp [hi]
            rw [hb]
            exact one_more r r' (by omega) h q
/-- the values read as these data -/
def Rds (h : Heap) : List Value → List PV → Prop
  | [], [] => True
  | v :: vs, d :: ds => (∃ as, Reads h v d.d as) ∧ Rds h vs ds
  | _, _ => False
theorem Rds.get {h : Heap} : ∀ {vs : List Value} {ds : List PV}, Rds h vs ds → vs.length = ds.length ∧ ∀ (i : Nat) (v : Value), vs[i]? = some v → ∃ d as, ds[i]? = some d ∧ Reads h v d.d as
  | [], [], _ => ⟨rfl, fun i v e => by simp at e⟩
  | [], _ :: _, q => q.elim
  | _ :: _, [], q => q.elim
  | v :: vs, d :: ds, q => by
    obtain ⟨⟨as, r⟩, q2⟩ := q
    obtain ⟨h1, h2⟩ := Rds.get q2
    refine ⟨congrArg (· + 1) h1, fun i u e => ?_⟩
    cases i with
    | zero => cases e; exact ⟨d, as, rfl, r⟩
    | succ i => exact h2 i u e
/-- the first items -/
def fstV : PV → PV
  | .tup (x :: _) => x
  | _ => .non
theorem katTups_d {h : Heap} : ∀ {vs : List Value} {ds : List PV}, Rds h vs ds → (∀ d ∈ ds, ∃ x r, d = .tup (x :: r)) → ∃ fs : List Value, PySem.W.KatTups h vs fs ∧ Rds h fs (ds.map fstV)
  | [], [], _, _ => ⟨[], trivial, trivial⟩
  | [], _ :: _, q, _ => q.elim
  | _ :: _, [], q, _ => q.elim
  | v :: vs, d :: ds, q, hd => by
    obtain ⟨⟨as, r⟩, q2⟩ := q
    obtain ⟨fs, h1, h2⟩ := katTups_d q2 fun d m => hd d (List.mem_cons_of_mem _ m)
    obtain ⟨x, t, rfl⟩ := hd d List.mem_cons_self
    cases r with
    | @tuple a o us n _ as₁ g1 g2 g3 g4 =>
      simp only [PV.ds] at g4
      cases hu : us.toList with
      | nil => rw [hu] at g4; cases g4
      | cons u ut =>
        rw [hu] at g4
        cases g4 with
        | cons k1 k2 =>
          have h0 : us[0]? = some u := by
            rw [← Array.getElem?_toList, hu]; rfl
          exact ⟨u :: fs, PySem.W.KatTups.cons g1 g2 g3 h0 h1, ⟨_, k1⟩, h2⟩
def fk (b : Bool) : PV → Bool
  | .str _ => b
  | .int _ => !b
  | _ => false
theorem looks_fst {h : Heap} {v : Value} {x : PV} {as : List Addr} (r : Reads h v x.d as) (b : Bool) (hx : fk b x = true) : PySem.W.Looks (model prog w) h (typeOf v) (.type (if b then "str" else "int")) := by
  cases x with
  | str z => cases r; have hb : b = true := hx; subst hb; exact PySem.W.Looks.of_pure rfl
  | int z =>
    cases r
    have hb : b = false := by simpa [fk] using hx
    subst hb
    exact PySem.W.Looks.of_pure rfl
  | _ => cases hx
/-- the kind of sort, and what it compares by -/
theorem kind_d {vs : List Value} {ds : List PV} {r : Value → Int} (b : Bool) (hr : Rds s.heap vs ds) (hb : ds.all (fun d => if b then PV.fstS d else PV.fstI d) = true) (h2 : 2 ≤ vs.length) (hu : A.units + PV.deps ds < cLine)
    (hlt : ∀ (i j : Nat) (u v : Value) (x y : PV), vs[i]? = some u → vs[j]? = some v → ds[i]? = some x → ds[j]? = some y → PV.lt x y = some (decide (r u < r v))) (Q : SortKind → Shared → Prop)
    (q : ∀ κ, TS.Cmp prog w A s κ (PyProof.Rows.pairsOf vs) r → Q κ s) : wpAny (model prog w) A (keyKind' vs.toArray) Q E s := by
  have shape : ∀ d ∈ ds, ∃ x t, d = .tup (x :: t) ∧ fk b x = true := fun d m => by
    have h := List.all_eq_true.mp hb d m
    cases b with
    | true =>
      rw [if_pos rfl] at h
      unfold PV.fstS at h
      split at h
      · exact ⟨_, _, rfl, rfl⟩
      · cases h
    | false =>
      rw [if_neg (by simp)] at h
      unfold PV.fstI at h
      split at h
      · exact ⟨_, _, rfl, rfl⟩
      · cases h
  obtain ⟨fs, k1, k2⟩ := katTups_d hr fun d m => by obtain ⟨x, t, e, _⟩ := shape d m; exact ⟨x, t, e⟩
  obtain ⟨l1, l2⟩ := k2.get
  obtain ⟨m1, m2⟩ := hr.get
  refine PySem.W.kat_kind (T := .type (if b then "str" else "int")) k1 (by rw [l1, List.length_map, ← m1]; omega) (fun v hv => ?_) (by cases b <;> rfl) (q _ ?_)
  · obtain ⟨i, hi⟩ := List.mem_iff_getElem?.mp hv
    obtain ⟨x, as, e, rd⟩ := l2 i v hi
    rw [List.getElem?_map] at e
    cases ed : ds[i]? with
    | none => rw [ed] at e; cases e
    | some d =>
      rw [ed] at e
      obtain ⟨x', t, rfl, hx⟩ := shape d (List.mem_of_getElem? ed)
      cases e
      exact looks_fst rd b hx
  · have hT : (Value.type (if b then "str" else "int") != Value.type "tuple") = true := by cases b <;> rfl
    rw [hT]
    intro x y hx hy Q' E' q'
    rw [pairsOf_toList] at hx hy
    have gx := (mem_zip_self hx).2
    have gy := (mem_zip_self hy).2
    obtain ⟨i, hi⟩ := List.mem_iff_getElem?.mp gx
    obtain ⟨j, hj⟩ := List.mem_iff_getElem?.mp gy
    obtain ⟨d, as, e1, r1⟩ := m2 i x.1 hi
    obtain ⟨d', bs, e2, r2⟩ := m2 j y.1 hj
    have hk := hlt i j x.1 y.1 d d' hi hj e1 e2
    obtain ⟨c1, t1, ed, hc⟩ := shape d (List.mem_of_getElem? e1)
    obtain ⟨c2, t2, ed', _⟩ := shape d' (List.mem_of_getElem? e2)
    have dd : ∀ d ∈ ds, PV.dep d ≤ PV.deps ds := by
      intro d m
      clear hr hb hu hlt q shape k1 k2 l2 m2 hi hj e1 e2 hk l1 m1
      induction ds with
      | nil => cases m
      | cons z ds ih =>
        simp only [PV.deps]
        rcases List.mem_cons.mp m with rfl | m
        · omega
        · have := ih m; omega
    have hd1 := dd d (List.mem_of_getElem? e1)
    subst ed ed'
    generalize x.1 = u at r1 hk q' ⊢
    generalize y.1 = v at r2 hk q' ⊢
    cases r1 with
    | @tuple a o us n _ as₁ g1 g2 g3 g4 =>
      cases r2 with
      | @tuple a' o' us' n' _ bs₁ g1' g2' g3' g4' =>
        refine PySem.W.kat_lt g1 g3 g1' g3' ?_
        refine katLex_d (c1 :: t1) (c2 :: t2) 0 us.toList us'.toList _ _ _ _ g4 g4' ?_ hk ?_ ?_ q'
        · simp only [PV.dep] at hd1; omega
        · intro _ z t e
          cases e
          revert hc
          cases c1 <;> simp [PV.atom, fk]
        · rw [Array.length_toList, Array.length_toList]
end
/-! ### plain facts of the order -/
mutual
theorem pl_eqv : ∀ x y : PV, x.pl = true → y.pl = true → (PV.eqv x y = true ↔ x = y)
  | .non, y, _, _ => by cases y <;> simp [PV.eqv]
  | .bl _, _, h, _ => by simp [PV.pl] at h
  | .lst _, _, h, _ => by simp [PV.pl] at h
  | .int i, y, _, hy => by cases y <;> simp [PV.eqv]; simp [PV.pl] at hy
  | .str i, y, _, _ => by cases y <;> simp [PV.eqv]
  | .tup l, y, hx, hy => by
    cases y <;> simp [PV.eqv]
    simp only [PV.pl] at hx hy
    exact pls_eqv l _ hx hy
theorem pls_eqv : ∀ x y : List PV, PV.pls x = true → PV.pls y = true → (PV.eqvs x y = true ↔ x = y)
  | [], y, _, _ => by cases y <;> simp [PV.eqvs]
  | _ :: _, [], _, _ => by simp [PV.eqvs]
  | a :: r, b :: q, hx, hy => by
    simp only [PV.pls, Bool.and_eq_true] at hx hy
    simp only [PV.eqvs, Bool.and_eq_true, pl_eqv a b hx.1 hy.1, pls_eqv r q hx.2 hy.2, List.cons.injEq]
end
mutual
theorem d_inj : ∀ x y : PV, x.d = y.d → x = y
  | .non, y, h => by cases y <;> simp [PV.d] at h ⊢
  | .bl a, y, h => by cases y <;> simp [PV.d] at h ⊢; exact h
  | .int i, y, h => by cases y <;> simp [PV.d] at h ⊢; exact h
  | .str i, y, h => by cases y <;> simp [PV.d] at h ⊢; exact toStr_inj h
  | .tup l, y, h => by cases y <;> simp [PV.d] at h ⊢; exact ds_inj _ _ h
  | .lst l, y, h => by cases y <;> simp [PV.d] at h ⊢; exact ds_inj _ _ h
theorem ds_inj : ∀ x y : List PV, PV.ds x = PV.ds y → x = y
  | [], y, h => by cases y <;> simp [PV.ds] at h ⊢
  | a :: r, [], h => by simp [PV.ds] at h
  | a :: r, b :: q, h => by
    simp only [PV.ds, List.cons.injEq] at h
    rw [d_inj a b h.1, ds_inj r q h.2]
end
theorem pls_mem {l : List PV} (h : PV.pls l = true) : ∀ x ∈ l, x.pl = true := by
  induction l with
  | nil => intro x m; cases m
  | cons a r ih =>
    simp only [PV.pls, Bool.and_eq_true] at h
    intro x m
    rcases List.mem_cons.mp m with rfl | m
    · exact h.1
    · exact ih h.2 x m
theorem ins_perm (x : PV) : ∀ l, (PV.ins x l).Perm (x :: l)
  | [] => List.Perm.refl _
  | y :: r => by
    unfold PV.ins
    split
    · exact ((ins_perm x r).cons y).trans (List.Perm.swap x y r)
    · exact List.Perm.refl _
theorem isort_perm : ∀ l, (PV.isort l).Perm l
  | [] => List.Perm.refl _
  | x :: r => (ins_perm x (PV.isort r)).trans ((isort_perm r).cons x)
def rkP : List PV → PV → Nat
  | [], _ => 0
  | k :: r, x => if PV.eqv k x = true then 0 else rkP r x + 1
theorem chk_lt : ∀ (ks : List PV), PV.chk ks = true → (∀ k ∈ ks, k.pl = true) → ∀ x ∈ ks, ∀ y ∈ ks, PV.lt x y = some (decide (rkP ks x < rkP ks y)) ∧ (rkP ks x = rkP ks y → x = y)
  | [], _, _, x, hx, _, _ => by cases hx
  | k :: r, hc, hp, x, hx, y, hy => by
    simp only [PV.chk, Bool.and_eq_true, beq_iff_eq] at hc
    obtain ⟨⟨h1, h2⟩, h3⟩ := hc
    have pk := hp k List.mem_cons_self
    have px := hp x hx
    have py := hp y hy
    have le : ∀ z ∈ r, z ≠ k → PV.lt k z = some true ∧ PV.lt z k = some false := fun z m hz => by
      have := List.all_eq_true.mp h2 z m
      unfold PV.leq at this
      simp only [Bool.or_eq_true, Bool.and_eq_true, beq_iff_eq] at this
      rcases this with q | q
      · exact absurd ((pl_eqv k z pk (hp z (List.mem_cons_of_mem _ m))).1 q).symm hz
      · exact q
    have ek : ∀ z, z.pl = true → (PV.eqv k z = true ↔ z = k) := fun z hz => (pl_eqv k z pk hz).trans eq_comm
    simp only [rkP]
    by_cases ex : x = k
    · have e1 := (ek x px).2 ex
      by_cases ey : y = k
      · have e2 := (ek y py).2 ey
        subst ex ey
        simp [e1, h1]
      · have e2 : ¬ PV.eqv k y = true := fun q => ey ((ek y py).1 q)
        have my : y ∈ r := (List.mem_cons.mp hy).resolve_left ey
        subst ex
        simp [e1, e2, (le y my ey).1]
    · have e1 : ¬ PV.eqv k x = true := fun q => ex ((ek x px).1 q)
      have mx : x ∈ r := (List.mem_cons.mp hx).resolve_left ex
      by_cases ey : y = k
      · have e2 := (ek y py).2 ey
        subst ey
        simp [e1, e2, (le x mx ex).2]
      · have e2 : ¬ PV.eqv k y = true := fun q => ey ((ek y py).1 q)
        have my : y ∈ r := (List.mem_cons.mp hy).resolve_left ey
        obtain ⟨i1, i2⟩ := chk_lt r h3 (fun z m => hp z (List.mem_cons_of_mem _ m)) x mx y my
        simp only [e1, e2, if_false]
        refine ⟨?_, fun q => i2 (by simpa [e1, e2] using q)⟩
        rw [i1]; simp
theorem chk_pair : ∀ (ks : List PV), PV.chk ks = true → (∀ k ∈ ks, k.pl = true) → ks.Pairwise fun x y => PV.lt y x = some false
  | [], _, _ => List.Pairwise.nil
  | k :: r, hc, hp => by
    simp only [PV.chk, Bool.and_eq_true, beq_iff_eq] at hc
    obtain ⟨⟨h1, h2⟩, h3⟩ := hc
    rw [List.pairwise_cons]
    refine ⟨fun z m => ?_, chk_pair r h3 fun z m => hp z (List.mem_cons_of_mem _ m)⟩
    have := List.all_eq_true.mp h2 z m
    unfold PV.leq at this
    simp only [Bool.or_eq_true, Bool.and_eq_true, beq_iff_eq] at this
    rcases this with q | q
    · rw [← (pl_eqv k z (hp k List.mem_cons_self) (hp z (List.mem_cons_of_mem _ m))).1 q]; exact h1
    · exact q.2
theorem sortP_inv {l k : List PV} (h : sortP l = some k) : (l.all PV.fstS || l.all PV.fstI) = true ∧ PV.pls l = true ∧ l.length < 64 ∧ PV.deps l ≤ dlim ∧ PV.chk k = true ∧ k.Perm l := by
  unfold sortP at h
  split at h
  · rename_i q
    cases h
    simp only [Bool.and_eq_true, decide_eq_true_eq] at q
    exact ⟨q.1.1.1.1, q.1.1.1.2, q.1.1.2, q.1.2, q.2, isort_perm l⟩
  · cases h
/-! ### the rule -/
mutual
theorem reads_kept {h h' : Heap} (k : TupKept h h') : ∀ (d : PV) (v : Value) (as : List Addr), d.pl = true → Reads h v d.d as → Reads h' v d.d as
  | .non, v, as, _, r => by cases r; exact .none
  | .bl _, v, as, hp, _ => by simp [PV.pl] at hp
  | .lst _, v, as, hp, _ => by simp [PV.pl] at hp
  | .int _, v, as, _, r => by cases r; exact .int _ _
  | .str _, v, as, _, r => by cases r; exact .str _ _
  | .tup l, v, as, hp, r => by
    simp only [PV.pl] at hp
    cases r with
    | tuple g1 g2 g3 g4 => exact .tuple (k _ _ g1 g2) g2 g3 (readsAll_kept k l _ _ hp g4)
theorem readsAll_kept {h h' : Heap} (k : TupKept h h') : ∀ (ds : List PV) (vs : List Value) (as : List Addr), PV.pls ds = true → ReadsAll h vs (PV.ds ds) as → ReadsAll h' vs (PV.ds ds) as
  | [], vs, as, _, r => by simp only [PV.ds] at r ⊢; cases r; exact .nil
  | d :: ds, vs, as, hp, r => by
    simp only [PV.pls, Bool.and_eq_true] at hp
    simp only [PV.ds] at r ⊢
    cases r with
    | cons r rs => exact .cons (reads_kept k d _ _ hp.1 r) (readsAll_kept k ds _ _ hp.2 rs)
end
theorem rds_kept {h h' : Heap} (k : TupKept h h') : ∀ {vs : List Value} {ds : List PV}, PV.pls ds = true → Rds h vs ds → Rds h' vs ds
  | [], [], _, _ => trivial
  | [], _ :: _, _, q => q.elim
  | _ :: _, [], _, q => q.elim
  | v :: vs, d :: ds, hp, ⟨⟨as, r⟩, q⟩ => by
    simp only [PV.pls, Bool.and_eq_true] at hp
    exact ⟨⟨as, reads_kept k d _ _ hp.1 r⟩, rds_kept k hp.2 q⟩
/-- sorted(xs): xs a list of tuples that can be compared -/
def rSortP (K : PySem.W.Frag) : List V → Hp → VK → Prop := fun vs H Q => ∃ (a : Addr) (xs : List V) (ds ks : List PV), vs = [V.ref a] ∧ SqL K H a xs ∧ xs.length = ds.length ∧ (∀ (i : Nat) (x : V) (d : PV), xs[i]? = some x → ds[i]? = some d → PR K H x d) ∧ sortP ds = some ks ∧
  ∀ (ys : List V) (p : Addr), ys.length = ks.length → (∀ (i : Nat) (y : V) (d : PV), ys[i]? = some y → ks[i]? = some d → PR K H y d) → H p = none → Q (.ref p) (upd H p (.lst ys))
section
variable {X : Cx}
theorem rds_of {pins : List (Addr × Obj)} {σ : St} {H : Hp} {s : Shared} (I : L2.Inv X pins σ H s) : ∀ {xs : List V} {ds : List PV} {us : List Value}, Vals xs us → xs.length = ds.length → (∀ (i : Nat) (x : V) (d : PV), xs[i]? = some x → ds[i]? = some d → PR X.K H x d) → Rds s.heap us ds
  | _, [], _, .nil, _, _ => trivial
  | _, _ :: _, _, .nil, h, _ => by simp at h
  | _, [], _, .cons _ _, h, _ => by simp at h
  | x :: xs, d :: ds, _, .cons r t, h, hr => ⟨Dp.reads I d.d x _ (hr 0 x d rfl rfl).dp r, rds_of I t (Nat.succ.inj h) fun i x d e1 e2 => hr (i + 1) x d e1 e2⟩
theorem cr_sortP (hu : X.A.units + 200 < cLine) : CallR X (.builtin "sorted") (rSortP X.K) := by
  intro pins s σ H vs us Q I rr hh
  obtain ⟨a, xs, ds, ks, rfl, hs, hlen, hr, hk, q⟩ := hh
  obtain ⟨s1, s2, s3, s4, s5, s6⟩ := sortP_inv hk
  obtain ⟨u, rfl, e0⟩ := vals1 rr
  cases e0
  obtain ⟨its, rv, hl, _⟩ := I.list hs
  have rd := rds_of I rv hlen hr
  obtain ⟨m1, m2⟩ := rd.get
  have kpl : ∀ k ∈ ks, k.pl = true := fun k m => pls_mem s2 k (s6.mem_iff.mp m)
  let r : Value → Int := fun v => (ks.findIdx fun z => PyData.eqv z.d (readOf s.heap v) : Nat)
  have rk : ∀ (d : PV), (ks.findIdx fun z => PyData.eqv z.d d.d) = rkP ks d := by
    intro d
    clear hk s5 s6 kpl q r
    induction ks with
    | nil => rfl
    | cons k t ih =>
      rw [List.findIdx_cons, d_eqv]
      simp only [rkP]
      cases PV.eqv k d with
      | true => rfl
      | false => simp [ih]
  have hru : ∀ (i : Nat) (u : Value) (d : PV), its[i]? = some u → ds[i]? = some d → r u = (rkP ks d : Int) := by
    intro i u d e1 e2
    obtain ⟨d', as, e3, rd'⟩ := m2 i u e1
    rw [e2] at e3; cases e3
    show ((ks.findIdx fun z => PyData.eqv z.d (readOf s.heap u) : Nat) : Int) = _
    rw [readOf_plain (d_plain d) rd', rk d]
  let f : V → Int := fun x => match x with
    | .ref a => r (.ref a)
    | _ => 0
  have xref : ∀ (i : Nat) (x : V) (u : Value), xs[i]? = some x → its[i]? = some u → r u = f x := by
    intro i x u e1 e2
    obtain ⟨d, as, e3, rd'⟩ := m2 i u e2
    have hp := hr i x d e1 e3
    have ht : ∃ l, d = .tup l := by
      have hm := List.mem_of_getElem? e3
      rw [Bool.or_eq_true] at s1
      rcases s1 with h | h
      · have := List.all_eq_true.mp h d hm
        unfold PV.fstS at this
        split at this
        · exact ⟨_, rfl⟩
        · cases this
      · have := List.all_eq_true.mp h d hm
        unfold PV.fstI at this
        split at this
        · exact ⟨_, rfl⟩
        · cases this
    obtain ⟨l, rfl⟩ := ht
    cases hp
    have hv := rv.get e1
    obtain ⟨u', e4, e5⟩ := hv
    rw [e2] at e4; cases e4
    cases e5
    rfl
  have h64 : its.length < 64 := by rw [m1]; exact s3
  have room : X.A.in1.in1.units + PV.deps ds < cLine := by
    have e : X.A.in1.in1.units = X.A.units + 2 := rfl
    have := s4
    unfold dlim at this
    omega
  refine sorted_r r hl.isList h64 (fun h' kp h2 Q' E' q' => ?_) fun ps out e1 e2 e3 => ?_
  · have lts : ∀ (i j : Nat) (u v : Value) (x y : PV), its[i]? = some u → its[j]? = some v → ds[i]? = some x → ds[j]? = some y → PV.lt x y = some (decide (r u < r v)) := by
      intro i j u v x y g1 g2 g3 g4
      have := (chk_lt ks s5 kpl x (s6.mem_iff.mpr (List.mem_of_getElem? g3)) y (s6.mem_iff.mpr (List.mem_of_getElem? g4))).1
      rw [this, hru i u x g1 g3, hru j v y g2 g4]
      congr 1
      simp only [Int.ofNat_lt]
    rw [Bool.or_eq_true] at s1
    rcases s1 with h | h
    · exact kind_d (s := { s with heap := h' }) true (rds_kept kp s2 rd) (by simpa using h) h2 room lts Q' q'
    · exact kind_d (s := { s with heap := h' }) false (rds_kept kp s2 rd) (by simpa using h) h2 room lts Q' q'
  · obtain ⟨ys, y1, y2, y3⟩ := sorted_liftR (r := r) (f := f) rv rfl xref e2 e3
    rw [← e1] at y1
    obtain ⟨ep, he⟩ := PyProof.Rows.sortedAll_at s.heap its out
    have ylen : ys.length = ks.length := by rw [y2.length_eq, hlen, s6.length_eq]
    have hz : ys.length ≤ sizeLine := by rw [ylen, s6.length_eq, sizeLine_eq]; omega
    refine ⟨.ref _, upd H (s.heap.objs.size + 1) (.lst ys), I.laid (t' := s.toks) (fun _ _ => PyProof.Rows.sortedAll_old) (Nat.le_succ _) ⟨hz, out.toList, ep, y1, he⟩, rfl, q ys _ ylen ?_ (I.hok.fresh (Nat.le_succ _))⟩
    -- whose data they are
    have one : ∀ (i j : Nat) (x : V) (d d' : PV), xs[i]? = some x → xs[j]? = some x → ds[i]? = some d → ds[j]? = some d' → d = d' := by
      intro i j x d d' g1 g2 g3 g4
      obtain ⟨u, h1, h2⟩ := rv.get g1
      obtain ⟨as, r1⟩ := Dp.reads I d.d x u (hr i x d g1 g3).dp h2
      obtain ⟨bs, r2⟩ := Dp.reads I d'.d x u (hr j x d' g2 g4).dp h2
      exact d_inj _ _ (plain_unique _ _ _ _ _ (d_plain d) r1 r2)
    haveI : ∀ x : V, Decidable (∃ i : Nat, xs[i]? = some x) := fun x => Classical.propDecidable _
    let D : V → PV := fun x => if h : ∃ i : Nat, xs[i]? = some x then (ds[h.choose]?).getD .non else .non
    have hD : ∀ (i : Nat) (x : V) (d : PV), xs[i]? = some x → ds[i]? = some d → D x = d := by
      intro i x d g1 g2
      have hx : ∃ i : Nat, xs[i]? = some x := ⟨i, g1⟩
      show (if h : ∃ i : Nat, xs[i]? = some x then (ds[h.choose]?).getD .non else .non) = d
      rw [dif_pos hx]
      have g3 := hx.choose_spec
      have lt : hx.choose < ds.length := by rw [← hlen]; exact (List.getElem?_eq_some_iff.mp g3).1
      rw [List.getElem?_eq_getElem lt]
      exact one _ _ x _ _ g3 g1 (List.getElem?_eq_getElem lt) g2
    have eD : xs.map D = ds := by
      refine List.ext_getElem? fun i => ?_
      rw [List.getElem?_map]
      cases g1 : xs[i]? with
      | none =>
        rw [List.getElem?_eq_none_iff] at g1
        rw [List.getElem?_eq_none (by omega)]; rfl
      | some x =>
        have lt : i < ds.length := by rw [← hlen]; exact (List.getElem?_eq_some_iff.mp g1).1
        rw [List.getElem?_eq_getElem lt]
        exact congrArg some (hD i x _ g1 (List.getElem?_eq_getElem lt))
    have fD : ∀ x ∈ xs, f x = (rkP ks (D x) : Int) ∧ PR X.K H x (D x) ∧ D x ∈ ks := by
      intro x m
      obtain ⟨i, g1⟩ := List.mem_iff_getElem?.mp m
      have lt : i < ds.length := by rw [← hlen]; exact (List.getElem?_eq_some_iff.mp g1).1
      have g2 := List.getElem?_eq_getElem lt
      obtain ⟨u, h1, _⟩ := rv.get g1
      rw [hD i x _ g1 g2]
      exact ⟨(xref i x u g1 h1).symm.trans (hru i u _ h1 g2), hr i x _ g1 g2, s6.mem_iff.mpr (List.mem_of_getElem? g2)⟩
    have perm : (ys.map D).Perm ks := ((y2.map D).trans (by rw [eD])).trans s6.symm
    have eq : ys.map D = ks := by
      refine List.Perm.eq_of_pairwise (le := fun x y => PV.lt y x = some false) (fun x y hx hy h1 h2 => ?_) ?_ (chk_pair ks s5 kpl) perm
      · have hx := perm.mem_iff.mp hx
        obtain ⟨c1, c2⟩ := chk_lt ks s5 kpl x hx y hy
        obtain ⟨c3, _⟩ := chk_lt ks s5 kpl y hy x hx
        rw [c3] at h1
        rw [c1] at h2
        simp at h1 h2
        exact c2 (by omega)
      · rw [List.pairwise_map]
        refine List.Pairwise.imp_of_mem (fun {x y} hx hy h => ?_) y3
        obtain ⟨f1, _, k1⟩ := fD x (y2.mem_iff.mp hx)
        obtain ⟨f2, _, k2⟩ := fD y (y2.mem_iff.mp hy)
        rw [(chk_lt ks s5 kpl (D y) k2 (D x) k1).1]
        rw [f1, f2] at h
        have : ¬ rkP ks (D y) < rkP ks (D x) := by omega
        simp [this]
    intro i y d g1 g2
    rw [← eq, List.getElem?_map, g1] at g2
    cases g2
    exact (fD y (y2.mem_iff.mp (List.mem_of_getElem? g1))).2.1
end
end Mn
end
section
set_option autoImplicit false
set_option maxRecDepth 20000
/-! Mn8: built-in functions by values. -/
namespace Mn
open PySem PySem.Spec L2
open PyProof.Rows (risingS sortedS StrsAre seqObj)
/-! ### the order of texts -/
theorem ltCps_ltS : ∀ a b : List Nat, ltCps a b = ltS a b
  | [], [] => rfl
  | [], _ :: _ => rfl
  | _ :: _, [] => rfl
  | a :: r, b :: t => by
    unfold ltCps ltS
    rw [ltCps_ltS r t]
    by_cases e : a = b
    · subst e; simp
    · rw [if_neg e]; simp [e]
theorem ltS_irr : ∀ a : List Nat, ltS a a = false
  | [] => rfl
  | a :: r => by unfold ltS; rw [if_pos rfl]; exact ltS_irr r
theorem ltS_tri : ∀ a b : List Nat, ltS a b = false → ltS b a = false → a = b
  | [], [], _, _ => rfl
  | [], _ :: _, h, _ => by cases h
  | _ :: _, [], _, h => by cases h
  | a :: r, b :: t, h1, h2 => by
    unfold ltS at h1 h2
    by_cases e : a = b
    · subst e
      rw [if_pos rfl] at h1 h2
      rw [ltS_tri r t h1 h2]
    · rw [if_neg e] at h1
      rw [if_neg (Ne.symm e)] at h2
      simp only [decide_eq_false_iff_not] at h1 h2
      omega
theorem ltS_trans : ∀ a b c : List Nat, ltS a b = true → ltS b c = true → ltS a c = true
  | a, b, [], _, h => by cases b <;> cases h
  | a, [], c :: u, h, _ => by cases a <;> cases h
  | [], b :: t, c :: u, _, _ => rfl
  | a :: r, b :: t, c :: u, h1, h2 => by
    unfold ltS at h1 h2 ⊢
    by_cases e : a = b
    · subst e
      rw [if_pos rfl] at h1
      by_cases e2 : a = c
      · subst e2
        rw [if_pos rfl] at h2 ⊢
        exact ltS_trans r t u h1 h2
      · rw [if_neg e2] at h2 ⊢; exact h2
    · rw [if_neg e] at h1
      simp only [decide_eq_true_eq] at h1
      by_cases e2 : b = c
      · subst e2
        rw [if_neg e]; simpa using h1
      · rw [if_neg e2] at h2
        simp only [decide_eq_true_eq] at h2
        rw [if_neg (by omega)]
        simp only [decide_eq_true_eq]; omega
def LeS (a b : List Nat) : Prop := ltS b a = false
theorem LeS.total (a b : List Nat) : LeS a b ∨ LeS b a := by
  unfold LeS
  cases h : ltS b a with
  | false => exact .inl rfl
  | true =>
    right
    cases h2 : ltS a b with
    | false => rfl
    | true => have := ltS_trans _ _ _ h h2; rw [ltS_irr] at this; cases this
theorem LeS.trans {a b c : List Nat} (h1 : LeS a b) (h2 : LeS b c) : LeS a c := by
  unfold LeS at *
  cases h : ltS c a with
  | false => rfl
  | true =>
    cases e : ltS b c with
    | true => have := ltS_trans _ _ _ e h; rw [h1] at this; cases this
    | false => rw [ltS_tri _ _ e h2] at h1; rw [h] at h1; cases h1
theorem insS_perm (x : List Nat) : ∀ l, (insS x l).Perm (x :: l)
  | [] => List.Perm.refl _
  | y :: r => by
    unfold insS
    split
    · exact ((insS_perm x r).cons y).trans (List.Perm.swap x y r)
    · exact List.Perm.refl _
theorem sortS_perm : ∀ l, (sortS l).Perm l
  | [] => List.Perm.refl _
  | x :: r => (insS_perm x (sortS r)).trans ((sortS_perm r).cons x)
theorem insS_sorted (x : List Nat) : ∀ l, l.Pairwise LeS → (insS x l).Pairwise LeS
  | [], _ => by simp [insS]
  | y :: r, h => by
    unfold insS
    rw [List.pairwise_cons] at h
    split
    · rename_i hlt
      rw [List.pairwise_cons]
      refine ⟨fun z hz => ?_, insS_sorted x r h.2⟩
      rcases List.mem_cons.mp ((insS_perm x r).mem_iff.mp hz) with e | hz
      · subst e
        rcases LeS.total y z with q | q
        · exact q
        · unfold LeS at q; rw [hlt] at q; cases q
      · exact h.1 z hz
    · rename_i hlt
      have hxy : LeS x y := by unfold LeS; simpa using hlt
      rw [List.pairwise_cons]
      refine ⟨fun z hz => ?_, by rw [List.pairwise_cons]; exact h⟩
      rcases List.mem_cons.mp hz with e | hz
      · subst e; exact hxy
      · exact hxy.trans (h.1 z hz)
theorem sortS_sorted : ∀ l, (sortS l).Pairwise LeS
  | [] => List.Pairwise.nil
  | x :: r => insS_sorted x _ (sortS_sorted r)
theorem sortS_uniq {l k : List (List Nat)} (p : k.Perm l) (h : k.Pairwise LeS) : k = sortS l :=
  List.Perm.eq_of_pairwise (fun a b _ _ h1 h2 => ltS_tri a b h2 h1) h (sortS_sorted l) (p.trans (sortS_perm l).symm)
theorem rising_pair : ∀ (l : List Str) (p : Str), risingS p l = true → (∀ x ∈ l, LeS p.cps.toList x.cps.toList) ∧ (l.map fun z => z.cps.toList).Pairwise LeS
  | [], p, _ => ⟨fun x h => by simp at h, List.Pairwise.nil⟩
  | x :: r, p, h => by
    unfold risingS at h
    rw [Bool.and_eq_true, Bool.not_eq_true', ltCps_ltS] at h
    obtain ⟨h1, h2⟩ := rising_pair r x h.2
    refine ⟨fun y hy => ?_, ?_⟩
    · rcases List.mem_cons.mp hy with e | hy
      · rw [e]; exact h.1
      · exact LeS.trans (b := x.cps.toList) h.1 (h1 y hy)
    · rw [List.map_cons, List.pairwise_cons]
      exact ⟨fun y hy => by obtain ⟨z, hz, rfl⟩ := List.mem_map.mp hy; exact h1 z hz, h2⟩
theorem sortedS_pair {l : List Str} (h : sortedS l = true) : (l.map fun z => z.cps.toList).Pairwise LeS := by
  cases l with
  | nil => exact List.Pairwise.nil
  | cons x r =>
    obtain ⟨h1, h2⟩ := rising_pair r x h
    rw [List.map_cons, List.pairwise_cons]
    exact ⟨fun y hy => by obtain ⟨z, hz, rfl⟩ := List.mem_map.mp hy; exact h1 z hz, h2⟩
/-- the sorted texts -/
theorem sorted_eq {ys zs : List Str} (p : ys.Perm zs) (h : sortedS ys = true) : (ys.map fun z => z.cps.toList) = sortS (zs.map fun z => z.cps.toList) := sortS_uniq (p.map _) (sortedS_pair h)
/-! ### rules for sets and sorts of texts -/
theorem cpsTo (l : List Nat) : (toStr l).cps.toList = l := by simp [toStr]
theorem toStr_cps (z : Str) : toStr z.cps.toList = z := by cases z; simp [toStr]
section
variable {X : Cx}
theorem setO_ok {P : Program} {w : World} {H : Hp} {h : Heap} {a : Addr} {zs : List Str} (R : SetTx w h a zs) : ObjOk P w H h a (setO w a zs) := by
  refine ⟨R, ?_, fun h1 h2 r k => r.at k⟩
  obtain ⟨o, _, _, _, e, _⟩ := R
  exact ⟨o, e⟩
theorem setO_get {pins : List (Addr × Obj)} {σ : St} {H : Hp} {s : Shared} {a : Addr} {zs : List Str} {w : World} (I : L2.Inv X pins σ H s) (h : H a = some (setO w a zs)) : SetTx w s.heap a zs := (I.hok a _ h).1
theorem vals_strs {zs : List Str} {us : List Value} (h : StrsAre us zs) : Vals (zs.map V.str) us := by
  induction h with
  | nil => exact .nil
  | cons y t _ ih => exact .cons ⟨t, rfl⟩ ih
/-- sorted(xs): a list or a set of texts -/
def rSortT (K : PySem.W.Frag) (w : World) : List V → Hp → VK → Prop := fun vs H Q => ∃ (a : Addr) (xs : List Str), vs = [V.ref a] ∧ (SqL K H a (xs.map V.str) ∨ H a = some (setO w a xs)) ∧ xs.length ≤ sizeLine ∧
  ∀ (ys : List Str) (p : Addr), ys.Perm xs → sortedS ys = true → H p = none → Q (.ref p) (upd H p (.lst (ys.map V.str)))
theorem cr_sortT (hh : X.A.handled = none) : CallR X (.builtin "sorted") (rSortT X.K X.w) := by
  intro pins s σ H vs us Q I r h
  obtain ⟨a, xs, rfl, hs, hz, q⟩ := h
  cases r with
  | cons r1 rr =>
    cases rr
    cases r1
    rcases hs with hs | hs
    · obtain ⟨its, rv, hl, _⟩ := I.list hs
      have hlen := rv.length
      rw [List.length_map] at hlen
      refine PyProof.Rows.sorted_strsAny hl.isList rv.strs (by rw [← hlen]; exact hz) fun out ys h1 h2 h3 => ?_
      obtain ⟨ep, he⟩ := PyProof.Rows.sortedAll_at s.heap its out
      refine ⟨.ref _, upd H (s.heap.objs.size + 1) (.lst (ys.map V.str)), I.laid (t' := s.toks) (fun _ _ => PyProof.Rows.sortedAll_old) (Nat.le_succ _) ⟨by rw [List.length_map, h2.length_eq]; exact hz, out.toList, ep, vals_strs h1, he⟩, rfl, ?_⟩
      exact q ys _ h2 h3 (I.hok.fresh (Nat.le_succ _))
    · refine txSorted (setO_get I hs) hh fun s' p out c ys k g o hp hc h1 h2 h3 => ?_
      have hn : H p = none := I.hok.fresh hp
      have hlen : (ys.map V.str).length ≤ sizeLine := by rw [List.length_map, h2.length_eq]; exact hz
      have J : L2.Inv X pins σ (upd H p (.lst (ys.map V.str))) { s with heap := s'.heap, gens := s'.gens, drawn := s'.drawn, toks := s'.toks } :=
        I.call (ch := []) (Un.laid k hp hn) (I.hok.laid k hp ⟨hlen, out.toList, c, vals_strs h1, hc⟩) (by rw [g]; exact I.bare) (fun _ z => nomatch z)
      have e : s' = { s with heap := s'.heap, gens := s'.gens, drawn := s'.drawn, toks := s'.toks } := by
        cases s'; cases s; cases o; rfl
      rw [e]
      exact ⟨.ref p, _, J, rfl, q ys p h2 h3 hn⟩
/-- set(xs), xs a list of texts -/
def rSetT (K : PySem.W.Frag) (w : World) : List V → Hp → VK → Prop := fun vs H Q => ∃ (a : Addr) (xs : List Str), vs = [V.ref a] ∧ SqL K H a (xs.map V.str) ∧ xs.length < 4000 ∧
  ∀ p, H p = none → Q (.ref p) (upd H p (setO w p (firstS [] xs)))
theorem cr_setT (hh : X.A.handled = none) : CallR X (.type "set") (rSetT X.K X.w) := by
  intro pins s σ H vs us Q I r h
  obtain ⟨a, xs, rfl, hs, hz, q⟩ := h
  cases r with
  | cons r1 rr =>
    cases rr
    cases r1
    obtain ⟨its, rv, hl, _⟩ := I.list hs
    have hlen := rv.length
    rw [List.length_map] at hlen
    have hn : H s.heap.objs.size = none := I.hok.fresh (Nat.le_refl _)
    refine txSet hh hl.isList (by simpa using rv.strs) (by rw [List.size_toArray, ← hlen]; have : PySem.scanBound = 4096 := rfl; omega) fun h' tk R k => ?_
    exact ⟨.ref s.heap.objs.size, _, I.laid (t' := tk) k (Nat.le_refl _) (setO_ok R), rfl, q _ hn⟩
/-- len(s), s a set of texts -/
def rLenT (w : World) : List V → Hp → VK → Prop := fun vs H Q => ∃ (a : Addr) (zs : List Str), vs = [V.ref a] ∧ H a = some (setO w a zs) ∧ Q (.int zs.length) H
theorem cr_lenT : CallR X (.builtin "len") (rLenT X.w) := by
  intro pins s σ H vs us Q I r h
  obtain ⟨a, zs, rfl, ha, q⟩ := h
  cases r with
  | cons r1 rr =>
    cases rr
    cases r1
    obtain ⟨o, es, ep, t, ho, hx, hd, g0, p0, nd, hb, hf, _⟩ := setO_get I ha
    have sz : es.size = zs.length := by
      have := p0.length_eq
      rw [List.length_map, Array.length_toList] at this; exact this
    refine call_len_set ho hx hd hf (by have : PySem.scanBound = 4096 := rfl; omega) ?_
    rw [sz]
    exact ⟨.int zs.length, H, I.tok (s.toks + 1 + 1), ⟨_, rfl⟩, q⟩
/-! ### all of them -/
theorem CallR.or {f : Value} {r r' : List V → Hp → VK → Prop} (h : CallR X f r) (h' : CallR X f r') : CallR X f (fun xs H Q => r xs H Q ∨ r' xs H Q) :=
  fun pins s σ H xs us Q I rv q => q.elim (fun q => h pins s σ H xs us Q I rv q) fun q => h' pins s σ H xs us Q I rv q
def pyBI : BI → Value
  | .len => .builtin "len" | .tuple => .type "tuple" | .list => .type "list" | .sorted => .builtin "sorted" | .set => .type "set"
  | .all => .builtin "all" | .any => .builtin "any" | .sum => .builtin "sum" | .max => .builtin "max" | .min => .builtin "min"
  | .abs => .builtin "abs" | .int => .type "int" | .dict => .type "dict" | .str => .type "str"
/-- sorted(d) -/
def rSortDk : List V → Hp → VK → Prop := fun xs H Q => ∃ (a : Addr) (kvs : List (Key × V)) (ks : List Str), xs = [.ref a] ∧ Rd H a (.dK kvs) ∧ kvs.map (·.1) = ks.map Sum.inr ∧ ks.length < 64 ∧
  ∀ ys p, ys.Perm ks → sortedS ys = true → H p = none → Q (.ref p) (upd H p (.lst (ys.map V.str)))
/-- dict(d) -/
def rDictD : List V → Hp → VK → Prop := fun xs H Q => ∃ (a : Addr) (kvs : List (Key × V)), xs = [.ref a] ∧ Rd H a (.dK kvs) ∧ ∀ p, H p = none → Q (.ref p) (upd H p (.dK kvs))
def rBI (K : PySem.W.Frag) (w : World) : BI → List V → Hp → VK → Prop
  | .len => fun xs H Q => (∃ x n, xs = [x] ∧ LenV K x H n ∧ Q (.int n) H) ∨ rLenT w xs H Q ∨ ∃ a kvs, xs = [V.ref a] ∧ H a = some (.dK kvs) ∧ Q (.int kvs.length) H
  | .tuple => fun xs H Q => ∃ p ys, xs = [.ref p] ∧ ((SqL K H p ys ∧ NewN H ys Q) ∨ (SqT K H p ys ∧ Q (.ref p) H))
  | .list => fun xs H Q => (∃ p ys, xs = [.ref p] ∧ (SqL K H p ys ∨ SqT K H p ys) ∧ ∀ l, H l = none → Q (.ref l) (upd H l (.lst ys))) ∨ rListS xs H Q
  | .sorted => fun xs H Q => rSortT K w xs H Q ∨ rSortP K xs H Q ∨ rSortDk xs H Q
  | .set => rSetT K w
  | .all => rAll K
  | .any => rAny K
  | .sum => rSum K
  | .max => fun xs H Q => rMax K xs H Q ∨ ∃ i j, xs = [.int i, .int j] ∧ Q (.int (if j > i then j else i)) H
  | .min => fun xs H Q => rMin K xs H Q ∨ ∃ i j, xs = [.int i, .int j] ∧ Q (.int (if j < i then j else i)) H
  | .abs => fun xs H Q => ∃ i, xs = [.int i] ∧ Q (.int (if i < 0 then -i else i)) H
  | .int => fun xs H Q => (∃ i, xs = [.int i] ∧ Q (.int i) H) ∨ ∃ k, xs = [.bl k] ∧ Q (.int (if k then 1 else 0)) H
  | .dict => fun xs H Q => rDictP K xs H Q ∨ rDictD xs H Q
  | .str => fun _ _ _ => False
theorem bi_rule (hc : X.calm = true) (hh : X.A.handled = none) (hu : X.A.units + 200 < cLine) (b : BI) : CallR X (pyBI b) (rBI X.K X.w b) := by
  cases b with
  | len => exact CallR.or call_len (CallR.or cr_lenT call_lenD)
  | tuple => exact cr_tupN
  | list => exact CallR.or call_list_of (cr_listS hh)
  | sorted => exact CallR.or (cr_sortT hh) (CallR.or (cr_sortP hu) (call_sortedD hc))
  | set => exact cr_setT hh
  | all => exact cr_all hc
  | any => exact cr_any hc
  | sum => exact cr_sum hc
  | max => exact CallR.or (cr_max hc) (call_max2 hc)
  | min => exact CallR.or (cr_min hc) (call_min2 hc)
  | abs => exact call_abs
  | int => exact call_int1
  | dict => exact CallR.or (cr_dictP hh) call_dictD
  | str => exact fun _ _ _ _ _ _ _ _ _ h => h.elim
end
section
variable {g : G} {ρ : List Addr} {st : Sto} {H H0 : Hp} {v u : V} {vs : List V} {x y : EV} {es : List EV} {Q : VK} {E : Nat → Option Int → Sto → List Addr → Hp → Prop}
theorem VRs.bls : ∀ {xs : List V} {l : List MV} {bs : List Bool}, VRs g ρ H xs l → allBl l = some bs → xs = bs.map V.bl
  | xs, [], bs, r, e => by cases e; rw [r.nil_inv]; rfl
  | xs, m :: l, bs, r, e => by
    obtain ⟨v, ys, rfl, h1, h2⟩ := r.cons_inv
    unfold allBl at e
    split at e
    · rename_i hq; cases hq
    · rename_i b r' e1
      cases e1
      cases e2 : allBl l with
      | none => rw [e2] at e; cases e
      | some q => rw [e2] at e; cases e; rw [h1.p_inv.bl_inv, VRs.bls h2 e2]; rfl
    · cases e
theorem VRs.ints : ∀ {xs : List V} {l : List MV} {bs : List Int}, VRs g ρ H xs l → allInt l = some bs → xs = bs.map V.int
  | xs, [], bs, r, e => by cases e; rw [r.nil_inv]; rfl
  | xs, m :: l, bs, r, e => by
    obtain ⟨v, ys, rfl, h1, h2⟩ := r.cons_inv
    unfold allInt at e
    split at e
    · rename_i hq; cases hq
    · rename_i b r' e1
      cases e1
      cases e2 : allInt l with
      | none => rw [e2] at e; cases e
      | some q => rw [e2] at e; cases e; rw [h1.p_inv.int_inv, VRs.ints h2 e2]; rfl
    · cases e
theorem VRs.strs : ∀ {xs : List V} {l : List MV} {bs : List (List Nat)}, VRs g ρ H xs l → allStr l = some bs → xs = (bs.map toStr).map V.str
  | xs, [], bs, r, e => by cases e; rw [r.nil_inv]; rfl
  | xs, m :: l, bs, r, e => by
    obtain ⟨v, ys, rfl, h1, h2⟩ := r.cons_inv
    unfold allStr at e
    split at e
    · rename_i hq; cases hq
    · rename_i b r' e1
      cases e1
      cases e2 : allStr l with
      | none => rw [e2] at e; cases e
      | some q => rw [e2] at e; cases e; rw [h1.p_inv.str_inv, VRs.strs h2 e2]; rfl
    · cases e
theorem VRs.ofStrs : ∀ (zs : List Str), VRs g ρ H (zs.map V.str) ((zs.map fun z => z.cps.toList).map fun z => .p (.str z))
  | [] => VRs.nil
  | z :: r => by
    refine VRs.cons (.p ?_) (VRs.ofStrs r)
    have := PR.str (K := g.K) (H := H) z.cps.toList
    rw [toStr_cps] at this; exact this
theorem firstS_dedup : ∀ (l acc : List (List Nat)), (firstS (acc.map toStr) (l.map toStr)).map (fun z => PV.str z.cps.toList) = dedup (acc.map .str) (l.map .str)
  | [], acc => by
    show (acc.map toStr).map _ = acc.map PV.str
    rw [List.map_map]
    exact List.map_congr_left fun a _ => congrArg PV.str (cpsTo a)
  | x :: r, acc => by
    show (firstS (acc.map toStr) (toStr x :: r.map toStr)).map _ = dedup (acc.map .str) (.str x :: r.map .str)
    unfold firstS dedup
    have e : ((acc.map PV.str).any fun y => y.eqv (.str x)) = decide (toStr x ∈ acc.map toStr) := by
      rw [List.any_map]
      have : ∀ l : List (List Nat), (l.any ((fun y => y.eqv (.str x)) ∘ PV.str)) = decide (toStr x ∈ l.map toStr) := by
        intro l
        induction l with
        | nil => simp
        | cons a l ih =>
          rw [List.any_cons, ih]
          show (PV.eqv (.str a) (.str x) || _) = _
          unfold PV.eqv
          by_cases h : a = x
          · subst h; simp
          · have : toStr x ≠ toStr a := fun q => h (toStr_inj q).symm
            simp [h, this]
      exact this acc
    rw [e]
    by_cases hm : toStr x ∈ acc.map toStr
    · rw [if_pos hm, if_pos (decide_eq_true hm)]
      exact firstS_dedup r acc
    · rw [if_neg hm, if_neg (by rw [decide_eq_false hm]; simp)]
      have := firstS_dedup r (acc ++ [x])
      rw [List.map_append, List.map_append] at this
      exact this
theorem maxI_ok : ∀ (l : List Int) (a : Int), maxI a l ∈ a :: l ∧ ∀ y ∈ a :: l, y ≤ maxI a l
  | [], a => ⟨by simp [maxI], fun y hy => by simp at hy; subst hy; exact Int.le_refl _⟩
  | b :: r, a => by
    by_cases c : a < b
    · have e : maxI a (b :: r) = maxI b r := by show maxI (if a < b then b else a) r = _; rw [if_pos c]
      obtain ⟨h1, h2⟩ := maxI_ok r b
      rw [e]
      refine ⟨List.mem_cons_of_mem _ h1, fun y hy => ?_⟩
      have h3 := h2 b List.mem_cons_self
      rcases List.mem_cons.mp hy with h | h
      · subst h; omega
      · exact h2 y h
    · have e : maxI a (b :: r) = maxI a r := by show maxI (if a < b then b else a) r = _; rw [if_neg c]
      obtain ⟨h1, h2⟩ := maxI_ok r a
      rw [e]
      refine ⟨?_, fun y hy => ?_⟩
      · rcases List.mem_cons.mp h1 with h | h
        · rw [h]; simp
        · simp [h]
      have h3 := h2 a List.mem_cons_self
      rcases List.mem_cons.mp hy with h | h
      · subst h; exact h3
      · rcases List.mem_cons.mp h with h | h
        · subst h; omega
        · exact h2 y (List.mem_cons_of_mem _ h)
theorem minI_ok : ∀ (l : List Int) (a : Int), minI a l ∈ a :: l ∧ ∀ y ∈ a :: l, minI a l ≤ y
  | [], a => ⟨by simp [minI], fun y hy => by simp at hy; subst hy; exact Int.le_refl _⟩
  | b :: r, a => by
    by_cases c : b < a
    · have e : minI a (b :: r) = minI b r := by show minI (if b < a then b else a) r = _; rw [if_pos c]
      obtain ⟨h1, h2⟩ := minI_ok r b
      rw [e]
      refine ⟨List.mem_cons_of_mem _ h1, fun y hy => ?_⟩
      have h3 := h2 b List.mem_cons_self
      rcases List.mem_cons.mp hy with h | h
      · subst h; omega
      · exact h2 y h
    · have e : minI a (b :: r) = minI a r := by show minI (if b < a then b else a) r = _; rw [if_neg c]
      obtain ⟨h1, h2⟩ := minI_ok r a
      rw [e]
      refine ⟨?_, fun y hy => ?_⟩
      · rcases List.mem_cons.mp h1 with h | h
        · rw [h]; simp
        · simp [h]
      have h3 := h2 a List.mem_cons_self
      rcases List.mem_cons.mp hy with h | h
      · subst h; exact h3
      · rcases List.mem_cons.mp h with h | h
        · subst h; omega
        · exact h2 y (List.mem_cons_of_mem _ h)
theorem ERs.one (h : ERs g H0 ρ H vs [x]) : ∃ v, vs = [v] ∧ ER g H0 ρ H v x := by
  cases h with
  | cons h _ r => cases r; exact ⟨_, rfl, h⟩
theorem ERs.two (h : ERs g H0 ρ H vs [x, y]) : ∃ v u, vs = [v, u] ∧ ER g H0 ρ H v x ∧ ER g H0 ρ H u y := by
  cases h with
  | cons h _ r =>
    obtain ⟨u, rfl, h2⟩ := r.one
    exact ⟨_, u, rfl, h, h2⟩
theorem len_read {n : Nat} (S : SR g ρ st H) (hx : ER g H0 ρ H v x) (e : lenOf x st = some n) (h : Q (.int n) H) : rBI g.K g.w .len [v] H Q := by
  unfold lenOf at e
  split at e
  · rename_i z
    split at e
    · rename_i hl
      cases e
      refine .inl ⟨_, _, rfl, ?_, h⟩
      rw [hx.str_inv]
      exact ⟨by rw [toStr_len, ← lim_eq]; exact hl, (toStr_len z).symm⟩
    · cases e
  · split at e
    · rename_i l e1
      cases e
      obtain ⟨a, xs, rfl, h1, r⟩ := seqOf_inv S hx e1
      refine .inl ⟨_, l.length, rfl, ?_, h⟩
      rcases h1 with h1 | h1
      · exact .inl ⟨xs, h1, r.1.symm⟩
      · exact .inr ⟨xs, h1, r.1.symm⟩
    · split at e
      · rename_i l e1
        cases e
        obtain ⟨a, rfl, zs, h1, h2⟩ := obj_inv S hx e1
        refine .inr (.inl ⟨a, zs, rfl, h1, ?_⟩)
        rw [h2, List.length_map] at h; exact h
      · rename_i l e1
        cases e
        obtain ⟨a, rfl, kvs, h1, h2, h3, h4⟩ := obj_inv S hx e1
        refine .inr (.inr ⟨a, kvs, rfl, h1, ?_⟩)
        have := congrArg List.length h2
        rw [List.length_map, List.length_map] at this
        rw [← this] at h; exact h
      · cases e
theorem strsOf_inv {zs : List (List Nat)} (S : SR g ρ st H) (hx : ER g H0 ρ H v x) (e : strsOf x st = some zs) : ∃ a, v = .ref a ∧ SqL g.K H a ((zs.map toStr).map V.str) := by
  unfold strsOf at e
  split at e
  · rename_i l e1
    obtain ⟨a, xs, rfl, h1, r⟩ := lstOf_inv S hx e1
    rw [r.strs e] at h1
    exact ⟨a, rfl, h1⟩
  · cases e
theorem setStr_map : ∀ (zs : List Str) (k : List (List Nat)), setStr (zs.map fun z => .str z.cps.toList) = some k → k = zs.map fun z => z.cps.toList
  | [], k, e => by cases e; rfl
  | z :: r, k, e => by
    have e' : (setStr (r.map fun z => .str z.cps.toList)).map (z.cps.toList :: ·) = some k := e
    cases q : setStr (r.map fun z => .str z.cps.toList) with
    | none => rw [q] at e'; cases e'
    | some q' => rw [q] at e'; cases e'; rw [setStr_map r q' q]; rfl
theorem keyS_inj {a b : List Nat} (h : keyS a = keyS b) : a = b := toStr_inj (Sum.inr.inj h)
theorem dput_keys (k : List Nat) (m : MV) : ∀ l : List (List Nat × MV), (dput k m l).map (·.1) = if k ∈ l.map (·.1) then l.map (·.1) else l.map (·.1) ++ [k]
  | [] => by simp [dput]
  | (a, u) :: r => by
    unfold dput
    by_cases c : a = k
    · subst c; simp
    · have ih := dput_keys k m r
      simp only [if_neg c, List.map_cons, ih, List.mem_cons, Ne.symm c, false_or]
      split <;> simp
theorem DK.put {kvs : List (Key × V)} {l : List (List Nat × MV)} {z : List Nat} {v : V} {m : MV} (h : DK g ρ H kvs l) (hv : VR g ρ H v m) : DK g ρ H (putK kvs (keyS z) v) (dput z m l) := by
  obtain ⟨h1, h2, h3⟩ := h
  have nd : ((dput z m l).map (·.1)).Nodup := by
    rw [dput_keys]
    split
    · exact h3
    · rename_i hn
      rw [List.nodup_append]
      exact ⟨h3, by simp, fun a ha b hb => by rw [List.mem_singleton] at hb; subst hb; intro e; subst e; exact hn ha⟩
  have main : ∀ (kvs : List (Key × V)) (l : List (List Nat × MV)), kvs.map (·.1) = l.map (fun q => keyS q.1) → VRs g ρ H (kvs.map (·.2)) (l.map (·.2)) → (l.map (·.1)).Nodup →
      (putK kvs (keyS z) v).map (·.1) = (dput z m l).map (fun q => keyS q.1) ∧ VRs g ρ H ((putK kvs (keyS z) v).map (·.2)) ((dput z m l).map (·.2)) := by
    intro kvs
    induction kvs with
    | nil =>
      intro l h1 h2 h3
      cases l with
      | cons _ _ => cases h1
      | nil => exact ⟨rfl, VRs.cons hv VRs.nil⟩
    | cons p kvs ih =>
      intro l h1 h2 h3
      cases l with
      | nil => cases h1
      | cons q l =>
        obtain ⟨k, w⟩ := p
        obtain ⟨y, u⟩ := q
        simp only [List.map_cons, List.cons.injEq] at h1
        obtain ⟨e1, e2⟩ := h1
        obtain ⟨r1, r2⟩ := VRs.inv h2
        simp only [List.map_cons, List.nodup_cons] at h3
        subst e1
        by_cases c : y = z
        · subst c
          have hd : dput y m ((y, u) :: l) = (y, m) :: l := by simp [dput]
          rw [hd]
          have hno : ∀ x ∈ kvs, x.1 ≠ keyS y := fun x hx e => by
            have : x.1 ∈ kvs.map (·.1) := List.mem_map_of_mem hx
            rw [e2, List.mem_map] at this
            obtain ⟨q, hq, hk⟩ := this
            exact h3.1 (List.mem_map.mpr ⟨q, hq, keyS_inj (hk.trans e)⟩)
          have hp : putK ((keyS y, w) :: kvs) (keyS y) v = (keyS y, v) :: kvs := by
            unfold putK
            rw [if_pos (by simp)]
            simp only [List.map_cons, if_true]
            congr 1
            have : ∀ x ∈ kvs, (if x.1 = keyS y then (x.1, v) else x) = x := fun x hx => if_neg (hno x hx)
            exact (List.map_congr_left this).trans (List.map_id _)
          rw [hp]
          exact ⟨by simp [e2], VRs.cons hv r2⟩
        · obtain ⟨i1, i2⟩ := ih l e2 r2 h3.2
          have hd : dput z m ((y, u) :: l) = (y, u) :: dput z m l := by simp [dput, c]
          have hk : keyS y ≠ keyS z := fun e => c (keyS_inj e)
          have hp : putK ((keyS y, w) :: kvs) (keyS z) v = (keyS y, w) :: putK kvs (keyS z) v := by
            unfold putK
            have e3 : (List.any ((keyS y, w) :: kvs) fun kv => decide (kv.1 = keyS z)) = List.any kvs fun kv => decide (kv.1 = keyS z) := by
              simp [hk]
            rw [e3]
            split
            · simp [hk]
            · rfl
          rw [hp, hd]
          exact ⟨by simp [i1], VRs.cons r1 i2⟩
  obtain ⟨m1, m2⟩ := main kvs l h1 h2 h3
  exact ⟨m1, m2, nd⟩
theorem DK.nil : DK g ρ H [] [] := ⟨rfl, VRs.nil, List.nodup_nil⟩
theorem pairOf_inv {m : MV} {q : List Nat × MV} (h : VR g ρ H v m) (e : pairOf m = some q) : ∃ w, PairV g.K H v (keyS q.1) w ∧ VR g ρ H w q.2 := by
  unfold pairOf at e
  split at e
  · rename_i z n e1
    cases e
    obtain ⟨a, xs, rfl, h1, r⟩ := tup_inv h e1
    obtain ⟨x, ys, rfl, r1, r2⟩ := r.cons_inv
    obtain ⟨w, zs, rfl, r3, r4⟩ := r2.cons_inv
    have := r4.nil_inv
    subst this
    rw [r1.p_inv.str_inv] at h1
    exact ⟨w, ⟨a, rfl, h1.t⟩, r3⟩
  · cases e
theorem pairs_inv : ∀ {l : List MV} {ps : List (List Nat × MV)} {xs : List V}, VRs g ρ H xs l → mapO pairOf l = some ps → ∃ kvs : List (Key × V), kvs.map (·.1) = ps.map (fun q => keyS q.1) ∧ VRs g ρ H (kvs.map (·.2)) (ps.map (·.2)) ∧ xs.length = kvs.length ∧
    ∀ (i : Nat) (x : V) (q : Key × V), xs[i]? = some x → kvs[i]? = some q → PairV g.K H x q.1 q.2
  | [], ps, xs, r, e => by
    cases e
    rw [r.nil_inv]
    exact ⟨[], rfl, VRs.nil, rfl, fun i x q h => by simp at h⟩
  | m :: l, ps, xs, r, e => by
    unfold mapO at e
    split at e
    · rename_i q e1
      split at e
      · rename_i k e2
        cases e
        obtain ⟨v, ys, rfl, r1, r2⟩ := r.cons_inv
        obtain ⟨w, h1, h2⟩ := pairOf_inv r1 e1
        obtain ⟨kvs, h3, h4, h5, h6⟩ := pairs_inv r2 e2
        refine ⟨(keyS q.1, w) :: kvs, by simp [h3], VRs.cons h2 h4, by simp [h5], fun i x p e3 e4 => ?_⟩
        cases i with
        | zero => cases e3; cases e4; exact h1
        | succ i => exact h6 i x p e3 e4
      · cases e
    · cases e
theorem merge_dk : ∀ {ps : List (List Nat × MV)} {kvs : List (Key × V)} {acc : List (Key × V)} {bcc : List (List Nat × MV)}, kvs.map (·.1) = ps.map (fun q => keyS q.1) → VRs g ρ H (kvs.map (·.2)) (ps.map (·.2)) → DK g ρ H acc bcc →
    DK g ρ H (kvs.foldl (fun acc q => putK acc q.1 q.2) acc) (ps.foldl (fun acc q => dput q.1 q.2 acc) bcc)
  | [], [], acc, bcc, _, _, h => h
  | [], _ :: _, _, _, h, _, _ => by cases h
  | _ :: _, [], _, _, h, _, _ => by cases h
  | q :: ps, p :: kvs, acc, bcc, h, r, hd => by
    obtain ⟨k, w⟩ := p
    simp only [List.map_cons, List.cons.injEq] at h
    obtain ⟨e1, e2⟩ := h
    subst e1
    obtain ⟨r1, r2⟩ := VRs.inv r
    exact merge_dk (ps := ps) (kvs := kvs) (acc := putK acc (keyS q.1) w) (bcc := dput q.1 q.2 bcc) e2 r2 (hd.put r1)
theorem DK.mono {ρ' : List Addr} {H' : Hp} {kvs : List (Key × V)} {l : List (List Nat × MV)} (h : DK g ρ H kvs l) (e : Ext ρ H ρ' H') : DK g ρ' H' kvs l := ⟨h.1, h.2.1.mono e, h.2.2⟩
theorem dict_read {ps : List (List Nat × MV)} (S : SR g ρ st H) (d : ∀ a, H a = none → H0 a = none) (hx : ER g H0 ρ H v x) (e : pairsOf x st = some ps) (hl : ps.length ≤ lim) (h : Lands g ρ H (.ok (.o (.dic (ps.foldl (fun acc q => dput q.1 q.2 acc) []))) st) (QR g H0 Q) E) : rDictP g.K [v] H Q := by
  have hm : ∃ p xs l, v = .ref p ∧ (SqN g.K H p xs ∨ H p = some (.lst xs)) ∧ VRs g ρ H xs l ∧ mapO pairOf l = some ps := by
    unfold pairsOf at e
    split at e
    · rename_i l e1
      obtain ⟨p, xs, h1, h2, h3⟩ := tupOf_inv hx e1
      exact ⟨p, xs, l, h1, .inl h2, h3, e⟩
    · split at e
      · rename_i l e1
        obtain ⟨p, xs, h1, h2, h3⟩ := lst_inv S hx e1
        exact ⟨p, xs, l, h1, .inr h2, h3, e⟩
      · cases e
  obtain ⟨p, xs, l, rfl, h1, h2, h3⟩ := hm
  obtain ⟨kvs, h4, h5, h6, h7⟩ := pairs_inv h2 h3
  have hps : kvs.length = ps.length := by have := congrArg List.length h4; simpa using this
  refine ⟨p, xs, kvs, rfl, h1, h6, h7, by rw [h6, hps, ← lim_eq]; exact hl, fun q hq => ?_⟩
  refine h ρ _ (Ext.made hq) (S.made hq) (.ref q) ⟨q, rfl, S.out hq, d q hq, by rw [upd_same]; simp, _, upd_same, ?_⟩
  exact (merge_dk h4 h5 DK.nil).mono (Ext.made hq)
theorem VRs.ps : ∀ {xs : List V} {l : List MV} {ps : List PV}, VRs g ρ H xs l → allP l = some ps → xs.length = ps.length ∧ ∀ (i : Nat) (x : V) (d : PV), xs[i]? = some x → ps[i]? = some d → PR g.K H x d
  | xs, [], ps, r, e => by
    cases e
    rw [r.nil_inv]
    exact ⟨rfl, fun i x d h => by simp at h⟩
  | xs, m :: l, ps, r, e => by
    obtain ⟨v, ys, rfl, h1, h2⟩ := r.cons_inv
    unfold allP at e
    split at e
    · rename_i hq; cases hq
    · rename_i b r' e1
      cases e1
      cases e2 : allP l with
      | none => rw [e2] at e; cases e
      | some q =>
        rw [e2] at e
        cases e
        obtain ⟨i1, i2⟩ := VRs.ps h2 e2
        refine ⟨congrArg (· + 1) i1, fun i x d g1 g2 => ?_⟩
        cases i with
        | zero => cases g1; cases g2; exact h1.p_inv
        | succ i => exact i2 i x d g1 g2
    · cases e
theorem bi_read {b : BI} (S : SR g ρ st H) (d : ∀ a, H a = none → H0 a = none) (hs : ERs g H0 ρ H vs es) (h : Lands g ρ H (biF b es st) (QR g H0 Q) E) : rBI g.K g.w b vs H Q := by
  unfold biF at h
  split at h
  · obtain ⟨v, rfl, hx⟩ := hs.one
    split at h
    · rename_i n e1
      exact len_read S hx e1 (h.now S (ER.int _))
    · exact h.elim
  · obtain ⟨v, rfl, hx⟩ := hs.one
    split at h
    · rename_i l e1
      obtain ⟨a, xs, rfl, h1, r⟩ := tupOf_inv hx e1
      exact ⟨a, xs, rfl, .inr ⟨h1.t, h.now S hx⟩⟩
    · split at h
      · rename_i l e1
        obtain ⟨a, xs, rfl, h1, r⟩ := lstOf_inv S hx e1
        exact ⟨a, xs, rfl, .inl ⟨h1, h.tup S r⟩⟩
      · exact h.elim
  · obtain ⟨v, rfl, hx⟩ := hs.one
    split at h
    · rename_i l e1
      obtain ⟨a, xs, rfl, h1, r⟩ := seqOf_inv S hx e1
      exact .inl ⟨a, xs, rfl, h1.imp id id, fun p hp => h.lst S d r hp⟩
    · split at h
      · rename_i z _
        split at h
        · rename_i hl
          refine .inr ⟨toStr z, by rw [hx.str_inv], by rw [toStr_len, ← lim_eq]; exact hl, fun p hp => ?_⟩
          have hz : (toStr z).cps.toList = z := by simp [toStr]
          rw [hz]
          refine h.lst S d ⟨by simp, fun i x m h1 h2 => ?_⟩ hp
          rw [List.getElem?_map] at h1 h2
          cases e : z[i]? with
          | none => rw [e] at h1; cases h1
          | some c =>
            rw [e] at h1 h2
            cases h1; cases h2
            exact .p (.str [c])
        · exact h.elim
      · exact h.elim
  · obtain ⟨v, rfl, hx⟩ := hs.one
    split at h
    · rename_i l e1
      split at h
      · rename_i zs e2
        split at h
        · rename_i hl
          obtain ⟨a, rfl, ts, h1, h2⟩ := obj_inv S hx e1
          subst h2
          have hz := setStr_map ts zs e2
          refine .inl ⟨a, ts, rfl, .inr h1, ?_, fun ys p p1 p2 hp => ?_⟩
          · rw [← lim_eq]; have := congrArg List.length hz; rw [List.length_map] at this; unfold lim; omega
          · have := h.lst S d (xs := ys.map V.str) ?_ hp
            · exact this
            · rw [hz, ← sorted_eq p1 p2]
              exact VRs.ofStrs ys
        · exact h.elim
      · exact h.elim
    · rename_i l e1
      split at h
      · rename_i zs e2
        split at h
        · rename_i hl
          obtain ⟨a, xs, rfl, h1, r⟩ := lst_inv S hx e1
          rw [r.strs e2] at h1
          refine .inl ⟨a, zs.map toStr, rfl, .inl (SqL.of h1), by rw [← lim_eq, List.length_map]; unfold lim; omega, fun ys p p1 p2 hp => ?_⟩
          have := h.lst S d (xs := ys.map V.str) ?_ hp
          · exact this
          · have e3 := sorted_eq p1 p2
            have e4 : ((zs.map toStr).map fun z => z.cps.toList) = zs := by
              rw [List.map_map]
              exact (List.map_congr_left (fun a _ => cpsTo a)).trans (List.map_id zs)
            rw [e4] at e3
            rw [← e3]
            exact VRs.ofStrs ys
        · exact h.elim
      · split at h
        · rename_i ps e3
          split at h
          · rename_i k e4
            obtain ⟨a, xs, rfl, h1, r⟩ := lst_inv S hx e1
            obtain ⟨r1, r2⟩ := VRs.ps r e3
            refine .inr (.inl ⟨a, xs, ps, k, rfl, SqL.of h1, r1, r2, e4, fun ys p y1 y2 hp => ?_⟩)
            refine h.lst S d (xs := ys) ⟨by rw [y1, List.length_map], fun i y m g1 g2 => ?_⟩ hp
            rw [List.getElem?_map] at g2
            cases g3 : k[i]? with
            | none => rw [g3] at g2; cases g2
            | some z => rw [g3] at g2; cases g2; exact .p (y2 i y z g1 g3)
          · exact h.elim
        · exact h.elim
    · rename_i l e1
      split at h
      · rename_i hl
        obtain ⟨a, rfl, kvs, h1, h2⟩ := obj_inv S hx e1
        have hk : kvs.map (·.1) = (l.map fun q => toStr q.1).map Sum.inr := by rw [h2.1, List.map_map]; rfl
        refine .inr (.inr ⟨a, kvs, l.map fun q => toStr q.1, rfl, .inl h1, hk, by rw [List.length_map]; exact hl, fun ys p p1 p2 hp => ?_⟩)
        have := h.lst S d (xs := ys.map V.str) ?_ hp
        · exact this
        · have e3 := sorted_eq p1 p2
          have e4 : ((l.map fun q => toStr q.1).map fun z => z.cps.toList) = l.map (·.1) := by
            rw [List.map_map]
            exact List.map_congr_left (fun a _ => cpsTo a.1)
          rw [e4] at e3
          rw [← e3]
          exact VRs.ofStrs ys
      · exact h.elim
    · exact h.elim
  · obtain ⟨v, rfl, hx⟩ := hs.one
    split at h
    · rename_i zs e1
      split at h
      · rename_i hl
        obtain ⟨a, rfl, h1⟩ := strsOf_inv S hx e1
        refine ⟨a, zs.map toStr, rfl, h1, by rw [List.length_map]; exact hl, fun p hp => ?_⟩
        refine h ρ _ (Ext.made hp) (S.made hp) (.ref p) ⟨p, rfl, S.out hp, d p hp, by rw [upd_same]; simp, _, upd_same, ?_⟩
        exact (firstS_dedup zs []).symm
      · exact h.elim
    · exact h.elim
  · obtain ⟨v, rfl, hx⟩ := hs.one
    split at h
    · rename_i l e1
      split at h
      · rename_i bs e2
        obtain ⟨a, xs, rfl, h1, r⟩ := lstOf_inv S hx e1
        rw [r.bls e2] at h1
        exact ⟨a, bs, rfl, h1, h.now S (ER.bl _)⟩
      · exact h.elim
    · exact h.elim
  · obtain ⟨v, rfl, hx⟩ := hs.one
    split at h
    · rename_i l e1
      split at h
      · rename_i bs e2
        obtain ⟨a, xs, rfl, h1, r⟩ := lstOf_inv S hx e1
        rw [r.bls e2] at h1
        exact ⟨a, bs, rfl, h1, h.now S (ER.bl _)⟩
      · exact h.elim
    · exact h.elim
  · obtain ⟨v, rfl, hx⟩ := hs.one
    split at h
    · rename_i l e1
      split at h
      · rename_i bs e2
        obtain ⟨a, xs, rfl, h1, r⟩ := lstOf_inv S hx e1
        rw [r.ints e2] at h1
        exact ⟨a, bs, rfl, h1, h.now S (ER.int _)⟩
      · exact h.elim
    · exact h.elim
  · obtain ⟨v, rfl, hx⟩ := hs.one
    split at h
    · rename_i l e1
      split at h
      · rename_i i is e2
        obtain ⟨a, xs, rfl, h1, r⟩ := lstOf_inv S hx e1
        rw [r.ints e2] at h1
        refine .inl ⟨a, i :: is, rfl, h1, by simp, fun m hm hb => ?_⟩
        obtain ⟨q1, q2⟩ := maxI_ok is i
        have : m = maxI i is := Int.le_antisymm (q2 m hm) (hb _ q1)
        rw [this]; exact h.now S (ER.int _)
      · exact h.elim
    · exact h.elim
  · obtain ⟨v, rfl, hx⟩ := hs.one
    split at h
    · rename_i l e1
      split at h
      · rename_i i is e2
        obtain ⟨a, xs, rfl, h1, r⟩ := lstOf_inv S hx e1
        rw [r.ints e2] at h1
        refine .inl ⟨a, i :: is, rfl, h1, by simp, fun m hm hb => ?_⟩
        obtain ⟨q1, q2⟩ := minI_ok is i
        have : m = minI i is := Int.le_antisymm (hb _ q1) (q2 m hm)
        rw [this]; exact h.now S (ER.int _)
      · exact h.elim
    · exact h.elim
  · obtain ⟨v, u, rfl, h1, h2⟩ := hs.two
    exact .inr ⟨_, _, by rw [h1.int_inv, h2.int_inv], h.now S (ER.int _)⟩
  · obtain ⟨v, u, rfl, h1, h2⟩ := hs.two
    exact .inr ⟨_, _, by rw [h1.int_inv, h2.int_inv], h.now S (ER.int _)⟩
  · obtain ⟨v, rfl, hx⟩ := hs.one
    split at h
    · rename_i ps e1
      split at h
      · rename_i hl
        exact .inl (dict_read S d hx e1 hl h)
      · exact h.elim
    · split at h
      · rename_i l e2
        obtain ⟨a, rfl, kvs, h1, h2⟩ := obj_inv S hx e2
        refine .inr ⟨a, kvs, rfl, .inl h1, fun p hp => ?_⟩
        refine h ρ _ (Ext.made hp) (S.made hp) (.ref p) ⟨p, rfl, S.out hp, d p hp, by rw [upd_same]; simp, _, upd_same, ?_⟩
        exact h2.mono (Ext.made hp)
      · exact h.elim
  · obtain ⟨v, rfl, h1⟩ := hs.one
    exact ⟨_, by rw [h1.int_inv], h.now S (ER.int _)⟩
  · obtain ⟨v, rfl, h1⟩ := hs.one
    exact .inl ⟨_, by rw [h1.int_inv], h.now S (ER.int _)⟩
  · exact h.elim
end
end Mn
end
section
set_option autoImplicit false
set_option maxRecDepth 20000
/-! Mn9: what loops walk. -/
namespace Mn
open PySem L2
/-- as Ext, but for the list D that is being made -/
structure ExtD (D : Addr) (ρ : List Addr) (H : Hp) (ρ' : List Addr) (H' : Hp) : Prop where
  pre : ∃ l, ρ' = ρ ++ l
  new : ∀ a ∈ ρ', a ∉ ρ → H a = none
  keep : ∀ a o, a ≠ D → H a = some o → a ∉ ρ → H' a = some o
  tup : ∀ a xs, H a = some (.tup xs) → H' a = some (.tup xs)
  frz : ∀ a o u, H a = some (.frz o u) → H' a = some (.frz o u)
  dom : ∀ a, H' a = none → H a = none
section
variable {D : Addr} {ρ ρ1 ρ2 : List Addr} {H H1 H2 : Hp}
theorem Ext.d (e : Ext ρ H ρ1 H1) : ExtD D ρ H ρ1 H1 := ⟨e.pre, e.new, fun a o _ h n => e.keep a o h n, e.tup, e.frz, e.dom⟩
theorem ExtD.ext (e : ExtD D ρ H ρ1 H1) (h : H D = none) : Ext ρ H ρ1 H1 :=
  ⟨e.pre, e.new, fun a o q n => e.keep a o (fun c => by subst c; rw [h] at q; cases q) q n, e.tup, e.frz, e.dom⟩
theorem ExtD.trans (a : ExtD D ρ H ρ1 H1) (b : ExtD D ρ1 H1 ρ2 H2) : ExtD D ρ H ρ2 H2 := by
  obtain ⟨l1, e1⟩ := a.pre
  obtain ⟨l2, e2⟩ := b.pre
  refine ⟨⟨l1 ++ l2, by rw [e2, e1, List.append_assoc]⟩, fun x hx hn => ?_, fun x o hd e hn => ?_, fun x xs e => b.tup x xs (a.tup x xs e), fun x o u e => b.frz x o u (a.frz x o u e), fun x e => a.dom x (b.dom x e)⟩
  · by_cases h : x ∈ ρ1
    · exact a.new x h hn
    · exact a.dom x (b.new x hx h)
  · refine b.keep x o hd (a.keep x o hd e hn) fun h => ?_
    have := a.new x h hn
    rw [e] at this; cases this
theorem ExtD.refl : ExtD D ρ H ρ H := Ext.refl.d
theorem ExtD.sqT {K : PySem.W.Frag} (e : ExtD D ρ H ρ1 H1) {a : Addr} {xs : List V} (h : SqT K H a xs) : SqT K H1 a xs := by
  rcases h with h | h
  · rcases h with h | ⟨o, h⟩
    · exact .inl (.inl (e.tup _ _ h))
    · exact .inl (.inr ⟨o, e.frz _ _ _ h⟩)
  · exact .inr h
theorem ExtD.sqN {K : PySem.W.Frag} (e : ExtD D ρ H ρ1 H1) {a : Addr} {xs : List V} (h : SqN K H a xs) : SqN K H1 a xs := h.imp (fun ⟨ob, h, d⟩ => ⟨ob, e.frz _ _ _ h, d⟩) id
theorem ExtD.get (e : ExtD D ρ H ρ1 H1) {n : Nat} {a : Addr} (h : ρ[n]? = some a) : ρ1[n]? = some a := by
  obtain ⟨l, rfl⟩ := e.pre
  rw [List.getElem?_append_left (by exact (List.getElem?_eq_some_iff.mp h).1)]; exact h
theorem PR.monoD {K : PySem.W.Frag} (e : ExtD D ρ H ρ1 H1) {v : V} {x : PV} (h : PR K H v x) : PR K H1 v x := by
  induction h with
  | non => exact .non
  | bl b => exact .bl b
  | int i => exact .int i
  | str l => exact .str l
  | tup h len _ ih => exact .tup (e.sqN h) len ih
theorem VR.monoD {g : G} (e : ExtD D ρ H ρ1 H1) {v : V} {x : MV} (h : VR g ρ H v x) : VR g ρ1 H1 v x := by
  induction h with
  | p h => exact .p (h.monoD e)
  | r h => exact .r (e.get h)
  | t h len _ ih => exact .t (e.sqN h) len ih
  | f i => exact .f i
  | w h len _ ih => exact .w (h.elim (fun ⟨o, h⟩ => .inl ⟨o, e.frz _ _ _ h⟩) .inr) len ih
theorem VRs.monoD {g : G} (e : ExtD D ρ H ρ1 H1) {v : List V} {x : List MV} (h : VRs g ρ H v x) : VRs g ρ1 H1 v x := ⟨h.1, fun i x m h1 h2 => (h.2 i x m h1 h2).monoD e⟩
theorem NR.monoD {g : G} (e : ExtD D ρ H ρ1 H1) {σ : St} {env : Env} (h : NR g ρ H σ env) : NR g ρ1 H1 σ env := ⟨h.1, fun i m hi => by
  obtain ⟨v, h1, h2⟩ := h.2 i m hi
  exact ⟨v, h1, h2.monoD e⟩⟩
/-- what is being made, written -/
theorem ExtD.put' {o : HO} (e : ExtD D ρ H ρ1 H1) (hT : ∀ xs, H1 D ≠ some (.tup xs)) (hF : ∀ ob u, H1 D ≠ some (.frz ob u)) : ExtD D ρ H ρ1 (upd H1 D o) := by
  refine ⟨e.pre, e.new, fun a u ha h n => by rw [upd_ne ha]; exact e.keep a u ha h n, fun a u h => ?_, fun a u v h => ?_, fun a h => ?_⟩
  · have := e.tup a u h
    rw [upd_ne (fun c => by subst c; exact hT _ this)]; exact this
  · have := e.frz a u v h
    rw [upd_ne (fun c => by subst c; exact hF _ _ this)]; exact this
  · by_cases c : a = D
    · subst c; rw [upd_same] at h; cases h
    · rw [upd_ne c] at h; exact e.dom a h
theorem ExtD.put {o : HO} {xs : List V} (e : ExtD D ρ H ρ1 H1) (hl : H1 D = some (.lst xs)) (hn : D ∉ ρ1) : ExtD D ρ H ρ1 (upd H1 D o) := e.put' (fun _ h => by rw [hl] at h; cases h) fun _ _ h => by rw [hl] at h; cases h
theorem ExtD.putK {o : HO} {xs : List (Key × V)} (e : ExtD D ρ H ρ1 H1) (hl : H1 D = some (.dK xs)) : ExtD D ρ H ρ1 (upd H1 D o) := e.put' (fun _ h => by rw [hl] at h; cases h) fun _ _ h => by rw [hl] at h; cases h
theorem putD {xs : List V} {o : HO} (hl : H D = some (.lst xs)) (hn : D ∉ ρ) : ExtD D ρ H ρ (upd H D o) := ExtD.refl.put hl hn
end
theorem OR.monoD {g : G} {D : Addr} {ρ ρ' : List Addr} {H H' : Hp} (e : ExtD D ρ H ρ' H') {a : Addr} {o : MO} (ha : ∀ u, H a = some u → H' a = some u) (h : OR g ρ H a o) : OR g ρ' H' a o := by
  cases o with
  | lst l => obtain ⟨xs, h1, h2⟩ := h; exact ⟨xs, ha _ h1, h2.monoD e⟩
  | ins c fs => obtain ⟨dx, gs, h1, h2, h3⟩ := h; exact ⟨dx, gs, ha _ h1, h2, h3.monoD e⟩
  | dic _ => obtain ⟨kvs, h1, h2, h3, h4⟩ := h; exact ⟨kvs, ha _ h1, h2, h3.monoD e, h4⟩
  | set _ => obtain ⟨zs, h1, h2⟩ := h; exact ⟨zs, ha _ h1, h2⟩
  | lck _ => obtain ⟨ob, kvs, h1, h2, h3, h4⟩ := h; exact ⟨ob, kvs, ha _ h1, h2, h3.monoD e, h4⟩
theorem SR.put {g : G} {D : Addr} {ρ : List Addr} {st : Sto} {H : Hp} {xs : List V} {o : HO} (S : SR g ρ st H) (hl : H D = some (.lst xs)) (hn : D ∉ ρ) : SR g ρ st (upd H D o) :=
  ⟨S.nd, S.len, fun n b u h1 h2 => (S.at_ n b u h1 h2).monoD (putD hl hn) fun w hw => by
    rw [upd_ne (fun c => by subst c; exact hn (List.mem_of_getElem? h1))]; exact hw⟩
theorem SR.putE {g : G} {D : Addr} {ρ : List Addr} {st : Sto} {H : Hp} {o : HO} (S : SR g ρ st H) (e : ExtD D ρ H ρ (upd H D o)) (hn : D ∉ ρ) : SR g ρ st (upd H D o) :=
  ⟨S.nd, S.len, fun n b u h1 h2 => (S.at_ n b u h1 h2).monoD e fun w hw => by
    rw [upd_ne (fun c => by subst c; exact hn (List.mem_of_getElem? h1))]; exact hw⟩
/-! ### sources -/
/-- the list at a -/
inductive QL (g : G) (H0 : Hp) (ρ : List Addr) (H : Hp) (a : Addr) : Sq → Prop
  | snap {xs : List V} {l : List MV} (h : (H a = some (.lst xs) ∧ a ∉ ρ ∧ H0 a = none) ∨ WL g.K H a xs) (r : VRs g ρ H xs l) : QL g H0 ρ H a (.snap l)
  | live {n : Nat} (h : ρ[n]? = some a) : QL g H0 ρ H a (.live n)
inductive SrcJ (g : G) (H0 : Hp) (ρ : List Addr) (H : Hp) : Src → It → Prop
  | lst {q : Sq} {a : Addr} (h : QL g H0 ρ H a q) : SrcJ g H0 ρ H (.sq q) (Itl g.K a)
  | tup {a : Addr} {xs : List V} {l : List MV} (h : SqT g.K H a xs) (r : VRs g ρ H xs l) : SrcJ g H0 ρ H (.sq (.snap l)) (Itt g.K a)
  | str (z : List Nat) : SrcJ g H0 ρ H (.sq (.snap (z.map fun c => .p (.str [c])))) (Its (toStr z))
  | en {q : Sq} {a : Addr} (h : QL g H0 ρ H a q) : SrcJ g H0 ρ H (.en q) (Ite g.K a)
  | zp {q r : Sq} {a b : Addr} (h : QL g H0 ρ H a q) (h' : QL g H0 ρ H b r) : SrcJ g H0 ρ H (.zp q r) (Itz g.K a b)
  | zt {a b : Addr} {xs ys : List V} {l k : List MV} (h : SqT g.K H a xs) (h' : SqT g.K H b ys) (r : VRs g ρ H xs l) (r' : VRs g ρ H ys k) : SrcJ g H0 ρ H (.zt l k) (RZ.ItzT g.K a b)
  | rv {q : Sq} {a : Addr} (n : Nat) (h : QL g H0 ρ H a q) : SrcJ g H0 ρ H (.rv q n) (Itv g.K a n)
  | rg (lo : Int) (n : Nat) : SrcJ g H0 ρ H (.rg lo 1 n) (Itr lo n)
  | its {d : Addr} {ob : Obj} {kvs : List (Key × V)} {l : List (List Nat × MV)} (h : H d = some (.frz ob (.dK kvs))) (q : DK g ρ H kvs l) : SrcJ g H0 ρ H (.its l) (Iti d ob kvs)
  | vls {d : Addr} {ob : Obj} {kvs : List (Key × V)} {l : List (List Nat × MV)} (h : H d = some (.frz ob (.dK kvs))) (q : DK g ρ H kvs l) : SrcJ g H0 ρ H (.vls l) (Itd d ob kvs)
section
variable {g : G} {H0 : Hp} {D : Addr} {ρ ρ1 : List Addr} {H H1 : Hp} {st : Sto}
theorem QL.mono {a : Addr} {q : Sq} (h : QL g H0 ρ H a q) (k : ∀ a, H a ≠ none → H0 a = none → a ≠ D) (e : ExtD D ρ H ρ1 H1) : QL g H0 ρ1 H1 a q := by
  cases h with
  | snap h r =>
    refine .snap ?_ (r.monoD e)
    rcases h with ⟨h1, h2, h3⟩ | h
    · exact .inl ⟨e.keep a _ (k a (by rw [h1]; simp) h3) h1 h2, (fun hm => by have := e.new a hm h2; rw [h1] at this; cases this), h3⟩
    · exact .inr (h.elim (fun ⟨o, h⟩ => .inl ⟨o, e.frz _ _ _ h⟩) .inr)
  | live h => exact .live (e.get h)
theorem SrcJ.mono {src : Src} {J : It} (h : SrcJ g H0 ρ H src J) (k : ∀ a, H a ≠ none → H0 a = none → a ≠ D) (e : ExtD D ρ H ρ1 H1) : SrcJ g H0 ρ1 H1 src J := by
  cases h with
  | lst h => exact .lst (h.mono k e)
  | tup h r => exact .tup (e.sqT h) (r.monoD e)
  | str z => exact .str z
  | en h => exact .en (h.mono k e)
  | zp h h' => exact .zp (h.mono k e) (h'.mono k e)
  | zt h h' r r' => exact .zt (e.sqT h) (e.sqT h') (r.monoD e) (r'.monoD e)
  | rv n h => exact .rv n (h.mono k e)
  | rg lo n => exact .rg lo n
  | its h q => exact .its (e.frz _ _ _ h) ⟨q.1, q.2.1.monoD e, q.2.2⟩
  | vls h q => exact .vls (e.frz _ _ _ h) ⟨q.1, q.2.1.monoD e, q.2.2⟩
theorem QL.read {a : Addr} {q : Sq} {l : List MV} (S : SR g ρ st H) (h : QL g H0 ρ H a q) (e : sqAt q st = some l) : ∃ xs, SqL g.K H a xs ∧ VRs g ρ H xs l := by
  cases h with
  | snap h r =>
    cases e
    rcases h with ⟨h1, _, _⟩ | h
    · exact ⟨_, SqL.of h1, r⟩
    · exact ⟨_, h.sq, r⟩
  | live h =>
    unfold sqAt at e
    dsimp only at e
    split at e
    · rename_i o e1
      unfold objSeq at e
      split at e
      · cases e
        obtain ⟨b, h1, xs, h2, h3⟩ := S.ob e1
        rw [h] at h1; cases h1
        exact ⟨xs, SqL.of h2, h3⟩
      · cases e
    · cases e
theorem VRs.none_of {xs : List V} {l : List MV} {i : Nat} (r : VRs g ρ H xs l) (e : l[i]? = none) : xs.length ≤ i := by
  rw [List.getElem?_eq_none_iff] at e; rw [r.1]; exact e
/-- the walk yields pairs just made -/
def Src.pair : Src → Bool
  | .en _ => true
  | .zp _ _ => true
  | .zt _ _ => true
  | .its _ => true
  | _ => false
def PrV (g : G) (ρ : List Addr) (H : Hp) (x : V) (m : MV) : Prop := ∃ T xs l, x = .ref T ∧ SqT g.K H T xs ∧ VRs g ρ H xs l ∧ m = mkTup l
/-- a turn -/
def Yld (g : G) (ρ : List Addr) (st : Sto) (H : Hp) (b : Bool) (H' : Hp) (x : V) (m : MV) : Prop := Ext ρ H ρ H' ∧ SR g ρ st H' ∧ (VR g ρ H' x m ∨ (b = true ∧ PrV g ρ H' x m))
theorem Yld.same {x : V} {m : MV} {b : Bool} (S : SR g ρ st H) (h : VR g ρ H x m) : Yld g ρ st H b H x m := ⟨Ext.refl, S, .inl h⟩
theorem Yld.two {x y : V} {m n : MV} {T : Addr} (S : SR g ρ st H) (h : VR g ρ H x m) (h' : VR g ρ H y n) (hT : H T = none) : Yld g ρ st H true (upd H T (.tup [x, y])) (.ref T) (mkTup [m, n]) :=
  ⟨Ext.made hT, S.made hT, .inr ⟨rfl, T, _, _, rfl, SqT.of upd_same, (VRs.cons h (VRs.cons h' VRs.nil)).made hT, rfl⟩⟩
theorem kv_at {kvs : List (Key × V)} {l : List (List Nat × MV)} {i : Nat} (q : DK g ρ H kvs l) :
    (l[i]? = none → kvs.length ≤ i) ∧ ∀ z m, l[i]? = some (z, m) → ∃ v, kvs[i]? = some (keyS z, v) ∧ VR g ρ H v m := by
  obtain ⟨q, r, _⟩ := q
  have hl : kvs.length = l.length := by have := congrArg List.length q; simpa using this
  refine ⟨fun e => by rw [hl]; exact List.getElem?_eq_none_iff.mp e, fun z m e => ?_⟩
  have h1 : (kvs.map (·.1))[i]? = some (keyS z) := by rw [q, List.getElem?_map, e]; rfl
  have h2 : (l.map (·.2))[i]? = some m := by rw [List.getElem?_map, e]; rfl
  obtain ⟨v, h3, h4⟩ := r.get h2
  rw [List.getElem?_map] at h1 h3
  cases e2 : kvs[i]? with
  | none => rw [e2] at h1; cases h1
  | some p =>
    obtain ⟨k, w⟩ := p
    rw [e2] at h1 h3
    cases h1; cases h3
    exact ⟨w, rfl, h4⟩
theorem SrcJ.turn {src : Src} {J : It} {i : Nat} (S : SR g ρ st H) (h : SrcJ g H0 ρ H src J) :
    (itm src st i = some none → J.stop i H) ∧ ∀ m, itm src st i = some (some m) → J.go i H ∧ ∀ x H', J.yld i H x H' → Yld g ρ st H src.pair H' x m := by
  cases h with
  | lst h =>
    rename_i q a
    refine ⟨fun e => ?_, fun m e => ?_⟩
    · cases e1 : sqAt q st with
      | none => simp only [itm, e1, Option.map_none] at e; cases e
      | some l =>
        simp only [itm, e1, Option.map_some, Option.some.injEq] at e
        obtain ⟨xs, h1, r⟩ := h.read S e1
        exact ⟨xs, h1, r.none_of e⟩
    · cases e1 : sqAt q st with
      | none => simp only [itm, e1, Option.map_none] at e; cases e
      | some l =>
        simp only [itm, e1, Option.map_some, Option.some.injEq] at e
        obtain ⟨xs, h1, r⟩ := h.read S e1
        obtain ⟨x, h2, h3⟩ := r.get e
        refine ⟨⟨xs, x, h1, h2⟩, fun y H' ⟨hy, q⟩ => ?_⟩
        subst hy
        have := q xs h1
        rw [h2] at this; cases this
        exact Yld.same S h3
  | tup h r =>
    rename_i a xs l
    refine ⟨fun e => ?_, fun m e => ?_⟩
    · simp only [itm, sqAt, Option.map_some, Option.some.injEq] at e
      exact ⟨xs, h, r.none_of e⟩
    · simp only [itm, sqAt, Option.map_some, Option.some.injEq] at e
      obtain ⟨x, h2, h3⟩ := r.get e
      refine ⟨⟨xs, x, h, h2⟩, fun y H' ⟨hy, q⟩ => ?_⟩
      subst hy
      have := q xs h
      rw [h2] at this; cases this
      exact Yld.same S h3
  | str z =>
    have hs : (toStr z).cps = z.toArray := rfl
    refine ⟨fun e => ?_, fun m e => ?_⟩
    · simp only [itm, sqAt, Option.map_some, Option.some.injEq, List.getElem?_map, Option.map_eq_none_iff] at e
      show (toStr z).cps.size ≤ i
      rw [hs]
      simpa using e
    · simp only [itm, sqAt, Option.map_some, Option.some.injEq, List.getElem?_map, Option.map_eq_some_iff] at e
      obtain ⟨c, e1, rfl⟩ := e
      refine ⟨?_, fun y H' ⟨hy, c', h1, h2⟩ => ?_⟩
      · show i < (toStr z).cps.size
        rw [hs]; simpa using (List.getElem?_eq_some_iff.mp e1).1
      · subst hy; subst h2
        rw [hs] at h1
        have : z[i]? = some c' := by simpa using h1
        rw [e1] at this; cases this
        exact Yld.same S (.p (.str [c]))
  | en h =>
    rename_i q a
    refine ⟨fun e => ?_, fun m e => ?_⟩
    · cases e1 : sqAt q st with
      | none => simp only [itm, e1, Option.map_none] at e; cases e
      | some l =>
        simp only [itm, e1, Option.map_some, Option.some.injEq, Option.map_eq_none_iff] at e
        obtain ⟨xs, h1, r⟩ := h.read S e1
        exact ⟨xs, h1, r.none_of e⟩
    · cases e1 : sqAt q st with
      | none => simp only [itm, e1, Option.map_none] at e; cases e
      | some l =>
        simp only [itm, e1, Option.map_some, Option.some.injEq, Option.map_eq_some_iff] at e
        obtain ⟨n, e, rfl⟩ := e
        obtain ⟨xs, h1, r⟩ := h.read S e1
        obtain ⟨x, h2, h3⟩ := r.get e
        refine ⟨⟨xs, x, h1, h2⟩, fun y H' ⟨T, z, hy, hT, hH, q⟩ => ?_⟩
        subst hy; subst hH
        have := q xs h1
        rw [h2] at this; cases this
        exact Yld.two S (.p (.int i)) h3 hT
  | zp h h' =>
    rename_i q r a b
    refine ⟨fun e => ?_, fun m e => ?_⟩
    · cases e1 : sqAt q st with
      | none => simp only [itm, e1] at e; cases e
      | some l =>
        cases e2 : sqAt r st with
        | none => simp only [itm, e1, e2] at e; cases e
        | some k =>
          simp only [itm, e1, e2, Option.some.injEq] at e
          obtain ⟨xs, h1, r1⟩ := h.read S e1
          obtain ⟨ys, h2, r2⟩ := h'.read S e2
          refine ⟨xs, ys, h1, h2, ?_⟩
          cases e3 : l[i]? with
          | none => exact .inl (r1.none_of e3)
          | some x =>
            cases e4 : k[i]? with
            | none => exact .inr (r2.none_of e4)
            | some y => rw [e3, e4] at e; cases e
    · cases e1 : sqAt q st with
      | none => simp only [itm, e1] at e; cases e
      | some l =>
        cases e2 : sqAt r st with
        | none => simp only [itm, e1, e2] at e; cases e
        | some k =>
          simp only [itm, e1, e2, Option.some.injEq] at e
          obtain ⟨xs, h1, r1⟩ := h.read S e1
          obtain ⟨ys, h2, r2⟩ := h'.read S e2
          cases e3 : l[i]? with
          | none => rw [e3] at e; cases e
          | some mx =>
            cases e4 : k[i]? with
            | none => rw [e3, e4] at e; cases e
            | some my =>
              rw [e3, e4] at e; cases e
              obtain ⟨x, h3, v3⟩ := r1.get e3
              obtain ⟨y, h4, v4⟩ := r2.get e4
              refine ⟨⟨xs, ys, x, y, h1, h2, h3, h4⟩, fun v H' ⟨T, x', y', hy, hT, hH, q, q'⟩ => ?_⟩
              subst hy; subst hH
              have := q xs h1
              rw [h3] at this; cases this
              have := q' ys h2
              rw [h4] at this; cases this
              exact Yld.two S v3 v4 hT
  | zt h h' r1 r2 =>
    rename_i a b xs ys l k
    refine ⟨fun e => ?_, fun m e => ?_⟩
    · simp only [itm, Option.some.injEq] at e
      refine ⟨xs, ys, h, h', ?_⟩
      cases e3 : l[i]? with
      | none => exact .inl (r1.none_of e3)
      | some x =>
        cases e4 : k[i]? with
        | none => exact .inr (r2.none_of e4)
        | some y => rw [e3, e4] at e; cases e
    · simp only [itm, Option.some.injEq] at e
      cases e3 : l[i]? with
      | none => rw [e3] at e; cases e
      | some mx =>
        cases e4 : k[i]? with
        | none => rw [e3, e4] at e; cases e
        | some my =>
          rw [e3, e4] at e; cases e
          obtain ⟨x, h3, v3⟩ := r1.get e3
          obtain ⟨y, h4, v4⟩ := r2.get e4
          refine ⟨⟨xs, ys, x, y, h, h', h3, h4⟩, fun v H' ⟨T, x', y', hy, hT, hH, q, q'⟩ => ?_⟩
          subst hy; subst hH
          have := q xs h
          rw [h3] at this; cases this
          have := q' ys h'
          rw [h4] at this; cases this
          exact Yld.two S v3 v4 hT
  | rv n h =>
    rename_i q a
    refine ⟨fun e => ?_, fun m e => ?_⟩
    · cases e1 : sqAt q st with
      | none => simp only [itm, e1, Option.bind_none] at e; cases e
      | some l =>
        simp only [itm, e1, Option.bind_some] at e
        show n ≤ i
        by_cases c : i < n
        · rw [if_pos c] at e
          cases e2 : l[n - 1 - i]? with
          | none => rw [e2] at e; cases e
          | some x => rw [e2] at e; cases e
        · omega
    · cases e1 : sqAt q st with
      | none => simp only [itm, e1, Option.bind_none] at e; cases e
      | some l =>
        simp only [itm, e1, Option.bind_some] at e
        by_cases c : i < n
        · rw [if_pos c] at e
          cases e2 : l[n - 1 - i]? with
          | none => rw [e2] at e; cases e
          | some x =>
            rw [e2] at e; cases e
            obtain ⟨xs, h1, r⟩ := h.read S e1
            obtain ⟨x, h2, h3⟩ := r.get e2
            refine ⟨⟨c, xs, x, h1, h2⟩, fun y H' ⟨hy, q⟩ => ?_⟩
            subst hy
            have := q xs h1
            rw [h2] at this; cases this
            exact Yld.same S h3
        · rw [if_neg c] at e; cases e
  | rg lo n =>
    refine ⟨fun e => ?_, fun m e => ?_⟩
    · simp only [itm, Option.some.injEq] at e
      show n ≤ i
      by_cases c : i < n
      · rw [if_pos c] at e; cases e
      · omega
    · simp only [itm, Option.some.injEq] at e
      by_cases c : i < n
      · rw [if_pos c] at e; cases e
        refine ⟨c, fun x H' ⟨hH, hx⟩ => ?_⟩
        subst hH; subst hx
        rw [Int.one_mul]
        exact Yld.same S (.p (.int _))
      · rw [if_neg c] at e; cases e
  | its h q =>
    rename_i d ob kvs l
    obtain ⟨k1, k2⟩ := kv_at (i := i) q
    refine ⟨fun e => ?_, fun m e => ?_⟩
    · simp only [itm, Option.some.injEq, Option.map_eq_none_iff] at e
      exact ⟨h, k1 e⟩
    · simp only [itm, Option.some.injEq, Option.map_eq_some_iff] at e
      obtain ⟨⟨z, n⟩, e, rfl⟩ := e
      obtain ⟨v, h1, h2⟩ := k2 z n e
      refine ⟨⟨h, (List.getElem?_eq_some_iff.mp h1).1⟩, fun x H' ⟨T, k', v', e1, hx, hT, hH⟩ => ?_⟩
      rw [h1] at e1; cases e1
      subst hx; subst hH
      exact Yld.two S (.p (.str z)) h2 hT
  | vls h q =>
    rename_i d ob kvs l
    obtain ⟨k1, k2⟩ := kv_at (i := i) q
    refine ⟨fun e => ?_, fun m e => ?_⟩
    · simp only [itm, Option.some.injEq, Option.map_eq_none_iff] at e
      exact ⟨h, k1 e⟩
    · simp only [itm, Option.some.injEq, Option.map_eq_some_iff] at e
      obtain ⟨⟨z, n⟩, e, rfl⟩ := e
      obtain ⟨v, h1, h2⟩ := k2 z n e
      refine ⟨⟨h, (List.getElem?_eq_some_iff.mp h1).1⟩, fun x H' ⟨hH, k', e1⟩ => ?_⟩
      rw [h1] at e1; cases e1
      subst hH
      exact Yld.same S h2
end
end Mn
end
section
set_option autoImplicit false
set_option maxRecDepth 20000
/-! Mn10: targets, the turns of a comprehension, calls, methods. -/
namespace Mn
open PySem L2
theorem tupSeq_mkTup (l : List MV) : tupSeq (mkTup l) = some l := by
  unfold mkTup
  cases e : allP l with
  | none => rfl
  | some ps => rw [allP_ok e]; rfl
/-! ### targets -/
def gNames : List Nat → TGs
  | [] => gNil
  | i :: r => gCons (gName i) (gNames r)
def tgR (K : PySem.W.Frag) : MT → TG
  | .nm i => gName i
  | .tp is => gTup K is.length (gNames is)
def MT.ixs : MT → List Nat
  | .nm i => [i]
  | .tp is => is
def MT.isTp : MT → Bool
  | .tp _ => true
  | _ => false
theorem wipe_get (σ : St) : ∀ (vs : List Nat) (j : Nat), (wipe σ vs)[j]? = if j ∈ vs then (if j < σ.length then some none else none) else σ[j]?
  | [], j => by simp [wipe]
  | v :: vs, j => by
    have hl : (wipe σ vs).length = σ.length := wipe_length σ vs
    unfold wipe
    rw [List.getElem?_set, hl, wipe_get σ vs j]
    by_cases e : v = j
    · subst e
      simp
    · rw [if_neg e]
      by_cases h : j ∈ vs
      · simp [h]
      · simp [h, Ne.symm e]
theorem wipe_set {σ : St} {i : Nat} {v : Option V} {vs : List Nat} (h : i ∈ vs) : wipe (σ.set i v) vs = wipe σ vs := by
  apply List.ext_getElem?
  intro j
  rw [wipe_get, wipe_get, List.length_set]
  by_cases e : j ∈ vs
  · rw [if_pos e, if_pos e]
  · rw [if_neg e, if_neg e, List.getElem?_set]
    rw [if_neg (fun c => by subst c; exact e h)]
theorem wipeE_len (env : Env) : ∀ vs : List Nat, (wipeE env vs).length = env.length
  | [] => rfl
  | v :: vs => by unfold wipeE; rw [List.length_set, wipeE_len env vs]
theorem wipeE_get (env : Env) : ∀ (vs : List Nat) (j : Nat), (wipeE env vs)[j]? = if j ∈ vs then (if j < env.length then some none else none) else env[j]?
  | [], j => by simp [wipeE]
  | v :: vs, j => by
    unfold wipeE
    rw [List.getElem?_set, wipeE_len, wipeE_get env vs j]
    by_cases e : v = j
    · subst e
      simp
    · rw [if_neg e]
      by_cases h : j ∈ vs
      · simp [h]
      · simp [h, Ne.symm e]
section
variable {g : G} {ρ : List Addr} {st : Sto} {H : Hp} {σ : St} {env env1 : Env} {x v : V} {m : MV}
theorem NR.wipe (N : NR g ρ H σ env) (vs : List Nat) : NR g ρ H (L2.wipe σ vs) (wipeE env vs) := by
  refine ⟨by rw [wipe_length, wipeE_len, N.1], fun i m h => ?_⟩
  rw [wipeE_get] at h
  by_cases e : i ∈ vs
  · rw [if_pos e] at h
    split at h <;> cases h
  · rw [if_neg e] at h
    obtain ⟨v, h1, h2⟩ := N.2 i m h
    exact ⟨v, by rw [wipe_get, if_neg e]; exact h1, h2⟩
theorem NR.set (N : NR g ρ H σ env) (h : VR g ρ H v m) (i : Nat) : NR g ρ H (σ.set i (some v)) (env.set i (some m)) := by
  refine ⟨by rw [List.length_set, List.length_set, N.1], fun j n hj => ?_⟩
  rw [List.getElem?_set] at hj ⊢
  rw [N.1]
  by_cases e : i = j
  · rw [if_pos e] at hj ⊢
    split at hj
    · cases hj; rename_i hl; rw [if_pos hl]; exact ⟨v, rfl, h⟩
    · cases hj
  · rw [if_neg e] at hj ⊢
    exact N.2 j n hj
/-- what a target's reading needs -/
theorem gNames_run {Q : St → Hp → Prop} : ∀ {is : List Nat} {xs : List V} {ms : List MV} {σ : St} {env env1 : Env}, NR g ρ H σ env → VRs g ρ H xs ms → setMany env is ms = some env1 →
    (∀ σ', NR g ρ H σ' env1 → (∀ vs : List Nat, (∀ i ∈ is, i ∈ vs) → wipe σ' vs = wipe σ vs) → Q σ' H) → gNames is xs σ H Q ∧ xs.length = is.length
  | [], xs, ms, σ, env, env1, N, r, e, q => by
    cases ms with
    | nil =>
      cases e
      have := r.nil_inv
      subst this
      exact ⟨⟨rfl, q σ N fun _ _ => rfl⟩, rfl⟩
    | cons _ _ => cases e
  | i :: is, xs, ms, σ, env, env1, N, r, e, q => by
    cases ms with
    | nil => cases e
    | cons m ms =>
      obtain ⟨v, ys, rfl, h1, h2⟩ := r.cons_inv
      obtain ⟨q1, q2⟩ := gNames_run (Q := Q) (N.set h1 i) h2 e fun σ' N' hw => q σ' N' fun vs hv => by
        rw [hw vs fun j hj => hv j (List.mem_cons_of_mem _ hj)]
        exact wipe_set (hv i List.mem_cons_self)
      exact ⟨⟨v, ys, rfl, q1⟩, congrArg (· + 1) q2⟩
theorem setT_run {Q : St → Hp → Prop} {tg : MT} (N : NR g ρ H σ env) (hx : VR g ρ H x m ∨ (tg.isTp = true ∧ PrV g ρ H x m)) (e : setT tg m env = some env1)
    (q : ∀ σ', NR g ρ H σ' env1 → (∀ vs : List Nat, (∀ i ∈ tg.ixs, i ∈ vs) → wipe σ' vs = wipe σ vs) → Q σ' H) : tgR g.K tg x σ H Q := by
  cases tg with
  | nm i =>
    cases e
    rcases hx with hx | ⟨hx, _⟩
    · exact q _ (N.set hx i) fun vs hv => wipe_set (hv i (by simp [MT.ixs]))
    · cases hx
  | tp is =>
    unfold setT at e
    dsimp only at e
    split at e
    · rename_i l e1
      have : ∃ a xs, x = .ref a ∧ SqT g.K H a xs ∧ VRs g ρ H xs l := by
        rcases hx with hx | ⟨_, T, xs, l', hx, h1, h2, h3⟩
        · obtain ⟨a, xs, h1, h2, h3⟩ := tup_inv hx e1
          exact ⟨a, xs, h1, h2.t, h3⟩
        · rw [h3, tupSeq_mkTup] at e1
          cases e1
          exact ⟨T, xs, hx, h1, h2⟩
      obtain ⟨a, xs, rfl, h1, r⟩ := this
      obtain ⟨q1, q2⟩ := gNames_run (Q := Q) N r e q
      exact ⟨a, xs, rfl, h1, q2, q1⟩
    · cases e
end
/-! ### the turns of a comprehension -/
def Acc (g : G) (ρ : List Addr) (H : Hp) (D : Addr) (l : List MV) : Prop := ∃ xs, H D = some (.lst xs) ∧ VRs g ρ H xs l ∧ D ∉ ρ
section
variable {g : G} {H0 H1 : Hp} {ρ1 : List Addr} {D : Addr}
theorem Acc.mono {ρ ρ' : List Addr} {H H' : Hp} {l : List MV} (a : Acc g ρ H D l) (e : Ext ρ H ρ' H') : Acc g ρ' H' D l := by
  obtain ⟨xs, h1, h2, h3⟩ := a
  exact ⟨xs, e.keep D _ h1 h3, h2.mono e, fun h => by have := e.new D h h3; rw [h1] at this; cases this⟩
theorem lc_turns {src : Src} {J : It} {f : MV → Sto → Res (List MV)} (hsrc : SrcJ g H0 ρ1 H1 src J) (hk : ∀ a, H1 a ≠ none → H0 a = none → a ≠ D) {Qd : Hp → Prop} {TP : V → Hp → (Hp → Prop) → Prop} {F : List MV → Sto → Prop}
    (fin : ∀ ρ H st l, ExtD D ρ1 H1 ρ H → SR g ρ st H → Acc g ρ H D l → F l st → Qd H) (lenF : ∀ l st, F l st → l.length ≤ lim)
    (turn : ∀ ρ st H l x m a st1 (Nx : Hp → Prop), ExtD D ρ1 H1 ρ H → SR g ρ st H → Acc g ρ H D l → (VR g ρ H x m ∨ (src.pair = true ∧ PrV g ρ H x m)) → f m st = .ok a st1 → l.length + a.length ≤ lim →
      (∀ ρ' H', ExtD D ρ1 H1 ρ' H' → SR g ρ' st1 H' → Acc g ρ' H' D (l ++ a) → Nx H') → TP x H Nx)
    {ρ : List Addr} {H : Hp} {st : Sto} {l b : List MV} {stF : Sto} {k : Nat} (E : ExtD D ρ1 H1 ρ H) (S : SR g ρ st H) (A : Acc g ρ H D l) (hgo : lcGo src f k 0 st = .ok b stF) (hF : F (l ++ b) stF) :
    ∃ W : Nat → Nat → Hp → Prop, (∃ m, W 0 m H) ∧ ∀ i m H, W i m H → (J.stop i H ∧ Qd H) ∨ (J.go i H ∧ ∃ Nx : Hp → Prop, (∀ H', Nx H' → ∃ m', m' < m ∧ W (i + 1) m' H') ∧ ∀ x H', J.yld i H x H' → TP x H' Nx) := by
  refine ⟨fun i m H => ∃ ρ st l b stF, ExtD D ρ1 H1 ρ H ∧ SR g ρ st H ∧ Acc g ρ H D l ∧ lcGo src f m i st = .ok b stF ∧ F (l ++ b) stF, ⟨k, ρ, st, l, b, stF, E, S, A, hgo, hF⟩, ?_⟩
  rintro i m H ⟨ρ, st, l, b, stF, E, S, A, hgo, hF⟩
  cases m with
  | zero => cases hgo
  | succ m =>
    unfold lcGo at hgo
    obtain ⟨t1, t2⟩ := (hsrc.mono hk E).turn (i := i) S
    split at hgo
    · cases hgo
    · rename_i e1
      cases hgo
      rw [List.append_nil] at hF
      exact .inl ⟨t1 e1, fin ρ H st l E S A hF⟩
    · rename_i mx e1
      obtain ⟨g1, g2⟩ := t2 mx e1
      cases e2 : f mx st with
      | exc _ _ _ => rw [e2] at hgo; cases hgo
      | stk => rw [e2] at hgo; cases hgo
      | ok a s1 =>
        rw [e2] at hgo
        cases e3 : lcGo src f m (i + 1) s1 with
        | exc _ _ _ => simp only [Res.bind, e3] at hgo; cases hgo
        | stk => simp only [Res.bind, e3] at hgo; cases hgo
        | ok b' s2 =>
          simp only [Res.bind, e3] at hgo
          cases hgo
          refine .inr ⟨g1, fun H' => ∃ ρ st l b stF, ExtD D ρ1 H1 ρ H' ∧ SR g ρ st H' ∧ Acc g ρ H' D l ∧ lcGo src f m (i + 1) st = .ok b stF ∧ F (l ++ b) stF, fun H' h => ⟨m, Nat.lt_succ_self m, h⟩, fun x H' hy => ?_⟩
          obtain ⟨Ey, Sy, Vy⟩ := g2 x H' hy
          refine turn ρ st H' l x mx a s1 _ (E.trans Ey.d) Sy (A.mono Ey) Vy e2 ?_ fun ρ' H'' E' S' A' => ⟨ρ', s1, l ++ a, b', stF, E', S', A', e3, by rw [List.append_assoc]; exact hF⟩
          have := lenF _ _ hF
          rw [List.length_append, List.length_append] at this
          omega
end
theorem noX_ok {α : Type} {r : Res α} {a : α} {s : Sto} (h : noX r = .ok a s) : r = .ok a s := by
  cases r with
  | ok _ _ => exact h
  | exc _ _ _ => cases h
  | stk => cases h
theorem bind_ok {α β : Type} {r : Res α} {f : α → Sto → Res β} {b : β} {s : Sto} (h : r.bind f = .ok b s) : ∃ a s1, r = .ok a s1 ∧ f a s1 = .ok b s := by
  cases r with
  | ok a s1 => exact ⟨a, s1, rfl, h⟩
  | exc _ _ _ => cases h
  | stk => cases h
theorem turnE_ok {env : Env} {tg : MT} {cond : Env → Sto → Res Bool} {elt : Env → Sto → Res (List MV)} {x : MV} {s st1 : Sto} {a : List MV} (h : turnE env tg cond elt x s = .ok a st1) :
    ∃ env1 b s1, setT tg x env = some env1 ∧ cond env1 s = .ok b s1 ∧ ((b = true ∧ elt env1 s1 = .ok a st1) ∨ (b = false ∧ a = [] ∧ st1 = s1)) := by
  unfold turnE at h
  split at h
  · cases h
  · rename_i env1 e1
    obtain ⟨b, s1, h1, h2⟩ := bind_ok h
    refine ⟨env1, b, s1, e1, noX_ok h1, ?_⟩
    cases b with
    | true => exact .inl ⟨rfl, noX_ok h2⟩
    | false => cases h2; exact .inr ⟨rfl, rfl, rfl⟩
abbrev W0 : WX := fun _ _ _ _ => False
theorem lands_of_ok {α : Type} {g : G} {ρ : List Addr} {H : Hp} {r : Res α} {a : α} {s : Sto} {Q : α → Sto → List Addr → Hp → Prop} {E : Nat → Option Int → Sto → List Addr → Hp → Prop} (h : r = .ok a s)
    (q : ∀ ρ' H', Ext ρ H ρ' H' → SR g ρ' s H' → Q a s ρ' H') : Lands g ρ H r Q E := by
  rw [h]; exact q
/-- the test and the element of a turn -/
theorem turn_run {g : G} {H1 : Hp} {ρ1 : List Addr} {D : Addr} {tg : MT} {cond : Env → Sto → Res Bool} {ev : Env → Sto → Res EV} {env : Env} {σ : St} {vs : List Nat} {sb : Bool} (hv : ∀ i ∈ tg.ixs, i ∈ vs) (hsb : sb = true → tg.isTp = true)
    {ρ : List Addr} {st : Sto} {H : Hp} {l : List MV} {x : V} {m : MV} {a : List MV} {st1 : Sto} {Nx : Hp → Prop} (N : NR g ρ H σ env) (E : ExtD D ρ1 H1 ρ H) (S : SR g ρ st H) (A : Acc g ρ H D l) (hx : VR g ρ H x m ∨ (sb = true ∧ PrV g ρ H x m))
    (hf : turnE env tg cond (fun e1 s1 => (ev e1 s1).bind fun r s2 => .ok [(hold r s2).1] (hold r s2).2) m st = .ok a st1) (hlen : l.length + a.length ≤ lim)
    (nx : ∀ ρ' H', ExtD D ρ1 H1 ρ' H' → SR g ρ' st1 H' → Acc g ρ' H' D (l ++ a) → Nx H') :
    tgR g.K tg x σ H fun σ2 H2 => wipe σ2 vs = wipe σ vs ∧ tT g W0 cond σ2 H2 fun b H3 =>
      if b = true then tE g W0 ev σ2 H3 fun y H4 => ∃ acc, H4 D = some (.lst acc) ∧ acc.length < sizeLine ∧ Nx (upd H4 D (.lst (acc ++ [y]))) else Nx H3 := by
  obtain ⟨env1, b, s1, e1, e2, e3⟩ := turnE_ok hf
  refine setT_run N (hx.imp id fun h => ⟨hsb h.1, h.2⟩) e1 fun σ' N' hw => ⟨hw vs hv, ρ, st, env1, S, N', lands_of_ok e2 fun ρ2 H2 E2 S2 => ?_⟩
  rcases e3 with ⟨rfl, e3⟩ | ⟨rfl, rfl, rfl⟩
  · rw [if_pos rfl]
    obtain ⟨r, s2, e4, e5⟩ := bind_ok e3
    cases e5
    refine ⟨ρ2, s1, env1, S2, N'.mono E2, lands_of_ok e4 fun ρ3 H3 E3 S3 v hv => ?_⟩
    have A3 : Acc g ρ3 H3 D l := (A.mono E2).mono E3
    obtain ⟨k, E4, S4, V4, _⟩ := hold_ok E3 S3 hv
    have A2 := A.mono E2
    obtain ⟨xs, hD, hr, hn⟩ := A3
    have hn4 : D ∉ ρ3 ++ k := fun hm => by
      obtain ⟨ys, hD2, _, hn2⟩ := A2
      have := E4.new D hm hn2
      rw [hD2] at this; cases this
    refine ⟨xs, hD, ?_, nx (ρ3 ++ k) _ ?_ (S4.put hD hn4) ?_⟩
    · rw [hr.1, ← lim_eq]; simp at hlen; omega
    · exact ((E.trans E2.d).trans E4.d).put hD hn4
    · refine ⟨_, upd_same, ?_, hn4⟩
      have P := putD (ρ := ρ3 ++ k) (o := .lst (xs ++ [v])) hD hn4
      exact (hr.more.append (VRs.cons V4 VRs.nil)).monoD P
  · rw [if_neg (by simp)]
    refine nx ρ2 H2 (E.trans E2.d) S2 ?_
    rw [List.append_nil]; exact A.mono E2
/-! ### dict comprehensions -/
def AccD (g : G) (ρ : List Addr) (H : Hp) (D : Addr) (l : List (List Nat × MV)) : Prop := ∃ kvs, H D = some (.dK kvs) ∧ DK g ρ H kvs l ∧ D ∉ ρ
theorem AccD.mono {g : G} {D : Addr} {ρ ρ' : List Addr} {H H' : Hp} {l : List (List Nat × MV)} (a : AccD g ρ H D l) (e : Ext ρ H ρ' H') : AccD g ρ' H' D l := by
  obtain ⟨xs, h1, h2, h3⟩ := a
  exact ⟨xs, e.keep D _ h1 h3, h2.mono e, fun h => by have := e.new D h h3; rw [h1] at this; cases this⟩
theorem DK.monoD {g : G} {D : Addr} {ρ ρ' : List Addr} {H H' : Hp} {kvs : List (Key × V)} {l : List (List Nat × MV)} (h : DK g ρ H kvs l) (e : ExtD D ρ H ρ' H') : DK g ρ' H' kvs l := ⟨h.1, h.2.1.monoD e, h.2.2⟩
theorem DK.more {g : G} {ρ k : List Addr} {H : Hp} {kvs : List (Key × V)} {l : List (List Nat × MV)} (h : DK g ρ H kvs l) : DK g (ρ ++ k) H kvs l := ⟨h.1, h.2.1.more, h.2.2⟩
theorem dput_len (k : List Nat) (m : MV) : ∀ l : List (List Nat × MV), l.length ≤ (dput k m l).length
  | [] => by simp
  | (a, u) :: r => by
    unfold dput
    split
    · simp
    · have := dput_len k m r
      simp only [List.length_cons]; omega
def accO (a : Option (List Nat × MV)) (acc : List (List Nat × MV)) : List (List Nat × MV) := match a with
  | some q => dput q.1 q.2 acc
  | none => acc
theorem dcGo_len {src : Src} {f : MV → Sto → Res (Option (List Nat × MV))} : ∀ {k i : Nat} {acc l : List (List Nat × MV)} {s s' : Sto}, dcGo src f k i acc s = .ok l s' → acc.length ≤ l.length
  | 0, _, _, _, _, _, h => by cases h
  | k + 1, i, acc, l, s, s', h => by
    unfold dcGo at h
    split at h
    · cases h
    · cases h; exact Nat.le_refl _
    · obtain ⟨a, s1, _, h2⟩ := bind_ok h
      have := dcGo_len h2
      refine Nat.le_trans ?_ this
      split
      · exact dput_len _ _ _
      · exact Nat.le_refl _
section
variable {g : G} {H0 H1 : Hp} {ρ1 : List Addr} {D : Addr}
theorem dc_turns {src : Src} {J : It} {f : MV → Sto → Res (Option (List Nat × MV))} (hsrc : SrcJ g H0 ρ1 H1 src J) (hk : ∀ a, H1 a ≠ none → H0 a = none → a ≠ D) {Qd : Hp → Prop} {TP : V → Hp → (Hp → Prop) → Prop} {L : List (List Nat × MV)} {stF : Sto}
    (fin : ∀ ρ H, ExtD D ρ1 H1 ρ H → SR g ρ stF H → AccD g ρ H D L → Qd H) (hL : L.length < lim)
    (turn : ∀ ρ st H l x m a st1 (Nx : Hp → Prop), ExtD D ρ1 H1 ρ H → SR g ρ st H → AccD g ρ H D l → (VR g ρ H x m ∨ (src.pair = true ∧ PrV g ρ H x m)) → f m st = .ok a st1 → l.length < lim →
      (∀ ρ' H', ExtD D ρ1 H1 ρ' H' → SR g ρ' st1 H' → AccD g ρ' H' D (accO a l) → Nx H') → TP x H Nx)
    {ρ : List Addr} {H : Hp} {st : Sto} {l : List (List Nat × MV)} {k : Nat} (E : ExtD D ρ1 H1 ρ H) (S : SR g ρ st H) (A : AccD g ρ H D l) (hgo : dcGo src f k 0 l st = .ok L stF) :
    ∃ W : Nat → Nat → Hp → Prop, (∃ m, W 0 m H) ∧ ∀ i m H, W i m H → (J.stop i H ∧ Qd H) ∨ (J.go i H ∧ ∃ Nx : Hp → Prop, (∀ H', Nx H' → ∃ m', m' < m ∧ W (i + 1) m' H') ∧ ∀ x H', J.yld i H x H' → TP x H' Nx) := by
  refine ⟨fun i m H => ∃ ρ st l, ExtD D ρ1 H1 ρ H ∧ SR g ρ st H ∧ AccD g ρ H D l ∧ dcGo src f m i l st = .ok L stF, ⟨k, ρ, st, l, E, S, A, hgo⟩, ?_⟩
  rintro i m H ⟨ρ, st, l, E, S, A, hgo⟩
  cases m with
  | zero => cases hgo
  | succ m =>
    have hlen := dcGo_len hgo
    unfold dcGo at hgo
    obtain ⟨t1, t2⟩ := (hsrc.mono hk E).turn (i := i) S
    split at hgo
    · cases hgo
    · rename_i e1
      cases hgo
      exact .inl ⟨t1 e1, fin ρ H E S A⟩
    · rename_i mx e1
      obtain ⟨g1, g2⟩ := t2 mx e1
      obtain ⟨a, s1, e2, e3⟩ := bind_ok hgo
      refine .inr ⟨g1, fun H' => ∃ ρ st l, ExtD D ρ1 H1 ρ H' ∧ SR g ρ st H' ∧ AccD g ρ H' D l ∧ dcGo src f m (i + 1) l st = .ok L stF, fun H' h => ⟨m, Nat.lt_succ_self m, h⟩, fun x H' hy => ?_⟩
      obtain ⟨Ey, Sy, Vy⟩ := g2 x H' hy
      refine turn ρ st H' l x mx a s1 _ (E.trans Ey.d) Sy (A.mono Ey) Vy e2 (Nat.lt_of_le_of_lt hlen hL) fun ρ' H'' E' S' A' => ⟨ρ', s1, accO a l, E', S', A', ?_⟩
      cases a with
      | some q => exact e3
      | none => exact e3
end
end Mn
end
section
set_option autoImplicit false
set_option maxRecDepth 20000
/-! Mn11: comprehensions by their evaluation. -/
namespace Mn
open PySem L2
def tI (g : G) (W : WX) (ev : Env → Sto → Res Src) : TI := fun σ H R => ∃ ρ st env, SR g ρ st H ∧ NR g ρ H σ env ∧
  Lands g ρ H (ev env st) (fun src _ ρ' H' => ∀ J, SrcJ g H ρ' H' src J → R J H') (fun c x _ ρ' H' => XW g W σ c x ρ' H')
def MI.pair : MI → Bool
  | .enum _ => true
  | .zip _ _ => true
  | .items _ => true
  | _ => false
theorem optR_ok {α : Type} {o : Option α} {s s' : Sto} {a : α} (h : optR o s = .ok a s') : o = some a ∧ s' = s := by
  cases o with
  | some b => cases h; exact ⟨rfl, rfl⟩
  | none => cases h
theorem evI_pair {P : Prg} {C : Nat → List MV → Sto → Res EV} {it : MI} {env : Env} {s s' : Sto} {src : Src} (h : evI P C it env s = .ok src s') : src.pair = it.pair := by
  cases it with
  | ex e =>
    simp only [evI] at h
    obtain ⟨x, s1, _, h2⟩ := bind_ok h
    split at h2
    · cases h2; rfl
    · split at h2
      · cases h2; rfl
      · cases h2
  | rng es =>
    simp only [evI] at h
    obtain ⟨x, s1, _, h2⟩ := bind_ok h
    have := (optR_ok h2).1
    unfold rngOf at this
    split at this
    · split at this <;> cases this; rfl
    · split at this <;> cases this; rfl
    · cases this
  | enum e =>
    simp only [evI] at h
    obtain ⟨x, s1, _, h2⟩ := bind_ok h
    split at h2
    · cases h2; rfl
    · cases h2
  | zip a b =>
    simp only [evI] at h
    obtain ⟨x, s1, _, h2⟩ := bind_ok h
    obtain ⟨y, s2, _, h3⟩ := bind_ok h2
    split at h3
    · cases h3; rfl
    · split at h3
      · cases h3; rfl
      · cases h3
  | rev e =>
    simp only [evI] at h
    obtain ⟨x, s1, _, h2⟩ := bind_ok h
    split at h2
    · cases h2; rfl
    · cases h2
  | items e =>
    simp only [evI] at h
    obtain ⟨x, s1, _, h2⟩ := bind_ok h
    split at h2
    · cases h2; rfl
    · cases h2
  | vals e =>
    simp only [evI] at h
    obtain ⟨x, s1, _, h2⟩ := bind_ok h
    split at h2
    · cases h2; rfl
    · cases h2
theorem wipe_wipe (σ : St) (vs : List Nat) : wipe (wipe σ vs) vs = wipe σ vs := by
  apply List.ext_getElem?
  intro j
  rw [wipe_get, wipe_get, wipe_length]
  by_cases e : j ∈ vs
  · rw [if_pos e, if_pos e]
  · rw [if_neg e]
section
variable {g : G} {P : Prg} {C : Nat → List MV → Sto → Res EV} {W : WX} {elt : MX} {tg tg2 : MT} {it it2 : MI} {cs cs2 : MXs} {own own2 : List Nat}
theorem lc_read (hv : ∀ i ∈ tg.ixs, i ∈ own) (hp : it.pair = true → tg.isTp = true) {σ : St} {H : Hp} {Q : VK} (h : tE g W (evE P C (.lc elt tg it cs own)) σ H Q) :
    tLc (tI g W (evI P C it)) (tgR g.K tg) (tT g W0 (evC P C cs)) (tE g W0 (evE P C elt)) own σ H Q := by
  obtain ⟨ρ, st, env, S, N, L⟩ := h
  refine ⟨ρ, st, env, S, N, ?_⟩
  simp only [evE] at L
  cases e : evI P C it env st with
  | stk => rw [e] at L; exact L
  | exc c x s => rw [e] at L; exact L
  | ok src s0 =>
    rw [e] at L
    intro ρ' H' E' S' J hJ D hD
    generalize hff : turnE (wipeE env own) tg (fun e1 s1 => evC P C cs e1 s1) (fun e1 s1 => (evE P C elt e1 s1).bind fun r s2 => .ok [(hold r s2).1] (hold r s2).2) = ff at L
    change Lands g ρ H (Res.bind (noX (lcGo src ff wfuel 0 s0)) fun l s3 => if l.length ≤ lim then Res.ok (EV.o (MO.lst l)) s3 else Res.stk) _ _ at L
    cases e2 : lcGo src ff wfuel 0 s0 with
    | stk => simp only [e2, noX] at L; exact False.elim L
    | exc c x s => simp only [e2, noX] at L; exact False.elim L
    | ok b stF =>
      simp only [e2, noX] at L
      have hb : b.length ≤ lim := by
        by_cases c : b.length ≤ lim
        · exact c
        · simp only [Res.bind] at L; rw [if_neg c] at L; exact L.elim
      simp only [Res.bind] at L
      rw [if_pos hb] at L
      refine lc_turns (F := fun l st => l = b ∧ st = stF) hJ (fun a h1 h2 c => by subst c; exact h1 hD) (fun ρ2 H2 st2 l E2 S2 A2 hF => ?_) (fun l st hF => by rw [hF.1]; exact hb)
        (fun ρ2 st2 H2 l x m a st1 Nx E2 S2 A2 hx hf hlen nx => ?_) (E := (Ext.made hD).d) (S := S'.made hD) (A := ⟨[], upd_same, VRs.nil, S'.out hD⟩) (hgo := e2) (hF := ⟨rfl, rfl⟩)
      · obtain ⟨rfl, rfl⟩ := hF
        obtain ⟨xs, hDx, hr, hn⟩ := A2
        exact L ρ2 H2 (E'.trans (E2.ext hD)) S2 (.ref D) ⟨D, rfl, hn, E'.dom D hD, by rw [hDx]; simp, xs, hDx, hr⟩
      · have N2 : NR g ρ2 H2 (wipe σ own) (wipeE env own) := ((N.mono E').monoD E2).wipe own
        subst hff
        have := turn_run hv (fun hs => hp (by rw [← evI_pair e]; exact hs)) N2 E2 S2 A2 hx hf hlen nx
        rw [wipe_wipe] at this
        exact this
theorem lc2_read (hv : ∀ i ∈ tg.ixs, i ∈ own) (hp : it.pair = true → tg.isTp = true) (hv2 : ∀ i ∈ tg2.ixs, i ∈ own2) (hp2 : it2.pair = true → tg2.isTp = true) {σ : St} {H : Hp} {Q : VK}
    (h : tE g W (evE P C (.lc2 elt tg it cs tg2 it2 cs2 own own2)) σ H Q) :
    tLc2 (tI g W (evI P C it)) (tgR g.K tg) (tT g W0 (evC P C cs)) (tI g W0 (evI P C it2)) (tgR g.K tg2) (tT g W0 (evC P C cs2)) (tE g W0 (evE P C elt)) own own2 σ H Q := by
  obtain ⟨ρ, st, env, S, N, L⟩ := h
  refine ⟨ρ, st, env, S, N, ?_⟩
  simp only [evE] at L
  cases e : evI P C it env st with
  | stk => rw [e] at L; exact L
  | exc c x s => rw [e] at L; exact L
  | ok src s0 =>
    rw [e] at L
    intro ρ' H' E' S' J hJ D hD
    generalize hff : turnE (wipeE env own) tg (fun e1 s1 => evC P C cs e1 s1) (fun e1 s1 => (evI P C it2 e1 s1).bind fun src2 s2 =>
        lcGo src2 (turnE (wipeE e1 own2) tg2 (fun e2 s3 => evC P C cs2 e2 s3) (fun e2 s3 => (evE P C elt e2 s3).bind fun r s4 => .ok [(hold r s4).1] (hold r s4).2)) wfuel 0 s2) = ff at L
    change Lands g ρ H (Res.bind (noX (lcGo src ff wfuel 0 s0)) fun l s3 => if l.length ≤ lim then Res.ok (EV.o (MO.lst l)) s3 else Res.stk) _ _ at L
    cases e2 : lcGo src ff wfuel 0 s0 with
    | stk => simp only [e2, noX] at L; exact False.elim L
    | exc c x s => simp only [e2, noX] at L; exact False.elim L
    | ok b stF =>
      simp only [e2, noX] at L
      have hb : b.length ≤ lim := by
        by_cases c : b.length ≤ lim
        · exact c
        · simp only [Res.bind] at L; rw [if_neg c] at L; exact L.elim
      simp only [Res.bind] at L
      rw [if_pos hb] at L
      refine lc_turns (F := fun l st => l = b ∧ st = stF) hJ (fun a h1 h2 c => by subst c; exact h1 hD) (fun ρ2 H2 st2 l E2 S2 A2 hF => ?_) (fun l st hF => by rw [hF.1]; exact hb)
        (fun ρ2 st2 H2 l x m a st1 Nx E2 S2 A2 hx hf hlen nx => ?_) (E := (Ext.made hD).d) (S := S'.made hD) (A := ⟨[], upd_same, VRs.nil, S'.out hD⟩) (hgo := e2) (hF := ⟨rfl, rfl⟩)
      · obtain ⟨rfl, rfl⟩ := hF
        obtain ⟨xs, hDx, hr, hn⟩ := A2
        exact L ρ2 H2 (E'.trans (E2.ext hD)) S2 (.ref D) ⟨D, rfl, hn, E'.dom D hD, by rw [hDx]; simp, xs, hDx, hr⟩
      · have N2 : NR g ρ2 H2 (wipe σ own) (wipeE env own) := ((N.mono E').monoD E2).wipe own
        subst hff
        obtain ⟨env1, t, s1, q1, q2, q3⟩ := turnE_ok hf
        refine setT_run N2 (hx.imp id fun h => ⟨hp (by rw [← evI_pair e]; exact h.1), h.2⟩) q1 fun σ' N' hw => ⟨?_, ρ2, st2, env1, S2, N', lands_of_ok q2 fun ρ3 H3 E3 S3 => ?_⟩
        · have := hw own hv
          rw [wipe_wipe] at this; exact this
        rcases q3 with ⟨rfl, q3⟩ | ⟨rfl, rfl, rfl⟩
        · rw [if_pos rfl]
          obtain ⟨src2, s2, q4, q5⟩ := bind_ok q3
          have A3 : Acc g ρ3 H3 D l := A2.mono E3
          refine ⟨ρ3, s1, env1, S3, N'.mono E3, lands_of_ok q4 fun ρ4 H4 E4 S4 J1 hJ1 => ?_⟩
          have A4 : Acc g ρ4 H4 D l := A3.mono E4
          refine lc_turns (F := fun k st => k = l ++ a ∧ st = st1) hJ1 (fun b h1 h2 c => ?_) (fun ρ5 H5 st5 k E5 S5 A5 hF => ?_) (fun k st hF => by rw [hF.1, List.length_append]; exact hlen)
            (fun ρ5 st5 H5 k x5 m5 a5 st6 Nx5 E5 S5 A5 hx5 hf5 hlen5 nx5 => ?_) (E := ExtD.refl) (S := S4) (A := A4) (hgo := q5) (hF := ⟨rfl, rfl⟩)
          · subst c
            obtain ⟨xs, h3, _⟩ := A3
            rw [h3] at h2; cases h2
          · obtain ⟨rfl, rfl⟩ := hF
            exact nx ρ5 H5 (((E2.trans E3.d).trans E4.d).trans E5) S5 A5
          · have N5 : NR g ρ5 H5 (wipe σ' own2) (wipeE env1 own2) := (((N'.mono E3).mono E4).monoD E5).wipe own2
            have := turn_run hv2 (fun hs => hp2 (by rw [← evI_pair q4]; exact hs)) N5 E5 S5 A5 hx5 hf5 hlen5 nx5
            rw [wipe_wipe] at this
            exact this
        · rw [if_neg (by simp)]
          refine nx ρ3 H3 (E2.trans E3.d) S3 ?_
          rw [List.append_nil]; exact A2.mono E3
end
/-! ### what is walked -/
section
variable {g : G} {P : Prg} {C : Nat → List MV → Sto → Res EV} {W : WX} {σ : St} {H : Hp} {R : It → Hp → Prop}
theorem sqL_inv {ρ : List Addr} {st : Sto} {H0 : Hp} {v : V} {x : EV} {q : Sq} (S : SR g ρ st H) (h : ER g H0 ρ H v x) (e : sqL x st = some q) : ∃ a, v = .ref a ∧ QL g H0 ρ H a q ∧ ∃ xs, SqL g.K H a xs := by
  unfold sqL at e
  split at e
  · rename_i n
    split at e
    · rename_i l e1
      cases e
      cases h with
      | r h =>
        obtain ⟨b, h1, xs, h2, _⟩ := S.ob e1
        rw [h] at h1; cases h1
        exact ⟨_, rfl, .live h, xs, SqL.of h2⟩
    · cases e
  · rename_i l
    cases e
    obtain ⟨a, rfl, hn, h0, hd, xs, h1, h2⟩ := h
    exact ⟨a, rfl, .snap (.inl ⟨h1, hn, h0⟩) h2, xs, SqL.of h1⟩
  · rename_i l
    cases e
    cases h with
    | w h len r => exact ⟨_, rfl, .snap (.inr h) ⟨len, r⟩, _, h.sq⟩
  · cases e
def iOr (a b : TI) : TI := fun σ H R => a σ H R ∨ b σ H R
theorem PI.or {X : Cx} {tg e : Expr} {a b : TI} (h : PI X tg e a) (h' : PI X tg e b) : PI X tg e (iOr a b) := ⟨fun pins s σ H R I q => q.elim (h.run pins s σ H R I) (h'.run pins s σ H R I)⟩
theorem PI.weak {X : Cx} {tg e : Expr} {a b : TI} (h : PI X tg e a) (w : ∀ σ H R, b σ H R → a σ H R) : PI X tg e b := ⟨fun pins s σ H R I q => h.run pins s σ H R I (w σ H R q)⟩
end
/-! ### dict comprehensions -/
section
variable {g : G} {P : Prg} {C : Nat → List MV → Sto → Res EV} {W : WX} {kx vx : MX} {tg : MT} {it : MI} {cs : MXs} {own : List Nat}
theorem turnD_ok {env : Env} {tg : MT} {cond : Env → Sto → Res Bool} {kx vx : Env → Sto → Res EV} {x : MV} {s st1 : Sto} {a : Option (List Nat × MV)} (h : turnD env tg cond kx vx x s = .ok a st1) :
    ∃ env1 b s1, setT tg x env = some env1 ∧ cond env1 s = .ok b s1 ∧ ((b = true ∧ ∃ y s2 z s3 k, kx env1 s1 = .ok y s2 ∧ vx env1 s2 = .ok z s3 ∧ kstr y = some k ∧ a = some (k, (hold z s3).1) ∧ st1 = (hold z s3).2) ∨ (b = false ∧ a = none ∧ st1 = s1)) := by
  unfold turnD at h
  split at h
  · cases h
  · rename_i env1 e1
    obtain ⟨b, s1, h1, h2⟩ := bind_ok h
    refine ⟨env1, b, s1, e1, noX_ok h1, ?_⟩
    cases b with
    | true =>
      obtain ⟨y, s2, h3, h4⟩ := bind_ok h2
      obtain ⟨z, s3, h5, h6⟩ := bind_ok h4
      split at h6
      · rename_i k hk
        cases h6
        exact .inl ⟨rfl, y, s2, z, s3, k, noX_ok h3, noX_ok h5, hk, rfl, rfl⟩
      · cases h6
    | false => cases h2; exact .inr ⟨rfl, rfl, rfl⟩
theorem kstr_inv {ρ : List Addr} {H H0 : Hp} {v : V} {y : EV} {k : List Nat} (h : ER g H0 ρ H v y) (e : kstr y = some k) : v = kV (keyS k) := by
  unfold kstr at e
  split at e
  · cases e; exact h.str_inv
  · cases e
theorem dc_read (hv : ∀ i ∈ tg.ixs, i ∈ own) (hp : it.pair = true → tg.isTp = true) {σ : St} {H : Hp} {Q : VK} (h : tE g W (evE P C (.dcp kx vx tg it cs own)) σ H Q) :
    tDc (tI g W (evI P C it)) (tgR g.K tg) (tT g W0 (evC P C cs)) (tE g W0 (evE P C kx)) (tE g W0 (evE P C vx)) own σ H Q := by
  obtain ⟨ρ, st, env, S, N, L⟩ := h
  refine ⟨ρ, st, env, S, N, ?_⟩
  simp only [evE] at L
  cases e : evI P C it env st with
  | stk => rw [e] at L; exact L
  | exc c x s => rw [e] at L; exact L
  | ok src s0 =>
    rw [e] at L
    intro ρ' H' E' S' J hJ D hD
    generalize hff : turnD (wipeE env own) tg (fun e1 s1 => evC P C cs e1 s1) (fun e1 s1 => evE P C kx e1 s1) (fun e1 s1 => evE P C vx e1 s1) = ff at L
    change Lands g ρ H (Res.bind (noX (dcGo src ff wfuel 0 [] s0)) fun l s3 => if l.length < lim then Res.ok (EV.o (MO.dic l)) s3 else Res.stk) _ _ at L
    cases e2 : dcGo src ff wfuel 0 [] s0 with
    | stk => simp only [e2, noX] at L; exact False.elim L
    | exc c x s => simp only [e2, noX] at L; exact False.elim L
    | ok b stF =>
      simp only [e2, noX] at L
      have hb : b.length < lim := by
        by_cases c : b.length < lim
        · exact c
        · simp only [Res.bind] at L; rw [if_neg c] at L; exact L.elim
      simp only [Res.bind] at L
      rw [if_pos hb] at L
      refine dc_turns hJ (fun a h1 h2 c => by subst c; exact h1 hD) (fun ρ2 H2 E2 S2 A2 => ?_) hb (fun ρ2 st2 H2 l x m a st1 Nx E2 S2 A2 hx hf hlen nx => ?_) (E := (Ext.made hD).d) (S := S'.made hD) (A := ⟨[], upd_same, DK.nil, S'.out hD⟩) (hgo := e2)
      · obtain ⟨xs, hDx, hr, hn⟩ := A2
        exact L ρ2 H2 (E'.trans (E2.ext hD)) S2 (.ref D) ⟨D, rfl, hn, E'.dom D hD, by rw [hDx]; simp, xs, hDx, hr⟩
      · have N2 : NR g ρ2 H2 (wipe σ own) (wipeE env own) := ((N.mono E').monoD E2).wipe own
        subst hff
        obtain ⟨env1, t, s1, q1, q2, q3⟩ := turnD_ok hf
        refine setT_run N2 (hx.imp id fun h => ⟨hp (by rw [← evI_pair e]; exact h.1), h.2⟩) q1 fun σ' N' hw => ⟨?_, ρ2, st2, env1, S2, N', lands_of_ok q2 fun ρ3 H3 E3 S3 => ?_⟩
        · have := hw own hv
          rw [wipe_wipe] at this; exact this
        rcases q3 with ⟨rfl, y, s2, z, s3, k, q4, q5, q6, rfl, rfl⟩ | ⟨rfl, rfl, rfl⟩
        · rw [if_pos rfl]
          refine ⟨ρ3, s1, env1, S3, N'.mono E3, lands_of_ok q4 fun ρ4 H4 E4 S4 v4 hv4 => ⟨ρ4, s2, env1, S4, (N'.mono E3).mono E4, lands_of_ok q5 fun ρ5 H5 E5 S5 v5 hv5 => ?_⟩⟩
          have A4 : AccD g ρ4 H4 D l := (A2.mono E3).mono E4
          obtain ⟨j, E6, S6, V6, _⟩ := hold_ok E5 S5 hv5
          obtain ⟨kvs, hDx, hr, hn⟩ := A4.mono E6
          refine ⟨kvs, keyS k, kstr_inv hv4 q6, hDx, ?_, nx (ρ5 ++ j) _ ((((E2.trans E3.d).trans E4.d).trans E6.d).putK hDx) (S6.putE (ExtD.refl.putK hDx) hn) ?_⟩
          · have := congrArg List.length hr.1
            rw [List.length_map, List.length_map] at this
            rw [this, ← lim_eq]; exact hlen
          · exact ⟨_, upd_same, (hr.put V6).monoD (ExtD.refl.putK hDx), hn⟩
        · rw [if_neg (by simp)]
          exact nx ρ3 H3 (E2.trans E3.d) S3 (A2.mono E3)
end
end Mn
end
section
set_option autoImplicit false
set_option maxRecDepth 20000
/-! Mn12: arguments, calls, methods, sources. -/
namespace Mn
open PySem PySem.Spec L2
section
variable {g : G} {P : Prg} {C : Nat → List MV → Sto → Res EV} {W : WX} {σ : St} {H : Hp}
/-- one part, then what follows: with the heap ahead -/
theorem step_run {α : Type} {ρ : List Addr} {st : Sto} {env : Env} {ea : Env → Sto → Res EV} {f : EV → Sto → Res α} {Q : α → Sto → List Addr → Hp → Prop} {R : V → Hp → Prop} {H : Hp}
    (S : SR g ρ st H) (N : NR g ρ H σ env) (L : Lands g ρ H ((ea env st).bind f) Q (fun c x _ ρ' H' => XW g W σ c x ρ' H'))
    (k : ∀ x st1 ρ1 H1 v, ea env st = .ok x st1 → Ext ρ H ρ1 H1 → SR g ρ1 st1 H1 → NR g ρ1 H1 σ env → ER g H ρ1 H1 v x → Lands g ρ H (f x st1) Q (fun c x _ ρ' H' => XW g W σ c x ρ' H') → R v H1) : tE g W ea σ H R := by
  refine ⟨ρ, st, env, S, N, ?_⟩
  cases e : ea env st with
  | ok x st1 =>
    rw [e] at L
    exact fun ρ1 H1 e1 S1 v hv => k x st1 ρ1 H1 v e e1 S1 (N.mono e1) hv L
  | exc c x s => rw [e] at L; exact L
  | stk => rw [e] at L; exact L
theorem stepL_run {α : Type} {ρ : List Addr} {st : Sto} {env : Env} {ea : Env → Sto → Res (List EV)} {f : List EV → Sto → Res α} {Q : α → Sto → List Addr → Hp → Prop} {R : List V → Hp → Prop} {H : Hp}
    (S : SR g ρ st H) (N : NR g ρ H σ env) (L : Lands g ρ H ((ea env st).bind f) Q (fun c x _ ρ' H' => XW g W σ c x ρ' H'))
    (k : ∀ x st1 ρ1 H1 v, ea env st = .ok x st1 → Ext ρ H ρ1 H1 → SR g ρ1 st1 H1 → NR g ρ1 H1 σ env → ERs g H ρ1 H1 v x → Lands g ρ H (f x st1) Q (fun c x _ ρ' H' => XW g W σ c x ρ' H') → R v H1) : tL g W ea σ H R := by
  refine ⟨ρ, st, env, S, N, ?_⟩
  cases e : ea env st with
  | ok x st1 =>
    rw [e] at L
    exact fun ρ1 H1 e1 S1 v hv => k x st1 ρ1 H1 v e e1 S1 (N.mono e1) hv L
  | exc c x s => rw [e] at L; exact L
  | stk => rw [e] at L; exact L
theorem tL_nil {Q : List V → Hp → Prop} (h : tL g W (evL P C .nil) σ H Q) : tNil σ H Q := by
  obtain ⟨ρ, st, env, S, N, L⟩ := h
  simp only [evL] at L
  exact L ρ H Ext.refl S [] .nil
theorem ER.tmp_new {ρ : List Addr} {H0 : Hp} {v : V} {x : EV} {a : Addr} (h : ER g H0 ρ H v x) (e : tmp v x = some a) : H0 a = none ∧ H a ≠ none := by
  cases x with
  | v m => cases v <;> cases e
  | o o =>
    obtain ⟨b, rfl, hn, h0, hd, ho⟩ := h
    cases e
    exact ⟨h0, hd⟩
theorem ERs.tmp_new {ρ : List Addr} {H0 : Hp} {vs : List V} {xs : List EV} (h : ERs g H0 ρ H vs xs) : ∀ (i : Nat) (u : V) (y : EV) (a : Addr), vs[i]? = some u → xs[i]? = some y → tmp u y = some a → H0 a = none := by
  induction h with
  | nil => intro i u y a h; simp at h
  | cons h ap r ih =>
    intro i u y a h1 h2 h3
    cases i with
    | zero => cases h1; cases h2; exact (h.tmp_new h3).1
    | succ i => exact ih i u y a h1 h2 h3
theorem tL_cons {e : MX} {r : MXs} {Q : List V → Hp → Prop} (h : tL g W (evL P C (.cons e r)) σ H Q) : tCons (tE g W (evE P C e)) (tL g W (evL P C r)) σ H Q := by
  obtain ⟨ρ, st, env, S, N, L⟩ := h
  simp only [evL] at L
  refine step_run S N L fun x st1 ρ1 H1 v _ E1 S1 N1 hv L1 => ?_
  refine stepL_run S1 N1 (L1.from E1) fun l st2 ρ2 H2 vs _ E2 S2 N2 hl L2 => ?_
  refine L2 ρ2 H2 E2 S2 (v :: vs) (.cons (hv.mono E2) (fun a ha i u y h1 h2 h3 => ?_) (hl.back E1.dom))
  exact (hv.tmp_new ha).2 (hl.tmp_new i u y a h1 h2 h3)
/-! ### calls of defs -/
def XK (g : G) (E : L2.XK) (c : Nat) (x : Option Int) (H : Hp) : Prop := match x with
  | none => E (.ref (g.clA c)) none H
  | some i => ∀ d, H d = some (.xd [(Str.ofString "line", .int i)]) → E (.ref (g.clA c)) (some d) H
theorem XW_XK {c : Nat} {x : Option Int} {ρ : List Addr} : XW g W σ c x ρ H = XK g (WE W σ) c x H := by cases x <;> rfl
/-- a def's promise: it does what Mini's call does -/
def spM (g : G) (C : Nat → List MV → Sto → Res EV) (f : Nat) : Sp := fun vs H Q E => ∃ ρ st ms, SR g ρ st H ∧ VRs g ρ H vs ms ∧
  Lands g ρ H (C f ms st) (fun r _ ρ' H' => ∀ v, ER g H ρ' H' v r → Q v H') (fun c x _ _ H' => XK g E c x H')
theorem refFree_any {ρ ρ' : List Addr} : ∀ {l : List MV} {xs : List V}, refFree l = true → VRs g ρ H xs l → VRs g ρ' H xs l
  | [], xs, _, r => by rw [r.nil_inv]; exact VRs.nil
  | .p p :: l, xs, h, r => by
    obtain ⟨v, ys, rfl, h1, h2⟩ := r.cons_inv
    exact VRs.cons (.p h1.p_inv) (refFree_any (l := l) h h2)
  | .r _ :: _, _, h, _ => by cases h
  | .t _ :: _, _, h, _ => by cases h
  | .f _ :: _, _, h, _ => by cases h
  | .w _ :: _, _, h, _ => by cases h
theorem SR.none {H : Hp} : SR g [] [] H := ⟨List.nodup_nil, rfl, fun n a o h => by simp at h⟩
theorem Ext.iso {ρ ρ' : List Addr} {H H' : Hp} (e : Ext [] H ρ' H') : Ext ρ H ρ H' :=
  ⟨⟨[], by simp⟩, fun a h1 h2 => absurd h1 h2, fun a o h _ => e.keep a o h (by simp), e.tup, e.frz, e.dom⟩
theorem doCall_read {f : Nat} {ms : List MV} {ρ : List Addr} {st : Sto} {vs : List V} {Q : VK} {E : L2.XK} {H0 : Hp} (d : ∀ a, H a = none → H0 a = none) (S : SR g ρ st H) (r : VRs g ρ H vs ms)
    (L : Lands g ρ H (doCall C f ms st) (QR g H0 Q) (fun c x _ _ H' => XK g E c x H')) : spM g C f vs H Q E := by
  unfold doCall at L
  cases e : isoCall C f ms st with
  | none =>
    rw [e] at L
    refine ⟨ρ, st, ms, S, r, ?_⟩
    cases e2 : C f ms st with
    | ok a s => 
      simp only [e2] at L
      exact fun ρ' H' E' S' v hv => L ρ' H' E' S' v (hv.back d)
    | exc c x s => simp only [e2] at L; exact L
    | stk => simp only [e2] at L; exact L
  | some res =>
    rw [e] at L
    unfold isoCall at e
    split at e
    · rename_i hf
      refine ⟨[], [], ms, SR.none, refFree_any hf r, ?_⟩
      cases e2 : C f ms [] with
      | stk => rw [e2] at e; cases e
      | exc c x s =>
        rw [e2] at e
        cases e
        exact fun ρ' H' E' S' => L ρ H' E'.iso (S.mono E'.iso fun b _ u hu => E'.keep b u hu (by simp))
      | ok a s' =>
        rw [e2] at e
        dsimp only at e
        cases e3 : isoOut a s' with
        | none => rw [e3] at e; cases e
        | some a' =>
          rw [e3] at e
          cases e
          refine fun ρ' H' E' S' v hv => L ρ H' E'.iso (S.mono E'.iso fun b _ u hu => E'.keep b u hu (by simp)) v ?_
          unfold isoOut at e3
          split at e3
          · cases e3; exact .p hv.p_inv
          · rename_i n
            split at e3
            · rename_i l e4
              split at e3
              · rename_i hl
                cases e3
                cases hv with
                | r hv =>
                  rename_i b
                  obtain ⟨b', h1, xs, h2, h3⟩ := S'.ob e4
                  rw [hv] at h1; cases h1
                  have hn : H b = none := E'.new b (List.mem_of_getElem? hv) (by simp)
                  exact ⟨b, rfl, S.out hn, d b hn, by rw [h2]; simp, xs, h2, refFree_any hl h3⟩
              · cases e3
            · cases e3
          · rename_i l
            split at e3
            · rename_i hl
              cases e3
              obtain ⟨b, rfl, hn, h0, hd, xs, h1, h2⟩ := hv
              exact ⟨b, rfl, S.out h0, d b h0, hd, xs, h1, refFree_any hl h2⟩
            · cases e3
          · cases e3
    · cases e
/-- arguments held, then the call -/
theorem call_read {es : MXs} {f : Nat} {Q : VK} (h : tE g W (fun env s => (evL P C es env s).bind fun l s1 => doCall C f (holdAll l s1).1 (holdAll l s1).2) σ H Q) : tCallS (spM g C f) (WE W) (tL g W (evL P C es)) σ H Q := by
  obtain ⟨ρ, st, env, S, N, L⟩ := h
  refine stepL_run (f := fun l s1 => doCall C f (holdAll l s1).1 (holdAll l s1).2) S N L fun l st1 ρ1 H1 vs _ E1 S1 N1 hl L1 => ?_
  obtain ⟨k, E2, S2, V2⟩ := holdAll_ok E1 S1 hl
  exact doCall_read E1.dom S2 V2 (by
    have := L1.from E2
    cases e : doCall C f (holdAll l st1).1 (holdAll l st1).2 with
    | ok a s => simp only [e] at this; exact this
    | exc c x s => simp only [e] at this; exact fun ρ' H' E' S' => Eq.mp (XW_XK (ρ := ρ')) (this ρ' H' E' S')
    | stk => simp only [e] at this; exact this)
end
end Mn
end
section
set_option autoImplicit false
set_option maxRecDepth 20000
/-! Mn13: facts of the syntax. -/
namespace Mn
open PySem PySem.Spec L2
def notStar : Expr → Bool
  | .Starred _ _ => false
  | _ => true
def notSet : Expr → Bool
  | .Set _ _ _ => false
  | _ => true
def notSlice : Expr → Bool
  | .Slice _ _ _ _ => false
  | _ => true
def notSuper : Expr → Bool
  | .Call (.Name id _) [] [] _ => id != "super"
  | _ => true
section
variable {env : PySem.Env} {e : Expr} {es : List Expr}
theorem star_cons (h : notStar e = true) : starEach (e :: es) env = (false, eval e env) :: starEach es env := by
  cases e <;> first | rfl | cases h
theorem star_any {pos : Pos} : ∀ {es : List Expr}, es.all notStar = true → (backTo pos (starEach es env)).any (·.1) = false
  | [], _ => rfl
  | e :: es, h => by
    rw [List.all_cons, Bool.and_eq_true] at h
    rw [star_cons h.1]
    show (false || (backTo pos (starEach es env)).any (·.1)) = false
    rw [star_any h.2]; rfl
theorem star_all {pos : Pos} : ∀ {es : List Expr}, es.all notStar = true → (backTo pos (starEach es env)).all (fun x => !x.1) = true
  | [], _ => rfl
  | e :: es, h => by
    rw [List.all_cons, Bool.and_eq_true] at h
    rw [star_cons h.1]
    show (true && (backTo pos (starEach es env)).all (fun x => !x.1)) = true
    rw [star_all h.2]; rfl
theorem base_of {name : Str} {w : Sem Value} (h : notSuper e = true) : attributeBase e name env w = w := by
  unfold attributeBase
  split
  · rename_i id _ _
    have : (id != ("super" : Str)) = true := h
    rw [this]; rfl
  · rfl
theorem ix_of (h : notSlice e = true) : PlainIx e := by
  intro o i
  unfold subscripted
  cases e <;> first | rfl | cases h
theorem fold_of (h : notSet e = true) : ∀ x, foldedSetIterable e env x = pure x := by
  intro x
  unfold foldedSetIterable
  cases e <;> first | rfl | cases h
theorem mark_of {op : CmpOp} (h : notSet e = true) : behindInMarks op e = false := by
  unfold behindInMarks
  cases e <;> first | rfl | cases h
theorem meth_tree {o : Expr} {name : Str} {apos pos : Pos} {args : List Expr} (hb : attributeBase o name env (eval o env) = eval o env)
    (hf : methodCallForm (args.length + ([] : List Keyword).length) (backTo pos (starEach args env)) (backToKw pos (keywordEach [] env)) = true) (hl : (apos.endLine == pos.line) = true) :
    eval (.Call (.Attribute o name apos) args [] pos) env = (do
      let ov ← eval o env
      standAt apos.atName
      let (f, first) ← holding [ov] (getMethod ov name (do return (← importBound o env).getD true))
      callWith pos f first (backTo pos (starEach args env)) (backToKw pos (keywordEach [] env))) := by
  show (do
      let ov ← attributeBase o name env (eval o env)
      standAt apos.atName
      methodCall o name apos pos env ov (args.length + ([] : List Keyword).length) (backTo pos (starEach args env)) (backToKw pos (keywordEach [] env))) = _
  rw [hb]
  unfold methodCall methodCallPos calleeOf
  rw [hf, hl]
  rfl
theorem few_of {pos : Pos} (h : es.all notStar = true) (hl : es.length < 30) : methodCallForm (es.length + ([] : List Keyword).length) (backTo pos (starEach es env)) (backToKw pos (keywordEach [] env)) = true := by
  unfold methodCallForm
  rw [star_all h]
  show (true && true && decide (es.length + 0 + 0 < 30)) = true
  simpa using hl
end
/-! ### calls with slots -/
section
variable {X : Cx} {CX : CXT} {k : Nat} {f C : Addr} {fd : FuncData} {ps : List Str} {sp : Sp} {E : St → L2.XK} {x m : Str} {p pos apos : Pos} {e o : Expr} {es : List Expr} {ta : TE} {t : TA}
theorem pe_call0S (F : FnOk X.prog X.w X.K X.mg X.base CX k f fd ps sp) (hr : Room k X.A) (hg : Gl X x) (hm : X.mg x = some (.ref f)) (hk : PySem.W.keepIn X.K (.ref f) = true) (hb : Binds X.K fd ps []) (hx : ∀ σ, PassesAt CX X σ (E σ))
    (hd : (x == ("__debug__" : Str)) = false) : PE X (.Call (.Name x p) [] [] pos) (tCallS sp E tNil) := by
  refine ⟨fun pins s σ H Q I hh => ?_⟩
  refine wpAny_Call_Name_kw (ld_glob I hg hm ?_ hd)
  exact PySem.W.callWith_K0 I.kIn hk (run_fnS (us := []) F hr hb (hx σ) I .nil hh)
/-- what is known of the methods m of the classes -/
structure MethF (X : Cx) (CX : CXT) (m : Str) (C : Addr) (sp : Sp) : Prop where
  cls : Cls X.K C
  ex : ∃ f k fd ps, Meth X.K C m f ∧ FnOk X.prog X.w X.K X.mg X.base CX k f fd ps sp ∧ Room k X.A ∧ Binds X.K fd ps []
def tMethS (X : Cx) (CX : CXT) (m : Str) (E : St → L2.XK) (ta : TE) (t : TA) : TE := fun σ H Q => ta σ H fun x H1 => ∃ a C dx fs sp, x = .ref a ∧ H1 a = some (.ins C dx fs) ∧ MethF X CX m C sp ∧ fs.lookup m = none ∧ t σ H1 fun vs H2 => sp (x :: vs) H2 Q (E σ)
theorem pe_methS (he : PE X o ta) (hx : ∀ σ, PassesAt CX X σ (E σ)) (ha : PA X (e :: es) t) (hs : (e :: es).all notStar = true) (ho : notSuper o = true) (hl : (apos.endLine == pos.line) = true) (hn : (e :: es).length < 30) :
    PE X (.Call (.Attribute o m apos) (e :: es) [] pos) (tMethS X CX m E ta t) := by
  refine ⟨fun pins s σ H Q I hh => ?_⟩
  have hs' := hs
  rw [List.all_cons, Bool.and_eq_true] at hs'
  refine PySem.W.methodCall_KW (thn (he.run pins s σ H _ I hh) fun u s1 ⟨x, H1, I1, rx, a, C, dx, fs, sp, ex, ea, M, l, q⟩ => ?_) (meth_tree (base_of ho) (few_of hs hn) hl)
  subst ex
  obtain rfl : u = Value.ref a := rx
  obtain ⟨f, k, fd, ps, hm, F, hr, hb⟩ := M.ex
  refine getmeth_ok I1 ea M.cls hm l ?_
  refine PySem.W.callWith_K (first := [.ref a]) (h₀ := X.base) I.ok.mod.kin hm.kp (thn (ha.run pos pins s1 σ H1 _ I1 q) fun us s2 ⟨vs, H2, I2, r, q2⟩ => ⟨I2.kIn, ?_⟩) (star_cons hs'.1) (star_any hs'.2)
  exact run_fnS (us := .ref a :: us) (vs := .ref a :: vs) F hr hb (hx σ) I2 (.cons rfl r) q2
theorem pe_meth0S (he : PE X o ta) (hx : ∀ σ, PassesAt CX X σ (E σ)) (ho : notSuper o = true) (hl : (apos.endLine == pos.line) = true) :
    PE X (.Call (.Attribute o m apos) [] [] pos) (tMethS X CX m E ta tNil) := by
  refine ⟨fun pins s σ H Q I hh => ?_⟩
  refine PySem.W.methodCall_KW (thn (he.run pins s σ H _ I hh) fun u s1 ⟨x, H1, I1, rx, a, C, dx, fs, sp, ex, ea, M, l, q⟩ => ?_) (meth_tree (base_of ho) (few_of (es := []) rfl (by decide)) hl)
  subst ex
  obtain rfl : u = Value.ref a := rx
  obtain ⟨f, k, fd, ps, hm, F, hr, hb⟩ := M.ex
  refine getmeth_ok I1 ea M.cls hm l ?_
  exact PySem.W.callWith_K0 (first := [.ref a]) I1.kIn hm.kp (run_fnS (us := [.ref a]) (vs := [.ref a]) F hr hb (hx σ) I1 (.cons rfl .nil) q)
/-- a call of a local name: the def that its slot holds -/
structure FnF (X : Cx) (CX : CXT) (f : Addr) (sp : Sp) : Prop where
  kp : PySem.W.keepIn X.K (.ref f) = true
  ex : ∃ k fd ps, FnOk X.prog X.w X.K X.mg X.base CX k f fd ps sp ∧ Room k X.A ∧ Binds X.K fd ps []
def tLocS (X : Cx) (CX : CXT) (i : Nat) (E : St → L2.XK) (t : TA) : TE := fun σ H Q => ∃ f sp, σ[i]? = some (some (.ref f)) ∧ FnF X CX f sp ∧ t σ H fun vs H1 => sp vs H1 Q (E σ)
theorem pe_locS {i : Nat} (hN : X.N[i]? = some x) (hv : Vis X.env.scope x) (hx : ∀ σ, PassesAt CX X σ (E σ)) (ha : PA X (e :: es) t) (hd : (x == ("__debug__" : Str)) = false) (hc : (x == ("__classdict__" : Str)) = false) (hs : (e :: es).all notStar = true) :
    PE X (.Call (.Name x p) (e :: es) [] pos) (tLocS X CX i E t) := by
  refine ⟨fun pins s σ H Q I hh => ?_⟩
  rw [List.all_cons, Bool.and_eq_true] at hs
  obtain ⟨f, sp, hσ, F, ht⟩ := hh
  refine wpAny_Call_Name_kw (thn ((pe_var (pos := p) hN hv hd hc).run pins s σ H (fun v H1 => v = .ref f ∧ H1 = H) I ⟨.ref f, hσ, rfl, rfl⟩) fun u s1 ⟨v, H1, I1, r1, q1⟩ => ?_)
  obtain ⟨rfl, rfl⟩ := q1
  cases r1
  obtain ⟨k, fd, ps, F', hr, hb⟩ := F.ex
  refine PySem.W.callWith_K (h₀ := X.base) I.ok.mod.kin F.kp (thn (ha.run pos pins s1 σ _ _ I1 ht) fun us s2 ⟨vs, H2, I2, r, q⟩ => ⟨I2.kIn, ?_⟩) (star_cons hs.1) (star_any hs.2)
  exact run_fnS F' hr hb (hx σ) I2 r q
end
/-! ### a conditional expression as a test -/
theorem pt_ifExp {X : Cx} {c a b : Expr} {tc ta tb : TT} {pos : Pos} (hc : PT X c tc) (ha : PT X a ta) (hb : PT X b tb) : PT X (.IfExp c a b pos) (fun σ H Q => tc σ H fun k H1 => if k = true then ta σ H1 Q else tb σ H1 Q) := by
  refine ⟨fun pins s σ H Q I h => ?_⟩
  show wpAny _ _ (do if ← isTrue c X.env (eval c X.env) then isTrue a X.env (eval a X.env) else isTrue b X.env (eval b X.env)) _ _ s
  refine wpAny_bind (thn (hc.run pins s σ H _ I h) fun k s1 ⟨H1, I1, q1⟩ => ?_)
  cases k with
  | true => exact ha.run pins s1 σ H1 Q I1 q1
  | false => exact hb.run pins s1 σ H1 Q I1 q1
end Mn
end
section
set_option autoImplicit false
set_option maxRecDepth 20000
/-! Mn14: does an expression of the text say what Mini's does. -/
namespace Mn
open PySem L2
/-- the names that Mini's numbers stand for -/
structure Tx where
  fn : List Str
  cl : List Str
  gl : List Str
  me : List Str
  fd : Nat → Str
  nf : Nat
/-- where an expression stands -/
structure Sk where
  sc : Scope
  N : List Str
  fn : Str → Bool
def Sk.gl (k : Sk) (x : Str) : Bool := decide (k.sc.names.lookup x = some .globalImplicit) && !(x == ("__debug__" : Str)) && decide (x ≠ ("__name__" : Str))
def Sk.var (k : Sk) (i : Nat) (x : Str) : Bool := decide (k.N[i]? = some x) && (match k.sc.names.lookup x with | some .local => true | some .cell => true | some .free => true | _ => false) && !(x == ("__debug__" : Str)) && !(x == ("__classdict__" : Str))
def Sk.tgt (k : Sk) (i : Nat) (x : Str) : Bool := decide (k.N[i]? = some x) && (match k.sc.names.lookup x with | some .local => true | some .cell => k.fn x | _ => false)
def Sk.blk (k : Sk) (scope : Scope) : Sk := ⟨relS scope k.sc, k.N, fun x => scope.names.lookup x == some .cell⟩
def biN : BI → String
  | .len => "len" | .tuple => "tuple" | .list => "list" | .sorted => "sorted" | .set => "set" | .all => "all" | .any => "any" | .sum => "sum" | .max => "max" | .min => "min"
  | .abs => "abs" | .int => "int" | .dict => "dict" | .str => "str"
def tyN_ : TyN → String
  | .bool => "bool" | .int => "int" | .str => "str" | .tuple => "tuple" | .list => "list"
def meN : ME → String
  | .append => "append" | .extend => "extend" | .pop => "pop" | .insert => "insert" | .index => "index" | .get => "get" | .setdefault => "setdefault" | .add => "add"
def meOk (m : ME) (n : Nat) : Bool := match m with
  | .append => n != 0
  | .extend => n != 0
  | .index => n == 1
  | .pop => n == 0
  | _ => false
def ckTs (k : Sk) : List Nat → List Expr → Bool
  | [], [] => true
  | i :: is, .Name x _ :: es => k.tgt i x && ckTs k is es
  | _, _ => false
def ckT (k : Sk) : MT → Expr → Bool
  | .nm i, .Name x _ => k.tgt i x
  | .tp is, .Tuple es _ _ => ckTs k is es
  | _, _ => false
def ckLit : PV → Const → Bool
  | .non, .none => true
  | .bl a, .bool b => a == b
  | .int i, .int j => decide (i = j)
  | .str l, .str x => decide (toStr l = x)
  | _, _ => false
def ownP (k : Sk) (own : List Nat) : List (Str × Nat) := own.map fun i => (k.N.getD i Str.empty, i)
def ownOk (tg : MT) (own : List Nat) : Bool := tg.ixs.all fun i => decide (i ∈ own)
/-- a test whose truth is its value's -/
def genT : Expr → Bool
  | .UnaryOp .Not _ _ => false
  | .BoolOp _ _ _ => false
  | .IfExp _ _ _ _ => false
  | .Compare _ _ _ _ => false
  | _ => true
/-- the keys of a display -/
def ckKeys : List (List Nat) → List (Option Expr) → Bool
  | [], [] => true
  | k :: ks, some (.Constant (.str x) _ _) :: es => decide (toStr k = x) && ckKeys ks es
  | _, _ => false
mutual
def ckE (T : Tx) : MX → Sk → Expr → Bool
  | .var i, k, .Name x _ => k.var i x
  | .lit v, _, .Constant c _ _ => ckLit v c
  | .glb j, k, .Name x _ => decide (T.gl[j]? = some x) && k.gl x
  | .tup es, k, .Tuple xs _ _ => ckL T es k xs
  | .lst es, k, .List xs _ => ckL T es k xs
  | .bin op a b, k, .BinOp x o y _ => decide (o = pyB op) && ckE T a k x && ckE T b k y
  | .cmp op a b, k, .Compare x [o] [y] _ => decide (o = pyC op) && notSet y && ckE T a k x && ckE T b k y
  | .chn o1 o2 a b c, k, .Compare x [p1, p2] [y, z] _ => decide (p1 = pyC o1) && decide (p2 = pyC o2) && notSet y && notSet z && ckE T a k x && ckE T b k y && ckE T c k z
  | .and a b, k, .BoolOp .And (x :: y :: r) pos => ckE T a k x && (match r with
    | [] => ckE T b k y
    | r => ckE T b k (.BoolOp .And (y :: r) pos))
  | .or a b, k, .BoolOp .Or (x :: y :: r) pos => ckE T a k x && (match r with
    | [] => ckE T b k y
    | r => ckE T b k (.BoolOp .Or (y :: r) pos))
  | .not a, k, .UnaryOp .Not x _ => ckE T a k x
  | .neg a, k, .UnaryOp .USub x _ => ckE T a k x
  | .ite c a b, k, .IfExp z x y _ => ckE T c k z && ckE T a k x && ckE T b k y
  | .ix a i, k, .Subscript x y _ => notSlice y && ckE T a k x && ckE T i k y
  | .slf a i, k, .Subscript x (.Slice (some y) none none _) _ => ckE T a k x && ckE T i k y
  | .slt a i, k, .Subscript x (.Slice none (some y) none _) _ => ckE T a k x && ckE T i k y
  | .slb a i j, k, .Subscript x (.Slice (some y) (some z) none _) _ => ckE T a k x && ckE T i k y && ckE T j k z
  | .call f es, k, .Call (.Name x _) xs [] _ => decide (T.fn[f]? = some x) && k.gl x && ckL T es k xs
  | .cv i es, k, .Call (.Name x _) (y :: xs) [] _ => k.var i x && ckL T es k (y :: xs)
  | .bi b es, k, .Call (.Name x _) (y :: xs) [] _ => decide (x = (biN b : Str)) && k.gl x && ckL T es k (y :: xs)
  | .isi a t, k, .Call (.Name x _) [y, .Name z _] [] _ => decide (x = ("isinstance" : Str)) && k.gl x && decide (z = (tyN_ t : Str)) && k.gl z && notStar y && ckE T a k y
  | .mk c es, k, .Call (.Name x _) xs [] _ => decide (T.cl[c]? = some x) && k.gl x && ckL T es k xs
  | .um m o es, k, .Call (.Attribute y nm apos) xs [] pos => decide (T.me[m]? = some nm) && notSuper y && (apos.endLine == pos.line) && decide (xs.length < 30) && ckE T o k y && ckL T es k xs
  | .me m o es, k, .Call (.Attribute y nm apos) xs [] pos => decide (nm = (meN m : Str)) && meOk m xs.length && notSuper y && (apos.endLine == pos.line) && decide (xs.length < 30) && ckE T o k y && ckL T es k xs
  | .fld o x, k, .Attribute y nm _ => decide (nm = T.fd x) && decide (x < T.nf) && notSuper y && ckE T o k y
  | .lc e tg it cs own, k, .ListComp x [⟨tx, ix, ifs, a⟩] scope _ => decide (a = 0) && blkC k.N k.sc scope (ownP k own) && ckI T it k ix && notSet ix && ckT (k.blk scope) tg tx && ownOk tg own && (!it.pair || tg.isTp) &&
      ckE T e (k.blk scope) x && ckC T cs (k.blk scope) ifs
  | .lc2 e tg it cs tg2 it2 cs2 own own2, k, .ListComp x [⟨tx, ix, ifs, a⟩, ⟨tx2, ix2, ifs2, a2⟩] scope _ => decide (a = 0) && decide (a2 = 0) && blkC k.N k.sc scope (ownP k own) && ckI T it k ix && notSet ix && ckT (k.blk scope) tg tx && ownOk tg own && (!it.pair || tg.isTp) &&
      ckE T e (k.blk scope) x && ckC T cs (k.blk scope) ifs && ckI T it2 (k.blk scope) ix2 && notSet ix2 && ckT (k.blk scope) tg2 tx2 && ownOk tg2 own2 && (!it2.pair || tg2.isTp) && ckC T cs2 (k.blk scope) ifs2 && own2.all (fun i => decide (i ∈ own))
  | .lock _ a, k, x => genT x && ckE T a k x
  | .dix o q, k, .Subscript x y _ => notSlice y && ckE T o k x && ckE T q k y
  | .dg1 o q, k, .Call (.Attribute x nm apos) [u] [] pos => decide (nm = ("get" : Str)) && notSuper x && (apos.endLine == pos.line) && notStar u && ckE T o k x && ckE T q k u
  | .dg2 o q d, k, .Call (.Attribute x nm apos) [u, w] [] pos => decide (nm = ("get" : Str)) && notSuper x && (apos.endLine == pos.line) && notStar u && notStar w && ckE T o k x && ckE T q k u && ckE T d k w
  | .din q o, k, .Compare x [.In] [y] _ => notSet y && ckE T q k x && ckE T o k y
  | .dnin q o, k, .Compare x [.NotIn] [y] _ => notSet y && ckE T q k x && ckE T o k y
  | .dsp ks vs, k, .Dict keys values _ => ckKeys ks keys && decide (keys.length = values.length) && decide (keys.length ≤ 15) && ckL T vs k values
  | .dadd d q v, k, .Call (.Name x _) [.BinOp (.Call (.Name y _) [.Call (.Attribute o nm apos) [] [] cpos] [] _) op (.List [.Tuple [a, b] _ _] _) _] [] _ => decide (x = ("dict" : Str)) && decide (y = ("list" : Str)) && decide (nm = ("items" : Str)) && decide (op = Operator.Add) && k.gl x && k.gl y && notSuper o && (apos.endLine == cpos.line) && notStar a && notStar b && ckE T d k o && ckE T q k a && ckE T v k b
  | .dcp e f tg it cs own, k, .DictComp x y [⟨tx, ix, ifs, a⟩] scope _ => decide (a = 0) && blkC k.N k.sc scope (ownP k own) && ckI T it k ix && notSet ix && ckT (k.blk scope) tg tx && ownOk tg own && (!it.pair || tg.isTp) &&
      ckE T e (k.blk scope) x && ckE T f (k.blk scope) y && ckC T cs (k.blk scope) ifs
  | _, _, _ => false
def ckL (T : Tx) : MXs → Sk → List Expr → Bool
  | .nil, _, [] => true
  | .cons e r, k, x :: xs => notStar x && ckE T e k x && ckL T r k xs
  | _, _, _ => false
def ckC (T : Tx) : MXs → Sk → List Expr → Bool
  | .nil, _, [] => true
  | .cons e .nil, k, [x] => ckE T e k x
  | _, _, _ => false
def ckI (T : Tx) : MI → Sk → Expr → Bool
  | .ex e, k, x => ckE T e k x
  | .rng es, k, .Call (.Name x _) xs [] _ => decide (x = ("range" : Str)) && k.gl x && ckL T es k xs && (decide (xs.length = 1) || decide (xs.length = 2))
  | .enum e, k, .Call (.Name x _) [y] [] _ => decide (x = ("enumerate" : Str)) && k.gl x && notStar y && ckE T e k y
  | .zip a b, k, .Call (.Name x _) [y, z] [] _ => decide (x = ("zip" : Str)) && k.gl x && notStar y && notStar z && ckE T a k y && ckE T b k z
  | .rev e, k, .Call (.Name x _) [y] [] _ => decide (x = ("reversed" : Str)) && k.gl x && notStar y && ckE T e k y
  | .items e, k, .Call (.Attribute x nm apos) [] [] pos => decide (nm = ("items" : Str)) && notSuper x && (apos.endLine == pos.line) && ckE T e k x
  | .vals e, k, .Call (.Attribute x nm apos) [] [] pos => decide (nm = ("values" : Str)) && notSuper x && (apos.endLine == pos.line) && ckE T e k x
  | _, _, _ => false
end
/-- the built-in names that are used -/
def bltNames : List String := ["len", "tuple", "list", "sorted", "set", "all", "any", "sum", "max", "min", "abs", "int", "dict", "str", "bool", "isinstance", "range", "enumerate", "zip", "reversed"]
/-- a def as this context calls it -/
structure FnAt (g : G) (C : Nat → List MV → Sto → Res EV) (X : Cx) (extra f : Nat) : Prop where
  kp : PySem.W.keepIn X.K (.ref (g.fnA f)) = true
  ex : ∃ k fd ps, FnOk X.prog X.w X.K X.mg X.base (L2.CX X.prog X.w) k (g.fnA f) fd ps (spM g C f) ∧ Room (k + extra) X.A ∧ Binds X.K fd ps []
structure Fit (g : G) (P : Prg) (C : Nat → List MV → Sto → Res EV) (T : Tx) (X : Cx) (sk : Sk) : Prop where
  sc : X.env.scope = sk.sc
  N : X.N = sk.N
  fn : X.fn = sk.fn
  nd : X.N.Nodup
  K : X.K = g.K
  w : X.w = g.w
  calm : X.calm = true
  hd : X.A.handled = none
  hu : X.A.units + 200 < cLine
  blt : ∀ x ∈ bltNames, X.mg (x : Str) = none
  fns : ∀ (f : Nat) (x : Str), T.fn[f]? = some x → X.mg x = some (.ref (g.fnA f)) ∧ FnAt g C X 0 f
  fnv : ∀ f, f < P.fs.length → FnAt g C X 0 f
  gls : ∀ (j : Nat) (m : MV), P.glob[j]? = some (some m) → ∃ x v u, T.gl[j]? = some x ∧ X.mg x = some u ∧ RelV v u ∧ ∀ ρ H, VR g ρ H v m
  cls : ∀ (c f : Nat) (x : Str), T.cl[c]? = some x → P.init c = some f → X.mg x = some (.ref (g.clA c)) ∧ Mk X.K (g.clA c) (g.fnA f) ∧ FnAt g C X 1 f
  mth : ∀ (c m f : Nat) (nm : Str), P.meth c m = some f → T.me[m]? = some nm → MethF X (L2.CX X.prog X.w) nm (g.clA c) (spM g C f) ∧ ∀ i, T.fd i ≠ nm
  fds : ∀ c, P.init c ≠ none → Cls X.K (g.clA c) ∧ ∀ i, i < T.nf → NoAttr X.K (g.clA c) (T.fd i)
  fdx : T.fd = g.fld
  fdj : ∀ i j, T.fd i = T.fd j → i = j
theorem Fit.blk {g : G} {P : Prg} {C : Nat → List MV → Sto → Res EV} {T : Tx} {X : Cx} {sk : Sk} (F : Fit g P C T X sk) (scope : Scope) (s : Shared) (H : Hp) (D : Addr) (cl : List (Str × Addr)) (fp : List Addr) :
    Fit g P C T (X.blk s H scope (compEnvC scope cl D X.env) fp) (sk.blk scope) where
  sc := by
    show relabel scope X.env = relS scope sk.sc
    rw [← F.sc]; rfl
  N := F.N
  fn := rfl
  nd := F.nd
  K := F.K
  w := F.w
  calm := F.calm
  hd := F.hd
  hu := F.hu
  blt := F.blt
  fns := fun f x h => ⟨(F.fns f x h).1, (F.fns f x h).2.1, (F.fns f x h).2.2⟩
  fnv := fun f h => ⟨(F.fnv f h).1, (F.fnv f h).2⟩
  gls := F.gls
  cls := fun c f x h h' => ⟨(F.cls c f x h h').1, (F.cls c f x h h').2.1, (F.cls c f x h h').2.2.1, (F.cls c f x h h').2.2.2⟩
  mth := fun c m f nm h h' => ⟨⟨(F.mth c m f nm h h').1.1, (F.mth c m f nm h h').1.2⟩, (F.mth c m f nm h h').2⟩
  fds := F.fds
  fdx := F.fdx
  fdj := F.fdj
end Mn
end
section
set_option autoImplicit false
set_option maxRecDepth 20000
/-! Mn15: Mini's evaluation read by the hand layer's terms. -/
namespace Mn
open PySem L2
section
variable {g : G} {P : Prg} {C : Nat → List MV → Sto → Res EV} {W : WX} {σ : St} {H : Hp} {Q : VK} {a b c : MX} {es : MXs}
theorem r_var {i : Nat} (h : tE g W (evE P C (.var i)) σ H Q) : tVar i σ H Q := by
  obtain ⟨ρ, st, env, S, N, L⟩ := h
  simp only [evE] at L
  split at L
  · rename_i m e
    obtain ⟨v, h1, h2⟩ := N.2 i m e
    exact ⟨v, h1, L ρ H Ext.refl S v h2⟩
  · exact False.elim L
theorem r_lit {v : PV} {x : V} (hx : ∀ H, PR g.K H x v) (h : tE g W (evE P C (.lit v)) σ H Q) : tC x σ H Q := by
  obtain ⟨ρ, st, env, S, N, L⟩ := h
  simp only [evE] at L
  exact L ρ H Ext.refl S x (.p (hx H))
theorem r_glb {j : Nat} {m : MV} {v : V} (hj : P.glob[j]? = some (some m)) (hv : ∀ ρ H, VR g ρ H v m) (h : tE g W (evE P C (.glb j)) σ H Q) : tC v σ H Q := by
  obtain ⟨ρ, st, env, S, N, L⟩ := h
  simp only [evE, hj] at L
  exact L ρ H Ext.refl S v (hv ρ H)
theorem r_glbN {j : Nat} (hj : ∀ m, P.glob[j]? ≠ some (some m)) (h : tE g W (evE P C (.glb j)) σ H Q) : False := by
  obtain ⟨ρ, st, env, S, N, L⟩ := h
  cases e : P.glob[j]? with
  | none => simp only [evE, e] at L; exact L
  | some o =>
    cases o with
    | none => simp only [evE, e] at L; exact L
    | some m => exact hj m e
theorem Ext.iff {ρ ρ' : List Addr} {H0 H1 : Hp} (e : Ext ρ H0 ρ' H1) : ∀ a, H1 a = none → H0 a = none := e.dom
theorem r_bin {op : BOp} (h : tE g W (evE P C (.bin op a b)) σ H Q) : tOp (rB g.K op) (tE g W (evE P C a)) (tE g W (evE P C b)) σ H Q := by
  obtain ⟨ρ, st, env, S, N, L⟩ := h
  simp only [evE] at L
  refine step_run S N L fun x st1 ρ1 H1 v _ E1 S1 N1 hv L1 => ?_
  refine step_run S1 N1 (L1.from E1) fun y st2 ρ2 H2 u _ E2 S2 N2 hu L2 => ?_
  exact binop_read S2 (fun a ha => E1.dom a (E2.dom a ha)) (hv.mono E2) (hu.back E1.dom) (L2.from E2)
theorem r_cmp {op : COp} (h : tE g W (evE P C (.cmp op a b)) σ H Q) : tOp (rC g.K op) (tE g W (evE P C a)) (tE g W (evE P C b)) σ H Q := by
  obtain ⟨ρ, st, env, S, N, L⟩ := h
  simp only [evE] at L
  refine step_run S N L fun x st1 ρ1 H1 v _ E1 S1 N1 hv L1 => ?_
  refine step_run S1 N1 (L1.from E1) fun y st2 ρ2 H2 u _ E2 S2 N2 hu L2 => ?_
  split at L2
  · rename_i k e
    exact cmpop_read S2 (hv.mono E2) (hu.back E1.dom) e (L2 ρ2 H2 E2 S2 (.bl k) (ER.bl k))
  · exact False.elim L2
theorem r_chn {o1 o2 : COp} (h : tE g W (evE P C (.chn o1 o2 a b c)) σ H Q) : tChain (rC g.K o1) (rC g.K o2) (tE g W (evE P C a)) (tE g W (evE P C b)) (tE g W (evE P C c)) σ H Q := by
  obtain ⟨ρ, st, env, S, N, L⟩ := h
  simp only [evE] at L
  refine step_run S N L fun x st1 ρ1 H1 v _ E1 S1 N1 hv L1 => ?_
  refine step_run S1 N1 (L1.from E1) fun y st2 ρ2 H2 u _ E2 S2 N2 hu L2 => ?_
  split at L2
  · rename_i e
    refine cmpop_read S2 (hv.mono E2) (hu.back E1.dom) e ⟨true, rfl, ?_⟩
    rw [if_pos rfl]
    refine step_run S2 N2 (L2.from E2) fun z st3 ρ3 H3 w _ E3 S3 N3 hw L3 => ?_
    split at L3
    · rename_i k e3
      exact cmpop_read S3 (hu.mono E3) (hw.back E2.dom) e3 (L3 ρ3 H3 E3 S3 (.bl k) (ER.bl k))
    · exact False.elim L3
  · rename_i e
    refine cmpop_read S2 (hv.mono E2) (hu.back E1.dom) e ⟨false, rfl, ?_⟩
    rw [if_neg (by simp)]
    exact L2 ρ2 H2 E2 S2 (.bl false) (ER.bl false)
  · exact False.elim L2
/-- the end of an expression is a last part's end -/
theorem last_run {ρ ρ1 : List Addr} {st1 : Sto} {env : Env} {H H1 : Hp} {ea : Env → Sto → Res EV} (E1 : Ext ρ H ρ1 H1) (S1 : SR g ρ1 st1 H1) (N1 : NR g ρ1 H1 σ env)
    (L : Lands g ρ H (ea env st1) (fun r _ ρ' H' => ∀ v, ER g H ρ' H' v r → Q v H') (fun c x _ ρ' H' => XW g W σ c x ρ' H')) : tE g W ea σ H1 Q := by
  refine ⟨ρ1, st1, env, S1, N1, ?_⟩
  have := L.from E1
  cases e2 : ea env st1 with
  | ok r s => rw [e2] at this; exact fun ρ' H' E' S' v hv => this ρ' H' E' S' v (hv.back E1.dom)
  | exc c x s => rw [e2] at this; exact this
  | stk => rw [e2] at this; exact this
theorem r_and (h : tE g W (evE P C (.and a b)) σ H Q) : tAndT g.K (tE g W (evE P C a)) (tE g W (evE P C b)) σ H Q := by
  obtain ⟨ρ, st, env, S, N, L⟩ := h
  simp only [evE] at L
  refine step_run S N L fun x st1 ρ1 H1 v _ E1 S1 N1 hv L1 => ?_
  split at L1
  · rename_i e
    refine ⟨true, truth_read S1 hv e, ?_⟩
    rw [if_pos rfl]
    exact last_run E1 S1 N1 L1
  · rename_i e
    refine ⟨false, truth_read S1 hv e, ?_⟩
    rw [if_neg (by simp)]
    exact L1 ρ1 H1 E1 S1 v hv
  · exact False.elim L1
theorem r_or (h : tE g W (evE P C (.or a b)) σ H Q) : tOrT g.K (tE g W (evE P C a)) (tE g W (evE P C b)) σ H Q := by
  obtain ⟨ρ, st, env, S, N, L⟩ := h
  simp only [evE] at L
  refine step_run S N L fun x st1 ρ1 H1 v _ E1 S1 N1 hv L1 => ?_
  split at L1
  · rename_i e
    refine ⟨true, truth_read S1 hv e, ?_⟩
    rw [if_pos rfl]
    exact L1 ρ1 H1 E1 S1 v hv
  · rename_i e
    refine ⟨false, truth_read S1 hv e, ?_⟩
    rw [if_neg (by simp)]
    exact last_run E1 S1 N1 L1
  · exact False.elim L1
theorem r_not (h : tE g W (evE P C (.not a)) σ H Q) : tNotT g.K (tE g W (evE P C a)) σ H Q := by
  obtain ⟨ρ, st, env, S, N, L⟩ := h
  simp only [evE] at L
  refine step_run S N L fun x st1 ρ1 H1 v _ E1 S1 N1 hv L1 => ?_
  split at L1
  · rename_i k e
    exact ⟨k, truth_read S1 hv e, L1 ρ1 H1 E1 S1 _ (ER.bl _)⟩
  · exact False.elim L1
theorem r_neg (h : tE g W (evE P C (.neg a)) σ H Q) : tUn (rU fun i => .int (-i)) (tE g W (evE P C a)) σ H Q := by
  obtain ⟨ρ, st, env, S, N, L⟩ := h
  simp only [evE] at L
  refine step_run S N L fun x st1 ρ1 H1 v _ E1 S1 N1 hv L1 => ?_
  split at L1
  · exact ⟨_, hv.int_inv, L1 ρ1 H1 E1 S1 _ (ER.int _)⟩
  · exact False.elim L1
theorem r_ite (h : tE g W (evE P C (.ite c a b)) σ H Q) : tIf (tT g W fun e s => tst (evE P C c e s)) (tE g W (evE P C a)) (tE g W (evE P C b)) σ H Q := by
  obtain ⟨ρ, st, env, S, N, L⟩ := h
  simp only [evE] at L
  refine ⟨ρ, st, env, S, N, ?_⟩
  show Lands g ρ H (tst (evE P C c env st)) _ _
  cases e : tst (evE P C c env st) with
  | exc c x s => simp only [e, Res.bind] at L; exact L
  | stk => simp only [e, Res.bind] at L; exact L
  | ok k s1 =>
    simp only [e, Res.bind] at L
    intro ρ1 H1 E1 S1
    dsimp only
    cases k with
    | true => rw [if_pos rfl] at L ⊢; exact last_run E1 S1 (N.mono E1) L
    | false => rw [if_neg (by simp)] at L ⊢; exact last_run E1 S1 (N.mono E1) L
theorem r_ix (h : tE g W (evE P C (.ix a b)) σ H Q) : tOp (rIx g.K) (tE g W (evE P C a)) (tE g W (evE P C b)) σ H Q := by
  obtain ⟨ρ, st, env, S, N, L⟩ := h
  simp only [evE] at L
  refine step_run S N L fun x st1 ρ1 H1 v _ E1 S1 N1 hv L1 => ?_
  refine step_run S1 N1 (L1.from E1) fun y st2 ρ2 H2 u _ E2 S2 N2 hu L2 => ?_
  cases e : index x y st2 with
  | none => rw [e] at L2; exact False.elim L2
  | some z =>
    rw [e] at L2
    exact index_read S2 (hv.mono E2) (hu.back E1.dom) e fun w hw => L2 ρ2 H2 E2 S2 w hw
theorem slice_end {ρ1 : List Addr} {st1 : Sto} {H H1 : Hp} {x : EV} {v : V} {lo hi : Option Int} {E : Nat → Option Int → Sto → List Addr → Hp → Prop} (d : ∀ a, H1 a = none → H a = none) (S1 : SR g ρ1 st1 H1) (hv : ER g H ρ1 H1 v x)
    (L : Lands g ρ1 H1 (optR (slice x lo hi st1) st1) (fun r _ ρ' H' => ∀ v, ER g H ρ' H' v r → Q v H') E) : rSl g.K v lo hi H1 Q := by
  cases e : slice x lo hi st1 with
  | none => rw [e] at L; exact False.elim L
  | some z =>
    rw [e] at L
    exact slice_read S1 d hv e L
theorem r_slf (h : tE g W (evE P C (.slf a b)) σ H Q) : tSl (rSl g.K) (tE g W (evE P C a)) (tPart (tE g W (evE P C b))) tNoPart σ H Q := by
  obtain ⟨ρ, st, env, S, N, L⟩ := h
  simp only [evE] at L
  refine step_run S N L fun x st1 ρ1 H1 v _ E1 S1 N1 hv L1 => ?_
  refine step_run S1 N1 (L1.from E1) fun y st2 ρ2 H2 u _ E2 S2 N2 hu L2 => ?_
  split at L2
  · exact ⟨_, hu.int_inv, slice_end (fun a ha => E1.dom a (E2.dom a ha)) S2 (hv.mono E2) (L2.from E2)⟩
  · exact False.elim L2
theorem r_slt (h : tE g W (evE P C (.slt a b)) σ H Q) : tSl (rSl g.K) (tE g W (evE P C a)) tNoPart (tPart (tE g W (evE P C b))) σ H Q := by
  obtain ⟨ρ, st, env, S, N, L⟩ := h
  simp only [evE] at L
  refine step_run S N L fun x st1 ρ1 H1 v _ E1 S1 N1 hv L1 => ?_
  refine step_run S1 N1 (L1.from E1) fun y st2 ρ2 H2 u _ E2 S2 N2 hu L2 => ?_
  split at L2
  · exact ⟨_, hu.int_inv, slice_end (fun a ha => E1.dom a (E2.dom a ha)) S2 (hv.mono E2) (L2.from E2)⟩
  · exact False.elim L2
theorem r_slb (h : tE g W (evE P C (.slb a b c)) σ H Q) : tSl (rSl g.K) (tE g W (evE P C a)) (tPart (tE g W (evE P C b))) (tPart (tE g W (evE P C c))) σ H Q := by
  obtain ⟨ρ, st, env, S, N, L⟩ := h
  simp only [evE] at L
  refine step_run S N L fun x st1 ρ1 H1 v _ E1 S1 N1 hv L1 => ?_
  refine step_run S1 N1 (L1.from E1) fun y st2 ρ2 H2 u _ E2 S2 N2 hu L2 => ?_
  split at L2
  · refine ⟨_, hu.int_inv, step_run S2 N2 (L2.from E2) fun z st3 ρ3 H3 w _ E3 S3 N3 hw L3 => ?_⟩
    split at L3
    · exact ⟨_, hw.int_inv, slice_end (fun a ha => E1.dom a (E2.dom a (E3.dom a ha))) S3 ((hv.mono E2).mono E3) (L3.from E3)⟩
    · exact False.elim L3
  · exact False.elim L2
theorem r_tup (h : tE g W (evE P C (.tup es)) σ H Q) : tTupN (tL g W (evL P C es)) σ H Q := by
  obtain ⟨ρ, st, env, S, N, L⟩ := h
  simp only [evE] at L
  refine stepL_run S N L fun l st1 ρ1 H1 vs _ E1 S1 N1 hl L1 => ?_
  obtain ⟨k, E2, S2, V2⟩ := holdAll_ok E1 S1 hl
  generalize holdAll l st1 = ms at L1 S2 V2
  obtain ⟨ms, s2⟩ := ms
  dsimp only at L1 S2 V2
  by_cases c : ms.length ≤ lim
  · rw [if_pos c] at L1
    exact ⟨by rw [V2.1, ← lim_eq]; exact c, (L1.from E2).tup S2 V2⟩
  · rw [if_neg c] at L1; exact False.elim L1
theorem r_lst (h : tE g W (evE P C (.lst es)) σ H Q) : tLst (tL g W (evL P C es)) σ H Q := by
  obtain ⟨ρ, st, env, S, N, L⟩ := h
  simp only [evE] at L
  refine stepL_run S N L fun l st1 ρ1 H1 vs _ E1 S1 N1 hl L1 => ?_
  obtain ⟨k, E2, S2, V2⟩ := holdAll_ok E1 S1 hl
  generalize holdAll l st1 = ms at L1 S2 V2
  obtain ⟨ms, s2⟩ := ms
  dsimp only at L1 S2 V2
  by_cases c : ms.length ≤ lim
  · rw [if_pos c] at L1
    exact ⟨by rw [V2.1, ← lim_eq]; exact c, fun p hp => (L1.from E2).lst S2 E2.dom V2 hp⟩
  · rw [if_neg c] at L1; exact False.elim L1
theorem r_call {f : Nat} (h : tE g W (evE P C (.call f es)) σ H Q) : tCallS (spM g C f) (WE W) (tL g W (evL P C es)) σ H Q := by
  refine call_read ?_
  obtain ⟨ρ, st, env, S, N, L⟩ := h
  simp only [evE] at L
  exact ⟨ρ, st, env, S, N, L⟩
theorem r_cv {X : Cx} {i : Nat} (hF : ∀ f, f < P.fs.length → FnF X (L2.CX X.prog X.w) (g.fnA f) (spM g C f)) (h : tE g W (evE P C (.cv i es)) σ H Q) : tLocS X (L2.CX X.prog X.w) i (WE W) (tL g W (evL P C es)) σ H Q := by
  obtain ⟨ρ, st, env, S, N, L⟩ := h
  simp only [evE] at L
  split at L
  · rename_i f e
    by_cases c : f < P.fs.length
    · rw [if_pos c] at L
      obtain ⟨v, h1, h2⟩ := N.2 i _ e
      cases h2
      exact ⟨g.fnA f, spM g C f, h1, hF f c, call_read ⟨ρ, st, env, S, N, L⟩⟩
    · rw [if_neg c] at L; exact False.elim L
  · exact False.elim L
theorem r_bi {b : BI} (h : tE g W (evE P C (.bi b es)) σ H Q) : tCB (rBI g.K g.w b) (tL g W (evL P C es)) σ H Q := by
  obtain ⟨ρ, st, env, S, N, L⟩ := h
  simp only [evE] at L
  refine stepL_run S N L fun l st1 ρ1 H1 vs _ E1 S1 N1 hl L1 => ?_
  exact bi_read S1 E1.dom hl (L1.from E1)
/-- isinstance, a built-in type -/
def rIsi (K : PySem.W.Frag) (T : String) (f : PV → Bool) : List V → Hp → VK → Prop := fun xs H Q => ∃ x d, xs = [x, .ty T] ∧ Dp K H x (PV.d d) ∧ Q (.bl (f d)) H
theorem r_isi {t : TyN} (h : tE g W (evE P C (.isi a t)) σ H Q) : tCB (rIsi g.K (tyN_ t) (tyP t)) (tCons (tE g W (evE P C a)) (tCons (tC (.ty (tyN_ t))) tNil)) σ H Q := by
  obtain ⟨ρ, st, env, S, N, L⟩ := h
  simp only [evE] at L
  refine step_run S N L fun x st1 ρ1 H1 v _ E1 S1 N1 hv L1 => ?_
  unfold typeIs at L1
  cases e : view x st1 with
  | none => rw [e] at L1; exact False.elim L1
  | some p =>
    rw [e] at L1
    exact ⟨v, p, rfl, view_ok S1 hv e, L1 ρ1 H1 E1 S1 _ (ER.bl _)⟩
theorem lookF_look {ρ : List Addr} (inj : ∀ i j, g.fld i = g.fld j → i = j) {x : Nat} {m : MV} : ∀ {gs : List (Str × V)} {fs : List (Nat × MV)}, gs.map (·.1) = fs.map (fun q => g.fld q.1) → VRs g ρ H (gs.map (·.2)) (fs.map (·.2)) → lookF x fs = some m → ∃ v, gs.lookup (g.fld x) = some v ∧ VR g ρ H v m
  | [], [], _, _, h => by cases h
  | [], _ :: _, h, _, _ => by cases h
  | _ :: _, [], h, _, _ => by cases h
  | (n, v) :: gs, (y, u) :: fs, h, r, e => by
    simp only [List.map_cons, List.cons.injEq] at h
    obtain ⟨h1, h2⟩ := h
    obtain ⟨r1, r2⟩ := VRs.inv r
    unfold lookF at e
    by_cases c : x = y
    · subst c
      rw [if_pos rfl] at e; cases e
      refine ⟨v, ?_, r1⟩
      subst h1
      simp
    · rw [if_neg c] at e
      obtain ⟨w, q1, q2⟩ := lookF_look inj h2 r2 e
      refine ⟨w, ?_, q2⟩
      subst h1
      have : (g.fld x == g.fld y) = false := beq_eq_false_iff_ne.mpr fun z => c (inj _ _ z)
      simp only [List.lookup, this]
      exact q1
theorem r_fld {x : Nat} (inj : ∀ i j, g.fld i = g.fld j → i = j) (hc : ∀ c, P.init c ≠ none → Cls g.K (g.clA c) ∧ NoAttr g.K (g.clA c) (g.fld x)) (h : tE g W (evE P C (.fld a x)) σ H Q) : tFld g.K (tE g W (evE P C a)) (g.fld x) σ H Q := by
  obtain ⟨ρ, st, env, S, N, L⟩ := h
  simp only [evE] at L
  refine step_run S N L fun v st1 ρ1 H1 u _ E1 S1 N1 hv L1 => ?_
  split at L1
  · rename_i n
    split at L1
    · rename_i c fs e1
      split at L1
      · rename_i f ef
        split at L1
        · rename_i m e2
          cases hv with
          | r hv =>
            rename_i p
            obtain ⟨p', h1, dx, gs, h2, h3, h4⟩ := S1.ob e1
            rw [hv] at h1; cases h1
            obtain ⟨w, q1, q2⟩ := lookF_look inj h3 h4 e2
            have hcc := hc c (by rw [ef]; simp)
            exact ⟨p, g.clA c, dx, gs, w, rfl, h2, hcc.1, hcc.2, q1, L1 ρ1 H1 E1 S1 w q2⟩
        · exact False.elim L1
      · exact False.elim L1
    · exact False.elim L1
  · exact False.elim L1
theorem r_mk {c f : Nat} (hf : P.init c = some f) (h : tE g W (evE P C (.mk c es)) σ H Q) : tMake (g.clA c) (spM g C f) [] E0 (tL g W (evL P C es)) σ H Q := by
  obtain ⟨ρ, st, env, S, N, L⟩ := h
  simp only [evE, hf] at L
  refine stepL_run S N L fun l st1 ρ1 H1 vs _ E1 S1 N1 hl L1 => ?_
  obtain ⟨k, E2, S2, V2⟩ := holdAll_ok E1 S1 hl
  generalize holdAll l st1 = ms at L1 S2 V2
  obtain ⟨ms, s2⟩ := ms
  dsimp only at L1 S2 V2
  intro x dx hx hdx hne
  rw [List.append_nil]
  have hx' : upd H1 dx (.own x) x = none := by rw [upd_ne (Ne.symm hne)]; exact hx
  have M : Ext (ρ1 ++ k) H1 (ρ1 ++ k) (upd (upd H1 dx (.own x)) x (.ins (g.clA c) dx [])) := (Ext.made hdx).trans (Ext.made hx')
  have M2 := M.more hx
  refine ⟨ρ1 ++ k ++ [x], s2 ++ [.ins c []], .r s2.length :: ms, ((S2.made hdx).made hx').push (o := .ins c []) (S2.out hx) ⟨dx, [], upd_same, rfl, VRs.nil⟩ fun h => h.more, VRs.cons (.r ?_) (V2.mono M2), ?_⟩
  · rw [← S2.len, List.getElem?_append_right (Nat.le_refl _)]; simp
  · split at L1
    · rename_i s3 e
      rw [e]
      intro ρ3 H3 E3 S3 v hv
      refine ⟨hv.non_inv, L1 ρ3 H3 ((E2.trans M2).trans E3) S3 (.ref x) (.r (E3.get ?_))⟩
      rw [← S2.len, List.getElem?_append_right (Nat.le_refl _)]; simp
    · exact False.elim L1
theorem look_none {ρ : List Addr} {nm : Str} (hn : ∀ i, g.fld i ≠ nm) : ∀ {gs : List (Str × V)} {fs : List (Nat × MV)}, gs.map (·.1) = fs.map (fun q => g.fld q.1) → gs.lookup nm = none
  | [], _, _ => rfl
  | _ :: _, [], h => by cases h
  | (n, v) :: gs, (y, u) :: fs, h => by
    simp only [List.map_cons, List.cons.injEq] at h
    obtain ⟨h1, h2⟩ := h
    subst h1
    have : (nm == g.fld y) = false := beq_eq_false_iff_ne.mpr fun z => hn y z.symm
    simp only [List.lookup, this]
    exact look_none (ρ := ρ) hn h2
theorem r_um {X : Cx} {m : Nat} {nm : Str} (hm : ∀ c f, P.meth c m = some f → MethF X (L2.CX X.prog X.w) nm (g.clA c) (spM g C f) ∧ ∀ i, g.fld i ≠ nm) (h : tE g W (evE P C (.um m a es)) σ H Q) :
    tMethS X (L2.CX X.prog X.w) nm (WE W) (tE g W (evE P C a)) (tL g W (evL P C es)) σ H Q := by
  obtain ⟨ρ, st, env, S, N, L⟩ := h
  simp only [evE] at L
  refine step_run S N L fun x st1 ρ1 H1 u _ E1 S1 N1 hv L1 => ?_
  split at L1
  · rename_i n _
    split at L1
    · rename_i c fs e1
      split at L1
      · rename_i f ef
        cases hv with
        | r hv =>
          rename_i p
          obtain ⟨p', h1, dx, gs, h2, h3, h4⟩ := S1.ob e1
          rw [hv] at h1; cases h1
          obtain ⟨q1, q2⟩ := hm c f ef
          refine ⟨p, g.clA c, dx, gs, spM g C f, rfl, h2, q1, look_none (ρ := ρ1) q2 h3, stepL_run S1 N1 (L1.from E1) fun l st2 ρ2 H2 vs _ E2 S2 N2 hl L2 => ?_⟩
          obtain ⟨k, E3, S3, V3⟩ := holdAll_ok E2 S2 hl
          generalize holdAll l st2 = ms at L2 S3 V3
          obtain ⟨ms, s3⟩ := ms
          dsimp only at L2 S3 V3
          refine ⟨ρ2 ++ k, s3, .r n :: ms, S3, VRs.cons (.r (E3.get hv)) V3, ?_⟩
          have := L2.from E3
          cases e : C f (.r n :: ms) s3 with
          | ok r s => rw [e] at this; exact fun ρ' H' E' S' v hv => this ρ' H' E' S' v (hv.back fun b hb => E1.dom b (E2.dom b hb))
          | exc c x s => rw [e] at this; exact fun ρ' H' E' S' => Eq.mp (XW_XK (ρ := ρ')) (this ρ' H' E' S')
          | stk => rw [e] at this; exact this
      · exact False.elim L1
    · exact False.elim L1
  · exact False.elim L1
end
end Mn
end
section
set_option autoImplicit false
set_option maxRecDepth 20000
/-! Mn16: methods of built-in types; sources. -/
namespace Mn
open PySem L2
theorem app_get {α : Type} {l k : List α} {n : Nat} {x : α} (h : l[n]? = some x) : (l ++ k)[n]? = some x := by
  rw [List.getElem?_append_left (List.getElem?_eq_some_iff.mp h).1]; exact h
section
variable {g : G} {P : Prg} {C : Nat → List MV → Sto → Res EV} {W : WX} {σ : St} {H : Hp} {Q : VK} {a : MX} {es : MXs}
/-- a list of the store is written -/
theorem wrote {ρ : List Addr} {st : Sto} {n : Nat} {p : Addr} {xs ys : List V} {l : List MV} (S : SR g ρ st H) (hp : ρ[n]? = some p) (hH : H p = some (.lst xs)) (r : VRs g ρ H ys l) :
    Ext ρ H ρ (upd H p (.lst ys)) ∧ SR g ρ (st.set n (.lst l)) (upd H p (.lst ys)) := by
  have hm : p ∈ ρ := List.mem_of_getElem? hp
  have e : Ext ρ H ρ (upd H p (.lst ys)) := by
    refine ⟨⟨[], by simp⟩, fun b h1 h2 => absurd h1 h2, fun b u h hb => ?_, fun b u h => ?_, fun b u v h => ?_, fun b h => ?_⟩
    · rw [upd_ne (fun c => by subst c; exact hb hm)]; exact h
    · rw [upd_ne (fun c => by subst c; rw [hH] at h; cases h)]; exact h
    · rw [upd_ne (fun c => by subst c; rw [hH] at h; cases h)]; exact h
    · by_cases c : b = p
      · subst c; rw [upd_same] at h; cases h
      · rw [upd_ne c] at h; exact h
  refine ⟨e, S.nd, by rw [List.length_set, S.len], fun i b o h1 h2 => ?_⟩
  rw [List.getElem?_set] at h2
  by_cases c : n = i
  · subst c
    rw [hp] at h1; cases h1
    rw [if_pos rfl] at h2
    split at h2
    · cases h2; exact ⟨ys, upd_same, r.mono e⟩
    · cases h2
  · rw [if_neg c] at h2
    refine (S.at_ i b o h1 h2).mono e fun u hu => ?_
    have hb : b ≠ p := fun q => by
      subst q
      exact c ((List.getElem?_inj (List.getElem?_eq_some_iff.mp hp).1 S.nd).mp (hp.trans h1.symm))
    rw [upd_ne hb]; exact hu
def meT : ME → String
  | .index => "tuple"
  | _ => "list"
def meTyV (K : PySem.W.Frag) : ME → V → Hp → Prop
  | .index => fun x H => ∃ p ys, x = .ref p ∧ SqN K H p ys
  | _ => fun x H => tyV K "list" x H
def rME (K : PySem.W.Frag) : ME → V → List V → Hp → VK → Prop
  | .append => rAppend
  | .extend => rExtend
  | .pop => rPop
  | .index => rTix K
  | _ => fun _ _ _ _ => False
theorem meTy_ok {m : ME} {x : EV} {v : V} {ρ : List Addr} {st : Sto} {H0 : Hp} (S : SR g ρ st H) (hv : ER g H0 ρ H v x) (h : meTy m x st = true) : meTyV g.K m v H := by
  have lst : (match objOf x st with | some (.lst _) => true | _ => false) = true → tyV g.K "list" v H := by
    intro h
    split at h
    · rename_i l e
      obtain ⟨p, xs, rfl, h1, _⟩ := lst_inv S hv e
      exact .inl ⟨rfl, xs, SqL.of h1⟩
    · cases h
  cases m with
  | index =>
    unfold meTy at h
    dsimp only at h
    split at h
    · rename_i l e
      obtain ⟨p, xs, h1, h2, _⟩ := tupOf_inv hv e
      exact ⟨p, xs, h1, h2⟩
    · cases h
  | append => exact lst h
  | extend => exact lst h
  | pop => exact lst h
  | insert => exact lst h
  | get => exact lst h
  | setdefault => exact lst h
  | add => exact lst h
theorem idxS_ok {z : List Nat} : ∀ {zs : List (List Nat)} {k j : Nat}, idxS z zs k = some j → ∃ i, j = k + i ∧ zs[i]? = some z ∧ ∀ m, m < i → zs[m]? ≠ some z
  | [], k, j, h => by cases h
  | y :: r, k, j, h => by
    unfold idxS at h
    by_cases c : y = z
    · rw [if_pos c] at h; cases h
      exact ⟨0, rfl, by rw [c]; rfl, fun m hm => absurd hm (Nat.not_lt_zero m)⟩
    · rw [if_neg c] at h
      obtain ⟨i, h1, h2, h3⟩ := idxS_ok h
      refine ⟨i + 1, by omega, h2, fun m hm => ?_⟩
      cases m with
      | zero => intro q; exact c (Option.some.inj q)
      | succ m => exact h3 m (by omega)
/-- the store as it stands when the method runs -/
theorem mef_read {m : ME} {x : EV} {l : List EV} {v : V} {vs : List V} {ρ0 ρ : List Addr} {st : Sto} {H0 Hv Hq : Hp} {E : Nat → Option Int → Sto → List Addr → Hp → Prop} (E0 : Ext ρ0 H0 ρ H) (S : SR g ρ st H) (hv : ER g Hv ρ H v x) (hl : ERs g H0 ρ H vs l)
    (L : Lands g ρ0 H0 (mef m x l st) (fun r _ ρ' H' => ∀ v, ER g Hq ρ' H' v r → Q v H') E) : rME g.K m v vs H Q := by
  unfold mef at L
  split at L
  · rename_i n e
    split at L
    · rename_i k e1
      split at L
      · rename_i hlen
        cases hv with
        | r hv =>
          rename_i p
          obtain ⟨p', h1, xs, h2, h3⟩ := S.ob e1
          rw [hv] at h1; cases h1
          obtain ⟨u, rfl, hu⟩ := hl.one
          obtain ⟨j, E2, S2, V2, _⟩ := hold_ok E0 S hu
          generalize hold e st = mm at L S2 V2
          obtain ⟨mx, s2⟩ := mm
          dsimp only at L S2 V2
          refine ⟨p, xs, u, rfl, rfl, h2, by rw [h3.1, ← lim_eq]; exact hlen, ?_⟩
          obtain ⟨E3, S3⟩ := wrote (ys := xs ++ [u]) (l := k ++ [mx]) S2 (app_get hv) h2 (h3.more.append (VRs.cons V2 VRs.nil))
          exact L _ _ (E2.trans E3) S3 .non (ER.ofP .non)
      · exact False.elim L
    · exact False.elim L
  · rename_i n e
    split at L
    · rename_i k k2 e1
      split at L
      · rename_i hlen
        cases hv with
        | r hv =>
          rename_i p
          obtain ⟨p', h1, xs, h2, h3⟩ := S.ob e1
          rw [hv] at h1; cases h1
          obtain ⟨u, rfl, q, rfl, hn, h0, hd, zs, h4, h5⟩ := hl.one
          refine ⟨p, q, xs, zs, rfl, rfl, h2, h4, by rw [h3.1, h5.1, ← lim_eq]; exact hlen, ?_⟩
          obtain ⟨E3, S3⟩ := wrote (ys := xs ++ zs) (l := k ++ k2) S hv h2 (h3.append h5)
          exact L _ _ (E0.trans E3) S3 .non (ER.ofP .non)
      · exact False.elim L
    · exact False.elim L
  · rename_i n
    cases hl
    split at L
    · rename_i k e1
      split at L
      · rename_i x e2
        cases hv with
        | r hv =>
          rename_i p
          obtain ⟨p', h1, xs, h2, h3⟩ := S.ob e1
          rw [hv] at h1; cases h1
          rw [List.getLast?_eq_getElem?] at e2
          obtain ⟨y, h4, h5⟩ := h3.get e2
          rw [← h3.1] at h4
          refine ⟨p, xs, y, rfl, rfl, h2, h4, ?_⟩
          have hd : VRs g ρ H xs.dropLast k.dropLast := by
            rw [List.dropLast_eq_take, List.dropLast_eq_take, h3.1]; exact h3.take _
          obtain ⟨E3, S3⟩ := wrote (ys := xs.dropLast) (l := k.dropLast) S hv h2 hd
          exact L _ _ (E0.trans E3) S3 y (h5.mono E3)
      · exact False.elim L
    · exact False.elim L
  · rename_i z
    split at L
    · rename_i k e1
      split at L
      · rename_i zs e2
        split at L
        · rename_i j e3
          obtain ⟨p, xs, rfl, h1, r⟩ := tupOf_inv hv e1
          obtain ⟨u, rfl, hu⟩ := hl.one
          obtain ⟨i, h2, h3, h4⟩ := idxS_ok e3
          rw [Nat.zero_add] at h2
          subst h2
          have hx := r.strs e2
          rw [hx] at h1
          refine ⟨p, zs.map toStr, toStr z, j, rfl, by rw [hu.str_inv], h1.t, by rw [List.getElem?_map, h3]; rfl, fun m hm => ?_, L ρ H E0 S _ (ER.int _)⟩
          rw [List.getElem?_map]
          intro q
          cases e5 : zs[m]? with
          | none => rw [e5] at q; cases q
          | some y =>
            rw [e5] at q
            exact h4 m hm (by rw [e5, toStr_inj (Option.some.inj q)])
        · exact False.elim L
      · exact False.elim L
    · exact False.elim L
  · exact False.elim L
theorem r_me {m : ME} (h : tE g W (evE P C (.me m a es)) σ H Q) : tBMG (meTyV g.K m) (rME g.K m) (tE g W (evE P C a)) (tL g W (evL P C es)) σ H Q := by
  obtain ⟨ρ, st, env, S, N, L⟩ := h
  simp only [evE] at L
  refine step_run S N L fun x st1 ρ1 H1 u _ E1 S1 N1 hv L1 => ?_
  by_cases c : meTy m x st1 = true
  · rw [if_pos c] at L1
    refine ⟨meTy_ok S1 hv c, stepL_run S1 N1 (L1.from E1) fun l st2 ρ2 H2 vs _ E2 S2 N2 hl L2 => ?_⟩
    exact mef_read E2 S2 (hv.mono E2) hl L2
  · rw [if_neg c] at L1; exact False.elim L1
end
end Mn
end
section
set_option autoImplicit false
set_option maxRecDepth 20000
/-! Mn16b: dicts: reading, the lock while one is walked, the store of a key. -/
namespace Mn
open PySem L2
section
variable {g : G} {P : Prg} {C : Nat → List MV → Sto → Res EV} {W : WX} {σ : St} {H : Hp} {Q : VK} {a b c : MX} {es : MXs} {ρ : List Addr} {st : Sto}
/-- an object of the store is written -/
theorem wroteO {n : Nat} {p : Addr} {ho : HO} {o : MO} (S : SR g ρ st H) (hp : ρ[n]? = some p) (hT : ∀ xs, H p ≠ some (.tup xs)) (hF : ∀ ob u, H p ≠ some (.frz ob u)) (r : Ext ρ H ρ (upd H p ho) → OR g ρ (upd H p ho) p o) :
    Ext ρ H ρ (upd H p ho) ∧ SR g ρ (st.set n o) (upd H p ho) := by
  have hm : p ∈ ρ := List.mem_of_getElem? hp
  have e : Ext ρ H ρ (upd H p ho) := by
    refine ⟨⟨[], by simp⟩, fun b h1 h2 => absurd h1 h2, fun b u h hb => ?_, fun b u h => ?_, fun b u v h => ?_, fun b h => ?_⟩
    · rw [upd_ne (fun c => by subst c; exact hb hm)]; exact h
    · rw [upd_ne (fun c => by subst c; exact hT _ h)]; exact h
    · rw [upd_ne (fun c => by subst c; exact hF _ _ h)]; exact h
    · by_cases c : b = p
      · subst c; rw [upd_same] at h; cases h
      · rw [upd_ne c] at h; exact h
  refine ⟨e, S.nd, by rw [List.length_set, S.len], fun i b o' h1 h2 => ?_⟩
  rw [List.getElem?_set] at h2
  by_cases c : n = i
  · subst c
    rw [hp] at h1; cases h1
    rw [if_pos rfl] at h2
    split at h2
    · cases h2; exact r e
    · cases h2
  · rw [if_neg c] at h2
    refine (S.at_ i b o' h1 h2).mono e fun u hu => ?_
    have hb : b ≠ p := fun q => by
      subst q
      exact c ((List.getElem?_inj (List.getElem?_eq_some_iff.mp hp).1 S.nd).mp (hp.trans h1.symm))
    rw [upd_ne hb]; exact hu
/-! ### the lock goes -/
section
variable {d : Addr} {od : Obj} {kvs : List (Key × V)} {u : HO}
theorem PR.unl {K : PySem.W.Frag} {H : Hp} (hd : H d = some (.frz od (.dK kvs))) {v : V} {x : PV} (h : PR K H v x) : PR K (upd H d u) v x := by
  induction h with
  | non => exact .non
  | bl b => exact .bl b
  | int i => exact .int i
  | str l => exact .str l
  | tup h len _ ih => exact .tup (h.imp (fun ⟨ob, h, q⟩ => ⟨ob, by rw [upd_ne (fun c => by subst c; rw [hd] at h; cases h)]; exact h, q⟩) id) len ih
theorem VR.unl {H : Hp} (hd : H d = some (.frz od (.dK kvs))) {v : V} {x : MV} (h : VR g ρ H v x) : VR g ρ (upd H d u) v x := by
  induction h with
  | p h => exact .p (h.unl hd)
  | r h => exact .r h
  | t h len _ ih => exact .t (h.imp (fun ⟨ob, h, q⟩ => ⟨ob, by rw [upd_ne (fun c => by subst c; rw [hd] at h; cases h)]; exact h, q⟩) id) len ih
  | f i => exact .f i
  | w h len _ ih => exact .w (h.imp (fun ⟨o, h⟩ => ⟨o, by rw [upd_ne (fun c => by subst c; rw [hd] at h; cases h)]; exact h⟩) id) len ih
theorem VRs.unl {H : Hp} (hd : H d = some (.frz od (.dK kvs))) {v : List V} {x : List MV} (h : VRs g ρ H v x) : VRs g ρ (upd H d u) v x := ⟨h.1, fun i x m h1 h2 => (h.2 i x m h1 h2).unl hd⟩
theorem OR.unl {H : Hp} (hd : H d = some (.frz od (.dK kvs))) {p : Addr} (hp : p ≠ d) {o : MO} (h : OR g ρ H p o) : OR g ρ (upd H d u) p o := by
  cases o with
  | lst l => obtain ⟨xs, h1, h2⟩ := h; exact ⟨xs, by rw [upd_ne hp]; exact h1, h2.unl hd⟩
  | ins c fs => obtain ⟨dx, gs, h1, h2, h3⟩ := h; exact ⟨dx, gs, by rw [upd_ne hp]; exact h1, h2, h3.unl hd⟩
  | dic _ => obtain ⟨kvs, h1, h2, h3, h4⟩ := h; exact ⟨kvs, by rw [upd_ne hp]; exact h1, h2, h3.unl hd, h4⟩
  | lck _ => obtain ⟨ob, kvs, h1, h2, h3, h4⟩ := h; exact ⟨ob, kvs, by rw [upd_ne hp]; exact h1, h2, h3.unl hd, h4⟩
  | set _ => obtain ⟨zs, h1, h2⟩ := h; exact ⟨zs, by rw [upd_ne hp]; exact h1, h2⟩
end
theorem dic_inv {H0 : Hp} {v : V} {x : EV} {l : List (List Nat × MV)} (S : SR g ρ st H) (h : ER g H0 ρ H v x) (e : dicOf x st = some l) : ∃ p kvs, v = .ref p ∧ Rd H p (.dK kvs) ∧ DK g ρ H kvs l := by
  unfold dicOf at e
  split at e
  · rename_i l' e1
    cases e
    obtain ⟨p, rfl, kvs, h1, h2⟩ := obj_inv S h e1
    exact ⟨p, kvs, rfl, .inl h1, h2⟩
  · rename_i l' e1
    cases e
    obtain ⟨p, rfl, ob, kvs, h1, h2⟩ := obj_inv S h e1
    exact ⟨p, kvs, rfl, .inr ⟨ob, h1⟩, h2⟩
  · cases e
theorem dget_ok {z : List Nat} : ∀ {kvs : List (Key × V)} {l : List (List Nat × MV)}, kvs.map (·.1) = l.map (fun q => keyS q.1) → VRs g ρ H (kvs.map (·.2)) (l.map (·.2)) →
    (∀ m, dget z l = some m → ∃ v, valV kvs (keyS z) = some v ∧ VR g ρ H v m) ∧ (dget z l = none → valV kvs (keyS z) = none)
  | [], [], _, _ => ⟨(fun m h => by cases h), fun _ => rfl⟩
  | [], _ :: _, h, _ => by cases h
  | _ :: _, [], h, _ => by cases h
  | (k, w) :: kvs, (y, u) :: l, h, r => by
    simp only [List.map_cons, List.cons.injEq] at h
    obtain ⟨e1, e2⟩ := h
    subst e1
    obtain ⟨r1, r2⟩ := VRs.inv r
    obtain ⟨i1, i2⟩ := dget_ok (z := z) e2 r2
    by_cases c : y = z
    · subst c
      refine ⟨fun m hm => ?_, fun hm => ?_⟩
      · simp only [dget, if_true] at hm
        cases hm
        exact ⟨w, valV_pos rfl, r1⟩
      · simp [dget] at hm
    · have hk : ¬ keyS y = keyS z := fun e => c (keyS_inj e)
      refine ⟨fun m hm => ?_, fun hm => ?_⟩
      · simp only [dget, if_neg c] at hm
        obtain ⟨v, h1, h2⟩ := i1 m hm
        exact ⟨v, by rw [valV_neg hk]; exact h1, h2⟩
      · simp only [dget, if_neg c] at hm
        rw [valV_neg hk]; exact i2 hm
theorem r_lock {i : Nat} (h : tE g W (evE P C (.lock i a)) σ H Q) : tLockE (tE g W (evE P C a)) σ H Q := by
  obtain ⟨ρ, st, env, S, N, L⟩ := h
  simp only [evE] at L
  split at L
  · rename_i n e1
    split at L
    · rename_i l e2
      cases e : evE P C a env (st.set n (.lck l)) with
      | exc c x s => rw [e] at L; exact False.elim L
      | stk => rw [e] at L; exact False.elim L
      | ok r s1 =>
        rw [e] at L
        simp only [noX, Res.bind] at L
        split at L
        · rename_i k e3
          obtain ⟨v0, hv0, hvr⟩ := N.2 i _ e1
          cases hvr with
          | r hp =>
            rename_i d
            obtain ⟨d', h1, kvs, h2, h3⟩ := S.ob e2
            rw [hp] at h1; cases h1
            have hdρ : d ∈ ρ := List.mem_of_getElem? hp
            refine ⟨d, .dK kvs, h2, trivial, fun od => ?_⟩
            obtain ⟨E1, S1⟩ := wroteO (ho := .frz od (.dK kvs)) (o := .lck l) S hp (fun xs q => by rw [h2] at q; cases q) (fun ob u q => by rw [h2] at q; cases q) (fun E1 => ⟨od, kvs, upd_same, h3.mono E1⟩)
            refine ⟨ρ, st.set n (.lck l), env, S1, N.mono E1, ?_⟩
            rw [e]
            intro ρ' H' E' S' v hv
            have hd : H' d = some (.frz od (.dK kvs)) := E'.frz d od _ upd_same
            have hp' := E'.get hp
            obtain ⟨d', q1, ob, kvs', q2, q3⟩ := S'.ob e3
            rw [hp'] at q1; cases q1
            rw [hd] at q2; cases q2
            have hne : ∀ b, H b ≠ none → b = d ∨ upd H d (.frz od (.dK kvs)) b = H b := fun b _ => by
              by_cases c : b = d
              · exact .inl c
              · exact .inr (upd_ne c)
            have EE : Ext ρ H ρ' (upd H' d (.dK kvs)) := by
              refine ⟨E'.pre, fun b n1 n2 => ?_, fun b o h hb => ?_, fun b xs h => ?_, fun b o u h => ?_, fun b h => ?_⟩
              · have := E'.new b n1 n2
                by_cases c : b = d
                · subst c; exact absurd hdρ n2
                · rw [upd_ne c] at this; exact this
              · have c : b ≠ d := fun c => by subst c; exact hb hdρ
                rw [upd_ne c]
                exact E'.keep b o (by rw [upd_ne c]; exact h) hb
              · have c : b ≠ d := fun c => by subst c; rw [h2] at h; cases h
                rw [upd_ne c]
                exact E'.tup b xs (by rw [upd_ne c]; exact h)
              · have c : b ≠ d := fun c => by subst c; rw [h2] at h; cases h
                rw [upd_ne c]
                exact E'.frz b o u (by rw [upd_ne c]; exact h)
              · by_cases c : b = d
                · subst c; rw [upd_same] at h; cases h
                · rw [upd_ne c] at h
                  have := E'.dom b h
                  rw [upd_ne c] at this; exact this
            have SS : SR g ρ' (s1.set n (.dic k)) (upd H' d (.dK kvs)) := by
              refine ⟨S'.nd, by rw [List.length_set, S'.len], fun j b o h1 h2 => ?_⟩
              rw [List.getElem?_set] at h2
              by_cases c : n = j
              · subst c
                rw [hp'] at h1; cases h1
                rw [if_pos rfl] at h2
                split at h2
                · cases h2; exact ⟨kvs, upd_same, q3.1, q3.2.1.unl hd, q3.2.2⟩
                · cases h2
              · rw [if_neg c] at h2
                have hb : b ≠ d := fun q => by
                  subst q
                  exact c ((List.getElem?_inj (List.getElem?_eq_some_iff.mp hp').1 S'.nd).mp (hp'.trans h1.symm))
                exact (S'.at_ j b o h1 h2).unl hd hb
            refine ⟨hd, L ρ' _ EE SS v ?_⟩
            cases r with
            | v m => exact VR.unl hd hv
            | o o =>
              obtain ⟨p, rfl, hn, h0, hdd, ho⟩ := hv
              have c : p ≠ d := fun c => by subst c; exact hn (List.mem_of_getElem? hp')
              exact ⟨p, rfl, hn, by rw [upd_ne c] at h0; exact h0, by rw [upd_ne c]; exact hdd, ho.unl hd c⟩
        · exact False.elim L
    · exact False.elim L
  · exact False.elim L
/-! ### reading -/
theorem dic_same {H0 : Hp} {v : V} {x : EV} {l l' : List (List Nat × MV)} {ρ' : List Addr} {st' : Sto} {H' : Hp} (S : SR g ρ st H) (h : ER g H0 ρ H v x) (e : dicOf x st = some l) : ∃ p, v = .ref p ∧ IsD H p := by
  obtain ⟨p, kvs, h1, h2, _⟩ := dic_inv S h e
  exact ⟨p, h1, .inl ⟨kvs, h2⟩⟩
theorem r_dix (h : tE g W (evE P C (.dix a b)) σ H Q) : tDGet (tE g W (evE P C a)) (tE g W (evE P C b)) σ H Q := by
  obtain ⟨ρ, st, env, S, N, L⟩ := h
  simp only [evE] at L
  refine step_run S N L fun x st1 ρ1 H1 v _ E1 S1 N1 hv L1 => ?_
  refine step_run S1 N1 (L1.from E1) fun y st2 ρ2 H2 u _ E2 S2 N2 hu L2 => ?_
  split at L2
  · rename_i l z e1 e2
    obtain ⟨p, kvs, rfl, h1, h2⟩ := dic_inv S2 (hv.mono E2) e1
    cases e3 : dget z l with
    | none => rw [e3] at L2; exact False.elim L2
    | some m =>
      rw [e3] at L2
      obtain ⟨w, q1, q2⟩ := (dget_ok (z := z) h2.1 h2.2.1).1 m e3
      exact ⟨p, w, rfl, .inl ⟨kvs, keyS z, h1, kstr_inv hu e2, q1.symm⟩, L2 ρ2 H2 E2 S2 w q2⟩
  · exact False.elim L2
theorem r_dg1 (h : tE g W (evE P C (.dg1 a b)) σ H Q) : tDGet1 (tE g W (evE P C a)) (tE g W (evE P C b)) σ H Q := by
  obtain ⟨ρ, st, env, S, N, L⟩ := h
  simp only [evE] at L
  refine step_run S N L fun x st1 ρ1 H1 v _ E1 S1 N1 hv L1 => ?_
  split at L1
  · rename_i l0 e0
    obtain ⟨p, rfl, hD⟩ := dic_same (l' := l0) (ρ' := ρ1) (st' := st1) (H' := H1) S1 hv e0
    refine ⟨p, rfl, hD, step_run S1 N1 (L1.from E1) fun y st2 ρ2 H2 u _ E2 S2 N2 hu L2 => ?_⟩
    split at L2
    · rename_i l z e1 e2
      obtain ⟨p', kvs, e3, h1, h2⟩ := dic_inv S2 (hv.mono E2) e1
      cases e3
      obtain ⟨i1, i2⟩ := dget_ok (z := z) h2.1 h2.2.1
      refine ⟨valV kvs (keyS z), .inl ⟨kvs, keyS z, h1, kstr_inv hu e2, rfl⟩, ?_⟩
      cases e4 : dget z l with
      | none =>
        rw [e4] at L2
        rw [i2 e4]
        exact L2 ρ2 H2 E2 S2 .non (ER.ofP .non)
      | some m =>
        rw [e4] at L2
        obtain ⟨w, q1, q2⟩ := i1 m e4
        rw [q1]
        exact L2 ρ2 H2 E2 S2 w q2
    · exact False.elim L2
  · exact False.elim L1
theorem r_dg2 (h : tE g W (evE P C (.dg2 a b c)) σ H Q) : tDGet2 (tE g W (evE P C a)) (tE g W (evE P C b)) (tE g W (evE P C c)) σ H Q := by
  obtain ⟨ρ, st, env, S, N, L⟩ := h
  simp only [evE] at L
  refine step_run S N L fun x st1 ρ1 H1 v _ E1 S1 N1 hv L1 => ?_
  split at L1
  · rename_i l0 e0
    obtain ⟨p, rfl, hD⟩ := dic_same (l' := l0) (ρ' := ρ1) (st' := st1) (H' := H1) S1 hv e0
    refine ⟨p, rfl, hD, step_run S1 N1 (L1.from E1) fun y st2 ρ2 H2 u _ E2 S2 N2 hu L2 => ?_⟩
    refine step_run S2 N2 (L2.from E2) fun w st3 ρ3 H3 t _ E3 S3 N3 ht L3 => ?_
    split at L3
    · rename_i l z e1 e2
      obtain ⟨p', kvs, e3, h1, h2⟩ := dic_inv S3 ((hv.mono E2).mono E3) e1
      cases e3
      obtain ⟨i1, i2⟩ := dget_ok (z := z) h2.1 h2.2.1
      refine ⟨valV kvs (keyS z), .inl ⟨kvs, keyS z, h1, kstr_inv hu e2, rfl⟩, ?_⟩
      split at L3
      · rename_i m e4
        obtain ⟨r, q1, q2⟩ := i1 m e4
        rw [q1]
        exact L3 ρ3 H3 E3 S3 r q2
      · rename_i e4
        rw [i2 e4]
        exact L3 ρ3 H3 E3 S3 t (ht.back fun q hq => E1.dom q (E2.dom q hq))
    · exact False.elim L3
  · exact False.elim L1
/-! ### sources -/
theorem lck_inv {H0 : Hp} {v : V} {x : EV} {l : List (List Nat × MV)} (S : SR g ρ st H) (h : ER g H0 ρ H v x) (e : objOf x st = some (.lck l)) : ∃ d ob kvs, v = .ref d ∧ H d = some (.frz ob (.dK kvs)) ∧ DK g ρ H kvs l := by
  obtain ⟨d, h1, ob, kvs, h2, h3⟩ := obj_inv S h e
  exact ⟨d, ob, kvs, h1, h2, h3⟩
theorem r_iitems {R : It → Hp → Prop} (h : tI g W (evI P C (.items a)) σ H R) : iItems (tE g W (evE P C a)) σ H R := by
  obtain ⟨ρ, st, env, S, N, L⟩ := h
  simp only [evI] at L
  refine step_run S N L fun x st1 ρ1 H1 v _ E1 S1 N1 hv L1 => ?_
  split at L1
  · rename_i l e
    obtain ⟨d, ob, kvs, rfl, h1, h2⟩ := lck_inv S1 hv e
    exact ⟨d, ob, kvs, rfl, h1, L1 ρ1 H1 E1 S1 _ (.its h1 h2)⟩
  · exact False.elim L1
theorem r_ivals {R : It → Hp → Prop} (h : tI g W (evI P C (.vals a)) σ H R) : iVals (tE g W (evE P C a)) σ H R := by
  obtain ⟨ρ, st, env, S, N, L⟩ := h
  simp only [evI] at L
  refine step_run S N L fun x st1 ρ1 H1 v _ E1 S1 N1 hv L1 => ?_
  split at L1
  · rename_i l e
    obtain ⟨d, ob, kvs, rfl, h1, h2⟩ := lck_inv S1 hv e
    exact ⟨d, ob, kvs, rfl, h1, L1 ρ1 H1 E1 S1 _ (.vls h1 h2)⟩
  · exact False.elim L1
end
end Mn
end
section
set_option autoImplicit false
set_option maxRecDepth 20000
/-! Mn16c: key in d; written dicts; dict(list(d.items()) + [(k, v)]). -/
namespace Mn
open PySem L2 LiI
section
variable {g : G} {P : Prg} {C : Nat → List MV → Sto → Res EV} {W : WX} {σ : St} {H : Hp} {Q : VK} {a b c : MX} {es : MXs} {ρ : List Addr} {st : Sto}
theorem isSome_of {z : List Nat} {kvs : List (Key × V)} {l : List (List Nat × MV)} (h : DK g ρ H kvs l) : (valV kvs (keyS z)).isSome = (dget z l).isSome := by
  obtain ⟨i1, i2⟩ := dget_ok (z := z) h.1 h.2.1
  cases e : dget z l with
  | none => rw [i2 e]; rfl
  | some m => obtain ⟨v, q, _⟩ := i1 m e; rw [q]; rfl
theorem r_din (h : tE g W (evE P C (.din a b)) σ H Q) : tDIn (tE g W (evE P C a)) (tE g W (evE P C b)) σ H Q := by
  obtain ⟨ρ, st, env, S, N, L⟩ := h
  simp only [evE] at L
  refine step_run S N L fun y st1 ρ1 H1 u _ E1 S1 N1 hu L1 => ?_
  refine step_run S1 N1 (L1.from E1) fun x st2 ρ2 H2 v _ E2 S2 N2 hv L2 => ?_
  split at L2
  · rename_i l z e1 e2
    obtain ⟨p, kvs, rfl, h1, h2⟩ := dic_inv S2 hv e1
    refine ⟨p, valV kvs (keyS z), rfl, .inl ⟨kvs, keyS z, h1, kstr_inv (hu.mono E2) e2, rfl⟩, ?_⟩
    rw [isSome_of h2]
    exact L2 ρ2 H2 E2 S2 _ (ER.bl _)
  · exact False.elim L2
theorem r_dnin (h : tE g W (evE P C (.dnin a b)) σ H Q) : tDNotIn (tE g W (evE P C a)) (tE g W (evE P C b)) σ H Q := by
  obtain ⟨ρ, st, env, S, N, L⟩ := h
  simp only [evE] at L
  refine step_run S N L fun y st1 ρ1 H1 u _ E1 S1 N1 hu L1 => ?_
  refine step_run S1 N1 (L1.from E1) fun x st2 ρ2 H2 v _ E2 S2 N2 hv L2 => ?_
  split at L2
  · rename_i l z e1 e2
    obtain ⟨p, kvs, rfl, h1, h2⟩ := dic_inv S2 hv e1
    refine ⟨p, valV kvs (keyS z), rfl, .inl ⟨kvs, keyS z, h1, kstr_inv (hu.mono E2) e2, rfl⟩, ?_⟩
    rw [isSome_of h2]
    exact L2 ρ2 H2 E2 S2 _ (ER.bl _)
  · exact False.elim L2
/-! ### written dicts -/
def MXs.len : MXs → Nat
  | .nil => 0
  | .cons _ r => r.len + 1
theorem tE_more {ev : Env → Sto → Res EV} {σ : St} {H : Hp} {Q Q' : VK} (h : tE g W ev σ H Q) (w : ∀ v H, Q v H → Q' v H) : tE g W ev σ H Q' := by
  obtain ⟨ρ, st, env, S, N, L⟩ := h
  refine ⟨ρ, st, env, S, N, ?_⟩
  cases e : ev env st with
  | ok r s => rw [e] at L; exact fun ρ' H' E' S' v hv => w v H' (L ρ' H' E' S' v hv)
  | exc c x s => rw [e] at L; exact L
  | stk => rw [e] at L; exact L
def dspT (g : G) (W : WX) (P : Prg) (C : Nat → List MV → Sto → Res EV) : List (List Nat) → MXs → List (TE × TE)
  | k :: ks, .cons e r => (tC (.str (toStr k)), tE g W (evE P C e)) :: dspT g W P C ks r
  | _, _ => []
theorem tPairs_more : ∀ (trs : List (TE × TE)), (∀ t ∈ trs, (∀ {σ H Q Q'}, t.1 σ H Q → (∀ v H, Q v H → Q' v H) → t.1 σ H Q') ∧ (∀ {σ H Q Q'}, t.2 σ H Q → (∀ v H, Q v H → Q' v H) → t.2 σ H Q')) →
    ∀ {σ : St} {H : Hp} {Q Q' : List (V × V) → Hp → Prop}, tPairs trs σ H Q → (∀ v H, Q v H → Q' v H) → tPairs trs σ H Q'
  | [], _, σ, H, Q, Q', h, w => w _ _ h
  | t :: r, ht, σ, H, Q, Q', h, w => by
    obtain ⟨m1, m2⟩ := ht t List.mem_cons_self
    exact m1 h fun x H1 h1 => m2 h1 fun y H2 h2 => tPairs_more r (fun t m => ht t (List.mem_cons_of_mem _ m)) h2 fun ps H3 h3 => w _ _ h3
theorem dspT_mono : ∀ (ks : List (List Nat)) (vs : MXs), ∀ t ∈ dspT g W P C ks vs, (∀ {σ H Q Q'}, t.1 σ H Q → (∀ v H, Q v H → Q' v H) → t.1 σ H Q') ∧ (∀ {σ H Q Q'}, t.2 σ H Q → (∀ v H, Q v H → Q' v H) → t.2 σ H Q')
  | [], .nil, t, m => by cases m
  | [], .cons _ _, t, m => by cases m
  | _ :: _, .nil, t, m => by cases m
  | k :: ks, .cons e r, t, m => by
    rcases List.mem_cons.mp m with rfl | m
    · exact ⟨fun h w => w _ _ h, fun h w => tE_more h w⟩
    · exact dspT_mono ks r t m
theorem pairs_of : ∀ (ks : List (List Nat)) (vs : MXs) {σ : St} {H : Hp} {R : List V → Hp → Prop}, ks.length = vs.len → tL g W (evL P C vs) σ H R →
    tPairs (dspT g W P C ks vs) σ H fun ps H' => ∃ us, ks.length = us.length ∧ ps = (ks.zip us).map (fun q => (V.str (toStr q.1), q.2)) ∧ R us H'
  | [], .nil, σ, H, R, _, h => ⟨[], rfl, rfl, tL_nil h⟩
  | k :: ks, .nil, σ, H, R, e, h => by cases e
  | [], .cons _ _, σ, H, R, e, h => by cases e
  | k :: ks, .cons e r, σ, H, R, hl, h => by
    refine tE_more (tL_cons h) fun v H1 h3 => ?_
    refine tPairs_more _ (dspT_mono ks r) (pairs_of ks r (Nat.succ.inj hl) h3) fun ps H2 h4 => ?_
    obtain ⟨us, e1, rfl, e3⟩ := h4
    exact ⟨v :: us, congrArg (· + 1) e1, rfl, e3⟩
theorem r_dsp {ks : List (List Nat)} (hl : ks.length = es.len) (h : tE g W (evE P C (.dsp ks es)) σ H Q) : tDisp (dspT g W P C ks es) σ H Q := by
  obtain ⟨ρ, st, env, S, N, L⟩ := h
  simp only [evE] at L
  intro p hp
  have hm : Ext ρ H ρ (upd H p (.dK [])) := Ext.made hp
  have hpo := S.out hp
  have run : tL g W (evL P C es) σ (upd H p (.dK [])) fun us H2 => H2 p = some (.dK []) ∧ (ks.length = us.length → ∀ kvs : List (Key × V), kvs = (ks.zip us).map (fun q => (keyS q.1, q.2)) → kvs.length ≤ 15 ∧ Q (.ref p) (upd H2 p (.dK (mergeK [] kvs)))) := by
    refine stepL_run (S.made hp) (N.mono hm) (L.from hm) fun l st1 ρ1 H1 us el E1 S1 N1 hl2 _ => ?_
    have L1 := L
    rw [el] at L1
    simp only [Res.bind] at L1
    have hD : H1 p = some (.dK []) := E1.keep p _ upd_same hpo
    refine ⟨hD, fun e1 kvs e2 => ?_⟩
    obtain ⟨k, E2, S2, V2⟩ := holdAll_ok E1 S1 hl2
    generalize holdAll l st1 = ms at L1 S2 V2
    obtain ⟨ms, s2⟩ := ms
    dsimp only at L1 S2 V2
    split at L1
    · rename_i c
      have hn : p ∉ ρ1 ++ k := fun hm2 => by
        have := E2.new p hm2 hpo
        rw [upd_same] at this; cases this
      have kl : kvs.length = ks.length := by rw [e2, List.length_map, List.length_zip, ← e1]; exact Nat.min_self _
      refine ⟨by rw [kl]; exact c.2, ?_⟩
      have EE : Ext ρ H (ρ1 ++ k) (upd H1 p (.dK (mergeK [] kvs))) := by
        have e3 : ExtD p ρ (upd H p (.dK [])) (ρ1 ++ k) (upd H1 p (.dK (mergeK [] kvs))) := E2.d.putK hD
        exact ((Ext.made (o := .dK []) hp).d.trans e3).ext hp
      have P2 : ExtD p (ρ1 ++ k) H1 (ρ1 ++ k) (upd H1 p (.dK (mergeK [] kvs))) := ExtD.refl.putK hD
      refine L1 _ _ EE (S2.putE P2 hn) (.ref p) ⟨p, rfl, hn, hp, by rw [upd_same]; simp, mergeK [] kvs, upd_same, ?_⟩
      have l2 : ks.length = ms.length := c.1
      have ez : (ks.zip ms).map (·.2) = ms := List.map_snd_zip (by omega)
      have eu : kvs.map (·.2) = us := by
        rw [e2, List.map_map]
        show (ks.zip us).map (·.2) = us
        exact List.map_snd_zip (by omega)
      refine merge_dk (ps := ks.zip ms) (kvs := kvs) ?_ ?_ DK.nil
      · rw [e2, List.map_map]
        have f1 : (ks.zip us).map (fun q => keyS q.1) = ((ks.zip us).map (·.1)).map keyS := by rw [List.map_map]; rfl
        have f2 : (ks.zip ms).map (fun q => keyS q.1) = ((ks.zip ms).map (·.1)).map keyS := by rw [List.map_map]; rfl
        show (ks.zip us).map (fun q => keyS q.1) = _
        rw [f1, f2, List.map_fst_zip (by omega), List.map_fst_zip (by omega)]
      · rw [ez, eu]
        exact V2.monoD P2
    · exact False.elim L1
  refine tPairs_more _ (dspT_mono ks es) (pairs_of ks es hl run) fun ps H2 hh => ?_
  obtain ⟨us, e1, rfl, e3, e4⟩ := hh
  obtain ⟨q1, q2⟩ := e4 e1 _ rfl
  refine ⟨e3, _, ?_, q1, q2⟩
  rw [List.map_map]
  rfl
theorem r_dsp0 (h : tE g W (evE P C (.dsp [] .nil)) σ H Q) : tDNewK σ H Q := by
  obtain ⟨ρ, st, env, S, N, L⟩ := h
  have e : evE P C (.dsp [] .nil) env st = .ok (.o (.dic [])) st := rfl
  rw [e] at L
  intro p hp
  exact L ρ _ (Ext.made hp) (S.made hp) (.ref p) ⟨p, rfl, S.out hp, hp, by rw [upd_same]; simp, [], upd_same, DK.nil⟩
/-! ### a dict with one more -/
theorem paired_get {α β : Type} {F : α → β → Prop} : ∀ {l : List α} {k : List β}, Paired F l k → ∀ (i : Nat) (x : α) (y : β), l[i]? = some x → k[i]? = some y → F x y
  | _, _, .nil, i, x, y, h, _ => by simp at h
  | _, _, .cons h t, i, x, y, h1, h2 => by
    cases i with
    | zero => cases h1; cases h2; exact h
    | succ i => exact paired_get t i x y h1 h2
theorem r_dadd (h : tE g W (evE P C (.dadd a b c)) σ H Q) :
    tCB (fun xs H Q => rDictP g.K xs H Q ∨ rDictD xs H Q) (tCons (tOp (rB g.K .add) (tListItems (tE g W (evE P C a))) (tLst (tCons (tTupN (tCons (tE g W (evE P C b)) (tCons (tE g W (evE P C c)) tNil))) tNil))) tNil) σ H Q := by
  obtain ⟨ρ, st, env, S, N, L⟩ := h
  simp only [evE] at L
  refine step_run S N L fun x st1 ρ1 H1 v _ E1 S1 N1 hv L1 => ?_
  split at L1
  · rename_i l e1
    obtain ⟨d, rfl, kvs, h1, h2⟩ := obj_inv S1 hv e1
    refine ⟨d, kvs, rfl, h1, fun H' p ts keep hp hts hpn hl hpair => ?_⟩
    have E1' : Ext ρ1 H1 ρ1 H' := ⟨⟨[], by simp⟩, fun b m n => absurd m n, fun b o h _ => keep b o h, fun b xs h => keep b _ h, fun b o u h => keep b _ h, fun b h => by
      cases e : H1 b with
      | none => rfl
      | some o => rw [keep b o e] at h; cases h⟩
    have S1' : SR g ρ1 st1 H' := S1.mono E1' fun b _ u hu => keep b u hu
    have N1' := N1.mono E1'
    have EL := E1.trans E1'
    refine step_run S1' N1' (L1.from EL) fun y st2 ρ2 H2 u _ E2 S2 N2 hu L2 => ?_
    refine step_run S2 N2 (L2.from E2) fun z st3 ρ3 H3 w _ E3 S3 N3 hw L3 => ?_
    split at L3
    · rename_i q e2
      split at L3
      · rename_i hlen
        obtain ⟨j, E4, S4, V4, _⟩ := hold_ok E3 S3 hw
        have hk : kvs.length = l.length := by have := congrArg List.length h2.1; simpa using this
        have big : (1001 : Nat) ≤ sizeLine := by rw [PySem.sizeLine_eq]; decide
        refine ⟨by simp only [List.length_cons, List.length_nil]; omega, fun T ob hT hob => ⟨by simp only [List.length_cons, List.length_nil]; omega, fun p2 hp2 => ?_⟩⟩
        -- the heaps
        have F3 : Ext (ρ3 ++ j) H3 (ρ3 ++ j) (upd H3 T (.frz ob (.tup [u, w]))) := Ext.made hT
        have F4 : Ext (ρ3 ++ j) (upd H3 T (.frz ob (.tup [u, w]))) (ρ3 ++ j) (upd (upd H3 T (.frz ob (.tup [u, w]))) p2 (.lst [.ref T])) := Ext.made hp2
        have o1 : p ∉ ρ1 := S1.out hp
        have o2 : p ∉ ρ2 := fun m => by have := E2.new p m o1; rw [hl] at this; cases this
        have g2 : H2 p = some (.lst (ts.map V.ref)) := E2.keep p _ hl o1
        have g3 : H3 p = some (.lst (ts.map V.ref)) := E3.keep p _ g2 o2
        have lp : upd (upd H3 T (.frz ob (.tup [u, w]))) p2 (.lst [.ref T]) p = some (.lst (ts.map V.ref)) := by
          rw [upd_ne (fun e => by subst e; rw [upd_ne (fun e => by subst e; rw [hT] at g3; cases g3)] at hp2; rw [g3] at hp2; cases hp2), upd_ne (fun e => by subst e; rw [hT] at g3; cases g3)]
          exact g3
        have tl : ts.length = kvs.length := hpair.length
        refine .inr (.inr (.inr ⟨p, p2, ts.map V.ref, [.ref T], rfl, rfl, lp, upd_same, by simp only [List.length_map, List.length_cons, List.length_nil]; omega, fun p3 hp3 => ?_⟩))
        refine .inl ⟨p3, ts.map V.ref ++ [.ref T], kvs ++ [(keyS q, w)], rfl, .inr upd_same, by simp [tl], ?_, by simp only [List.length_append, List.length_map, List.length_cons, List.length_nil]; omega, fun d2 hd2 => ?_⟩
        · intro i y e he hq
          by_cases c : i < ts.length
          · rw [List.getElem?_append_left (by simpa using c), List.getElem?_map] at he
            rw [List.getElem?_append_left (by omega)] at hq
            rw [List.getElem?_eq_getElem c] at he
            cases he
            obtain ⟨k0, hk0⟩ : ∃ k0, kvs[i]? = some k0 := ⟨e, hq⟩
            have hp0 := paired_get hpair i _ _ (List.getElem?_eq_getElem c) hq
            refine ⟨ts[i], rfl, SqT.of ?_⟩
            have t2 := E2.tup _ _ hp0
            have t3 := E3.tup _ _ t2
            have F5 : Ext (ρ3 ++ j) (upd (upd H3 T (.frz ob (.tup [u, w]))) p2 (.lst [.ref T])) (ρ3 ++ j) (upd (upd (upd H3 T (.frz ob (.tup [u, w]))) p2 (.lst [.ref T])) p3 (.lst (ts.map V.ref ++ [.ref T]))) := Ext.made hp3
            exact F5.tup _ _ (F4.tup _ _ (F3.tup _ _ t3))
          · have ci : i = ts.length := by
              have := (List.getElem?_eq_some_iff.mp he).1
              simp at this; omega
            subst ci
            rw [List.getElem?_append_right (by simp)] at he
            simp at he
            subst he
            rw [List.getElem?_append_right (by omega)] at hq
            have z0 : ts.length - kvs.length = 0 := by omega
            rw [z0] at hq
            cases hq
            refine ⟨T, rfl, ?_⟩
            have F5 : Ext (ρ3 ++ j) (upd (upd H3 T (.frz ob (.tup [u, w]))) p2 (.lst [.ref T])) (ρ3 ++ j) (upd (upd (upd H3 T (.frz ob (.tup [u, w]))) p2 (.lst [.ref T])) p3 (.lst (ts.map V.ref ++ [.ref T]))) := Ext.made hp3
            have := F5.frz _ _ _ (F4.frz _ _ _ (upd_same (H := H3) (a := T) (o := .frz ob (.tup [u, w]))))
            have eu := kstr_inv (hu.mono E3) e2
            show SqT g.K _ T [kV (keyS q), w]
            rw [← eu]
            exact .inl (.inr ⟨ob, this⟩)
        · have F5 : Ext (ρ3 ++ j) (upd (upd H3 T (.frz ob (.tup [u, w]))) p2 (.lst [.ref T])) (ρ3 ++ j) (upd (upd (upd H3 T (.frz ob (.tup [u, w]))) p2 (.lst [.ref T])) p3 (.lst (ts.map V.ref ++ [.ref T]))) := Ext.made hp3
          have F := (F3.trans F4).trans F5
          have D2 := h2.mono (((E1'.trans E2).trans E4).trans F)
          have V5 := V4.mono F
          have SS := ((S4.mono F3 (fun b _ u hu => by rw [upd_ne (ne_of_none hu hT)]; exact hu)).mono F4 (fun b _ u hu => by rw [upd_ne (ne_of_none hu hp2)]; exact hu)).mono F5 (fun b _ u hu => by rw [upd_ne (ne_of_none hu hp3)]; exact hu)
          refine L3 (ρ3 ++ j) _ ((E4.trans F).trans (Ext.made hd2)) (SS.made hd2) (.ref d2) ⟨d2, rfl, SS.out hd2, E1.dom _ (E1'.dom _ (E2.dom _ (E4.dom _ (F.dom _ hd2)))), by rw [upd_same]; simp, mergeV (kvs ++ [(keyS q, w)]), upd_same, ?_⟩
          have M : Ext (ρ3 ++ j) _ (ρ3 ++ j) _ := Ext.made (o := .dK (mergeV (kvs ++ [(keyS q, w)]))) hd2
          refine merge_dk (ps := l ++ [(q, (hold z st3).1)]) (kvs := kvs ++ [(keyS q, w)]) ?_ ?_ DK.nil
          · rw [List.map_append, List.map_append, D2.1]; rfl
          · rw [List.map_append, List.map_append]
            have r1 := D2.2.1.mono M
            have r2 := V5.mono M
            refine ⟨by simp [r1.1], fun i x m e1 e2 => ?_⟩
            by_cases c : i < (kvs.map (·.2)).length
            · rw [List.getElem?_append_left c] at e1
              rw [List.getElem?_append_left (by rw [← r1.1]; exact c)] at e2
              exact r1.2 i x m e1 e2
            · rw [List.getElem?_append_right (by omega)] at e1
              rw [List.getElem?_append_right (by rw [← r1.1]; omega)] at e2
              rw [← r1.1] at e2
              cases hz : i - (kvs.map (·.2)).length with
              | zero => rw [hz] at e1 e2; cases e1; cases e2; exact r2
              | succ n => rw [hz] at e1; simp at e1
      · exact False.elim L3
    · exact False.elim L3
  · exact False.elim L1
end
end Mn
end
section
set_option autoImplicit false
set_option maxRecDepth 20000
/-! Mn17: what the checks say (printed by gen17.py). -/
namespace Mn
open PySem L2
section
variable {T : Tx} {k : Sk} {e : Expr} {a b c : MX} {es cs : MXs} {it : MI}
theorem ck_var {i : Nat} (h : ckE T (.var i) k e = true) : ∃ x p, e = .Name x p ∧ k.var i x = true := by
  cases e <;> try (simp only [ckE] at h; cases h; done)
  simp only [ckE, Bool.and_eq_true, Bool.or_eq_true, decide_eq_true_eq, and_assoc] at h
  exact ⟨_, _, rfl, h⟩
theorem ck_lit {v : PV} (h : ckE T (.lit v) k e = true) : ∃ x q p, e = .Constant x q p ∧ ckLit v x = true := by
  cases e <;> try (simp only [ckE] at h; cases h; done)
  simp only [ckE, Bool.and_eq_true, Bool.or_eq_true, decide_eq_true_eq, and_assoc] at h
  exact ⟨_, _, _, rfl, h⟩
theorem ck_glb {j : Nat} (h : ckE T (.glb j) k e = true) : ∃ x p, e = .Name x p ∧ T.gl[j]? = some x ∧ k.gl x = true := by
  cases e <;> try (simp only [ckE] at h; cases h; done)
  simp only [ckE, Bool.and_eq_true, Bool.or_eq_true, decide_eq_true_eq, and_assoc] at h
  exact ⟨_, _, rfl, h⟩
theorem ck_tup (h : ckE T (.tup es) k e = true) : ∃ xs q p, e = .Tuple xs q p ∧ ckL T es k xs = true := by
  cases e <;> try (simp only [ckE] at h; cases h; done)
  simp only [ckE, Bool.and_eq_true, Bool.or_eq_true, decide_eq_true_eq, and_assoc] at h
  exact ⟨_, _, _, rfl, h⟩
theorem ck_lst (h : ckE T (.lst es) k e = true) : ∃ xs p, e = .List xs p ∧ ckL T es k xs = true := by
  cases e <;> try (simp only [ckE] at h; cases h; done)
  simp only [ckE, Bool.and_eq_true, Bool.or_eq_true, decide_eq_true_eq, and_assoc] at h
  exact ⟨_, _, rfl, h⟩
theorem ck_bin {op : BOp} (h : ckE T (.bin op a b) k e = true) : ∃ x o y p, e = .BinOp x o y p ∧ o = pyB op ∧ ckE T a k x = true ∧ ckE T b k y = true := by
  cases e <;> try (simp only [ckE] at h; cases h; done)
  simp only [ckE, Bool.and_eq_true, Bool.or_eq_true, decide_eq_true_eq, and_assoc] at h
  exact ⟨_, _, _, _, rfl, h⟩
theorem ck_cmp {op : COp} (h : ckE T (.cmp op a b) k e = true) : ∃ x o y p, e = .Compare x [o] [y] p ∧ o = pyC op ∧ notSet y = true ∧ ckE T a k x = true ∧ ckE T b k y = true := by
  cases e <;> try (simp only [ckE] at h; cases h; done)
  rename_i x ops ys p
  cases ops <;> try (simp only [ckE] at h; cases h; done)
  rename_i o ops
  cases ops <;> try (simp only [ckE] at h; cases h; done)
  cases ys <;> try (simp only [ckE] at h; cases h; done)
  rename_i y ys
  cases ys <;> try (simp only [ckE] at h; cases h; done)
  simp only [ckE, Bool.and_eq_true, Bool.or_eq_true, decide_eq_true_eq, and_assoc] at h
  exact ⟨_, _, _, _, rfl, h⟩
theorem ck_chn {o1 o2 : COp} (h : ckE T (.chn o1 o2 a b c) k e = true) : ∃ x p1 p2 y z p, e = .Compare x [p1, p2] [y, z] p ∧ p1 = pyC o1 ∧ p2 = pyC o2 ∧ notSet y = true ∧ notSet z = true ∧ ckE T a k x = true ∧ ckE T b k y = true ∧ ckE T c k z = true := by
  cases e <;> try (simp only [ckE] at h; cases h; done)
  rename_i x ops ys p
  cases ops <;> try (simp only [ckE] at h; cases h; done)
  rename_i o ops
  cases ops <;> try (simp only [ckE] at h; cases h; done)
  rename_i o2 ops
  cases ops <;> try (simp only [ckE] at h; cases h; done)
  cases ys <;> try (simp only [ckE] at h; cases h; done)
  rename_i y ys
  cases ys <;> try (simp only [ckE] at h; cases h; done)
  rename_i y2 ys
  cases ys <;> try (simp only [ckE] at h; cases h; done)
  simp only [ckE, Bool.and_eq_true, Bool.or_eq_true, decide_eq_true_eq, and_assoc] at h
  exact ⟨_, _, _, _, _, _, rfl, h⟩
theorem ck_and (h : ckE T (.and a b) k e = true) : ∃ x y r p, e = .BoolOp .And (x :: y :: r) p ∧ ckE T a k x = true ∧ ((r = [] ∧ ckE T b k y = true) ∨ (r ≠ [] ∧ ckE T b k (.BoolOp .And (y :: r) p) = true)) := by
  cases e <;> try (simp only [ckE] at h; cases h; done)
  rename_i o xs p
  cases o <;> try (simp only [ckE] at h; cases h; done)
  cases xs <;> try (simp only [ckE] at h; cases h; done)
  rename_i x xs
  cases xs <;> try (simp only [ckE] at h; cases h; done)
  rename_i y r
  simp only [ckE, Bool.and_eq_true] at h
  refine ⟨x, y, r, p, rfl, h.1, ?_⟩
  cases r with
  | nil => exact .inl ⟨rfl, h.2⟩
  | cons z r => exact .inr ⟨by simp, h.2⟩
theorem ck_or (h : ckE T (.or a b) k e = true) : ∃ x y r p, e = .BoolOp .Or (x :: y :: r) p ∧ ckE T a k x = true ∧ ((r = [] ∧ ckE T b k y = true) ∨ (r ≠ [] ∧ ckE T b k (.BoolOp .Or (y :: r) p) = true)) := by
  cases e <;> try (simp only [ckE] at h; cases h; done)
  rename_i o xs p
  cases o <;> try (simp only [ckE] at h; cases h; done)
  cases xs <;> try (simp only [ckE] at h; cases h; done)
  rename_i x xs
  cases xs <;> try (simp only [ckE] at h; cases h; done)
  rename_i y r
  simp only [ckE, Bool.and_eq_true] at h
  refine ⟨x, y, r, p, rfl, h.1, ?_⟩
  cases r with
  | nil => exact .inl ⟨rfl, h.2⟩
  | cons z r => exact .inr ⟨by simp, h.2⟩
theorem ck_not (h : ckE T (.not a) k e = true) : ∃ x p, e = .UnaryOp .Not x p ∧ ckE T a k x = true := by
  cases e <;> try (simp only [ckE] at h; cases h; done)
  rename_i o x p
  cases o <;> try (simp only [ckE] at h; cases h; done)
  simp only [ckE, Bool.and_eq_true, Bool.or_eq_true, decide_eq_true_eq, and_assoc] at h
  exact ⟨_, _, rfl, h⟩
theorem ck_neg (h : ckE T (.neg a) k e = true) : ∃ x p, e = .UnaryOp .USub x p ∧ ckE T a k x = true := by
  cases e <;> try (simp only [ckE] at h; cases h; done)
  rename_i o x p
  cases o <;> try (simp only [ckE] at h; cases h; done)
  simp only [ckE, Bool.and_eq_true, Bool.or_eq_true, decide_eq_true_eq, and_assoc] at h
  exact ⟨_, _, rfl, h⟩
theorem ck_ite (h : ckE T (.ite c a b) k e = true) : ∃ z x y p, e = .IfExp z x y p ∧ ckE T c k z = true ∧ ckE T a k x = true ∧ ckE T b k y = true := by
  cases e <;> try (simp only [ckE] at h; cases h; done)
  simp only [ckE, Bool.and_eq_true, Bool.or_eq_true, decide_eq_true_eq, and_assoc] at h
  exact ⟨_, _, _, _, rfl, h⟩
theorem ck_ix (h : ckE T (.ix a b) k e = true) : ∃ x y p, e = .Subscript x y p ∧ notSlice y = true ∧ ckE T a k x = true ∧ ckE T b k y = true := by
  cases e <;> try (simp only [ckE] at h; cases h; done)
  simp only [ckE, Bool.and_eq_true, Bool.or_eq_true, decide_eq_true_eq, and_assoc] at h
  exact ⟨_, _, _, rfl, h⟩
theorem ck_slf (h : ckE T (.slf a b) k e = true) : ∃ x y q p, e = .Subscript x (.Slice (some y) none none q) p ∧ ckE T a k x = true ∧ ckE T b k y = true := by
  cases e <;> try (simp only [ckE] at h; cases h; done)
  rename_i x y p
  cases y <;> try (simp only [ckE] at h; cases h; done)
  rename_i lo hi stp q
  cases lo <;> try (simp only [ckE] at h; cases h; done)
  cases hi <;> try (simp only [ckE] at h; cases h; done)
  cases stp <;> try (simp only [ckE] at h; cases h; done)
  simp only [ckE, Bool.and_eq_true, Bool.or_eq_true, decide_eq_true_eq, and_assoc] at h
  exact ⟨_, _, _, _, rfl, h⟩
theorem ck_slt (h : ckE T (.slt a b) k e = true) : ∃ x y q p, e = .Subscript x (.Slice none (some y) none q) p ∧ ckE T a k x = true ∧ ckE T b k y = true := by
  cases e <;> try (simp only [ckE] at h; cases h; done)
  rename_i x y p
  cases y <;> try (simp only [ckE] at h; cases h; done)
  rename_i lo hi stp q
  cases lo <;> try (simp only [ckE] at h; cases h; done)
  cases hi <;> try (simp only [ckE] at h; cases h; done)
  cases stp <;> try (simp only [ckE] at h; cases h; done)
  simp only [ckE, Bool.and_eq_true, Bool.or_eq_true, decide_eq_true_eq, and_assoc] at h
  exact ⟨_, _, _, _, rfl, h⟩
theorem ck_slb (h : ckE T (.slb a b c) k e = true) : ∃ x y z q p, e = .Subscript x (.Slice (some y) (some z) none q) p ∧ ckE T a k x = true ∧ ckE T b k y = true ∧ ckE T c k z = true := by
  cases e <;> try (simp only [ckE] at h; cases h; done)
  rename_i x y p
  cases y <;> try (simp only [ckE] at h; cases h; done)
  rename_i lo hi stp q
  cases lo <;> try (simp only [ckE] at h; cases h; done)
  cases hi <;> try (simp only [ckE] at h; cases h; done)
  cases stp <;> try (simp only [ckE] at h; cases h; done)
  simp only [ckE, Bool.and_eq_true, Bool.or_eq_true, decide_eq_true_eq, and_assoc] at h
  exact ⟨_, _, _, _, _, rfl, h⟩
theorem ck_call {f : Nat} (h : ckE T (.call f es) k e = true) : ∃ x q xs p, e = .Call (.Name x q) xs [] p ∧ T.fn[f]? = some x ∧ k.gl x = true ∧ ckL T es k xs = true := by
  cases e <;> try (simp only [ckE] at h; cases h; done)
  rename_i g xs kws p
  cases g <;> try (simp only [ckE] at h; cases h; done)
  cases kws <;> try (simp only [ckE] at h; cases h; done)
  simp only [ckE, Bool.and_eq_true, Bool.or_eq_true, decide_eq_true_eq, and_assoc] at h
  exact ⟨_, _, _, _, rfl, h⟩
theorem ck_cv {i : Nat} (h : ckE T (.cv i es) k e = true) : ∃ x q y xs p, e = .Call (.Name x q) (y :: xs) [] p ∧ k.var i x = true ∧ ckL T es k (y :: xs) = true := by
  cases e <;> try (simp only [ckE] at h; cases h; done)
  rename_i f xs kws p
  cases f <;> try (simp only [ckE] at h; cases h; done)
  cases kws <;> try (simp only [ckE] at h; cases h; done)
  cases xs <;> try (simp only [ckE] at h; cases h; done)
  simp only [ckE, Bool.and_eq_true, Bool.or_eq_true, decide_eq_true_eq, and_assoc] at h
  exact ⟨_, _, _, _, _, rfl, h⟩
theorem ck_bi {w : BI} (h : ckE T (.bi w es) k e = true) : ∃ x q y xs p, e = .Call (.Name x q) (y :: xs) [] p ∧ x = (biN w : Str) ∧ k.gl x = true ∧ ckL T es k (y :: xs) = true := by
  cases e <;> try (simp only [ckE] at h; cases h; done)
  rename_i f xs kws p
  cases f <;> try (simp only [ckE] at h; cases h; done)
  cases kws <;> try (simp only [ckE] at h; cases h; done)
  cases xs <;> try (simp only [ckE] at h; cases h; done)
  simp only [ckE, Bool.and_eq_true, Bool.or_eq_true, decide_eq_true_eq, and_assoc] at h
  exact ⟨_, _, _, _, _, rfl, h⟩
theorem ck_isi {t : TyN} (h : ckE T (.isi a t) k e = true) : ∃ x q y z r p, e = .Call (.Name x q) [y, .Name z r] [] p ∧ x = ("isinstance" : Str) ∧ k.gl x = true ∧ z = (tyN_ t : Str) ∧ k.gl z = true ∧ notStar y = true ∧ ckE T a k y = true := by
  cases e <;> try (simp only [ckE] at h; cases h; done)
  rename_i f xs kws p
  cases f <;> try (simp only [ckE] at h; cases h; done)
  cases kws <;> try (simp only [ckE] at h; cases h; done)
  cases xs <;> try (simp only [ckE] at h; cases h; done)
  rename_i y xs
  cases xs <;> try (simp only [ckE] at h; cases h; done)
  rename_i z xs
  cases xs <;> try (simp only [ckE] at h; cases h; done)
  cases z <;> try (simp only [ckE] at h; cases h; done)
  simp only [ckE, Bool.and_eq_true, Bool.or_eq_true, decide_eq_true_eq, and_assoc] at h
  exact ⟨_, _, _, _, _, _, rfl, h⟩
theorem ck_mk {f : Nat} (h : ckE T (.mk f es) k e = true) : ∃ x q xs p, e = .Call (.Name x q) xs [] p ∧ T.cl[f]? = some x ∧ k.gl x = true ∧ ckL T es k xs = true := by
  cases e <;> try (simp only [ckE] at h; cases h; done)
  rename_i g xs kws p
  cases g <;> try (simp only [ckE] at h; cases h; done)
  cases kws <;> try (simp only [ckE] at h; cases h; done)
  simp only [ckE, Bool.and_eq_true, Bool.or_eq_true, decide_eq_true_eq, and_assoc] at h
  exact ⟨_, _, _, _, rfl, h⟩
theorem ck_um {m : Nat} (h : ckE T (.um m a es) k e = true) : ∃ y nm q xs p, e = .Call (.Attribute y nm q) xs [] p ∧ T.me[m]? = some nm ∧ notSuper y = true ∧ (q.endLine == p.line) = true ∧ xs.length < 30 ∧ ckE T a k y = true ∧ ckL T es k xs = true := by
  cases e <;> try (simp only [ckE] at h; cases h; done)
  rename_i f xs kws p
  cases f <;> try (simp only [ckE] at h; cases h; done)
  cases kws <;> try (simp only [ckE] at h; cases h; done)
  simp only [ckE, Bool.and_eq_true, Bool.or_eq_true, decide_eq_true_eq, and_assoc] at h
  exact ⟨_, _, _, _, _, rfl, h⟩
theorem ck_me {m : ME} (h : ckE T (.me m a es) k e = true) : ∃ y nm q xs p, e = .Call (.Attribute y nm q) xs [] p ∧ nm = (meN m : Str) ∧ meOk m xs.length = true ∧ notSuper y = true ∧ (q.endLine == p.line) = true ∧ xs.length < 30 ∧ ckE T a k y = true ∧ ckL T es k xs = true := by
  cases e <;> try (simp only [ckE] at h; cases h; done)
  rename_i f xs kws p
  cases f <;> try (simp only [ckE] at h; cases h; done)
  cases kws <;> try (simp only [ckE] at h; cases h; done)
  simp only [ckE, Bool.and_eq_true, Bool.or_eq_true, decide_eq_true_eq, and_assoc] at h
  exact ⟨_, _, _, _, _, rfl, h⟩
theorem ck_fld {x : Nat} (h : ckE T (.fld a x) k e = true) : ∃ y nm p, e = .Attribute y nm p ∧ nm = T.fd x ∧ x < T.nf ∧ notSuper y = true ∧ ckE T a k y = true := by
  cases e <;> try (simp only [ckE] at h; cases h; done)
  simp only [ckE, Bool.and_eq_true, Bool.or_eq_true, decide_eq_true_eq, and_assoc] at h
  exact ⟨_, _, _, rfl, h⟩
theorem ck_lc {tg : MT} {own : List Nat} (h : ckE T (.lc a tg it cs own) k e = true) : ∃ x tx ix ifs n scope p, e = .ListComp x [⟨tx, ix, ifs, n⟩] scope p ∧ n = 0 ∧ blkC k.N k.sc scope (ownP k own) = true ∧ ckI T it k ix = true ∧ notSet ix = true ∧ ckT (k.blk scope) tg tx = true ∧ ownOk tg own = true ∧ ((!it.pair) = true ∨ tg.isTp = true) ∧ ckE T a (k.blk scope) x = true ∧ ckC T cs (k.blk scope) ifs = true := by
  cases e <;> try (simp only [ckE] at h; cases h; done)
  rename_i x gs scope p
  cases gs <;> try (simp only [ckE] at h; cases h; done)
  rename_i g1 gs
  cases gs <;> try (simp only [ckE] at h; cases h; done)
  cases g1 <;> try (simp only [ckE] at h; cases h; done)
  simp only [ckE, Bool.and_eq_true, Bool.or_eq_true, decide_eq_true_eq, and_assoc] at h
  exact ⟨_, _, _, _, _, _, _, rfl, h⟩
theorem ck_lc2 {tg tg2 : MT} {it2 : MI} {cs2 : MXs} {own own2 : List Nat} (h : ckE T (.lc2 a tg it cs tg2 it2 cs2 own own2) k e = true) : ∃ x tx ix ifs n tx2 ix2 ifs2 n2 scope p, e = .ListComp x [⟨tx, ix, ifs, n⟩, ⟨tx2, ix2, ifs2, n2⟩] scope p ∧ n = 0 ∧ n2 = 0 ∧ blkC k.N k.sc scope (ownP k own) = true ∧ ckI T it k ix = true ∧ notSet ix = true ∧ ckT (k.blk scope) tg tx = true ∧ ownOk tg own = true ∧ ((!it.pair) = true ∨ tg.isTp = true) ∧ ckE T a (k.blk scope) x = true ∧ ckC T cs (k.blk scope) ifs = true ∧ ckI T it2 (k.blk scope) ix2 = true ∧ notSet ix2 = true ∧ ckT (k.blk scope) tg2 tx2 = true ∧ ownOk tg2 own2 = true ∧ ((!it2.pair) = true ∨ tg2.isTp = true) ∧ ckC T cs2 (k.blk scope) ifs2 = true ∧ own2.all (fun i => decide (i ∈ own)) = true := by
  cases e <;> try (simp only [ckE] at h; cases h; done)
  rename_i x gs scope p
  cases gs <;> try (simp only [ckE] at h; cases h; done)
  rename_i g1 gs
  cases gs <;> try (simp only [ckE] at h; cases h; done)
  rename_i g2 gs
  cases gs <;> try (simp only [ckE] at h; cases h; done)
  cases g1 <;> try (simp only [ckE] at h; cases h; done)
  cases g2 <;> try (simp only [ckE] at h; cases h; done)
  simp only [ckE, Bool.and_eq_true, Bool.or_eq_true, decide_eq_true_eq, and_assoc] at h
  exact ⟨_, _, _, _, _, _, _, _, _, _, _, rfl, h⟩
theorem ck_lock {i : Nat} (h : ckE T (.lock i a) k e = true) : genT e = true ∧ ckE T a k e = true := by simpa only [ckE, Bool.and_eq_true] using h
theorem ck_dix (h : ckE T (.dix a b) k e = true) : ∃ x y p, e = .Subscript x y p ∧ notSlice y = true ∧ ckE T a k x = true ∧ ckE T b k y = true := by
  cases e <;> try (simp only [ckE] at h; cases h; done)
  simp only [ckE, Bool.and_eq_true, Bool.or_eq_true, decide_eq_true_eq, and_assoc] at h
  exact ⟨_, _, _, rfl, h⟩
theorem ck_dg1 (h : ckE T (.dg1 a b) k e = true) : ∃ x nm q y p, e = .Call (.Attribute x nm q) [y] [] p ∧ nm = ("get" : Str) ∧ notSuper x = true ∧ (q.endLine == p.line) = true ∧ notStar y = true ∧ ckE T a k x = true ∧ ckE T b k y = true := by
  cases e <;> try (simp only [ckE] at h; cases h; done)
  rename_i f xs kws p
  cases f <;> try (simp only [ckE] at h; cases h; done)
  cases xs <;> try (simp only [ckE] at h; cases h; done)
  rename_i y xs
  cases xs <;> try (simp only [ckE] at h; cases h; done)
  cases kws <;> try (simp only [ckE] at h; cases h; done)
  simp only [ckE, Bool.and_eq_true, Bool.or_eq_true, decide_eq_true_eq, and_assoc] at h
  exact ⟨_, _, _, _, _, rfl, h⟩
theorem ck_dg2 (h : ckE T (.dg2 a b c) k e = true) : ∃ x nm q y z p, e = .Call (.Attribute x nm q) [y, z] [] p ∧ nm = ("get" : Str) ∧ notSuper x = true ∧ (q.endLine == p.line) = true ∧ notStar y = true ∧ notStar z = true ∧ ckE T a k x = true ∧ ckE T b k y = true ∧ ckE T c k z = true := by
  cases e <;> try (simp only [ckE] at h; cases h; done)
  rename_i f xs kws p
  cases f <;> try (simp only [ckE] at h; cases h; done)
  cases xs <;> try (simp only [ckE] at h; cases h; done)
  rename_i y xs
  cases xs <;> try (simp only [ckE] at h; cases h; done)
  rename_i z xs
  cases xs <;> try (simp only [ckE] at h; cases h; done)
  cases kws <;> try (simp only [ckE] at h; cases h; done)
  simp only [ckE, Bool.and_eq_true, Bool.or_eq_true, decide_eq_true_eq, and_assoc] at h
  exact ⟨_, _, _, _, _, _, rfl, h⟩
theorem ck_dcp {tg : MT} {own : List Nat} (h : ckE T (.dcp a b tg it cs own) k e = true) : ∃ x y tx ix ifs n scope p, e = .DictComp x y [⟨tx, ix, ifs, n⟩] scope p ∧ n = 0 ∧ blkC k.N k.sc scope (ownP k own) = true ∧ ckI T it k ix = true ∧ notSet ix = true ∧ ckT (k.blk scope) tg tx = true ∧ ownOk tg own = true ∧ ((!it.pair) = true ∨ tg.isTp = true) ∧ ckE T a (k.blk scope) x = true ∧ ckE T b (k.blk scope) y = true ∧ ckC T cs (k.blk scope) ifs = true := by
  cases e <;> try (simp only [ckE] at h; cases h; done)
  rename_i x y gs scope p
  cases gs <;> try (simp only [ckE] at h; cases h; done)
  rename_i g1 gs
  cases gs <;> try (simp only [ckE] at h; cases h; done)
  cases g1 <;> try (simp only [ckE] at h; cases h; done)
  simp only [ckE, Bool.and_eq_true, Bool.or_eq_true, decide_eq_true_eq, and_assoc] at h
  exact ⟨_, _, _, _, _, _, _, _, rfl, h⟩
theorem ck_din (h : ckE T (.din a b) k e = true) : ∃ x y p, e = .Compare x [.In] [y] p ∧ notSet y = true ∧ ckE T a k x = true ∧ ckE T b k y = true := by
  cases e <;> try (simp only [ckE] at h; cases h; done)
  rename_i x ops ys p
  cases ops <;> try (simp only [ckE] at h; cases h; done)
  rename_i o ops
  cases o <;> try (simp only [ckE] at h; cases h; done)
  cases ops <;> try (simp only [ckE] at h; cases h; done)
  cases ys <;> try (simp only [ckE] at h; cases h; done)
  rename_i y ys
  cases ys <;> try (simp only [ckE] at h; cases h; done)
  simp only [ckE, Bool.and_eq_true, Bool.or_eq_true, decide_eq_true_eq, and_assoc] at h
  exact ⟨_, _, _, rfl, h⟩
theorem ck_dnin (h : ckE T (.dnin a b) k e = true) : ∃ x y p, e = .Compare x [.NotIn] [y] p ∧ notSet y = true ∧ ckE T a k x = true ∧ ckE T b k y = true := by
  cases e <;> try (simp only [ckE] at h; cases h; done)
  rename_i x ops ys p
  cases ops <;> try (simp only [ckE] at h; cases h; done)
  rename_i o ops
  cases o <;> try (simp only [ckE] at h; cases h; done)
  cases ops <;> try (simp only [ckE] at h; cases h; done)
  cases ys <;> try (simp only [ckE] at h; cases h; done)
  rename_i y ys
  cases ys <;> try (simp only [ckE] at h; cases h; done)
  simp only [ckE, Bool.and_eq_true, Bool.or_eq_true, decide_eq_true_eq, and_assoc] at h
  exact ⟨_, _, _, rfl, h⟩
theorem ck_dsp {ks : List (List Nat)} (h : ckE T (.dsp ks es) k e = true) : ∃ keys values p, e = .Dict keys values p ∧ ckKeys ks keys = true ∧ keys.length = values.length ∧ keys.length ≤ 15 ∧ ckL T es k values = true := by
  cases e <;> try (simp only [ckE] at h; cases h; done)
  simp only [ckE, Bool.and_eq_true, Bool.or_eq_true, decide_eq_true_eq, and_assoc] at h
  exact ⟨_, _, _, rfl, h⟩
theorem ck_dadd (h : ckE T (.dadd a b c) k e = true) : ∃ x xq y yq o nm apos cpos lpos op u v tk tp lp bp p, e = .Call (.Name x xq) [.BinOp (.Call (.Name y yq) [.Call (.Attribute o nm apos) [] [] cpos] [] lpos) op (.List [.Tuple [u, v] tk tp] lp) bp] [] p ∧ x = ("dict" : Str) ∧ y = ("list" : Str) ∧ nm = ("items" : Str) ∧ op = Operator.Add ∧ k.gl x = true ∧ k.gl y = true ∧ notSuper o = true ∧ (apos.endLine == cpos.line) = true ∧ notStar u = true ∧ notStar v = true ∧ ckE T a k o = true ∧ ckE T b k u = true ∧ ckE T c k v = true := by
  cases e <;> try (simp only [ckE] at h; cases h; done)
  rename_i f xs kws p
  cases f <;> try (simp only [ckE] at h; cases h; done)
  cases xs <;> try (simp only [ckE] at h; cases h; done)
  rename_i y xs
  cases xs <;> try (simp only [ckE] at h; cases h; done)
  cases kws <;> try (simp only [ckE] at h; cases h; done)
  cases y <;> try (simp only [ckE] at h; cases h; done)
  rename_i lft op rgt bp
  cases lft <;> try (simp only [ckE] at h; cases h; done)
  rename_i f2 xs2 kws2 p2
  cases f2 <;> try (simp only [ckE] at h; cases h; done)
  cases xs2 <;> try (simp only [ckE] at h; cases h; done)
  rename_i y2 xs2
  cases xs2 <;> try (simp only [ckE] at h; cases h; done)
  cases kws2 <;> try (simp only [ckE] at h; cases h; done)
  cases y2 <;> try (simp only [ckE] at h; cases h; done)
  rename_i f3 xs3 kws3 p3
  cases f3 <;> try (simp only [ckE] at h; cases h; done)
  cases xs3 <;> try (simp only [ckE] at h; cases h; done)
  cases kws3 <;> try (simp only [ckE] at h; cases h; done)
  cases rgt <;> try (simp only [ckE] at h; cases h; done)
  rename_i es lp
  cases es <;> try (simp only [ckE] at h; cases h; done)
  rename_i e1 es
  cases e1 <;> try (simp only [ckE] at h; cases h; done)
  rename_i ts tk tp
  cases es <;> try (simp only [ckE] at h; cases h; done)
  cases ts <;> try (simp only [ckE] at h; cases h; done)
  rename_i t1 ts
  cases ts <;> try (simp only [ckE] at h; cases h; done)
  rename_i t2 ts
  cases ts <;> try (simp only [ckE] at h; cases h; done)
  simp only [ckE, Bool.and_eq_true, Bool.or_eq_true, decide_eq_true_eq, and_assoc] at h
  exact ⟨_, _, _, _, _, _, _, _, _, _, _, _, _, _, _, _, _, rfl, h⟩
theorem ck_lnil {xs : List Expr} (h : ckL T .nil k xs = true) : xs = [] := by
  cases xs <;> try (simp only [ckL] at h; cases h; done)
  rfl
theorem ck_lcons {xs : List Expr} (h : ckL T (.cons a es) k xs = true) : ∃ x r, xs = x :: r ∧ notStar x = true ∧ ckE T a k x = true ∧ ckL T es k r = true := by
  cases xs <;> try (simp only [ckL] at h; cases h; done)
  simp only [ckL, Bool.and_eq_true, and_assoc] at h
  exact ⟨_, _, rfl, h⟩
theorem ck_cnil {xs : List Expr} (h : ckC T .nil k xs = true) : xs = [] := by
  cases xs <;> try (simp only [ckC] at h; cases h; done)
  rfl
theorem ck_cone {xs : List Expr} (h : ckC T (.cons a .nil) k xs = true) : ∃ x, xs = [x] ∧ ckE T a k x = true := by
  cases xs <;> try (simp only [ckC] at h; cases h; done)
  rename_i x r
  cases r <;> try (simp only [ckC] at h; cases h; done)
  simp only [ckC] at h
  exact ⟨_, rfl, h⟩
theorem ck_ctwo {xs : List Expr} (h : ckC T (.cons a (.cons b es)) k xs = true) : False := by
  simp only [ckC] at h; cases h
theorem ck_iex (h : ckI T (.ex a) k e = true) : ckE T a k e = true := by simpa only [ckI] using h
theorem ck_irng (h : ckI T (.rng es) k e = true) : ∃ x q xs p, e = .Call (.Name x q) xs [] p ∧ x = ("range" : Str) ∧ k.gl x = true ∧ ckL T es k xs = true ∧ (xs.length = 1 ∨ xs.length = 2) := by
  cases e <;> try (simp only [ckI] at h; cases h; done)
  rename_i f xs kws p
  cases f <;> try (simp only [ckI] at h; cases h; done)
  cases kws <;> try (simp only [ckI] at h; cases h; done)
  simp only [ckI, Bool.and_eq_true, Bool.or_eq_true, decide_eq_true_eq, and_assoc] at h
  exact ⟨_, _, _, _, rfl, h⟩
theorem ck_ienum (h : ckI T (.enum a) k e = true) : ∃ x q y p, e = .Call (.Name x q) [y] [] p ∧ x = ("enumerate" : Str) ∧ k.gl x = true ∧ notStar y = true ∧ ckE T a k y = true := by
  cases e <;> try (simp only [ckI] at h; cases h; done)
  rename_i f xs kws p
  cases f <;> try (simp only [ckI] at h; cases h; done)
  cases xs <;> try (simp only [ckI] at h; cases h; done)
  rename_i y xs
  cases xs <;> try (simp only [ckI] at h; cases h; done)
  cases kws <;> try (simp only [ckI] at h; cases h; done)
  simp only [ckI, Bool.and_eq_true, Bool.or_eq_true, decide_eq_true_eq, and_assoc] at h
  exact ⟨_, _, _, _, rfl, h⟩
theorem ck_irev (h : ckI T (.rev a) k e = true) : ∃ x q y p, e = .Call (.Name x q) [y] [] p ∧ x = ("reversed" : Str) ∧ k.gl x = true ∧ notStar y = true ∧ ckE T a k y = true := by
  cases e <;> try (simp only [ckI] at h; cases h; done)
  rename_i f xs kws p
  cases f <;> try (simp only [ckI] at h; cases h; done)
  cases xs <;> try (simp only [ckI] at h; cases h; done)
  rename_i y xs
  cases xs <;> try (simp only [ckI] at h; cases h; done)
  cases kws <;> try (simp only [ckI] at h; cases h; done)
  simp only [ckI, Bool.and_eq_true, Bool.or_eq_true, decide_eq_true_eq, and_assoc] at h
  exact ⟨_, _, _, _, rfl, h⟩
theorem ck_iitems (h : ckI T (.items a) k e = true) : ∃ x nm q p, e = .Call (.Attribute x nm q) [] [] p ∧ nm = ("items" : Str) ∧ notSuper x = true ∧ (q.endLine == p.line) = true ∧ ckE T a k x = true := by
  cases e <;> try (simp only [ckI] at h; cases h; done)
  rename_i f xs kws p
  cases f <;> try (simp only [ckI] at h; cases h; done)
  cases xs <;> try (simp only [ckI] at h; cases h; done)
  cases kws <;> try (simp only [ckI] at h; cases h; done)
  simp only [ckI, Bool.and_eq_true, Bool.or_eq_true, decide_eq_true_eq, and_assoc] at h
  exact ⟨_, _, _, _, rfl, h⟩
theorem ck_ivals (h : ckI T (.vals a) k e = true) : ∃ x nm q p, e = .Call (.Attribute x nm q) [] [] p ∧ nm = ("values" : Str) ∧ notSuper x = true ∧ (q.endLine == p.line) = true ∧ ckE T a k x = true := by
  cases e <;> try (simp only [ckI] at h; cases h; done)
  rename_i f xs kws p
  cases f <;> try (simp only [ckI] at h; cases h; done)
  cases xs <;> try (simp only [ckI] at h; cases h; done)
  cases kws <;> try (simp only [ckI] at h; cases h; done)
  simp only [ckI, Bool.and_eq_true, Bool.or_eq_true, decide_eq_true_eq, and_assoc] at h
  exact ⟨_, _, _, _, rfl, h⟩
theorem ck_izip (h : ckI T (.zip a b) k e = true) : ∃ x q y z p, e = .Call (.Name x q) [y, z] [] p ∧ x = ("zip" : Str) ∧ k.gl x = true ∧ notStar y = true ∧ notStar z = true ∧ ckE T a k y = true ∧ ckE T b k z = true := by
  cases e <;> try (simp only [ckI] at h; cases h; done)
  rename_i f xs kws p
  cases f <;> try (simp only [ckI] at h; cases h; done)
  cases xs <;> try (simp only [ckI] at h; cases h; done)
  rename_i y xs
  cases xs <;> try (simp only [ckI] at h; cases h; done)
  rename_i z xs
  cases xs <;> try (simp only [ckI] at h; cases h; done)
  cases kws <;> try (simp only [ckI] at h; cases h; done)
  simp only [ckI, Bool.and_eq_true, Bool.or_eq_true, decide_eq_true_eq, and_assoc] at h
  exact ⟨_, _, _, _, _, rfl, h⟩
end
end Mn
end
section
set_option autoImplicit false
set_option maxRecDepth 20000
/-! Mn18: what passes the checks is read right: expressions. -/
namespace Mn
open PySem PySem.Spec L2
section
variable {g : G} {P : Prg} {C : Nat → List MV → Sto → Res EV} {T : Tx} {X : Cx} {k : Sk} {W : WX}
theorem Fit.gl (F : Fit g P C T X k) {x : Str} (h : k.gl x = true) : Gl X x ∧ (x == ("__debug__" : Str)) = false ∧ x ≠ ("__name__" : Str) := by
  unfold Sk.gl at h
  simp only [Bool.and_eq_true, decide_eq_true_eq, Bool.not_eq_true'] at h
  exact ⟨by show X.env.scope.names.lookup x = _; rw [F.sc]; exact h.1.1, h.1.2, h.2⟩
theorem Fit.var (F : Fit g P C T X k) {i : Nat} {x : Str} (h : k.var i x = true) : X.N[i]? = some x ∧ Vis X.env.scope x ∧ (x == ("__debug__" : Str)) = false ∧ (x == ("__classdict__" : Str)) = false := by
  unfold Sk.var at h
  simp only [Bool.and_eq_true, decide_eq_true_eq, Bool.not_eq_true'] at h
  refine ⟨by rw [F.N]; exact h.1.1.1, ?_, h.1.2, h.2⟩
  have h2 := h.1.1.2
  unfold Vis
  rw [F.sc]
  split at h2
  · rename_i e; exact .inl e
  · rename_i e; exact .inr (.inl e)
  · rename_i e; exact .inr (.inr e)
  · cases h2
theorem Fit.tgt (F : Fit g P C T X k) {i : Nat} {x : Str} {p : Pos} (h : k.tgt i x = true) : PG X (.Name x p) (gName i) := by
  unfold Sk.tgt at h
  simp only [Bool.and_eq_true, decide_eq_true_eq] at h
  have h2 := h.2
  have hi : X.N[i]? = some x := by rw [F.N]; exact h.1
  split at h2
  · rename_i e
    refine pg_name F.nd hi (.inl ?_) (.inr ?_) <;> (rw [F.sc]; exact e)
  · rename_i e
    refine pg_name F.nd hi (.inr ?_) (.inl ?_)
    · rw [F.sc]; exact e
    · rw [F.fn]; exact h2
  · cases h2
theorem Fit.bln (F : Fit g P C T X k) {x : String} (h : x ∈ bltNames) : X.mg (x : Str) = none := F.blt x h
theorem tgts_ok (F : Fit g P C T X k) : ∀ {is : List Nat} {es : List Expr}, ckTs k is es = true → PGs X es (gNames is) ∧ (assignEach es X.env).length = is.length ∧ (assignEach es X.env).findIdx? (·.1) = none
  | [], [], _ => ⟨pgs_nil, rfl, rfl⟩
  | [], _ :: _, h => by simp [ckTs] at h
  | i :: is, [], h => by simp [ckTs] at h
  | i :: is, e :: es, h => by
    cases e <;> try (simp only [ckTs] at h; cases h; done)
    simp only [ckTs, Bool.and_eq_true] at h
    obtain ⟨h1, h2, h3⟩ := tgts_ok F h.2
    refine ⟨pgs_cons (F.tgt h.1) h1, congrArg (· + 1) h2, ?_⟩
    show List.findIdx? (·.1) ((false, _) :: assignEach es X.env) = none
    rw [List.findIdx?_cons, h3]; rfl
theorem tgt_ok (F : Fit g P C T X k) {t : MT} {e : Expr} (h : ckT k t e = true) : PG X e (tgR g.K t) := by
  cases t with
  | nm i =>
    cases e <;> try (simp only [ckT] at h; cases h; done)
    simp only [ckT] at h
    exact F.tgt h
  | tp is =>
    cases e <;> try (simp only [ckT] at h; cases h; done)
    simp only [ckT] at h
    obtain ⟨h1, h2, h3⟩ := tgts_ok F h
    rw [← F.K]
    exact pg_tup F.calm h1 h2 h3
theorem tgt_tup {t : MT} {e : Expr} (h : ckT k t e = true) (ht : t.isTp = true) : ∃ es q p, e = .Tuple es q p := by
  cases t with
  | nm i => cases ht
  | tp is =>
    cases e <;> try (simp only [ckT] at h; cases h; done)
    exact ⟨_, _, _, rfl⟩
theorem lit_ok {v : PV} {c : Const} {q : Nat} {p : Pos} (h : ckLit v c = true) : ∃ x, PE X (.Constant c q p) (tC x) ∧ ∀ K H, PR K H x v := by
  cases v <;> cases c <;> try (simp only [ckLit] at h; cases h; done)
  · exact ⟨.non, pe_non, fun _ _ => .non⟩
  · simp only [ckLit, beq_iff_eq] at h
    subst h
    exact ⟨_, pe_bl, fun _ _ => .bl _⟩
  · simp only [ckLit, decide_eq_true_eq] at h
    subst h
    exact ⟨_, pe_int, fun _ _ => .int _⟩
  · simp only [ckLit, decide_eq_true_eq] at h
    subst h
    exact ⟨_, pe_str, fun _ _ => .str _⟩
/-! ### tests -/
theorem gen_true {e : Expr} {env : PySem.Env} (h : genT e = true) : ∀ whole, isTrue e env whole = (do let v ← whole; standAt e.pos; holding [v] (truthy v)) := by
  intro whole
  cases e <;> first | rfl | (simp only [genT] at h; cases h; done) | skip
  rename_i o x p
  cases o <;> first | rfl | (simp only [genT] at h; cases h; done)
theorem pt_gen {e : Expr} {ev : Env → Sto → Res EV} (hK : X.K = g.K) (h : PE X e (tE g W ev)) (hg : genT e = true) : PT X e (tT g W fun env s => tst (ev env s)) := by
  refine PT.weak (pt_truth h (gen_true hg)) fun σ H Q q => ?_
  obtain ⟨ρ, st, env, S, N, L⟩ := q
  refine step_run (f := fun x s1 => optR (truth x s1) s1) S N L fun x st1 ρ1 H1 v _ E1 S1 N1 hv L1 => ?_
  cases e : truth x st1 with
  | none => rw [e] at L1; exact False.elim L1
  | some b =>
    rw [e] at L1
    rw [hK]
    exact ⟨b, truth_read S1 hv e, L1 ρ1 H1 E1 S1⟩
/-- a comparison's truth -/
theorem tst_bl {b : Bool} {s : Sto} : tst (.ok (bl b) s) = .ok b s := by cases b <;> rfl
theorem t_cmp {op : COp} {a b : MX} {σ : St} {H : Hp} {Q : Bool → Hp → Prop} (h : tT g W (fun env s => tst (evE P C (.cmp op a b) env s)) σ H Q) : tTest (tOp (rC g.K op) (tE g W (evE P C a)) (tE g W (evE P C b))) σ H Q := by
  refine r_cmp ?_
  obtain ⟨ρ, st, env, S, N, L⟩ := h
  refine ⟨ρ, st, env, S, N, ?_⟩
  dsimp only at L
  cases e : evE P C (.cmp op a b) env st with
  | exc c x s => rw [e] at L; exact L
  | stk => rw [e] at L; exact L
  | ok r s =>
    obtain ⟨x, s1, e1, e2⟩ := bind_ok (by simpa only [evE] using e)
    obtain ⟨y, s2, e3, e4⟩ := bind_ok e2
    split at e4
    · rename_i k ek
      cases e4
      rw [e, tst_bl] at L
      exact fun ρ' H' E' S' v hv => ⟨k, ER.bl_inv hv, L ρ' H' E' S'⟩
    · cases e4
theorem t_chn {o1 o2 : COp} {a b c : MX} {σ : St} {H : Hp} {Q : Bool → Hp → Prop} (h : tT g W (fun env s => tst (evE P C (.chn o1 o2 a b c) env s)) σ H Q) :
    tTest (tChain (rC g.K o1) (rC g.K o2) (tE g W (evE P C a)) (tE g W (evE P C b)) (tE g W (evE P C c))) σ H Q := by
  refine r_chn ?_
  obtain ⟨ρ, st, env, S, N, L⟩ := h
  refine ⟨ρ, st, env, S, N, ?_⟩
  dsimp only at L
  cases e : evE P C (.chn o1 o2 a b c) env st with
  | exc c x s => rw [e] at L; exact L
  | stk => rw [e] at L; exact L
  | ok r s =>
    have hr : ∃ k, r = bl k := by
      obtain ⟨x, s1, e1, e2⟩ := bind_ok (by simpa only [evE] using e)
      obtain ⟨y, s2, e3, e4⟩ := bind_ok e2
      split at e4
      · obtain ⟨z, s3, e5, e6⟩ := bind_ok e4
        split at e6
        · cases e6; exact ⟨_, rfl⟩
        · cases e6
      · cases e4; exact ⟨_, rfl⟩
      · cases e4
    obtain ⟨k, rfl⟩ := hr
    rw [e, tst_bl] at L
    exact fun ρ' H' E' S' v hv => ⟨k, ER.bl_inv hv, L ρ' H' E' S'⟩
theorem tstep_run {α : Type} {σ : St} {ρ : List Addr} {st : Sto} {env : Env} {H : Hp} {ea : Env → Sto → Res Bool} {f : Bool → Sto → Res α} {Q : α → Sto → List Addr → Hp → Prop} {R : Bool → Hp → Prop}
    (S : SR g ρ st H) (N : NR g ρ H σ env) (L : Lands g ρ H ((ea env st).bind f) Q (fun c x _ ρ' H' => XW g W σ c x ρ' H'))
    (k : ∀ b st1 ρ1 H1, Ext ρ H ρ1 H1 → SR g ρ1 st1 H1 → NR g ρ1 H1 σ env → Lands g ρ1 H1 (f b st1) Q (fun c x _ ρ' H' => XW g W σ c x ρ' H') → R b H1) : tT g W ea σ H R := by
  refine ⟨ρ, st, env, S, N, ?_⟩
  cases e : ea env st with
  | ok b st1 => rw [e] at L; exact fun ρ1 H1 E1 S1 => k b st1 ρ1 H1 E1 S1 (N.mono E1) (Lands.from L E1)
  | exc c x s => rw [e] at L; exact L
  | stk => rw [e] at L; exact L
theorem t_and {a b : MX} {σ : St} {H : Hp} {Q : Bool → Hp → Prop} (h : tT g W (fun env s => tst (evE P C (.and a b) env s)) σ H Q) : tAnd (tT g W fun env s => tst (evE P C a env s)) (tT g W fun env s => tst (evE P C b env s)) σ H Q := by
  obtain ⟨ρ, st, env, S, N, L⟩ := h
  refine tstep_run (f := fun t s1 => if t then tst (evE P C b env s1) else .ok false s1) (Q := fun r _ _ H' => Q r H') S N ?_ fun t st1 ρ1 H1 E1 S1 N1 L1 => ?_
  · simp only [evE] at L
    cases e : evE P C a env st with
    | exc c x s => simp only [e, tst, Res.bind] at L ⊢; exact L
    | stk => simp only [e, tst, Res.bind] at L ⊢; exact L
    | ok x s1 =>
      simp only [e, tst, Res.bind] at L ⊢
      cases e2 : truth x s1 with
      | none => simp only [e2] at L; exact False.elim L
      | some t =>
        cases t with
        | true => simp only [e2, optR] at L ⊢; rw [if_pos trivial]; exact L
        | false => simp only [e2, optR] at L ⊢; rw [if_neg (by simp)]; exact L
  · cases t with
    | true => rw [if_pos rfl] at L1 ⊢; exact ⟨ρ1, st1, env, S1, N1, L1⟩
    | false => rw [if_neg (by simp)] at L1 ⊢; exact L1 ρ1 H1 Ext.refl S1
theorem t_or {a b : MX} {σ : St} {H : Hp} {Q : Bool → Hp → Prop} (h : tT g W (fun env s => tst (evE P C (.or a b) env s)) σ H Q) : tOr (tT g W fun env s => tst (evE P C a env s)) (tT g W fun env s => tst (evE P C b env s)) σ H Q := by
  obtain ⟨ρ, st, env, S, N, L⟩ := h
  refine tstep_run (f := fun t s1 => if t then .ok true s1 else tst (evE P C b env s1)) (Q := fun r _ _ H' => Q r H') S N ?_ fun t st1 ρ1 H1 E1 S1 N1 L1 => ?_
  · simp only [evE] at L
    cases e : evE P C a env st with
    | exc c x s => simp only [e, tst, Res.bind] at L ⊢; exact L
    | stk => simp only [e, tst, Res.bind] at L ⊢; exact L
    | ok x s1 =>
      simp only [e, tst, Res.bind] at L ⊢
      cases e2 : truth x s1 with
      | none => simp only [e2] at L; exact False.elim L
      | some t =>
        cases t with
        | true => simp only [e2, optR] at L ⊢; rw [if_pos trivial]; exact L
        | false => simp only [e2, optR] at L ⊢; rw [if_neg (by simp)]; exact L
  · cases t with
    | true => rw [if_pos rfl] at L1 ⊢; exact L1 ρ1 H1 Ext.refl S1
    | false => rw [if_neg (by simp)] at L1 ⊢; exact ⟨ρ1, st1, env, S1, N1, L1⟩
theorem t_not {a : MX} {σ : St} {H : Hp} {Q : Bool → Hp → Prop} (h : tT g W (fun env s => tst (evE P C (.not a) env s)) σ H Q) : tNot (tT g W fun env s => tst (evE P C a env s)) σ H Q := by
  obtain ⟨ρ, st, env, S, N, L⟩ := h
  refine tstep_run (f := fun t s1 => .ok (!t) s1) (Q := fun r _ _ H' => Q r H') S N ?_ fun t st1 ρ1 H1 E1 S1 N1 L1 => L1 ρ1 H1 Ext.refl S1
  simp only [evE] at L
  cases e : evE P C a env st with
  | exc c x s => simp only [e, tst, Res.bind] at L ⊢; exact L
  | stk => simp only [e, tst, Res.bind] at L ⊢; exact L
  | ok x s1 =>
    simp only [e, tst, Res.bind] at L ⊢
    cases e2 : truth x s1 with
    | none => simp only [e2] at L; exact False.elim L
    | some t =>
      simp only [e2, optR] at L ⊢
      cases t <;> exact L
theorem t_ite {a b c : MX} {σ : St} {H : Hp} {Q : Bool → Hp → Prop} (h : tT g W (fun env s => tst (evE P C (.ite c a b) env s)) σ H Q) :
    (fun σ H (Q : Bool → Hp → Prop) => (tT g W fun env s => tst (evE P C c env s)) σ H fun t H1 => if t = true then (tT g W fun env s => tst (evE P C a env s)) σ H1 Q else (tT g W fun env s => tst (evE P C b env s)) σ H1 Q) σ H Q := by
  obtain ⟨ρ, st, env, S, N, L⟩ := h
  refine tstep_run (f := fun t s1 => if t then tst (evE P C a env s1) else tst (evE P C b env s1)) (Q := fun r _ _ H' => Q r H') S N ?_ fun t st1 ρ1 H1 E1 S1 N1 L1 => ?_
  · simp only [evE] at L
    cases e : tst (evE P C c env st) with
    | exc c x s => rw [e] at L; exact L
    | stk => rw [e] at L; exact L
    | ok t s1 =>
      rw [e] at L
      cases t with
      | true => exact L
      | false => exact L
  · cases t with
    | true => rw [if_pos rfl] at L1 ⊢; exact ⟨ρ1, st1, env, S1, N1, L1⟩
    | false => rw [if_neg (by simp)] at L1 ⊢; exact ⟨ρ1, st1, env, S1, N1, L1⟩
end
end Mn
end
section
set_option autoImplicit false
set_option maxRecDepth 20000
/-! Mn19: the sources' readings; isinstance. -/
namespace Mn
open PySem PySem.Spec L2
section
variable {g : G} {P : Prg} {C : Nat → List MV → Sto → Res EV} {W : WX} {σ : St} {H : Hp} {R : It → Hp → Prop} {a b : MX} {es : MXs}
def iEx (g : G) (W : WX) (ev : Env → Sto → Res EV) : TI := iOr (iList g.K (tE g W ev)) (iOr (iTup g.K (tE g W ev)) (iStr (tE g W ev)))
theorem r_iex (h : tI g W (evI P C (.ex a)) σ H R) : iEx g W (evE P C a) σ H R := by
  obtain ⟨ρ, st, env, S, N, L⟩ := h
  simp only [evI] at L
  cases e : evE P C a env st with
  | exc c x s => rw [e] at L; exact .inl ⟨ρ, st, env, S, N, by rw [e]; exact L⟩
  | stk => rw [e] at L; exact False.elim L
  | ok x s1 =>
    cases e1 : sqL x s1 with
    | some q =>
      refine .inl (step_run S N L fun x' st1 ρ1 H1 v ex E1 S1 N1 hv L1 => ?_)
      rw [e] at ex; cases ex
      have : sqOf x s1 = some q := by unfold sqOf; rw [e1]
      simp only [this] at L1
      obtain ⟨p, rfl, h1, h2⟩ := sqL_inv S1 hv e1
      exact ⟨p, rfl, by rw [show g.K = g.K from rfl]; exact h2, L1 ρ1 H1 E1 S1 _ (.lst h1)⟩
    | none =>
      cases e2 : tupOf x with
      | some l =>
        refine .inr (.inl (step_run S N L fun x' st1 ρ1 H1 v ex E1 S1 N1 hv L1 => ?_))
        rw [e] at ex; cases ex
        have : sqOf x s1 = some (.snap l) := by unfold sqOf; rw [e1, e2]
        simp only [this] at L1
        obtain ⟨p, xs, rfl, h1, h2⟩ := tupOf_inv hv e2
        exact ⟨p, rfl, ⟨xs, h1.t⟩, L1 ρ1 H1 E1 S1 _ (.tup h1.t h2)⟩
      | none =>
        refine .inr (.inr (step_run S N L fun x' st1 ρ1 H1 v ex E1 S1 N1 hv L1 => ?_))
        rw [e] at ex; cases ex
        have : sqOf x s1 = none := by unfold sqOf; rw [e1, e2]
        simp only [this] at L1
        unfold strSq at L1
        split at L1
        · rename_i q e3
          split at e3
          · cases e3
            exact ⟨_, hv.str_inv, L1 ρ1 H1 E1 S1 _ (.str _)⟩
          · cases e3
        · exact False.elim L1
theorem r_ienum (h : tI g W (evI P C (.enum a)) σ H R) : iEnum g.K (tCons (tE g W (evE P C a)) tNil) σ H R := by
  obtain ⟨ρ, st, env, S, N, L⟩ := h
  simp only [evI] at L
  refine step_run S N L fun x st1 ρ1 H1 v _ E1 S1 N1 hv L1 => ?_
  split at L1
  · rename_i q e
    obtain ⟨p, rfl, h1, xs, h2⟩ := sqL_inv S1 hv e
    exact ⟨p, xs, rfl, h2, L1 ρ1 H1 E1 S1 _ (.en h1)⟩
  · exact False.elim L1
theorem r_irev (h : tI g W (evI P C (.rev a)) σ H R) : iRev g.K (tCons (tE g W (evE P C a)) tNil) σ H R := by
  obtain ⟨ρ, st, env, S, N, L⟩ := h
  simp only [evI] at L
  refine step_run S N L fun x st1 ρ1 H1 v _ E1 S1 N1 hv L1 => ?_
  split at L1
  · rename_i l q e1 e
    obtain ⟨p, rfl, h1, _⟩ := sqL_inv S1 hv e
    obtain ⟨p', xs, e2, h2, h3⟩ := lstOf_inv S1 hv e1
    cases e2
    refine ⟨p, xs, rfl, h2, L1 ρ1 H1 E1 S1 _ ?_⟩
    rw [h3.1]
    exact .rv l.length h1
  · exact False.elim L1
theorem r_izip (h : tI g W (evI P C (.zip a b)) σ H R) : RZ.iZipA g.K (tCons (tE g W (evE P C a)) (tCons (tE g W (evE P C b)) tNil)) σ H R := by
  obtain ⟨ρ, st, env, S, N, L⟩ := h
  simp only [evI] at L
  refine step_run S N L fun x st1 ρ1 H1 v _ E1 S1 N1 hv L1 => ?_
  refine step_run S1 N1 (L1.from E1) fun y st2 ρ2 H2 u _ E2 S2 N2 hu L2 => ?_
  split at L2
  · rename_i q r e1 e2
    obtain ⟨p, rfl, h1, xs, h2⟩ := sqL_inv S2 (hv.mono E2) e1
    obtain ⟨p', rfl, h3, ys, h4⟩ := sqL_inv S2 (hu.back E1.dom) e2
    exact ⟨p, p', xs, ys, rfl, .inl ⟨h2, h4, L2 ρ2 H2 E2 S2 _ (.zp h1 h3)⟩⟩
  · split at L2
    · rename_i l k e1 e2
      obtain ⟨p, xs, rfl, h1, h2⟩ := tupOf_inv (hv.mono E2) e1
      obtain ⟨p', ys, rfl, h3, h4⟩ := tupOf_inv hu e2
      exact ⟨p, p', xs, ys, rfl, .inr ⟨h1.t, h3.t, L2 ρ2 H2 E2 S2 _ (.zt h1.t h3.t h2 h4)⟩⟩
    · exact False.elim L2
theorem r_irng1 {e : MX} (h : tI g W (evI P C (.rng (.cons e .nil))) σ H R) : iRng1 (tL g W (evL P C (.cons e .nil))) σ H R := by
  obtain ⟨ρ, st, env, S, N, L⟩ := h
  simp only [evI] at L
  refine stepL_run S N L fun l st1 ρ1 H1 vs el E1 S1 N1 hl L1 => ?_
  have hlen : ∃ x, l = [x] := by
    simp only [evL] at el
    obtain ⟨x, s1, e1, e2⟩ := bind_ok el
    obtain ⟨l', s2, e3, e4⟩ := bind_ok e2
    cases e3; cases e4; exact ⟨x, rfl⟩
  obtain ⟨x, rfl⟩ := hlen
  obtain ⟨v, rfl, hv⟩ := hl.one
  unfold rngOf at L1
  split at L1
  · rename_i j e3
    cases e3
    split at L1
    · rename_i hb
      exact ⟨j, by rw [hv.int_inv], hb.1, hb.2, L1 ρ1 H1 E1 S1 _ (.rg 0 _)⟩
    · exact False.elim L1
  · rename_i i j e3; cases e3
  · exact False.elim L1
theorem r_irng2 {e f : MX} (h : tI g W (evI P C (.rng (.cons e (.cons f .nil)))) σ H R) : iRng2 (tL g W (evL P C (.cons e (.cons f .nil)))) σ H R := by
  obtain ⟨ρ, st, env, S, N, L⟩ := h
  simp only [evI] at L
  refine stepL_run S N L fun l st1 ρ1 H1 vs el E1 S1 N1 hl L1 => ?_
  have hlen : ∃ x y, l = [x, y] := by
    simp only [evL] at el
    obtain ⟨x, s1, e1, e2⟩ := bind_ok el
    obtain ⟨l', s2, e3, e4⟩ := bind_ok e2
    obtain ⟨y, s3, e5, e6⟩ := bind_ok e3
    obtain ⟨l3, s4, e7, e8⟩ := bind_ok e6
    cases e7; cases e8; cases e4; exact ⟨x, y, rfl⟩
  obtain ⟨x, y, rfl⟩ := hlen
  obtain ⟨v, u, rfl, hv, hu⟩ := hl.two
  unfold rngOf at L1
  split at L1
  · rename_i j e3; cases e3
  · rename_i i j e3
    cases e3
    split at L1
    · rename_i hb
      exact ⟨i, j, by rw [hv.int_inv, hu.int_inv], hb, L1 ρ1 H1 E1 S1 _ (.rg i _)⟩
    · exact False.elim L1
  · exact False.elim L1
end
/-! ### isinstance -/
theorem isi_rule {X : Cx} (t : TyN) : CallR X (.builtin "isinstance") (rIsi X.K (tyN_ t) (tyP t)) := by
  intro pins s σ H xs us Q I r hh
  obtain ⟨x, d, rfl, hd, q⟩ := hh
  obtain ⟨u, w, rfl, r1, r2⟩ := vals2 r
  obtain ⟨as, rd⟩ := Dp.reads I d.d x u hd r1
  have r2' : w = Value.type (tyN_ t) := r2
  subst r2'
  have fin : ∀ b : Bool, b = tyP t d → ∀ tk, s.toks ≤ tk → EP X pins σ Q (.bool b) { s with toks := tk } := fun b hb tk _ => ⟨.bl (tyP t d), H, I.tok tk, by rw [hb]; rfl, q⟩
  cases t with
  | bool => exact PySem.W.isinstance_bool_data rd (fin _ (by cases d <;> rfl))
  | int => exact PySem.W.isinstance_int_data rd (fin _ (by cases d <;> rfl))
  | str => exact PySem.W.isinstance_str_data rd (fin _ (by cases d <;> rfl))
  | tuple => exact PySem.W.isinstance_tuple_data rd (fin _ (by cases d <;> rfl))
  | list => exact PySem.W.isinstance_list_data rd (fin _ (by cases d <;> rfl))
end Mn
end
section
set_option autoImplicit false
set_option maxRecDepth 20000
/-! Mn20: what passes the checks is read right: the theorem for expressions. -/
namespace Mn
open PySem PySem.Spec L2
section
variable {g : G} {P : Prg} {C : Nat → List MV → Sto → Res EV} {T : Tx}
theorem PTs.weak {X : Cx} {ifs : List Expr} {t t' : TT} (h : PTs X ifs t) (w : ∀ σ H Q, t' σ H Q → t σ H Q) : PTs X ifs t' := ⟨fun pins s σ H Q I q => h.run pins s σ H Q I (w σ H Q q)⟩
theorem both {X : Cx} {W : WX} {e : Expr} {ev : Env → Sto → Res EV} (hK : X.K = g.K) (h : PE X e (tE g W ev)) (hg : genT e = true := by rfl) : PE X e (tE g W ev) ∧ PT X e (tT g W fun env s => tst (ev env s)) := ⟨h, pt_gen hK h hg⟩
theorem ownP_ix (k : Sk) (own : List Nat) : (ownP k own).map (·.2) = own := by
  unfold ownP
  rw [List.map_map]
  exact List.map_id own
theorem own_of {tg : MT} {own : List Nat} (h : ownOk tg own = true) : ∀ i ∈ tg.ixs, i ∈ own := fun i hi => by
  have := List.all_eq_true.mp h i hi
  exact of_decide_eq_true this
theorem pair_of {it : MI} {tg : MT} (h : (!it.pair) = true ∨ tg.isTp = true) : it.pair = true → tg.isTp = true := fun q => h.elim (fun w => by rw [q] at w; cases w) id
theorem nostar_all {es : MXs} {k : Sk} {xs : List Expr} (h : ckL T es k xs = true) : xs.all notStar = true := by
  cases es with
  | nil => rw [ck_lnil h]; rfl
  | cons e r =>
    obtain ⟨x, xs, rfl, h1, _, h2⟩ := ck_lcons h
    rw [List.all_cons, h1, nostar_all h2]; rfl
theorem pw_bool {X : Cx} {op : BoolOp} {xs : List Expr} {p : Pos} {t : TT} (h : PT X (.BoolOp op xs p) t) : PW X (.BoolOp op xs p) t := ⟨fun whole pins s σ H Q I q => h.run pins s σ H Q I q⟩
theorem bltn_mem : ∀ b : BI, biN b ∈ bltNames := by intro b; cases b <;> decide
theorem boot_bi : ∀ b : BI, bootBuiltins (biN b : Str) = some (pyBI b) := by
  intro b
  cases b
  · exact boot_len
  · exact PyProof.Rows.boot_tuple
  · exact PyProof.Rows.boot_list
  · exact PyProof.Rows.boot_sorted
  · exact PyProof.Rows.boot_set
  · exact PyProof.Rows.boot_all
  · exact PyProof.Rows.boot_any
  · exact PyProof.Rows.boot_sum
  · exact PyProof.Rows.boot_max
  · exact PyProof.Rows.boot_min
  · exact PyProof.Rows.boot_abs
  · exact PyProof.Rows.boot_int
  · exact PyProof.Rows.boot_dict
  · exact PyProof.Rows.boot_str
theorem boot_ty : ∀ t : TyN, bootBuiltins (tyN_ t : Str) = some (.type (tyN_ t)) := by
  intro t
  cases t
  · exact PyProof.Rows.boot_bool
  · exact PyProof.Rows.boot_int
  · exact PyProof.Rows.boot_str
  · exact PyProof.Rows.boot_tuple
  · exact PyProof.Rows.boot_list
theorem ty_mem : ∀ t : TyN, tyN_ t ∈ bltNames := by intro t; cases t <;> decide
/-- a call of a built-in, a function or a type -/
theorem pe_bi {X : Cx} {b : BI} {x : Str} {e : Expr} {es : List Expr} {p pos : Pos} {t : TA} (hc : CallR X (pyBI b) (rBI X.K X.w b)) (hg : Gl X x) (hm : X.mg x = none) (hv : bootBuiltins x = some (pyBI b)) (ha : PA X (e :: es) t) (hn : x ≠ "__name__")
    (hd : (x == ("__debug__" : Str)) = false) (hs : (e :: es).all notStar = true) : PE X (.Call (.Name x p) (e :: es) [] pos) (tCB (rBI X.K X.w b) t) := by
  rw [List.all_cons, Bool.and_eq_true] at hs
  cases b <;> first
    | exact pe_callB hc hg hm hv ha hn hd (star_cons hs.1) (star_any hs.2)
    | exact pe_callTy hc hg hm hv ha hn hd (star_cons hs.1) (star_any hs.2)
theorem tE_mono {W : WX} {ev : Env → Sto → Res EV} {σ : St} {H : Hp} {Q Q' : VK} (h : tE g W ev σ H Q) (w : ∀ v H, Q v H → Q' v H) : tE g W ev σ H Q' := by
  obtain ⟨ρ, st, env, S, N, L⟩ := h
  refine ⟨ρ, st, env, S, N, ?_⟩
  cases e : ev env st with
  | ok r s => rw [e] at L; exact fun ρ' H' E' S' v hv => w v H' (L ρ' H' E' S' v hv)
  | exc c x s => rw [e] at L; exact L
  | stk => rw [e] at L; exact L
theorem few_lt {X : Cx} {e : Expr} {es : List Expr} {p : Pos} (h : (e :: es).all notStar = true) (hn : (e :: es).length < 30) :
    ((backTo p (starEach (e :: es) X.env)).all (fun x => !x.1) && (backToKw p (keywordEach [] X.env)).all (fun x => x.1.isSome) && decide ((e :: es).length + ([] : List Keyword).length + (if ([] : List Keyword).isEmpty then 0 else 1) < 30)) = true := by
  rw [star_all h]
  show (true && true && decide ((e :: es).length + 0 + 0 < 30)) = true
  simpa using hn
theorem pe_me {X : Cx} {m : ME} {o : Expr} {es : List Expr} {to : TE} {t : TA} {apos pos : Pos} (hm : meOk m es.length = true) (ho : PE X o to) (ha : PA X es t) (hs : es.all notStar = true) (hb : notSuper o = true) (hl : (apos.endLine == pos.line) = true) (hn : es.length < 30)
    (h0 : es ≠ []) : PE X (.Call (.Attribute o (meN m : Str) apos) es [] pos) (tBMG (meTyV X.K m) (rME X.K m) to t) := by
  cases es with
  | nil => exact absurd rfl h0
  | cons e es =>
    have hs' := hs
    rw [List.all_cons, Bool.and_eq_true] at hs'
    cases m with
    | append => exact pe_bmG PySem.F.plainAttrs_list PySem.F.slot_list_append PySem.F.type_list_append tyB mt_append ho ha (base_of hb) (few_lt hs hn) hl (star_cons hs'.1) (star_any hs'.2)
    | extend => exact pe_bmG PySem.F.plainAttrs_list PySem.F.slot_list_extend PySem.F.type_list_extend tyB mt_extend ho ha (base_of hb) (few_lt hs hn) hl (star_cons hs'.1) (star_any hs'.2)
    | index => exact pe_bmG PySem.F.plainAttrs_tuple PySem.F.slot_tuple_index PySem.F.type_tuple_index tyN mt_tup_index ho ha (base_of hb) (few_lt hs hn) hl (star_cons hs'.1) (star_any hs'.2)
    | pop => simp [meOk] at hm
    | insert => simp [meOk] at hm
    | get => simp [meOk] at hm
    | setdefault => simp [meOk] at hm
    | add => simp [meOk] at hm
theorem m1_of {X : Cx} {o e : Expr} {m : Str} {apos pos : Pos} (h1 : notSuper o = true) (h2 : (apos.endLine == pos.line) = true) (h3 : notStar e = true) : M1 X o m apos e pos where
  base := base_of h1
  few := few_lt (by rw [List.all_cons, h3]; rfl) (by simp)
  line := h2
  trees := by rw [star_cons h3]; rfl
theorem m2_of {X : Cx} {o e f : Expr} {m : Str} {apos pos : Pos} (h1 : notSuper o = true) (h2 : (apos.endLine == pos.line) = true) (h3 : notStar e = true) (h4 : notStar f = true) : M2 X o m apos e f pos where
  base := base_of h1
  few := few_lt (by rw [List.all_cons, List.all_cons, h3, h4]; rfl) (by simp)
  line := h2
  trees := by rw [star_cons h3, star_cons h4]; rfl
/-- a test by an expression that gives a truth value -/
theorem t_bl {W : WX} {ev : Env → Sto → Res EV} {σ : St} {H : Hp} {Q : Bool → Hp → Prop} (hb : ∀ env s r s', ev env s = .ok r s' → ∃ k, r = bl k) (h : tT g W (fun env s => tst (ev env s)) σ H Q) : tE g W ev σ H fun x H1 => ∃ c, x = .bl c ∧ Q c H1 := by
  obtain ⟨ρ, st, env, S, N, L⟩ := h
  refine ⟨ρ, st, env, S, N, ?_⟩
  dsimp only at L
  cases e : ev env st with
  | exc c x s => rw [e] at L; exact L
  | stk => rw [e] at L; exact L
  | ok r s =>
    obtain ⟨k, rfl⟩ := hb _ _ _ _ e
    rw [e, tst_bl] at L
    exact fun ρ' H' E' S' v hv => ⟨k, ER.bl_inv hv, L ρ' H' E' S'⟩
theorem din_bl {a b : MX} {env : Env} {s s' : Sto} {r : EV} (h : evE P C (.din a b) env s = .ok r s') : ∃ k, r = bl k := by
  obtain ⟨x, s1, _, e2⟩ := bind_ok (by simpa only [evE] using h)
  obtain ⟨y, s2, _, e4⟩ := bind_ok e2
  split at e4
  · cases e4; exact ⟨_, rfl⟩
  · cases e4
theorem dnin_bl {a b : MX} {env : Env} {s s' : Sto} {r : EV} (h : evE P C (.dnin a b) env s = .ok r s') : ∃ k, r = bl k := by
  obtain ⟨x, s1, _, e2⟩ := bind_ok (by simpa only [evE] using h)
  obtain ⟨y, s2, _, e4⟩ := bind_ok e2
  split at e4
  · cases e4; exact ⟨_, rfl⟩
  · cases e4
theorem ckKeys_len : ∀ {ks : List (List Nat)} {es : List (Option Expr)}, ckKeys ks es = true → ks.length = es.length
  | [], [], _ => rfl
  | [], _ :: _, h => by simp [ckKeys] at h
  | _ :: _, [], h => by simp [ckKeys] at h
  | k :: ks, e :: es, h => by
    unfold ckKeys at h
    split at h
    · rename_i h1 h2; cases h1
    · rename_i k' ks' x q p es' h1 h2
      cases h1; cases h2
      rw [Bool.and_eq_true] at h
      exact congrArg (· + 1) (ckKeys_len h.2)
    · cases h
theorem ckL_len : ∀ {ms : MXs} {k : Sk} {xs : List Expr}, ckL T ms k xs = true → ms.len = xs.length
  | .nil, k, xs, h => by rw [ck_lnil h]; rfl
  | .cons e r, k, xs, h => by
    obtain ⟨x, xs, rfl, _, _, h3⟩ := ck_lcons h
    exact congrArg (· + 1) (ckL_len h3)
mutual
theorem E_ok : ∀ (m : MX) {X : Cx} {k : Sk} {W : WX} {e : Expr}, ckE T m k e = true → Fit g P C T X k → Takes X W → PE X e (tE g W (evE P C m)) ∧ PT X e (tT g W fun env s => tst (evE P C m env s))
  | .var i, X, k, W, e, h, F, tk => by
    obtain ⟨x, p, rfl, h1⟩ := ck_var h
    obtain ⟨q1, q2, q3, q4⟩ := F.var h1
    exact both F.K (PE.weak (pe_var q1 q2 q3 q4) fun _ _ _ => r_var)
  | .lit v, X, k, W, e, h, F, tk => by
    obtain ⟨x, q, p, rfl, h1⟩ := ck_lit h
    obtain ⟨w, hw, hr⟩ := lit_ok (X := X) (q := q) (p := p) h1
    exact both F.K (PE.weak hw fun _ _ _ => r_lit (hr _))
  | .glb j, X, k, W, e, h, F, tk => by
    obtain ⟨x, p, rfl, h1, h2⟩ := ck_glb h
    obtain ⟨q1, q2, q3⟩ := F.gl h2
    refine both F.K ?_
    by_cases c : ∃ m, P.glob[j]? = some (some m)
    · obtain ⟨m, hm⟩ := c
      obtain ⟨x', v, u, e1, e2, e3, e4⟩ := F.gls j m hm
      rw [h1] at e1; cases e1
      exact PE.weak (pe_glob q1 e2 e3 q2) fun _ _ _ => r_glb hm e4
    · exact ⟨fun pins s σ H Q I q => (r_glbN (fun m hm => c ⟨m, hm⟩) q).elim⟩
  | .tup es, X, k, W, e, h, F, tk => by
    obtain ⟨xs, q, p, rfl, h1⟩ := ck_tup h
    exact both F.K (PE.weak (pe_tupN (L_ok es h1 F tk)) fun _ _ _ => r_tup)
  | .lst es, X, k, W, e, h, F, tk => by
    obtain ⟨xs, p, rfl, h1⟩ := ck_lst h
    exact both F.K (PE.weak (pe_lst (L_ok es h1 F tk)) fun _ _ _ => r_lst)
  | .bin op a b, X, k, W, e, h, F, tk => by
    obtain ⟨x, o, y, p, rfl, rfl, h1, h2⟩ := ck_bin h
    have := pe_op (pos := p) (binop_rule op) (E_ok a h1 F tk).1 (E_ok b h2 F tk).1
    rw [F.K] at this
    exact both F.K (PE.weak this fun _ _ _ => r_bin)
  | .cmp op a b, X, k, W, e, h, F, tk => by
    obtain ⟨x, o, y, p, rfl, rfl, h0, h1, h2⟩ := ck_cmp h
    have ha := (E_ok a h1 F tk).1
    have hb := (E_ok b h2 F tk).1
    have q1 := pe_cmpR (pos := p) (cmpop_rule op F.hu) ha hb (mark_of h0)
    have q2 := pt_cmpR (pos := p) (cmpop_rule op F.hu) ha hb (mark_of h0)
    rw [F.K] at q1 q2
    exact ⟨PE.weak q1 fun _ _ _ => r_cmp, PT.weak q2 fun _ _ _ => t_cmp⟩
  | .chn o1 o2 a b c, X, k, W, e, h, F, tk => by
    obtain ⟨x, p1, p2, y, z, p, rfl, rfl, rfl, h0, h0', h1, h2, h3⟩ := ck_chn h
    have ha := (E_ok a h1 F tk).1
    have hb := (E_ok b h2 F tk).1
    have hc := (E_ok c h3 F tk).1
    have q1 := pe_chain (pos := p) (cmpop_rule o1 F.hu) (cmpop_rule o2 F.hu) ha hb hc (mark_of h0')
    have q2 := pt_chain (pos := p) (cmpop_rule o1 F.hu) (cmpop_rule o2 F.hu) ha hb hc (mark_of h0')
    rw [F.K] at q1 q2
    exact ⟨PE.weak q1 fun _ _ _ => r_chn, PT.weak q2 fun _ _ _ => t_chn⟩
  | .and a b, X, k, W, e, h, F, tk => by
    obtain ⟨x, y, r, p, rfl, h1, h2⟩ := ck_and h
    have ha := E_ok a h1 F tk
    have hb : PE X (.BoolOp .And (y :: r) p) (tE g W (evE P C b)) ∧ PW X (.BoolOp .And (y :: r) p) (tT g W fun env s => tst (evE P C b env s)) := by
      rcases h2 with ⟨rfl, h2⟩ | ⟨_, h2⟩
      · exact ⟨pe_one (E_ok b h2 F tk).1, pw_and1 (E_ok b h2 F tk).2⟩
      · exact ⟨(E_ok b h2 F tk).1, pw_bool (E_ok b h2 F tk).2⟩
    have q1 := pe_andT ha.1 hb.1
    rw [F.K] at q1
    exact ⟨PE.weak q1 fun _ _ _ => r_and, PT.weak (pw_and ha.2 hb.2).pt fun _ _ _ => t_and⟩
  | .or a b, X, k, W, e, h, F, tk => by
    obtain ⟨x, y, r, p, rfl, h1, h2⟩ := ck_or h
    have ha := E_ok a h1 F tk
    have hb : PE X (.BoolOp .Or (y :: r) p) (tE g W (evE P C b)) ∧ PW X (.BoolOp .Or (y :: r) p) (tT g W fun env s => tst (evE P C b env s)) := by
      rcases h2 with ⟨rfl, h2⟩ | ⟨_, h2⟩
      · exact ⟨pe_one (E_ok b h2 F tk).1, pw_or1 (E_ok b h2 F tk).2⟩
      · exact ⟨(E_ok b h2 F tk).1, pw_bool (E_ok b h2 F tk).2⟩
    have q1 := pe_orT ha.1 hb.1
    rw [F.K] at q1
    exact ⟨PE.weak q1 fun _ _ _ => r_or, PT.weak (pw_or ha.2 hb.2).pt fun _ _ _ => t_or⟩
  | .not a, X, k, W, e, h, F, tk => by
    obtain ⟨x, p, rfl, h1⟩ := ck_not h
    have q1 := pe_notT (pos := p) (E_ok a h1 F tk).1
    rw [F.K] at q1
    exact ⟨PE.weak q1 fun _ _ _ => r_not, PT.weak (pt_not (E_ok a h1 F tk).2) fun _ _ _ => t_not⟩
  | .neg a, X, k, W, e, h, F, tk => by
    obtain ⟨x, p, rfl, h1⟩ := ck_neg h
    exact both F.K (PE.weak (pe_un un_neg (E_ok a h1 F tk).1) fun _ _ _ => r_neg)
  | .ite c a b, X, k, W, e, h, F, tk => by
    obtain ⟨z, x, y, p, rfl, h1, h2, h3⟩ := ck_ite h
    have hc := E_ok c h1 F tk
    have ha := E_ok a h2 F tk
    have hb := E_ok b h3 F tk
    exact ⟨PE.weak (pe_ifExp hc.2 ha.1 hb.1) fun _ _ _ => r_ite, PT.weak (pt_ifExp hc.2 ha.2 hb.2) fun _ _ _ => t_ite⟩
  | .ix a b, X, k, W, e, h, F, tk => by
    obtain ⟨x, y, p, rfl, h0, h1, h2⟩ := ck_ix h
    have q := pe_ix (pos := p) ix_seq (E_ok a h1 F tk).1 (E_ok b h2 F tk).1 (ix_of h0)
    rw [F.K] at q
    exact both F.K (PE.weak q fun _ _ _ => r_ix)
  | .slf a b, X, k, W, e, h, F, tk => by
    obtain ⟨x, y, q, p, rfl, h1, h2⟩ := ck_slf h
    have := pe_slice (pos := p) (p2 := q) sl_rule (E_ok a h1 F tk).1 (po_some (E_ok b h2 F tk).1) po_none
    rw [F.K] at this
    exact both F.K (PE.weak this fun _ _ _ => r_slf)
  | .slt a b, X, k, W, e, h, F, tk => by
    obtain ⟨x, y, q, p, rfl, h1, h2⟩ := ck_slt h
    have := pe_slice (pos := p) (p2 := q) sl_rule (E_ok a h1 F tk).1 po_none (po_some (E_ok b h2 F tk).1)
    rw [F.K] at this
    exact both F.K (PE.weak this fun _ _ _ => r_slt)
  | .slb a b c, X, k, W, e, h, F, tk => by
    obtain ⟨x, y, z, q, p, rfl, h1, h2, h3⟩ := ck_slb h
    have := pe_slice (pos := p) (p2 := q) sl_rule (E_ok a h1 F tk).1 (po_some (E_ok b h2 F tk).1) (po_some (E_ok c h3 F tk).1)
    rw [F.K] at this
    exact both F.K (PE.weak this fun _ _ _ => r_slb)
  | .call f es, X, k, W, e, h, F, tk => by
    obtain ⟨x, q, xs, p, rfl, h1, h2, h3⟩ := ck_call h
    obtain ⟨q1, q2, q3⟩ := F.gl h2
    obtain ⟨hm, hF⟩ := F.fns f x h1
    obtain ⟨j, fd, ps, F', hr, hb⟩ := hF.ex
    have hs := nostar_all h3
    refine both F.K ?_
    cases xs with
    | nil =>
      cases es with
      | cons e r => obtain ⟨_, _, c, _⟩ := ck_lcons h3; cases c
      | nil => exact PE.weak (pe_call0S F' hr q1 hm hF.kp hb (fun σ => passAt tk σ) q2) fun σ H Q hh => tL_nil (r_call hh)
    | cons y xs =>
      rw [List.all_cons, Bool.and_eq_true] at hs
      exact PE.weak (pe_callS F' hr q1 hm hF.kp hb (fun σ => passAt tk σ) (L_ok es h3 F tk) q2 (star_cons hs.1) (star_any hs.2)) fun _ _ _ => r_call
  | .cv i es, X, k, W, e, h, F, tk => by
    obtain ⟨x, q, y, xs, p, rfl, h1, h2⟩ := ck_cv h
    obtain ⟨q1, q2, q3, q4⟩ := F.var h1
    refine both F.K (PE.weak (pe_locS (E := WE W) q1 q2 (fun σ => passAt tk σ) (L_ok es h2 F tk) q3 q4 (nostar_all h2)) fun _ _ _ => r_cv fun f hf => ?_)
    obtain ⟨kp, j, fd, ps, F', hr, hb⟩ := F.fnv f hf
    exact ⟨kp, j, fd, ps, F', hr, hb⟩
  | .bi b es, X, k, W, e, h, F, tk => by
    obtain ⟨x, q, y, xs, p, rfl, rfl, h1, h2⟩ := ck_bi h
    obtain ⟨q1, q2, q3⟩ := F.gl h1
    have := pe_bi (p := q) (pos := p) (bi_rule F.calm F.hd F.hu b) q1 (F.bln (bltn_mem b)) (boot_bi b) (L_ok es h2 F tk) q3 q2 (nostar_all h2)
    rw [F.K, F.w] at this
    exact both F.K (PE.weak this fun _ _ _ => r_bi)
  | .isi a t, X, k, W, e, h, F, tk => by
    obtain ⟨x, q, y, z, r, p, rfl, rfl, h1, rfl, h2, h3, h4⟩ := ck_isi h
    obtain ⟨q1, q2, q3⟩ := F.gl h1
    obtain ⟨r1, r2, r3⟩ := F.gl h2
    have hp : PA X [y, .Name (tyN_ t : Str) r] (tCons (tE g W (evE P C a)) (tCons (tC (.ty (tyN_ t))) tNil)) :=
      pa_cons (E_ok a h4 F tk).1 (pa_cons (pe_bltn r1 (F.bln (ty_mem t)) (boot_ty t) rfl r3 r2) pa_nil (star_cons rfl)) (star_cons h3)
    have := pe_callB (p := q) (pos := p) (isi_rule t) q1 (F.bln (by decide)) PyProof.Rows.boot_isinstance hp q3 q2 (star_cons h3) rfl
    rw [F.K] at this
    exact both F.K (PE.weak this fun _ _ _ => r_isi)
  | .mk c es, X, k, W, e, h, F, tk => by
    obtain ⟨x, q, xs, p, rfl, h1, h2, h3⟩ := ck_mk h
    obtain ⟨q1, q2, q3⟩ := F.gl h2
    refine both F.K ?_
    cases hf : P.init c with
    | none =>
      refine ⟨fun pins s σ H Q I hh => ?_⟩
      obtain ⟨ρ, st, env, S, N, L⟩ := hh
      simp only [evE, hf] at L
      exact False.elim L
    | some f =>
      obtain ⟨hm, M, hF⟩ := F.cls c f x h1 hf
      obtain ⟨j, fd, ps, F', hr, hb⟩ := hF.ex
      have hs := nostar_all h3
      cases xs with
      | nil =>
        cases es with
        | cons e r => obtain ⟨_, _, c, _⟩ := ck_lcons h3; cases c
        | nil => exact PE.weak (pe_make0 M F' hr q1 hm hb .nil passL q2) fun σ H Q hh => tL_nil (r_mk hf hh)
      | cons y xs =>
        rw [List.all_cons, Bool.and_eq_true] at hs
        exact PE.weak (pe_make M F' hr q1 hm hb .nil passL (L_ok es h3 F tk) q2 (star_cons hs.1) (star_any hs.2)) fun _ _ _ => r_mk hf
  | .um m o es, X, k, W, e, h, F, tk => by
    obtain ⟨y, nm, q, xs, p, rfl, h1, h2, h3, h4, h5, h6⟩ := ck_um h
    refine both F.K ?_
    have hM : ∀ c f, P.meth c m = some f → MethF X (L2.CX X.prog X.w) nm (g.clA c) (spM g C f) ∧ ∀ i, g.fld i ≠ nm := fun c f hc => by
      obtain ⟨q1, q2⟩ := F.mth c m f nm hc h1
      rw [F.fdx] at q2
      exact ⟨q1, q2⟩
    cases xs with
    | nil =>
      cases es with
      | cons e r => obtain ⟨_, _, c, _⟩ := ck_lcons h6; cases c
      | nil =>
        refine PE.weak (pe_meth0S (CX := L2.CX X.prog X.w) (E := WE W) (E_ok o h5 F tk).1 (fun σ => passAt tk σ) h2 h3) fun σ H Q hh => ?_
        exact tE_mono (r_um (X := X) hM hh) fun v H1 ⟨a, D, dx, fs, sp, q1, q2, q3, q4, q5⟩ => ⟨a, D, dx, fs, sp, q1, q2, q3, q4, tL_nil q5⟩
    | cons z xs => exact PE.weak (pe_methS (E := WE W) (E_ok o h5 F tk).1 (fun σ => passAt tk σ) (L_ok es h6 F tk) (nostar_all h6) h2 h3 h4) fun _ _ _ => r_um hM
  | .me m o es, X, k, W, e, h, F, tk => by
    obtain ⟨y, nm, q, xs, p, rfl, rfl, h0, h1, h2, h3, h4, h5⟩ := ck_me h
    refine both F.K ?_
    cases xs with
    | nil =>
      cases es with
      | cons e r => obtain ⟨_, _, c, _⟩ := ck_lcons h5; cases c
      | nil =>
        cases m <;> first | (simp [meOk] at h0; done) | skip
        have := pe_bm0 (cpos := p) PySem.F.plainAttrs_list PySem.F.slot_list_pop PySem.F.type_list_pop mt_pop (E_ok o h4 F tk).1 (base_of h1) h2
        rw [F.K] at this
        exact PE.weak this fun σ H Q hh => tE_mono (r_me hh) fun v H1 ⟨w1, w2⟩ => ⟨w1, tL_nil w2⟩
    | cons z xs =>
      have := pe_me (pos := p) (apos := q) h0 (E_ok o h4 F tk).1 (L_ok es h5 F tk) (nostar_all h5) h1 h2 h3 (by simp)
      rw [F.K] at this
      exact PE.weak this fun _ _ _ => r_me
  | .fld o x, X, k, W, e, h, F, tk => by
    obtain ⟨y, nm, p, rfl, rfl, hnf, h1, h2⟩ := ck_fld h
    have := pe_fld (f := T.fd x) (pos := p) (E_ok o h2 F tk).1 (base_of h1)
    rw [F.K, F.fdx] at this
    rw [F.fdx]
    refine both F.K (PE.weak this fun _ _ _ => r_fld (fun i j q => F.fdj i j (by rw [F.fdx]; exact q)) fun c hc => ?_)
    obtain ⟨w1, w2⟩ := F.fds c hc
    rw [F.K] at w1 w2
    rw [F.fdx] at w2
    exact ⟨w1, w2 x hnf⟩
  | .lc a tg it cs own, X, k, W, e, h, F, tk => by
    obtain ⟨x, tx, ix, ifs, n, scope, p, rfl, rfl, h1, h2, h3, h4, h5, h6, h7, h8⟩ := ck_lc h
    have ok : BlkOk X.N X.env.scope scope (ownP k own) := by rw [F.N, F.sc]; exact blkOk_by h1
    have hp := pair_of h6
    have hi := I_ok it (tx := tx) h2 F tk (fun q => tgt_tup h4 (hp q))
    have := pe_lc (pos := p) F.calm F.nd hi ok (fun s H D cl fp => tgt_ok (F.blk scope s H D cl fp) h4) (fun s H D cl fp => C_ok cs h8 (F.blk scope s H D cl fp) takes0) (fun s H D cl fp => (E_ok a h7 (F.blk scope s H D cl fp) takes0).1) (fold_of h3)
    rw [ownP_ix] at this
    exact both F.K (PE.weak this fun _ _ _ => lc_read (own_of h5) hp)
  | .lc2 a tg it cs tg2 it2 cs2 own own2, X, k, W, e, h, F, tk => by
    obtain ⟨x, tx, ix, ifs, n, tx2, ix2, ifs2, n2, scope, p, rfl, rfl, rfl, h1, h2, h3, h4, h5, h6, h7, h8, g1, g2, g3, g4, g5, g6, g7⟩ := ck_lc2 h
    have ok : BlkOk X.N X.env.scope scope (ownP k own) := by rw [F.N, F.sc]; exact blkOk_by h1
    have hp := pair_of h6
    have hp2 := pair_of g5
    have hi := I_ok it (tx := tx) h2 F tk (fun q => tgt_tup h4 (hp q))
    have hv : ∀ i ∈ own2, i ∈ (ownP k own).map (·.2) := fun i hi => by
      rw [ownP_ix]
      exact of_decide_eq_true (List.all_eq_true.mp g7 i hi)
    have := pe_lc2 (pos := p) (vs1 := own2) F.calm F.nd hi ok hv (fun s H D cl fp => tgt_ok (F.blk scope s H D cl fp) h4) (fun s H D cl fp => C_ok cs h8 (F.blk scope s H D cl fp) takes0)
      (fun s H D cl fp => I_ok it2 (tx := tx2) g1 (F.blk scope s H D cl fp) takes0 (fun q => tgt_tup g3 (hp2 q))) (fun s H D cl fp => tgt_ok (F.blk scope s H D cl fp) g3) (fun s H D cl fp => C_ok cs2 g6 (F.blk scope s H D cl fp) takes0)
      (fun s H D cl fp => (E_ok a h7 (F.blk scope s H D cl fp) takes0).1) (fold_of h3) (fun env => fold_of g2)
    rw [ownP_ix] at this
    exact both F.K (PE.weak this fun _ _ _ => lc2_read (own_of h5) hp (own_of g4) hp2)
  | .dcp a b tg it cs own, X, k, W, e, h, F, tk => by
    obtain ⟨x, y, tx, ix, ifs, n, scope, p, rfl, rfl, h1, h2, h3, h4, h5, h6, h7, h8, h9⟩ := ck_dcp h
    have ok : BlkOk X.N X.env.scope scope (ownP k own) := by rw [F.N, F.sc]; exact blkOk_by h1
    have hp := pair_of h6
    have hi := I_ok it (tx := tx) h2 F tk (fun q => tgt_tup h4 (hp q))
    have := pe_dc (pos := p) F.calm F.nd hi ok (fun s H D cl fp => tgt_ok (F.blk scope s H D cl fp) h4) (fun s H D cl fp => C_ok cs h9 (F.blk scope s H D cl fp) takes0) (fun s H D cl fp => (E_ok a h7 (F.blk scope s H D cl fp) takes0).1)
      (fun s H D cl fp => (E_ok b h8 (F.blk scope s H D cl fp) takes0).1) (fold_of h3)
    rw [ownP_ix] at this
    exact both F.K (PE.weak this fun _ _ _ => dc_read (own_of h5) hp)
  | .lock i a, X, k, W, e, h, F, tk => by
    obtain ⟨h1, h2⟩ := ck_lock h
    exact both F.K (PE.weak (pe_lock (E_ok a h2 F tk).1) fun _ _ _ => r_lock) h1
  | .dix a b, X, k, W, e, h, F, tk => by
    obtain ⟨x, y, p, rfl, h0, h1, h2⟩ := ck_dix h
    exact both F.K (PE.weak (pe_dget (pos := p) (Nat.lt_of_le_of_lt (Nat.add_le_add_left (by decide : 1 ≤ 200) _) F.hu) (E_ok a h1 F tk).1 (E_ok b h2 F tk).1 (ix_of h0)) fun _ _ _ => r_dix)
  | .dg1 a b, X, k, W, e, h, F, tk => by
    obtain ⟨x, nm, q, y, p, rfl, rfl, h1, h2, h3, h4, h5⟩ := ck_dg1 h
    exact both F.K (PE.weak (pe_dget1 (Nat.lt_of_le_of_lt (Nat.add_le_add_left (by decide : 1 ≤ 200) _) F.hu) (E_ok a h4 F tk).1 (E_ok b h5 F tk).1 (m1_of h1 h2 h3)) fun _ _ _ => r_dg1)
  | .dg2 a b c, X, k, W, e, h, F, tk => by
    obtain ⟨x, nm, q, y, z, p, rfl, rfl, h1, h2, h3, h4, h5, h6, h7⟩ := ck_dg2 h
    exact both F.K (PE.weak (pe_dget2 (Nat.lt_of_le_of_lt (Nat.add_le_add_left (by decide : 1 ≤ 200) _) F.hu) (E_ok a h5 F tk).1 (E_ok b h6 F tk).1 (E_ok c h7 F tk).1 (m2_of h1 h2 h3 h4)) fun _ _ _ => r_dg2)
  | .din a b, X, k, W, e, h, F, tk => by
    obtain ⟨x, y, p, rfl, h0, h1, h2⟩ := ck_din h
    have hu : X.A.units + 1 < cLine := Nat.lt_of_le_of_lt (Nat.add_le_add_left (by decide : 1 ≤ 200) _) F.hu
    have pc := pc_din hu (E_ok a h1 F tk).1 (E_ok b h2 F tk).1
    exact ⟨PE.weak (pe_cmp (pos := p) pc (mark_of h0)) fun _ _ _ => r_din, PT.weak (pt_cmp (pos := p) pc (mark_of h0)) fun _ _ _ q => r_din (t_bl (fun _ _ _ _ e => din_bl e) q)⟩
  | .dnin a b, X, k, W, e, h, F, tk => by
    obtain ⟨x, y, p, rfl, h0, h1, h2⟩ := ck_dnin h
    have hu : X.A.units + 1 < cLine := Nat.lt_of_le_of_lt (Nat.add_le_add_left (by decide : 1 ≤ 200) _) F.hu
    have pc := pc_dnotin hu (E_ok a h1 F tk).1 (E_ok b h2 F tk).1
    exact ⟨PE.weak (pe_cmp (pos := p) pc (mark_of h0)) fun _ _ _ => r_dnin, PT.weak (pt_cmp (pos := p) pc (mark_of h0)) fun _ _ _ q => r_dnin (t_bl (fun _ _ _ _ e => dnin_bl e) q)⟩
  | .dsp ks vs, X, k, W, e, h, F, tk => by
    obtain ⟨keys, values, p, rfl, h1, h2, h3, h4⟩ := ck_dsp h
    have l1 := ckKeys_len h1
    have l2 := ckL_len h4
    have hl : ks.length = vs.len := by omega
    have D := D_ok vs (pos := p) ks keys values h1 h4 (by omega) F tk
    refine both F.K ?_
    cases keys with
    | nil =>
      cases ks with
      | cons _ _ => cases l1
      | nil =>
        cases vs with
        | cons _ _ => cases hl
        | nil =>
          cases values with
          | cons _ _ => cases h2
          | nil => exact PE.weak pe_dnewK fun _ _ _ => r_dsp0
    | cons o os =>
      have hall : (o :: os).all (·.isSome) = true := by
        have : ∀ {ks : List (List Nat)} {es : List (Option Expr)}, ckKeys ks es = true → es.all (·.isSome) = true := by
          intro ks es
          induction es generalizing ks with
          | nil => intro _; rfl
          | cons o es ih =>
            intro h
            cases ks with
            | nil => simp [ckKeys] at h
            | cons q ks =>
              unfold ckKeys at h
              split at h
              · rename_i g1 g2; cases g2
              · rename_i q' ks' y qq p es' g1 g2
                cases g1; cases g2
                rw [Bool.and_eq_true] at h
                rw [List.all_cons, ih h.2]; rfl
              · cases h
        exact this h1
      exact PE.weak (pe_disp D hall h2 (by simp) h3) fun _ _ _ => r_dsp hl
  | .dadd d q v, X, k, W, e, h, F, tk => by
    obtain ⟨x, xq, y, yq, o, nm, apos, cpos, lpos, op, u, w, tk1, tp, lp, bp, p, rfl, rfl, rfl, rfl, rfl, h1, h2, h3, h4, h5, h6, h7, h8, h9⟩ := ck_dadd h
    obtain ⟨q1, q2, q3⟩ := F.gl h1
    obtain ⟨r1, r2, r3⟩ := F.gl h2
    refine both F.K ?_
    have hi := LiI.pe_listItems (X := X) (p := yq) (apos := apos) (cpos := cpos) (pos := lpos) F.calm (E_ok d h7 F tk).1 r1 (F.bln (by decide)) PyProof.Rows.boot_list (base_of h3) h4 (star_cons rfl)
    have ht : PA X [u, w] (tCons (tE g W (evE P C q)) (tCons (tE g W (evE P C v)) tNil)) := pa_cons (E_ok q h8 F tk).1 (pa_cons (E_ok v h9 F tk).1 pa_nil (star_cons h6)) (star_cons h5)
    have hls := pe_lst (pos := lp) (pa_cons (pe_tupN (k := tk1) (pos := tp) ht) pa_nil rfl)
    have hb := pe_op (pos := bp) (binop_rule .add) hi hls
    have := pe_bi (b := .dict) (p := xq) (pos := p) (bi_rule F.calm F.hd F.hu .dict) q1 (F.bln (by decide)) PyProof.Rows.boot_dict (pa_cons hb pa_nil rfl) q3 q2 rfl
    rw [F.K, F.w] at this
    exact PE.weak this fun _ _ _ => r_dadd
  | .dic _ _, X, k, W, e, h, F, tk => by simp only [ckE] at h; cases h
  | .fst _, X, k, W, e, h, F, tk => by simp only [ckE] at h; cases h
theorem D_ok : ∀ (vs : MXs) {X : Cx} {k : Sk} {W : WX} {pos : Pos} (ks : List (List Nat)) (es : List (Option Expr)) (xs : List Expr), ckKeys ks es = true → ckL T vs k xs = true → ks.length = xs.length → Fit g P C T X k → Takes X W → PPs X pos es xs (dspT g W P C ks vs)
  | .nil, X, k, W, pos, ks, es, xs, h1, h2, hl, F, tk => by
    have := ck_lnil h2
    subst this
    cases ks with
    | cons _ _ => cases hl
    | nil =>
      cases es with
      | cons _ _ => have := ckKeys_len h1; cases this
      | nil => exact pps_nil
  | .cons e r, X, k, W, pos, ks, es, xs, h1, h2, hl, F, tk => by
    obtain ⟨x, xs, rfl, _, h3, h4⟩ := ck_lcons h2
    cases ks with
    | nil => cases hl
    | cons q ks =>
      cases es with
      | nil => have := ckKeys_len h1; cases this
      | cons o es =>
        unfold ckKeys at h1
        split at h1
        · rename_i g1 g2; cases g1
        · rename_i q' ks' y qq p es' g1 g2
          cases g1; cases g2
          simp only [Bool.and_eq_true, decide_eq_true_eq] at h1
          obtain ⟨rfl, h1⟩ := h1
          exact pps_cons pe_str (E_ok e h3 F tk).1 (D_ok r ks es xs h1 h4 (Nat.succ.inj hl) F tk)
        · cases h1
theorem L_ok : ∀ (ms : MXs) {X : Cx} {k : Sk} {W : WX} {es : List Expr}, ckL T ms k es = true → Fit g P C T X k → Takes X W → PA X es (tL g W (evL P C ms))
  | .nil, X, k, W, es, h, F, tk => by
    rw [ck_lnil h]
    exact PA.weak pa_nil fun _ _ _ => tL_nil
  | .cons e r, X, k, W, es, h, F, tk => by
    obtain ⟨x, xs, rfl, h1, h2, h3⟩ := ck_lcons h
    exact PA.weak (pa_cons (E_ok e h2 F tk).1 (L_ok r h3 F tk) (star_cons h1)) fun _ _ _ => tL_cons
theorem C_ok : ∀ (cs : MXs) {X : Cx} {k : Sk} {W : WX} {ifs : List Expr}, ckC T cs k ifs = true → Fit g P C T X k → Takes X W → PTs X ifs (tT g W (evC P C cs))
  | .nil, X, k, W, ifs, h, F, tk => by
    rw [ck_cnil h]
    refine PTs.weak pts_nil fun σ H Q hh => ?_
    obtain ⟨ρ, st, env, S, N, L⟩ := hh
    simp only [evC] at L
    exact L ρ H Ext.refl S
  | .cons e .nil, X, k, W, ifs, h, F, tk => by
    obtain ⟨x, rfl, h1⟩ := ck_cone h
    refine PTs.weak (pts_one (E_ok e h1 F tk).2) fun σ H Q hh => ?_
    obtain ⟨ρ, st, env, S, N, L⟩ := hh
    simp only [evC] at L
    exact ⟨ρ, st, env, S, N, L⟩
  | .cons a (.cons b r), X, k, W, ifs, h, F, tk => (ck_ctwo h).elim
theorem I_ok : ∀ (it : MI) {X : Cx} {k : Sk} {W : WX} {tx ix : Expr}, ckI T it k ix = true → Fit g P C T X k → Takes X W → (it.pair = true → ∃ es q p, tx = .Tuple es q p) → PI X tx ix (tI g W (evI P C it))
  | .ex a, X, k, W, tx, ix, h, F, tk, hp => by
    have ha := (E_ok a (ck_iex h) F tk).1
    have q := PI.or (pi_list (tg := tx) ha) (PI.or (pi_tup (tg := tx) ha) (pi_str (tg := tx) ha))
    rw [F.K] at q
    exact PI.weak q fun _ _ _ => r_iex
  | .rng es, X, k, W, tx, ix, h, F, tk, hp => by
    obtain ⟨x, q, xs, p, rfl, rfl, h1, h2, h3⟩ := ck_irng h
    obtain ⟨q1, q2, q3⟩ := F.gl h1
    have ha := L_ok es h2 F tk
    have hm : X.mg "range" = none := F.bln (by decide)
    cases es with
    | nil => have := ck_lnil h2; subst this; simp at h3
    | cons e1 r =>
      obtain ⟨y, ys, rfl, s1, _, h4⟩ := ck_lcons h2
      cases r with
      | nil =>
        have := ck_lnil h4; subst this
        exact PI.weak (pi_range1 q1 hm ha (star_cons s1)) fun _ _ _ => r_irng1
      | cons e2 r =>
        obtain ⟨z, zs, rfl, s2, _, h5⟩ := ck_lcons h4
        cases r with
        | nil =>
          have := ck_lnil h5; subst this
          exact PI.weak (pi_range2 q1 hm ha (by rw [star_cons s1, star_cons s2]; rfl) (star_cons s2)) fun _ _ _ => r_irng2
        | cons e3 r =>
          obtain ⟨w, ws, rfl, _, _, _⟩ := ck_lcons h5
          simp at h3
  | .enum a, X, k, W, tx, ix, h, F, tk, hp => by
    obtain ⟨x, q, y, p, rfl, rfl, h1, h2, h3⟩ := ck_ienum h
    obtain ⟨q1, q2, q3⟩ := F.gl h1
    obtain ⟨es, kk, pp, rfl⟩ := hp rfl
    have := pi_enum (p := q) (pos := p) (tpos := pp) (elts := es) (kk := kk) q1 (F.bln (by decide)) (pa_cons (E_ok a h3 F tk).1 pa_nil (star_cons h2)) (star_cons h2)
    rw [F.K] at this
    exact PI.weak this fun _ _ _ => r_ienum
  | .zip a b, X, k, W, tx, ix, h, F, tk, hp => by
    obtain ⟨x, q, y, z, p, rfl, rfl, h1, h2, h2', h3, h4⟩ := ck_izip h
    obtain ⟨q1, q2, q3⟩ := F.gl h1
    obtain ⟨es, kk, pp, rfl⟩ := hp rfl
    have := RZ.pi_zipA (p := q) (pos := p) (tpos := pp) (elts := es) (kk := kk) q1 (F.bln (by decide)) (pa_cons (E_ok a h3 F tk).1 (pa_cons (E_ok b h4 F tk).1 pa_nil (star_cons h2')) (star_cons h2)) (star_cons h2) (star_any (by rw [List.all_cons, h2']; rfl))
    rw [F.K] at this
    exact PI.weak this fun _ _ _ => r_izip
  | .rev a, X, k, W, tx, ix, h, F, tk, hp => by
    obtain ⟨x, q, y, p, rfl, rfl, h1, h2, h3⟩ := ck_irev h
    obtain ⟨q1, q2, q3⟩ := F.gl h1
    have := pi_reversed (tg := tx) (p := q) (pos := p) q1 (F.bln (by decide)) (pa_cons (E_ok a h3 F tk).1 pa_nil (star_cons h2)) (star_cons h2)
    rw [F.K] at this
    exact PI.weak this fun _ _ _ => r_irev
  | .items a, X, k, W, tx, ix, h, F, tk, hp => by
    obtain ⟨x, nm, q, p, rfl, rfl, h1, h2, h3⟩ := ck_iitems h
    obtain ⟨es, kk, pp, rfl⟩ := hp rfl
    exact PI.weak (pi_items (E_ok a h3 F tk).1 (base_of h1) h2) fun _ _ _ => r_iitems
  | .vals a, X, k, W, tx, ix, h, F, tk, hp => by
    obtain ⟨x, nm, q, p, rfl, rfl, h1, h2, h3⟩ := ck_ivals h
    exact PI.weak (pi_values (E_ok a h3 F tk).1 (base_of h1) h2) fun _ _ _ => r_ivals
end
end
end Mn
end
section
set_option autoImplicit false
set_option maxRecDepth 20000
/-! Mn21: statements: the checks; the store is written; readings. -/
namespace Mn
open PySem PySem.Spec L2
def notComp : Expr → Bool
  | .ListComp _ _ _ _ => false
  | .SetComp _ _ _ _ => false
  | .DictComp _ _ _ _ _ => false
  | _ => true
/-- the name is no plain local -/
def badName (k : Sk) : Expr → Bool
  | .Name x _ => decide (k.sc.names.lookup x ≠ some .local)
  | _ => true
/-- no names are stored from the right -/
def noPair (k : Sk) : Expr → Expr → Bool
  | .Tuple ts _ _, .Tuple vs _ _ => ts.any (badName k) || vs.all (foldedForSure 8)
  | .List _ _, _ => false
  | .Starred _ _, _ => false
  | _, _ => true
/-- the store of a comprehension is no swap -/
def noSwap (k : Sk) : Expr → Expr → Bool
  | .Name x _, v => notComp v || badName k (.Name x ⟨0, 0, 0, 0⟩)
  | _, _ => true
/-- .. is one -/
def isSwap (k : Sk) : Expr → Expr → Bool
  | .Name x p, .DictComp _ _ _ scope q => decide (k.sc.names.lookup x = some .local) && (p.line == q.line) && !(scope.names.any fun (n, k) => n == x && (k == .local || k == .cell))
  | .Name x p, .ListComp _ _ scope q => decide (k.sc.names.lookup x = some .local) && (p.line == q.line) && !(scope.names.any fun (n, k) => n == x && (k == .local || k == .cell))
  | _, _ => false
def ckH (T : Tx) (k : Sk) : List (Nat × PV) → List ExceptHandler → Bool
  | [], [] => true
  | (d, v) :: r, .ExceptHandler (some (.Name x _)) none [.Return (some (.Constant c _ _)) _] _ :: hs => decide (T.cl[d]? = some x) && k.gl x && ckLit v c && ckH T k r hs
  | _, _ => false
mutual
def ckS (T : Tx) : MS → Sk → Stmt → Bool
  | .asg t e, k, .Assign [tg] v _ => ckE T e k v && ckT k t tg && ((noSwap k tg v && noPair k tg v) || isSwap k tg v)
  | .par i j a b, k, .Assign [.Tuple [.Name x px, .Name y py] _ _] (.Tuple [u, v] _ _) _ => decide (k.N[i]? = some x) && decide (k.N[j]? = some y) && decide (i ≠ j) && (x != y) && decide (k.sc.names.lookup x = some .local) && decide (k.sc.names.lookup y = some .local) &&
      notStar u && notStar v && (py.line == px.line) && !([u, v].all (foldedForSure 8)) && !([u, v].all (constantsAlone 8)) && ckE T a k u && ckE T b k v
  | .sub o i e, k, .Assign [.Subscript x y _] v _ => notSlice y && notComp v && ckE T e k v && ckE T o k x && ckE T i k y
  | .dsub o i e, k, .Assign [.Subscript x y _] v _ => notSlice y && notComp v && ckE T e k v && ckE T o k x && ckE T i k y
  | .fst o f e, k, .Assign [.Attribute x nm _] v _ => decide (nm = T.fd f) && decide (f < T.nf) && notComp v && ckE T e k v && ckE T o k x
  | .aug i sg e, k, .AugAssign (.Name x _) op v _ => k.tgt i x && decide (op = if sg = true then .Add else .Sub) && ckE T e k v
  | .augm i ml e, k, .AugAssign (.Name x _) op v _ => k.tgt i x && decide (op = if ml = true then .Mult else .FloorDiv) && ckE T e k v
  | .ex e, k, .Expr v _ => notComp v && ckE T e k v
  | .iff c a b, k, .If x y z _ => ckE T c k x && ckSs T a k y && ckSs T b k z
  | .whl c b, k, .While x y [] _ => ckE T c k x && ckSs T b k y
  | .forr t it b, k, .For tg ix y [] _ => notSet ix && ckI T it k ix && ckT k t tg && (!it.pair || t.isTp) && ckSs T b k y
  | .ret e, k, .Return (some v) _ => ckE T e k v
  | .retN, _, .Return none _ => true
  | .brk, _, .Break _ => true
  | .cnt, _, .Continue _ => true
  | .pass, _, .Pass _ => true
  | .rse c, k, .Raise (some (.Call (.Name x _) [.Constant (.str _) _ _] [] _)) none _ => decide (T.cl[c]? = some x) && k.gl x
  | .tri b h, k, .Try y (h0 :: hs) [] [] _ => ckSs T b k y && ckH T k h (h0 :: hs)
  | _, _, _ => false
def ckSs (T : Tx) : MSs → Sk → List Stmt → Bool
  | .nil, _, [] => true
  | .cons s r, k, x :: xs => ckS T s k x && ckSs T r k xs
  | _, _, _ => false
end
end Mn
end
section
set_option autoImplicit false
set_option maxRecDepth 20000
/-! Mn22: what the checks of statements say (printed by gen22.py). -/
namespace Mn
open PySem L2
section
variable {T : Tx} {k : Sk} {st : Stmt} {a b c : MX} {u w : MSs}
theorem ks_asg {t : MT} (h : ckS T (.asg t a) k st = true) : ∃ tg v p, st = .Assign [tg] v p ∧ ckE T a k v = true ∧ ckT k t tg = true ∧ ((noSwap k tg v = true ∧ noPair k tg v = true) ∨ isSwap k tg v = true) := by
  cases st <;> try (simp only [ckS] at h; cases h; done)
  rename_i ts v p
  cases ts <;> try (simp only [ckS] at h; cases h; done)
  rename_i t1 ts
  cases ts <;> try (simp only [ckS] at h; cases h; done)
  simp only [ckS, Bool.and_eq_true, Bool.or_eq_true, decide_eq_true_eq, and_assoc] at h
  exact ⟨_, _, _, rfl, h⟩
theorem ks_par {i j : Nat} (h : ckS T (.par i j a b) k st = true) : ∃ x px y py q1 q2 u v q3 q4 p, st = .Assign [.Tuple [.Name x px, .Name y py] q1 q2] (.Tuple [u, v] q3 q4) p ∧ k.N[i]? = some x ∧ k.N[j]? = some y ∧ i ≠ j ∧ (x != y) = true ∧ k.sc.names.lookup x = some .local ∧ k.sc.names.lookup y = some .local ∧ notStar u = true ∧ notStar v = true ∧ (py.line == px.line) = true ∧ (!([u, v].all (foldedForSure 8))) = true ∧ (!([u, v].all (constantsAlone 8))) = true ∧ ckE T a k u = true ∧ ckE T b k v = true := by
  cases st <;> try (simp only [ckS] at h; cases h; done)
  rename_i ts v p
  cases ts <;> try (simp only [ckS] at h; cases h; done)
  rename_i t1 ts
  cases t1 <;> try (simp only [ckS] at h; cases h; done)
  rename_i es q1 q2
  cases es <;> try (simp only [ckS] at h; cases h; done)
  rename_i e1 es
  cases e1 <;> try (simp only [ckS] at h; cases h; done)
  cases es <;> try (simp only [ckS] at h; cases h; done)
  rename_i e2 es
  cases e2 <;> try (simp only [ckS] at h; cases h; done)
  cases es <;> try (simp only [ckS] at h; cases h; done)
  cases ts <;> try (simp only [ckS] at h; cases h; done)
  cases v <;> try (simp only [ckS] at h; cases h; done)
  rename_i vs q3 q4
  cases vs <;> try (simp only [ckS] at h; cases h; done)
  rename_i v1 vs
  cases vs <;> try (simp only [ckS] at h; cases h; done)
  rename_i v2 vs
  cases vs <;> try (simp only [ckS] at h; cases h; done)
  simp only [ckS, Bool.and_eq_true, Bool.or_eq_true, decide_eq_true_eq, and_assoc] at h
  exact ⟨_, _, _, _, _, _, _, _, _, _, _, rfl, h⟩
theorem ks_sub (h : ckS T (.sub a b c) k st = true) : ∃ x y q v p, st = .Assign [.Subscript x y q] v p ∧ notSlice y = true ∧ notComp v = true ∧ ckE T c k v = true ∧ ckE T a k x = true ∧ ckE T b k y = true := by
  cases st <;> try (simp only [ckS] at h; cases h; done)
  rename_i ts v p
  cases ts <;> try (simp only [ckS] at h; cases h; done)
  rename_i t1 ts
  cases t1 <;> try (simp only [ckS] at h; cases h; done)
  cases ts <;> try (simp only [ckS] at h; cases h; done)
  simp only [ckS, Bool.and_eq_true, Bool.or_eq_true, decide_eq_true_eq, and_assoc] at h
  exact ⟨_, _, _, _, _, rfl, h⟩
theorem ks_dsub (h : ckS T (.dsub a b c) k st = true) : ∃ x y q v p, st = .Assign [.Subscript x y q] v p ∧ notSlice y = true ∧ notComp v = true ∧ ckE T c k v = true ∧ ckE T a k x = true ∧ ckE T b k y = true := by
  cases st <;> try (simp only [ckS] at h; cases h; done)
  rename_i ts v p
  cases ts <;> try (simp only [ckS] at h; cases h; done)
  rename_i t1 ts
  cases t1 <;> try (simp only [ckS] at h; cases h; done)
  cases ts <;> try (simp only [ckS] at h; cases h; done)
  simp only [ckS, Bool.and_eq_true, Bool.or_eq_true, decide_eq_true_eq, and_assoc] at h
  exact ⟨_, _, _, _, _, rfl, h⟩
theorem ks_fst {f : Nat} (h : ckS T (.fst a f b) k st = true) : ∃ x nm q v p, st = .Assign [.Attribute x nm q] v p ∧ nm = T.fd f ∧ f < T.nf ∧ notComp v = true ∧ ckE T b k v = true ∧ ckE T a k x = true := by
  cases st <;> try (simp only [ckS] at h; cases h; done)
  rename_i ts v p
  cases ts <;> try (simp only [ckS] at h; cases h; done)
  rename_i t1 ts
  cases t1 <;> try (simp only [ckS] at h; cases h; done)
  cases ts <;> try (simp only [ckS] at h; cases h; done)
  simp only [ckS, Bool.and_eq_true, Bool.or_eq_true, decide_eq_true_eq, and_assoc] at h
  exact ⟨_, _, _, _, _, rfl, h⟩
theorem ks_aug {i : Nat} {sg : Bool} (h : ckS T (.aug i sg a) k st = true) : ∃ x q op v p, st = .AugAssign (.Name x q) op v p ∧ k.tgt i x = true ∧ (op = if sg = true then .Add else .Sub) ∧ ckE T a k v = true := by
  cases st <;> try (simp only [ckS] at h; cases h; done)
  rename_i tg op v p
  cases tg <;> try (simp only [ckS] at h; cases h; done)
  simp only [ckS, Bool.and_eq_true, Bool.or_eq_true, decide_eq_true_eq, and_assoc] at h
  exact ⟨_, _, _, _, _, rfl, h⟩
theorem ks_augm {i : Nat} {ml : Bool} (h : ckS T (.augm i ml a) k st = true) : ∃ x q op v p, st = .AugAssign (.Name x q) op v p ∧ k.tgt i x = true ∧ (op = if ml = true then .Mult else .FloorDiv) ∧ ckE T a k v = true := by
  cases st <;> try (simp only [ckS] at h; cases h; done)
  rename_i tg op v p
  cases tg <;> try (simp only [ckS] at h; cases h; done)
  simp only [ckS, Bool.and_eq_true, Bool.or_eq_true, decide_eq_true_eq, and_assoc] at h
  exact ⟨_, _, _, _, _, rfl, h⟩
theorem ks_ex (h : ckS T (.ex a) k st = true) : ∃ v p, st = .Expr v p ∧ notComp v = true ∧ ckE T a k v = true := by
  cases st <;> try (simp only [ckS] at h; cases h; done)
  simp only [ckS, Bool.and_eq_true, Bool.or_eq_true, decide_eq_true_eq, and_assoc] at h
  exact ⟨_, _, rfl, h⟩
theorem ks_iff (h : ckS T (.iff a u w) k st = true) : ∃ x y z p, st = .If x y z p ∧ ckE T a k x = true ∧ ckSs T u k y = true ∧ ckSs T w k z = true := by
  cases st <;> try (simp only [ckS] at h; cases h; done)
  simp only [ckS, Bool.and_eq_true, Bool.or_eq_true, decide_eq_true_eq, and_assoc] at h
  exact ⟨_, _, _, _, rfl, h⟩
theorem ks_whl (h : ckS T (.whl a u) k st = true) : ∃ x y p, st = .While x y [] p ∧ ckE T a k x = true ∧ ckSs T u k y = true := by
  cases st <;> try (simp only [ckS] at h; cases h; done)
  rename_i x y z p
  cases z <;> try (simp only [ckS] at h; cases h; done)
  simp only [ckS, Bool.and_eq_true, Bool.or_eq_true, decide_eq_true_eq, and_assoc] at h
  exact ⟨_, _, _, rfl, h⟩
theorem ks_forr {t : MT} {it : MI} (h : ckS T (.forr t it u) k st = true) : ∃ tg ix y p, st = .For tg ix y [] p ∧ notSet ix = true ∧ ckI T it k ix = true ∧ ckT k t tg = true ∧ ((!it.pair) = true ∨ t.isTp = true) ∧ ckSs T u k y = true := by
  cases st <;> try (simp only [ckS] at h; cases h; done)
  rename_i tg ix y z p
  cases z <;> try (simp only [ckS] at h; cases h; done)
  simp only [ckS, Bool.and_eq_true, Bool.or_eq_true, decide_eq_true_eq, and_assoc] at h
  exact ⟨_, _, _, _, rfl, h⟩
theorem ks_ret (h : ckS T (.ret a) k st = true) : ∃ v p, st = .Return (some v) p ∧ ckE T a k v = true := by
  cases st <;> try (simp only [ckS] at h; cases h; done)
  rename_i v p
  cases v <;> try (simp only [ckS] at h; cases h; done)
  simp only [ckS, Bool.and_eq_true, Bool.or_eq_true, decide_eq_true_eq, and_assoc] at h
  exact ⟨_, _, rfl, h⟩
theorem ks_retN (h : ckS T .retN k st = true) : ∃ p, st = .Return none p := by
  cases st <;> try (simp only [ckS] at h; cases h; done)
  rename_i v p
  cases v <;> try (simp only [ckS] at h; cases h; done)
  exact ⟨_, rfl⟩
theorem ks_brk (h : ckS T .brk k st = true) : ∃ p, st = .Break p := by
  cases st <;> try (simp only [ckS] at h; cases h; done)
  exact ⟨_, rfl⟩
theorem ks_cnt (h : ckS T .cnt k st = true) : ∃ p, st = .Continue p := by
  cases st <;> try (simp only [ckS] at h; cases h; done)
  exact ⟨_, rfl⟩
theorem ks_pass (h : ckS T .pass k st = true) : ∃ p, st = .Pass p := by
  cases st <;> try (simp only [ckS] at h; cases h; done)
  exact ⟨_, rfl⟩
theorem ks_rse {d : Nat} (h : ckS T (.rse d) k st = true) : ∃ x q m r s p2 p, st = .Raise (some (.Call (.Name x q) [.Constant (.str m) r s] [] p2)) none p ∧ T.cl[d]? = some x ∧ k.gl x = true := by
  cases st <;> try (simp only [ckS] at h; cases h; done)
  rename_i e f p
  cases e <;> try (simp only [ckS] at h; cases h; done)
  rename_i e
  cases e <;> try (simp only [ckS] at h; cases h; done)
  rename_i g xs kws p2
  cases g <;> try (simp only [ckS] at h; cases h; done)
  cases xs <;> try (simp only [ckS] at h; cases h; done)
  rename_i x1 xs
  cases x1 <;> try (simp only [ckS] at h; cases h; done)
  rename_i cc r s
  cases cc <;> try (simp only [ckS] at h; cases h; done)
  cases xs <;> try (simp only [ckS] at h; cases h; done)
  cases kws <;> try (simp only [ckS] at h; cases h; done)
  cases f <;> try (simp only [ckS] at h; cases h; done)
  simp only [ckS, Bool.and_eq_true, Bool.or_eq_true, decide_eq_true_eq, and_assoc] at h
  exact ⟨_, _, _, _, _, _, _, rfl, h⟩
theorem ks_tri {hd : List (Nat × PV)} (h : ckS T (.tri u hd) k st = true) : ∃ y h0 hs p, st = .Try y (h0 :: hs) [] [] p ∧ ckSs T u k y = true ∧ ckH T k hd (h0 :: hs) = true := by
  cases st <;> try (simp only [ckS] at h; cases h; done)
  rename_i y hs z1 z2 p
  cases hs <;> try (simp only [ckS] at h; cases h; done)
  cases z1 <;> try (simp only [ckS] at h; cases h; done)
  cases z2 <;> try (simp only [ckS] at h; cases h; done)
  simp only [ckS, Bool.and_eq_true, Bool.or_eq_true, decide_eq_true_eq, and_assoc] at h
  exact ⟨_, _, _, _, rfl, h⟩
theorem ks_nil {xs : List Stmt} (h : ckSs T .nil k xs = true) : xs = [] := by
  cases xs <;> try (simp only [ckSs] at h; cases h; done)
  rfl
theorem ks_cons {s : MS} {xs : List Stmt} (h : ckSs T (.cons s u) k xs = true) : ∃ x r, xs = x :: r ∧ ckS T s k x = true ∧ ckSs T u k r = true := by
  cases xs <;> try (simp only [ckSs] at h; cases h; done)
  simp only [ckSs, Bool.and_eq_true] at h
  exact ⟨_, _, rfl, h⟩
theorem kh_nil {hs : List ExceptHandler} (h : ckH T k [] hs = true) : hs = [] := by
  cases hs with
  | nil => rfl
  | cons a r => simp only [ckH] at h; cases h
theorem kh_cons {d : Nat} {v : PV} {r : List (Nat × PV)} {hs : List ExceptHandler} (h : ckH T k ((d, v) :: r) hs = true) : ∃ x q cc z z2 z3 z4 hr, hs = .ExceptHandler (some (.Name x q)) none [.Return (some (.Constant cc z z2)) z3] z4 :: hr ∧ T.cl[d]? = some x ∧ k.gl x = true ∧ ckLit v cc = true ∧ ckH T k r hr = true := by
  cases hs <;> try (simp only [ckH] at h; cases h; done)
  rename_i hd hr
  cases hd
  rename_i ty nm body z4
  cases ty <;> try (simp only [ckH] at h; cases h; done)
  rename_i ty
  cases ty <;> try (simp only [ckH] at h; cases h; done)
  cases nm <;> try (simp only [ckH] at h; cases h; done)
  cases body <;> try (simp only [ckH] at h; cases h; done)
  rename_i s ss
  cases s <;> try (simp only [ckH] at h; cases h; done)
  rename_i v z3
  cases v <;> try (simp only [ckH] at h; cases h; done)
  rename_i v
  cases v <;> try (simp only [ckH] at h; cases h; done)
  cases ss <;> try (simp only [ckH] at h; cases h; done)
  simp only [ckH, Bool.and_eq_true, decide_eq_true_eq, and_assoc] at h
  exact ⟨_, _, _, _, _, _, _, _, rfl, h⟩
end
end Mn
end
section
set_option autoImplicit false
set_option maxRecDepth 20000
/-! Mn23: statements by their evaluation. -/
namespace Mn
open PySem PySem.Spec L2
theorem NR.more {g : G} {ρ l : List Addr} {H : Hp} {σ : St} {env : Env} (N : NR g ρ H σ env) : NR g (ρ ++ l) H σ env := ⟨N.1, fun i m h => by
  obtain ⟨v, h1, h2⟩ := N.2 i m h
  exact ⟨v, h1, h2.more⟩⟩
/-- how a statement lands -/
def LandsS (g : G) (ρ : List Addr) (H : Hp) (r : RS) (D : Ends) (W : WX) : Prop := match r with
  | .ok .nx e s => ∀ ρ' H' σ', Ext ρ H ρ' H' → SR g ρ' s H' → NR g ρ' H' σ' e → D.nx σ' H'
  | .ok .bk e s => ∀ ρ' H' σ', Ext ρ H ρ' H' → SR g ρ' s H' → NR g ρ' H' σ' e → D.bk σ' H'
  | .ok .ct e s => ∀ ρ' H' σ', Ext ρ H ρ' H' → SR g ρ' s H' → NR g ρ' H' σ' e → D.ct σ' H'
  | .ok (.rt r) _ s => ∀ ρ' H' v, Ext ρ H ρ' H' → SR g ρ' s H' → ER g H ρ' H' v r → D.rt v H'
  | .exc c x e s => ∀ ρ' H' σ', Ext ρ H ρ' H' → SR g ρ' s H' → NR g ρ' H' σ' e → XW g W σ' c x ρ' H'
  | .stk => False
theorem LandsS.from {g : G} {ρ ρ1 : List Addr} {H H1 : Hp} {r : RS} {D : Ends} {W : WX} (h : LandsS g ρ H r D W) (e : Ext ρ H ρ1 H1) : LandsS g ρ1 H1 r D W := by
  cases r with
  | ok f en s =>
    cases f with
    | nx => exact fun ρ' H' σ' e' S N => h ρ' H' σ' (e.trans e') S N
    | bk => exact fun ρ' H' σ' e' S N => h ρ' H' σ' (e.trans e') S N
    | ct => exact fun ρ' H' σ' e' S N => h ρ' H' σ' (e.trans e') S N
    | rt r => exact fun ρ' H' v e' S hv => h ρ' H' v (e.trans e') S (hv.back e.dom)
  | exc c x en s => exact fun ρ' H' σ' e' S N => h ρ' H' σ' (e.trans e') S N
  | stk => exact h
def tS (g : G) (W : WX) (ev : Env → Sto → RS) : TS := fun D σ H => ∃ ρ st env, SR g ρ st H ∧ NR g ρ H σ env ∧ LandsS g ρ H (ev env st) D W
theorem PS.weak {X : Cx} {st : Stmt} {t t' : TS} (h : PS X st t) (w : ∀ D σ H, t' D σ H → t D σ H) : PS X st t' := ⟨fun pins s σ H D I q => h.run pins s σ H D I (w D σ H q)⟩
theorem PSs.weak {X : Cx} {st : List Stmt} {t t' : TS} (h : PSs X st t) (w : ∀ D σ H, t' D σ H → t D σ H) : PSs X st t' := ⟨fun pins s σ H D I q => h.run pins s σ H D I (w D σ H q)⟩
section
variable {g : G} {P : Prg} {C : Nat → List MV → Sto → Res EV} {W : WX} {σ : St} {H : Hp} {D : Ends} {a b c : MX}
theorem bind_run {ρ0 ρ : List Addr} {H0 : Hp} {st : Sto} {env : Env} {ea : Env → Sto → Res EV} {f : EV → Sto → RS} {R : V → Hp → Prop} {H : Hp}
    (E0 : Ext ρ0 H0 ρ H) (S : SR g ρ st H) (N : NR g ρ H σ env) (L : LandsS g ρ0 H0 (RS.bindE (ea env st) env f) D W)
    (k : ∀ x st1 ρ1 H1 v, ea env st = .ok x st1 → Ext ρ H ρ1 H1 → SR g ρ1 st1 H1 → NR g ρ1 H1 σ env → ER g H ρ1 H1 v x → LandsS g ρ0 H0 (f x st1) D W → R v H1) : tE g W ea σ H R := by
  refine ⟨ρ, st, env, S, N, ?_⟩
  cases e : ea env st with
  | ok x st1 => rw [e] at L; exact fun ρ1 H1 e1 S1 v hv => k x st1 ρ1 H1 v e e1 S1 (N.mono e1) hv L
  | exc c x s => rw [e] at L; exact fun ρ' H' E' S' => L ρ' H' σ (E0.trans E') S' (N.mono E')
  | stk => rw [e] at L; exact L
theorem bindL_run {ρ0 ρ : List Addr} {H0 : Hp} {st : Sto} {env : Env} {ea : Env → Sto → Res (List EV)} {f : List EV → Sto → RS} {R : List V → Hp → Prop} {H : Hp}
    (E0 : Ext ρ0 H0 ρ H) (S : SR g ρ st H) (N : NR g ρ H σ env) (L : LandsS g ρ0 H0 (RS.bindE (ea env st) env f) D W)
    (k : ∀ x st1 ρ1 H1 v, ea env st = .ok x st1 → Ext ρ H ρ1 H1 → SR g ρ1 st1 H1 → NR g ρ1 H1 σ env → ERs g H ρ1 H1 v x → LandsS g ρ0 H0 (f x st1) D W → R v H1) : tL g W ea σ H R := by
  refine ⟨ρ, st, env, S, N, ?_⟩
  cases e : ea env st with
  | ok x st1 => rw [e] at L; exact fun ρ1 H1 e1 S1 v hv => k x st1 ρ1 H1 v e e1 S1 (N.mono e1) hv L
  | exc c x s => rw [e] at L; exact fun ρ' H' E' S' => L ρ' H' σ (E0.trans E') S' (N.mono E')
  | stk => rw [e] at L; exact L
theorem bindT_run {ρ0 ρ : List Addr} {H0 : Hp} {st : Sto} {env : Env} {ea : Env → Sto → Res Bool} {f : Bool → Sto → RS} {R : Bool → Hp → Prop} {H : Hp}
    (E0 : Ext ρ0 H0 ρ H) (S : SR g ρ st H) (N : NR g ρ H σ env) (L : LandsS g ρ0 H0 (RS.bindE (ea env st) env f) D W)
    (k : ∀ x st1 ρ1 H1, ea env st = .ok x st1 → Ext ρ H ρ1 H1 → SR g ρ1 st1 H1 → NR g ρ1 H1 σ env → LandsS g ρ0 H0 (f x st1) D W → R x H1) : tT g W ea σ H R := by
  refine ⟨ρ, st, env, S, N, ?_⟩
  cases e : ea env st with
  | ok x st1 => rw [e] at L; exact fun ρ1 H1 e1 S1 => k x st1 ρ1 H1 e e1 S1 (N.mono e1) L
  | exc c x s => rw [e] at L; exact fun ρ' H' E' S' => L ρ' H' σ (E0.trans E') S' (N.mono E')
  | stk => rw [e] at L; exact L
theorem s_asg {t : MT} (h : tS g W (evS P C (.asg t a)) D σ H) : tAsg (tE g W (evE P C a)) (tgR g.K t) D σ H := by
  obtain ⟨ρ, st, env, S, N, L⟩ := h
  simp only [evS] at L
  refine bind_run Ext.refl S N L fun x st1 ρ1 H1 v _ E1 S1 N1 hv L1 => ?_
  obtain ⟨k, E2, S2, V2, _⟩ := hold_ok E1 S1 hv
  split at L1
  · rename_i env1 e
    exact setT_run N1.more (.inl V2) e fun σ' N' _ => L1 _ _ σ' E2 S2 N'
  · exact False.elim L1
theorem s_par {i j : Nat} (h : tS g W (evS P C (.par i j a b)) D σ H) : tPar i j (tL g W (evL P C (.cons a (.cons b .nil)))) D σ H := by
  obtain ⟨ρ, st, env, S, N, L⟩ := h
  simp only [evS] at L
  refine bindL_run Ext.refl S N L fun l st1 ρ1 H1 vs _ E1 S1 N1 hl L1 => ?_
  obtain ⟨k, E2, S2, V2⟩ := holdAll_ok E1 S1 hl
  generalize holdAll l st1 = ms at L1 S2 V2
  obtain ⟨ms, s2⟩ := ms
  dsimp only at L1 S2 V2
  split at L1
  · rename_i m1 m2 s3 e
    cases e
    obtain ⟨v, ys, rfl, h1, r1⟩ := V2.cons_inv
    obtain ⟨w, zs, rfl, h2, r2⟩ := r1.cons_inv
    have := r2.nil_inv
    subst this
    exact ⟨v, w, rfl, L1 _ _ _ E2 S2 ((N1.more.set h1 i).set h2 j)⟩
  · exact False.elim L1
theorem s_sub (h : tS g W (evS P C (.sub a b c)) D σ H) : tAsg (tE g W (evE P C c)) (gSub (tE g W (evE P C a)) (tE g W (evE P C b)) rSetL) D σ H := by
  obtain ⟨ρ, st, env, S, N, L⟩ := h
  simp only [evS] at L
  refine bind_run Ext.refl S N L fun x st1 ρ1 H1 v _ E1 S1 N1 hv L1 => ?_
  refine bind_run E1 S1 N1 L1 fun y st2 ρ2 H2 u _ E2 S2 N2 hu L2 => ?_
  refine bind_run (E1.trans E2) S2 N2 L2 fun z st3 ρ3 H3 w _ E3 S3 N3 hw L3 => ?_
  obtain ⟨k, E4, S4, V4, _⟩ := hold_ok ((E1.trans E2).trans E3) S3 ((hv.mono E2).mono E3)
  cases e : setIx y z (hold x st3).1 (hold x st3).2 with
  | none => rw [e] at L3; exact False.elim L3
  | some s5 =>
    rw [e] at L3
    unfold setIx at e
    split at e
    · split at e
      · rename_i l e1
        cases e2 : ixN l.length _ with
        | none => rw [e2] at e; cases e
        | some j =>
          rw [e2] at e
          cases e
          cases hu with
          | r hu =>
            rename_i p
            obtain ⟨p', h1, xs, h2, h3⟩ := S4.ob e1
            have h0 := app_get (k := k) (E3.get hu)
            rw [h0] at h1; cases h1
            refine ⟨p, xs, _, j, rfl, hw.int_inv, h2, by rw [h3.1]; exact e2, ?_⟩
            obtain ⟨E5, S5⟩ := wrote (ys := xs.set j v) (l := l.set j (hold x st3).1) S4 h0 h2 (h3.set V4 j)
            exact L3 _ _ σ (E4.trans E5) S5 (N3.more.mono E5)
      · cases e
    · cases e
theorem s_dsub (h : tS g W (evS P C (.dsub a b c)) D σ H) : tAsg (tE g W (evE P C c)) (gSub (tE g W (evE P C a)) (tE g W (evE P C b)) rSetD) D σ H := by
  obtain ⟨ρ, st, env, S, N, L⟩ := h
  simp only [evS] at L
  refine bind_run Ext.refl S N L fun x st1 ρ1 H1 v _ E1 S1 N1 hv L1 => ?_
  refine bind_run E1 S1 N1 L1 fun y st2 ρ2 H2 u _ E2 S2 N2 hu L2 => ?_
  refine bind_run (E1.trans E2) S2 N2 L2 fun z st3 ρ3 H3 w _ E3 S3 N3 hw L3 => ?_
  obtain ⟨k, E4, S4, V4, _⟩ := hold_ok ((E1.trans E2).trans E3) S3 ((hv.mono E2).mono E3)
  split at L3
  · rename_i n q e0 _
    split at L3
    · rename_i l e1
      split at L3
      · rename_i hl
        cases hu with
        | r hu =>
          rename_i p
          obtain ⟨p', h1, kvs, h2, h3⟩ := S4.ob e1
          have h0 := app_get (k := k) (E3.get hu)
          rw [h0] at h1; cases h1
          have hlen : kvs.length < sizeLine := by
            have := congrArg List.length h3.1
            rw [List.length_map, List.length_map] at this
            rw [this, ← lim_eq]; exact hl
          obtain ⟨E5, S5⟩ := wroteO (ho := .dK (putK kvs (keyS q) v)) (o := .dic (dput q (hold x st3).1 l)) S4 h0 (fun xs q => by rw [h2] at q; cases q) (fun ob u q => by rw [h2] at q; cases q) (fun E5 => ⟨_, upd_same, (h3.put V4).mono E5⟩)
          exact ⟨p, _, rfl, .inl ⟨kvs, keyS q, h2, kstr_inv hw e0, hlen, rfl⟩, L3 _ _ σ (E4.trans E5) S5 (N3.more.mono E5)⟩
      · exact False.elim L3
    · exact False.elim L3
  · exact False.elim L3
theorem put_names {x : Nat} {v : V} {m : MV} {ρ : List Addr} (inj : ∀ i j, g.fld i = g.fld j → i = j) : ∀ {gs : List (Str × V)} {fs : List (Nat × MV)}, gs.map (·.1) = fs.map (fun q => g.fld q.1) → VRs g ρ H (gs.map (·.2)) (fs.map (·.2)) → VR g ρ H v m →
    (putF (g.fld x) v gs).map (·.1) = (putFM x m fs).map (fun q => g.fld q.1) ∧ VRs g ρ H ((putF (g.fld x) v gs).map (·.2)) ((putFM x m fs).map (·.2))
  | [], [], _, _, h => ⟨rfl, VRs.cons h VRs.nil⟩
  | [], _ :: _, h, _, _ => by cases h
  | _ :: _, [], h, _, _ => by cases h
  | (n, w) :: gs, (y, u) :: fs, h, r, hv => by
    simp only [List.map_cons, List.cons.injEq] at h
    obtain ⟨h1, h2⟩ := h
    obtain ⟨r1, r2⟩ := VRs.inv r
    subst h1
    unfold putF putFM
    by_cases c : y = x
    · subst c
      rw [if_pos rfl, if_pos rfl]
      refine ⟨?_, VRs.cons hv r2⟩
      simp only [List.map_cons, h2]
    · rw [if_neg c, if_neg fun q => c (inj _ _ q)]
      obtain ⟨q1, q2⟩ := put_names inj h2 r2 hv
      refine ⟨?_, VRs.cons r1 q2⟩
      simp only [List.map_cons, q1]
/-- an instance of the store is written -/
theorem wroteIns {ρ : List Addr} {st : Sto} {n c : Nat} {p dx : Addr} {fs fs' : List (Str × V)} {l : List (Nat × MV)} (S : SR g ρ st H) (hp : ρ[n]? = some p) (hH : H p = some (.ins (g.clA c) dx fs)) (q : fs'.map (·.1) = l.map (fun q => g.fld q.1)) (r : VRs g ρ H (fs'.map (·.2)) (l.map (·.2))) :
    Ext ρ H ρ (upd H p (.ins (g.clA c) dx fs')) ∧ SR g ρ (st.set n (.ins c l)) (upd H p (.ins (g.clA c) dx fs')) := by
  have hm : p ∈ ρ := List.mem_of_getElem? hp
  have e : Ext ρ H ρ (upd H p (.ins (g.clA c) dx fs')) := by
    refine ⟨⟨[], by simp⟩, fun b h1 h2 => absurd h1 h2, fun b u h hb => ?_, fun b u h => ?_, fun b u v h => ?_, fun b h => ?_⟩
    · rw [upd_ne (fun c => by subst c; exact hb hm)]; exact h
    · rw [upd_ne (fun c => by subst c; rw [hH] at h; cases h)]; exact h
    · rw [upd_ne (fun c => by subst c; rw [hH] at h; cases h)]; exact h
    · by_cases c : b = p
      · subst c; rw [upd_same] at h; cases h
      · rw [upd_ne c] at h; exact h
  refine ⟨e, S.nd, by rw [List.length_set, S.len], fun i b o h1 h2 => ?_⟩
  rw [List.getElem?_set] at h2
  by_cases c : n = i
  · subst c
    rw [hp] at h1; cases h1
    rw [if_pos rfl] at h2
    split at h2
    · cases h2; exact ⟨dx, fs', upd_same, q, r.mono e⟩
    · cases h2
  · rw [if_neg c] at h2
    refine (S.at_ i b o h1 h2).mono e fun u hu => ?_
    have hb : b ≠ p := fun q => by
      subst q
      exact c ((List.getElem?_inj (List.getElem?_eq_some_iff.mp hp).1 S.nd).mp (hp.trans h1.symm))
    rw [upd_ne hb]; exact hu
theorem s_fst {x : Nat} (inj : ∀ i j, g.fld i = g.fld j → i = j) (hc : ∀ c, P.init c ≠ none → Cls g.K (g.clA c) ∧ NoAttr g.K (g.clA c) (g.fld x)) (h : tS g W (evS P C (.fst a x b)) D σ H) : sFld g.K (tE g W (evE P C a)) (tE g W (evE P C b)) (g.fld x) D σ H := by
  obtain ⟨ρ, st, env, S, N, L⟩ := h
  simp only [evS] at L
  refine bind_run Ext.refl S N L fun y st1 ρ1 H1 v _ E1 S1 N1 hv L1 => ?_
  refine bind_run E1 S1 N1 L1 fun o st2 ρ2 H2 u _ E2 S2 N2 hu L2 => ?_
  obtain ⟨k, E4, S4, V4, _⟩ := hold_ok (E1.trans E2) S2 (hv.mono E2)
  split at L2
  · split at L2
    · rename_i c fs e1
      split at L2
      · rename_i hlen
        cases hu with
        | r hu =>
          rename_i p
          obtain ⟨p', h1, dx, gs, h2, h3, h4⟩ := S2.ob e1
          rw [hu] at h1; cases h1
          obtain ⟨q1, q2⟩ := put_names (x := x) inj h3 h4.more V4
          obtain ⟨E5, S5⟩ := wroteIns (l := putFM x (hold y st2).1 fs) S4 (app_get hu) h2 q1 q2
          have hcc := hc c (by intro z; rw [z] at hlen; exact absurd hlen.2 (by simp))
          have hl : gs.length < 1000 := by
            have := congrArg List.length h3
            rw [List.length_map, List.length_map] at this
            omega
          exact ⟨p, g.clA c, dx, gs, rfl, h2, hcc.1, hcc.2, hl, L2 _ _ σ (E4.trans E5) S5 (N2.more.mono E5)⟩
      · exact False.elim L2
    · exact False.elim L2
  · exact False.elim L2
theorem s_aug {i : Nat} {sg : Bool} (h : tS g W (evS P C (.aug i sg a)) D σ H) : tAug i (tE g W (evE P C a)) (ipI fun i j => if sg = true then i + j else i - j) D σ H := by
  obtain ⟨ρ, st, env, S, N, L⟩ := h
  simp only [evS] at L
  split at L
  · rename_i n e
    obtain ⟨v, h1, h2⟩ := N.2 i _ e
    refine ⟨v, h1, bind_run Ext.refl S N L fun y st1 ρ1 H1 u _ E1 S1 N1 hu L1 => ?_⟩
    split at L1
    · exact ⟨n, _, h2.p_inv.int_inv, hu.int_inv, L1 _ _ _ E1 S1 (N1.set (.p (.int _)) i)⟩
    · exact False.elim L1
  · exact False.elim L
/-- x *= y, x //= y -/
def ipC (c : Int → Int → Prop) (f : Int → Int → Int) : TIp := fun x y H Q => ∃ i j, x = .int i ∧ y = .int j ∧ c i j ∧ Q (.int (f i j)) H
theorem ip_mul {X : Cx} : PIp X .Mult (ipC CMul fun i j => i * j) := by
  intro pins s σ H x y v u Q I r1 r2 h
  obtain ⟨i, j, e1, e2, hc, q⟩ := h
  subst e1; subst e2
  obtain ⟨t, rfl⟩ := r1
  obtain ⟨t', rfl⟩ := r2
  exact PyProof.Rows.imul_int ⟨.int _, H, I.tok _, ⟨_, rfl⟩, q⟩ hc.ok
theorem ip_fdiv {X : Cx} : PIp X .FloorDiv (ipC CDiv fun i j => i / j) := by
  intro pins s σ H x y v u Q I r1 r2 h
  obtain ⟨i, j, e1, e2, hc, q⟩ := h
  subst e1; subst e2
  obtain ⟨t, rfl⟩ := r1
  obtain ⟨t', rfl⟩ := r2
  have h1 : (0 : Int) < j := hc.1
  have h2 : j < 1073741824 := hc.2
  refine PyProof.Rows.ifloordiv_int (by omega) ?_ (.inl (PyProof.noPylong_small (by omega)))
  rw [Int.fdiv_eq_ediv_of_nonneg i (by omega)]
  exact ⟨.int _, H, I.tok _, ⟨_, rfl⟩, q⟩
theorem s_augm {i : Nat} {ml : Bool} (h : tS g W (evS P C (.augm i ml a)) D σ H) : tAug i (tE g W (evE P C a)) (if ml = true then ipC CMul fun i j => i * j else ipC CDiv fun i j => i / j) D σ H := by
  obtain ⟨ρ, st, env, S, N, L⟩ := h
  simp only [evS] at L
  split at L
  · rename_i n e
    obtain ⟨v, h1, h2⟩ := N.2 i _ e
    refine ⟨v, h1, bind_run Ext.refl S N L fun y st1 ρ1 H1 u _ E1 S1 N1 hu L1 => ?_⟩
    split at L1
    · rename_i m
      cases ml with
      | true =>
        simp only [if_true] at L1 ⊢
        split at L1
        · rename_i hs
          refine ⟨n, _, h2.p_inv.int_inv, hu.int_inv, ?_, L1 _ _ _ E1 S1 (N1.set (.p (.int _)) i)⟩
          simp only [small, Bool.or_eq_true, Bool.and_eq_true, decide_eq_true_eq] at hs
          exact hs
        · exact False.elim L1
      | false =>
        simp only [Bool.false_eq_true, if_false] at L1 ⊢
        split at L1
        · rename_i hs
          exact ⟨n, _, h2.p_inv.int_inv, hu.int_inv, hs, L1 _ _ _ E1 S1 (N1.set (.p (.int _)) i)⟩
        · exact False.elim L1
    · exact False.elim L1
  · exact False.elim L
theorem s_ex (h : tS g W (evS P C (.ex a)) D σ H) : tDrop (tE g W (evE P C a)) D σ H := by
  obtain ⟨ρ, st, env, S, N, L⟩ := h
  simp only [evS] at L
  exact bind_run Ext.refl S N L fun x st1 ρ1 H1 v _ E1 S1 N1 hv L1 => L1 _ _ σ E1 S1 N1
theorem s_ret (h : tS g W (evS P C (.ret a)) D σ H) : tRet (tE g W (evE P C a)) D σ H := by
  obtain ⟨ρ, st, env, S, N, L⟩ := h
  simp only [evS] at L
  exact bind_run Ext.refl S N L fun x st1 ρ1 H1 v _ E1 S1 N1 hv L1 => L1 _ _ v E1 S1 hv
/-- the rest of a block -/
theorem rest_run {ρ ρ1 : List Addr} {st1 : Sto} {env : Env} {H H1 : Hp} {ev : Env → Sto → RS} (E1 : Ext ρ H ρ1 H1) (S1 : SR g ρ1 st1 H1) (N1 : NR g ρ1 H1 σ env) (L : LandsS g ρ H (ev env st1) D W) : tS g W ev D σ H1 :=
  ⟨ρ1, st1, env, S1, N1, L.from E1⟩
theorem s_iff {p q : MSs} (h : tS g W (evS P C (.iff c p q)) D σ H) : tIfS (tT g W fun e s => tst (evE P C c e s)) (tS g W (evSs P C p)) (tS g W (evSs P C q)) D σ H := by
  obtain ⟨ρ, st, env, S, N, L⟩ := h
  simp only [evS] at L
  refine bindT_run (ea := fun e s => tst (evE P C c e s)) Ext.refl S N L fun k st1 ρ1 H1 _ E1 S1 N1 L1 => ?_
  cases k with
  | true => rw [if_pos rfl] at L1 ⊢; exact rest_run E1 S1 N1 L1
  | false => rw [if_neg (by simp)] at L1 ⊢; exact rest_run E1 S1 N1 L1
theorem s_seq {s : MS} {r : MSs} (h : tS g W (evSs P C (.cons s r)) D σ H) : tSeq (tS g W (evS P C s)) (tS g W (evSs P C r)) D σ H := by
  obtain ⟨ρ, st, env, S, N, L⟩ := h
  simp only [evSs] at L
  refine ⟨ρ, st, env, S, N, ?_⟩
  cases e : evS P C s env st with
  | ok f en s1 =>
    rw [e] at L
    cases f with
    | nx => exact fun ρ' H' σ' E' S' N' => rest_run E' S' N' L
    | bk => exact L
    | ct => exact L
    | rt r => exact L
  | exc c x en s1 => rw [e] at L; exact L
  | stk => rw [e] at L; exact L
theorem s_nil (h : tS g W (evSs P C .nil) D σ H) : tNext D σ H := by
  obtain ⟨ρ, st, env, S, N, L⟩ := h
  simp only [evSs] at L
  exact L _ _ σ Ext.refl S N
theorem s_whl {b : MSs} (h : tS g W (evS P C (.whl c b)) D σ H) : tWhile (tT g W fun e s => tst (evE P C c e s)) (tS g W (evSs P C b)) D σ H := by
  obtain ⟨ρ0, st0, env0, S0, N0, L0⟩ := h
  simp only [evS] at L0
  refine ⟨fun m σ H1 => ∃ ρ st env, Ext ρ0 H ρ H1 ∧ SR g ρ st H1 ∧ NR g ρ H1 σ env ∧ LandsS g ρ0 H (whGo (fun e s => tst (evE P C c e s)) (fun e s => evSs P C b e s) m env st) D W, ⟨wfuel, ρ0, st0, env0, Ext.refl, S0, N0, L0⟩, ?_⟩
  rintro m σ H1 ⟨ρ, st, env, E, S, N, L⟩
  cases m with
  | zero => exact False.elim L
  | succ m =>
    unfold whGo at L
    refine bindT_run (ea := fun e s => tst (evE P C c e s)) E S N L fun k st1 ρ1 H2 _ E1 S1 N1 L1 => ?_
    cases k with
    | false => rw [if_neg (by simp)] at L1 ⊢; exact L1 _ _ σ (E.trans E1) S1 N1
    | true =>
      rw [if_pos rfl] at L1 ⊢
      refine ⟨fun σ H1 => ∃ ρ st env, Ext ρ0 H ρ H1 ∧ SR g ρ st H1 ∧ NR g ρ H1 σ env ∧ LandsS g ρ0 H (whGo (fun e s => tst (evE P C c e s)) (fun e s => evSs P C b e s) m env st) D W, fun σ' H' h => ⟨m, Nat.lt_succ_self m, h⟩, ρ1, st1, env, S1, N1, ?_⟩
      have E2 := E.trans E1
      cases e : evSs P C b env st1 with
      | ok f en s1 =>
        rw [e] at L1
        cases f with
        | nx => exact fun ρ' H' σ' E' S' N' => ⟨ρ', s1, en, E2.trans E', S', N', L1⟩
        | ct => exact fun ρ' H' σ' E' S' N' => ⟨ρ', s1, en, E2.trans E', S', N', L1⟩
        | bk => exact fun ρ' H' σ' E' S' N' => L1 ρ' H' σ' (E2.trans E') S' N'
        | rt r => exact fun ρ' H' v E' S' hv => L1 ρ' H' v (E2.trans E') S' (hv.back E2.dom)
      | exc c x en s1 => rw [e] at L1; exact fun ρ' H' σ' E' S' N' => L1 ρ' H' σ' (E2.trans E') S' N'
      | stk => rw [e] at L1; exact L1
theorem QL.monoE {H0 : Hp} {ρ ρ1 : List Addr} {H1 : Hp} {p : Addr} {q : Sq} (h : QL g H0 ρ H p q) (e : Ext ρ H ρ1 H1) : QL g H0 ρ1 H1 p q := by
  cases h with
  | snap h r =>
    refine .snap ?_ (r.mono e)
    rcases h with ⟨h1, h2, h3⟩ | h
    · exact .inl ⟨e.keep p _ h1 h2, (fun hm => by have := e.new p hm h2; rw [h1] at this; cases this), h3⟩
    · exact .inr (h.elim (fun ⟨o, h⟩ => .inl ⟨o, e.frz _ _ _ h⟩) .inr)
  | live h => exact .live (e.get h)
theorem SrcJ.monoE {H0 : Hp} {ρ ρ1 : List Addr} {H1 : Hp} {src : Src} {J : It} (h : SrcJ g H0 ρ H src J) (e : Ext ρ H ρ1 H1) : SrcJ g H0 ρ1 H1 src J := by
  cases h with
  | lst h => exact .lst (h.monoE e)
  | tup h r => exact .tup (e.sqT h) (r.mono e)
  | str z => exact .str z
  | en h => exact .en (h.monoE e)
  | zp h h' => exact .zp (h.monoE e) (h'.monoE e)
  | zt h h' r r' => exact .zt (e.sqT h) (e.sqT h') (r.mono e) (r'.mono e)
  | rv n h => exact .rv n (h.monoE e)
  | rg lo n => exact .rg lo n
  | its h q => exact .its (e.frz _ _ _ h) (q.mono e)
  | vls h q => exact .vls (e.frz _ _ _ h) (q.mono e)
theorem s_for {t : MT} {it : MI} {b : MSs} (hp : it.pair = true → t.isTp = true) (h : tS g W (evS P C (.forr t it b)) D σ H) : tFor (tI g W (evI P C it)) (tgR g.K t) (tS g W (evSs P C b)) D σ H := by
  obtain ⟨ρ0, st0, env0, S0, N0, L0⟩ := h
  simp only [evS] at L0
  refine ⟨ρ0, st0, env0, S0, N0, ?_⟩
  cases e : evI P C it env0 st0 with
  | exc c x s => rw [e] at L0; exact fun ρ' H' E' S' => L0 ρ' H' σ E' S' (N0.mono E')
  | stk => rw [e] at L0; exact L0
  | ok src st1 =>
    rw [e] at L0
    intro ρ1 H1 E1 S1 J hJ
    refine ⟨fun i m σ H2 => ∃ ρ st env, Ext ρ1 H1 ρ H2 ∧ SR g ρ st H2 ∧ NR g ρ H2 σ env ∧ LandsS g ρ0 H (foGo src t (fun e s => evSs P C b e s) m i env st) D W, ⟨wfuel, ρ1, st1, env0, Ext.refl, S1, N0.mono E1, L0⟩, ?_⟩
    rintro i m σ H2 ⟨ρ, st, env, E, S, N, L⟩
    cases m with
    | zero => exact False.elim L
    | succ m =>
      unfold foGo at L
      obtain ⟨t1, t2⟩ := (hJ.monoE E).turn (i := i) S
      split at L
      · exact False.elim L
      · rename_i ei
        exact .inl ⟨t1 ei, L _ _ σ (E1.trans E) S N⟩
      · rename_i mx ei
        obtain ⟨g1, g2⟩ := t2 mx ei
        refine .inr ⟨g1, fun σ H2 => ∃ ρ st env, Ext ρ1 H1 ρ H2 ∧ SR g ρ st H2 ∧ NR g ρ H2 σ env ∧ LandsS g ρ0 H (foGo src t (fun e s => evSs P C b e s) m (i + 1) env st) D W, fun σ' H' h => ⟨m, Nat.lt_succ_self m, h⟩, fun x H' hy => ?_⟩
        obtain ⟨Ey, Sy, Vy⟩ := g2 x H' hy
        split at L
        · exact False.elim L
        · rename_i env1 es
          refine setT_run (N.mono Ey) (Vy.imp id fun h => ⟨hp (by rw [← evI_pair e]; exact h.1), h.2⟩) es fun σ' N' _ => ⟨ρ, st, env1, Sy, N', ?_⟩
          have E2 := (E1.trans E).trans Ey
          have E3 := E.trans Ey
          cases eb : evSs P C b env1 st with
          | ok f en s1 =>
            rw [eb] at L
            cases f with
            | nx => exact fun ρ' H' σ' E' S' N' => ⟨ρ', s1, en, E3.trans E', S', N', L⟩
            | ct => exact fun ρ' H' σ' E' S' N' => ⟨ρ', s1, en, E3.trans E', S', N', L⟩
            | bk => exact fun ρ' H' σ' E' S' N' => L ρ' H' σ' (E2.trans E') S' N'
            | rt r => exact fun ρ' H' v E' S' hv => L ρ' H' v (E2.trans E') S' (hv.back E2.dom)
          | exc c x en s1 => rw [eb] at L; exact fun ρ' H' σ' E' S' N' => L ρ' H' σ' (E2.trans E') S' N'
          | stk => rw [eb] at L; exact L
end
end Mn
end
section
set_option autoImplicit false
set_option maxRecDepth 20000
/-! Mn24: what passes the checks is read right: statements. -/
namespace Mn
open PySem PySem.Spec L2
section
variable {k : Sk} {env : PySem.Env}
theorem swap_not {v : Expr} {o : Option Expr} {l : Nat} (h : notComp v = true) : swapsWith v o l env = pure false := by
  unfold swapsWith
  cases v <;> first | rfl | (simp only [notComp] at h; cases h; done)
theorem swap_no {tg v : Expr} {l : Nat} (hs : env.scope = k.sc) (h : noSwap k tg v = true) : swapsWithSole [tg] v l env = pure false := by
  show swapsWith v (some tg) l env = pure false
  by_cases c : notComp v = true
  · exact swap_not c
  · cases tg with
    | Name x p =>
      unfold noSwap at h
      rw [Bool.or_eq_true] at h
      rcases h with h | h
      · exact absurd h c
      · unfold badName at h
        simp only [decide_eq_true_eq] at h
        have : (env.kindOf x == some NameKind.local) = false := by
          show (env.scope.names.lookup x == some NameKind.local) = false
          rw [hs]
          exact beq_eq_false_iff_ne.mpr h
        unfold swapsWith
        cases v <;> first | (exact absurd rfl c) | (simp only [this, Bool.and_false, Bool.false_and]; try rfl)
    | _ =>
      unfold swapsWith
      cases v <;> rfl
theorem pair_no {tg v : Expr} (hs : env.scope = k.sc) (h : noPair k tg v = true) : swappedStores [tg] v env = pure none := by
  unfold swappedStores
  cases tg <;> try rfl
  · cases h
  · rename_i ts q p
    cases v <;> try rfl
    rename_i vs q2 p2
    unfold noPair at h
    dsimp only
    split
    · rfl
    · split
      · rfl
      · by_cases hf : vs.all (foldedForSure 8) = true
        · split
          · rfl
          · simp only [hf, if_true]
        replace h : ts.any (badName k) = true := by
          rw [Bool.or_eq_true] at h
          exact h.resolve_right hf
        split
        · rfl
        · rename_i hc
          exfalso
          apply hc
          rw [Bool.or_eq_true]
          left
          rw [List.any_eq_true] at h
          obtain ⟨t, ht, hb⟩ := h
          rw [bne_iff_ne]
          intro hl
          have : ∀ (l : List Expr) (f : Expr → Option Str), (l.filterMap f).length = l.length → ∀ t ∈ l, f t ≠ none := by
            intro l f
            induction l with
            | nil => intro _ t ht; cases ht
            | cons a r ih =>
              intro hl t ht
              rw [List.filterMap_cons] at hl
              cases e : f a with
              | none =>
                rw [e] at hl
                have := List.length_filterMap_le f r
                simp only [List.length_cons] at hl
                omega
              | some b =>
                rw [e] at hl
                simp only [List.length_cons, Nat.add_right_cancel_iff] at hl
                rcases List.mem_cons.mp ht with rfl | ht
                · rw [e]; simp
                · exact ih hl t ht
          refine this ts _ hl t ht ?_
          cases t <;> try rfl
          rename_i x px
          unfold badName at hb
          simp only [decide_eq_true_eq] at hb
          have : (env.kindOf x == some NameKind.local) = false := by
            show (env.scope.names.lookup x == some NameKind.local) = false
            rw [hs]
            exact beq_eq_false_iff_ne.mpr hb
          simp only [this, Bool.false_and]
          rfl
theorem pair_yes {x y : Str} {px py q1 q2 : Pos} {k1 k2 : Nat} {u v : Expr} (hk : env.scope.kind = .function) (hx : env.scope.names.lookup x = some .local) (hy : env.scope.names.lookup y = some .local) (hxy : (x != y) = true) (hu : notStar u = true) (hv : notStar v = true)
    (hl : (py.line == px.line) = true) (h1 : (!([u, v].all (foldedForSure 8))) = true) (h2 : (!([u, v].all (constantsAlone 8))) = true) : swappedStores [.Tuple [.Name x px, .Name y py] k1 q1] (.Tuple [u, v] k2 q2) env = pure (some [x, y]) := by
  have kx : env.kindOf x = some .local := hx
  have ky : env.kindOf y = some .local := hy
  have hb : env.blockKind = .function := by unfold Env.blockKind; rw [hk]; rfl
  have hl' : py.line = px.line := by simpa using hl
  simp only [Bool.not_eq_true'] at h1 h2
  have hxy' : (y == x) = false := by
    rw [bne_iff_ne] at hxy
    exact beq_eq_false_iff_ne.mpr fun e => hxy e.symm
  have hxy2 : (x == y) = false := by
    rw [bne_iff_ne] at hxy
    exact beq_eq_false_iff_ne.mpr hxy
  unfold swappedStores
  have hn : ∀ x px, (List.filterMap (fun e : Expr => match e with | .Name id pos => if env.kindOf id = some .local ∧ pos.line = px then some id else none | _ => none) [.Name y x]) = if env.kindOf y = some .local ∧ x.line = px then [y] else [] := by
    intro x px
    rw [List.filterMap_cons]
    dsimp only
    split <;> rename_i e <;> split at e <;> simp_all
  simp [hb, kx, ky, hl', hn, h1, h2, hxy', hxy2, List.eraseDups, List.eraseDupsBy, List.eraseDupsBy.loop, Expr.pos]
  intro hor
  exfalso
  rcases hor with h | h
  · cases u <;> first | (cases h; done) | (cases hu; done)
  · cases v <;> first | (cases h; done) | (cases hv; done)
theorem sw_dict {u v : Expr} {gs : List Comprehension} {scope : Scope} {pos py : Pos} {y : Str} {l : Nat} (hk : env.scope.kind = .function) (hy : env.scope.names.lookup y = some .local) (hl : (py.line == pos.line) = true)
    (ha : (scope.names.any fun (n, k) => n == y && (k == .local || k == .cell)) = false) : swapsWith (.DictComp u v gs scope pos) (some (.Name y py)) l env = pure true := by
  have k1 : env.kindOf y = some .local := hy
  have k2 : env.blockKind = .function := by unfold Env.blockKind; rw [hk]; rfl
  unfold swapsWith
  simp only [k2, k1, ha, Expr.pos, hl]
  rfl
end
/-- name = {..} on one line, the name a local -/
theorem ps_setDc {X : Cx} {i : Nat} {y : Str} {py : Pos} {kx vx tg iter : Expr} {ifs : List Expr} {scope : Scope} {own : List (Str × Nat)} {pos spos : Pos} {wi : TI} {g : TG} {tt : TT} {tk tv : TE} (hc : X.calm = true) (hN : X.N.Nodup) (hy : X.N[i]? = some y) (hyl : X.env.scope.names.lookup y = some .local)
    (hsw : swapsWith (.DictComp kx vx [⟨tg, iter, ifs, 0⟩] scope pos) (some (.Name y py)) spos.line X.env = pure true) (hi : PI X tg iter wi) (ok : BlkOk X.N X.env.scope scope own)
    (hg : ∀ (s : Shared) (H : Hp) (D : Addr) (cl : List (Str × Addr)) (fp : List Addr), PG (X.blk s H scope (compEnvC scope cl D X.env) fp) tg g) (ht : ∀ (s : Shared) (H : Hp) (D : Addr) (cl : List (Str × Addr)) (fp : List Addr), PTs (X.blk s H scope (compEnvC scope cl D X.env) fp) ifs tt)
    (hk : ∀ (s : Shared) (H : Hp) (D : Addr) (cl : List (Str × Addr)) (fp : List Addr), PE (X.blk s H scope (compEnvC scope cl D X.env) fp) kx tk) (he : ∀ (s : Shared) (H : Hp) (D : Addr) (cl : List (Str × Addr)) (fp : List Addr), PE (X.blk s H scope (compEnvC scope cl D X.env) fp) vx tv)
    (hs : ∀ x, foldedSetIterable iter X.env x = pure x) : PS X (.Assign [.Name y py] (.DictComp kx vx [⟨tg, iter, ifs, 0⟩] scope pos) spos) (tAsg (tDc wi g tt tk tv (own.map (·.2))) (gName i)) := by
  refine ⟨fun pins s σ H D I hh => ?_⟩
  rw [exec_Assign_Name_used _ _ _ _ hsw]
  refine wpAny_bind (wpAny_standAt (wpAny_bind ?_))
  show wpAny _ X.A (do let _ ← comprehension (.DictComp kx vx [⟨tg, iter, ifs, 0⟩] scope pos) scope X.env (firstIterPos [⟨tg, iter, ifs, 0⟩] pos) newDict false (eval iter X.env) (some (assign (.Name y py) X.env))) _ _ s
  have hw : tDc wi g tt tk tv (own.map (·.2)) σ H (fun x H1 => gName i x σ H1 D.nx) := hh
  refine wpAny_bind (thn (dc_core (Qf := fun _ s' => SP X pins D .next s') hc hN I hi ok hg ht hk he hs hw fun Z C s' m H' I' q hn f => ?_) fun _ s' hq => wpAny_pure (wpAny_pure hq))
  show wpAny _ _ (assign (.Name y py) X.env (.ref Z)) _ _ _
  refine wpAny_assign_Name (store_ok2 (v := V.ref Z) I' hN hy (.inl hyl) rfl (fun s2 I2 ⟨b, sb, hb⟩ => ?_) (.inr hyl))
  obtain ⟨f0, f1, f2, f3, f4, f5⟩ := f
  have hne : C ≠ b := by
    rcases hb with z | z
    · rw [z]; exact f1
    · exact fun e => f4 y b z e.symm
  refine ⟨m, hn.sameBut sb hne, fun h3 sb3 => ?_⟩
  exact ⟨_, H', I2.turned (t' := s2.toks) (fun b o hb e => (sb3.2 b hb).trans e) f0 f1 f3 f4 f5, q⟩
end Mn
end
section
set_option autoImplicit false
set_option maxRecDepth 20000
/-! Mn25: what passes the checks is read right: the theorem for statements. -/
namespace Mn
open PySem PySem.Spec L2
/-- an exception's class -/
structure ExcF (X : Cx) (C : Addr) : Prop where
  kp : PySem.W.keepIn X.K (.ref C) = true
  rs : Raises X (.ref C)
  ex : ∃ bmB B newId initId, ExcBaseFacts B newId initId bmB ∧ PySem.W.excIn X.K C bmB newId = true
structure FitS (g : G) (P : Prg) (C : Nat → List MV → Sto → Res EV) (T : Tx) (X : Cx) (sk : Sk) : Prop where
  F : Fit g P C T X sk
  own : PassesOwn (model X.prog X.w) X.A X.env X.xe
  stk : X.stack = X.env :: X.outer
  frm : X.env.frame = some X.env.locals
  kind : X.env.scope.kind = .function
  clm : ∀ (d : Nat) (x : Str), T.cl[d]? = some x → X.mg x = some (.ref (g.clA d))
  exr : ∀ d, P.exm d d ≠ none → ExcF X (g.clA d)
  exm : ∀ c d b, P.exm c d = some b → PySem.W.exmOne X.K (.ref (g.clA c)) (.ref (g.clA d)) = some b
section
variable {g : G} {P : Prg} {C : Nat → List MV → Sto → Res EV} {T : Tx} {X : Cx} {k : Sk}
theorem Fit.tr (F : Fit g P C T X k) (pn : List (Addr × Obj)) (xe : Value → Shared → Prop) : Fit g P C T (X.tr pn xe) k where
  sc := F.sc
  N := F.N
  fn := F.fn
  nd := F.nd
  K := F.K
  w := F.w
  calm := F.calm
  hd := F.hd
  hu := F.hu
  blt := F.blt
  fns := fun f x h => ⟨(F.fns f x h).1, (F.fns f x h).2.1, (F.fns f x h).2.2⟩
  fnv := fun f h => ⟨(F.fnv f h).1, (F.fnv f h).2⟩
  gls := F.gls
  cls := fun c f x h h' => ⟨(F.cls c f x h h').1, (F.cls c f x h h').2.1, (F.cls c f x h h').2.2.1, (F.cls c f x h h').2.2.2⟩
  mth := fun c m f nm h h' => ⟨⟨(F.mth c m f nm h h').1.1, (F.mth c m f nm h h').1.2⟩, (F.mth c m f nm h h').2⟩
  fds := F.fds
  fdx := F.fdx
  fdj := F.fdj
theorem FitS.tr (F : FitS g P C T X k) (pn : List (Addr × Obj)) (xe : Value → Shared → Prop) (hx : PassesOwn (model X.prog X.w) X.A X.env xe) : FitS g P C T (X.tr pn xe) k where
  F := F.F.tr pn xe
  own := hx
  stk := F.stk
  frm := F.frm
  kind := F.kind
  clm := F.clm
  exr := fun d h => ⟨(F.exr d h).1, (F.exr d h).2, (F.exr d h).3⟩
  exm := F.exm
/-- the clauses by the hand layer's list -/
def hdL (g : G) (vs : List V) : List (Nat × PV) → List (Value × (Addr → Value → Option Addr → TS))
  | [] => []
  | (d, _) :: r => (.ref (g.clA d), fun _ _ _ => tRet (tC (vs.headD .non))) :: hdL g vs.tail r
inductive VsL (K : PySem.W.Frag) : List V → List (Nat × PV) → Prop
  | nil : VsL K [] []
  | cons {v : V} {d : Nat} {p : PV} {vs : List V} {r : List (Nat × PV)} (h : ∀ H, PR K H v p) (t : VsL K vs r) : VsL K (v :: vs) ((d, p) :: r)
theorem hds_ok (F : FitS g P C T X k) : ∀ {h : List (Nat × PV)} {hs : List ExceptHandler}, ckH T k h hs = true → ∃ vs, VsL g.K vs h ∧ HdsOk X hs (hdL g vs h)
  | [], hs, hk => by
    rw [kh_nil hk]
    exact ⟨[], .nil, .nil⟩
  | (d, v) :: r, hs, hk => by
    obtain ⟨x, q, cc, z, z2, z3, z4, hr, rfl, h1, h2, h3, h4⟩ := kh_cons hk
    obtain ⟨vs, hv, ho⟩ := hds_ok F h4
    obtain ⟨q1, q2, q3⟩ := F.F.gl h2
    obtain ⟨w, _, hp⟩ := lit_ok (X := X) (q := z) (p := z2) h3
    refine ⟨w :: vs, .cons (hp g.K) hv, .cons (c := .ref (g.clA d)) ⟨q1, q2, .inl (F.clm d x h1)⟩ (fun a oe cls dd pn hz hf => ?_) ho⟩
    have : PE (X.suite a ((a, oe) :: pn)) (.Constant cc z z2) (tC w) := by
      cases v <;> cases cc <;> try (simp only [ckLit] at h3; cases h3; done)
      · have := hp g.K (fun _ => none); cases this; exact pe_non
      · have := hp g.K (fun _ => none)
        simp only [ckLit, beq_iff_eq] at h3
        subst h3
        cases this; exact pe_bl
      · have := hp g.K (fun _ => none)
        simp only [ckLit, decide_eq_true_eq] at h3
        subst h3
        cases this; exact pe_int
      · have := hp g.K (fun _ => none)
        simp only [ckLit, decide_eq_true_eq] at h3
        subst h3
        cases this; exact pe_str
    exact pss_one (ps_ret this)
theorem many_run (F : FitS g P C T X k) {W : WX} {D : Ends} {c : Nat} {x : Option Int} {σ : St} {H H0 : Hp} {ρ ρ0 : List Addr} {en : Env} {s1 : Sto} (dd : Option Addr) (hdd : XW g W σ c x ρ H → W (.ref (g.clA c)) dd σ H) (E : Ext ρ0 H0 ρ H) (S : SR g ρ s1 H) (N : NR g ρ H σ en) :
    ∀ {h : List (Nat × PV)} {vs : List V}, VsL g.K vs h → LandsS g ρ0 H0 (evH P c x h en s1) D W → wMany X.K W D (hdL g vs h) (.ref (g.clA c)) dd σ H
  | [], vs, hv, L => by
    cases hv
    exact hdd (L ρ H σ E S N)
  | (d, p) :: r, vs, hv, L => by
    cases hv with
    | cons hp ht =>
      unfold evH at L
      split at L
      · rename_i e
        refine ⟨true, F.exm c d true e, fun _ a ha => L ρ H _ E S (.p (hp H)), fun h => by cases h⟩
      · rename_i e
        exact ⟨false, F.exm c d false e, (fun h => by cases h), fun _ => many_run F dd hdd E S N ht L⟩
      · exact False.elim L
theorem s_tri (F : FitS g P C T X k) {W : WX} {b : MSs} {h : List (Nat × PV)} {vs : List V} (hv : VsL g.K vs h) {D : Ends} {σ : St} {H : Hp} (hh : tS g W (evS P C (.tri b h)) D σ H) : tS g (wMany X.K W D (hdL g vs h)) (evSs P C b) D σ H := by
  obtain ⟨ρ, st, env, S, N, L⟩ := hh
  simp only [evS] at L
  refine ⟨ρ, st, env, S, N, ?_⟩
  cases e : evSs P C b env st with
  | ok f en s1 => rw [e] at L; cases f <;> exact L
  | stk => rw [e] at L; exact L
  | exc c x en s1 =>
    rw [e] at L
    intro ρ' H' σ' E' S' N'
    cases x with
    | none => exact many_run F none id E' S' N' hv L
    | some i => exact fun d hd => many_run (x := some i) F (some d) (fun h => by exact h d hd) E' S' N' hv L
/-- an assignment that the comprehension itself makes -/
theorem swap_run {X : Cx} {k : Sk} {W : WX} {i : Nat} {x : Str} {px p : Pos} {v : Expr} (F : FitS g P C T X k) (tk : Takes X W) (hi : X.N[i]? = some x) (hsw : isSwap k (.Name x px) v = true) : ∀ (e : MX), ckE T e k v = true →
    PS X (.Assign [.Name x px] v p) (fun D σ H => tE g W (evE P C e) σ H fun y H1 => gName i y σ H1 D.nx) := by
  intro e
  cases v <;> try (simp only [isSwap] at hsw; cases hsw; done)
  · rename_i elt gs scope q
    simp only [isSwap, Bool.and_eq_true, decide_eq_true_eq, Bool.not_eq_true'] at hsw
    obtain ⟨⟨hy, hl⟩, ha⟩ := hsw
    have hy' : X.env.scope.names.lookup x = some .local := by rw [F.F.sc]; exact hy
    have hsw : swapsWith (.ListComp elt gs scope q) (some (.Name x px)) p.line X.env = pure true := sw_true F.kind hy' hl ha
    induction e using MX.rec (motive_2 := fun _ => True) (motive_3 := fun _ => True) with
    | lc a tgm it cs own iha _ _ =>
      intro h1
      obtain ⟨x', tx, ix, ifs, n, scope', p', e1, rfl, g1, g2, g3, g4, g5, g6, g7, g8⟩ := ck_lc h1
      cases e1
      have ok : BlkOk X.N X.env.scope scope (ownP k own) := by rw [F.F.N, F.F.sc]; exact blkOk_by g1
      have hp := pair_of g6
      have := ps_setLc (spos := p) (py := px) F.F.calm F.F.nd hi hy' hsw (I_ok it (tx := tx) g2 F.F tk (fun q => tgt_tup g4 (hp q))) ok (fun s H D cl fp => tgt_ok (F.F.blk scope s H D cl fp) g4) (fun s H D cl fp => C_ok cs g8 (F.F.blk scope s H D cl fp) takes0) (fun s H D cl fp => (E_ok a g7 (F.F.blk scope s H D cl fp) takes0).1) (fold_of g3)
      rw [ownP_ix] at this
      exact PS.weak this fun _ _ _ hh => lc_read (own_of g5) hp hh
    | lc2 a tgm it cs tg2 it2 cs2 own own2 _ _ _ _ _ =>
      intro h1
      obtain ⟨x', tx, ix, ifs, n, tx2, ix2, ifs2, n2, scope', p', e1, rfl, rfl, g1, g2, g3, g4, g5, g6, g7, g8, j1, j2, j3, j4, j5, j6, j7⟩ := ck_lc2 h1
      cases e1
      have ok : BlkOk X.N X.env.scope scope (ownP k own) := by rw [F.F.N, F.F.sc]; exact blkOk_by g1
      have hp := pair_of g6
      have hp2 := pair_of j5
      have hv : ∀ i ∈ own2, i ∈ (ownP k own).map (·.2) := fun i hi => by
        rw [ownP_ix]
        exact of_decide_eq_true (List.all_eq_true.mp j7 i hi)
      have := ps_setLc2 (spos := p) (py := px) (vs1 := own2) F.F.calm F.F.nd hi hy' hsw (I_ok it (tx := tx) g2 F.F tk (fun q => tgt_tup g4 (hp q))) ok hv (fun s H D cl fp => tgt_ok (F.F.blk scope s H D cl fp) g4) (fun s H D cl fp => C_ok cs g8 (F.F.blk scope s H D cl fp) takes0)
        (fun s H D cl fp => I_ok it2 (tx := tx2) j1 (F.F.blk scope s H D cl fp) takes0 (fun q => tgt_tup j3 (hp2 q))) (fun s H D cl fp => tgt_ok (F.F.blk scope s H D cl fp) j3) (fun s H D cl fp => C_ok cs2 j6 (F.F.blk scope s H D cl fp) takes0)
        (fun s H D cl fp => (E_ok a g7 (F.F.blk scope s H D cl fp) takes0).1) (fold_of g3) (fun env => fold_of j2)
      rw [ownP_ix] at this
      exact PS.weak this fun _ _ _ hh => lc2_read (own_of g5) hp (own_of j4) hp2 hh
    | lock j a ih =>
      intro h1
      exact PS.weak (ps_lock (ih (ck_lock h1).2)) fun _ _ _ hh => r_lock hh
    | _ => first | exact trivial | (intro h1; simp only [ckE] at h1; cases h1)
  · rename_i u w gs scope q
    simp only [isSwap, Bool.and_eq_true, decide_eq_true_eq, Bool.not_eq_true'] at hsw
    obtain ⟨⟨hy, hl⟩, ha⟩ := hsw
    have hy' : X.env.scope.names.lookup x = some .local := by rw [F.F.sc]; exact hy
    have hsw : swapsWith (.DictComp u w gs scope q) (some (.Name x px)) p.line X.env = pure true := sw_dict F.kind hy' hl ha
    induction e using MX.rec (motive_2 := fun _ => True) (motive_3 := fun _ => True) with
    | dcp a b tgm it cs own _ _ _ _ =>
      intro h1
      obtain ⟨x', y', tx, ix, ifs, n, scope', p', e1, rfl, g1, g2, g3, g4, g5, g6, g7, g8, g9⟩ := ck_dcp h1
      cases e1
      have ok : BlkOk X.N X.env.scope scope (ownP k own) := by rw [F.F.N, F.F.sc]; exact blkOk_by g1
      have hp := pair_of g6
      have := ps_setDc (spos := p) (py := px) F.F.calm F.F.nd hi hy' hsw (I_ok it (tx := tx) g2 F.F tk (fun q => tgt_tup g4 (hp q))) ok (fun s H D cl fp => tgt_ok (F.F.blk scope s H D cl fp) g4) (fun s H D cl fp => C_ok cs g9 (F.F.blk scope s H D cl fp) takes0) (fun s H D cl fp => (E_ok a g7 (F.F.blk scope s H D cl fp) takes0).1)
        (fun s H D cl fp => (E_ok b g8 (F.F.blk scope s H D cl fp) takes0).1) (fold_of g3)
      rw [ownP_ix] at this
      exact PS.weak this fun _ _ _ hh => dc_read (own_of g5) hp hh
    | lock j a ih =>
      intro h1
      exact PS.weak (ps_lock (ih (ck_lock h1).2)) fun _ _ _ hh => r_lock hh
    | _ => first | exact trivial | (intro h1; simp only [ckE] at h1; cases h1)
theorem swap_ok {t : MT} {e : MX} {X : Cx} {k : Sk} {W : WX} {tg v : Expr} {p : Pos} (h1 : ckE T e k v = true) (h2 : ckT k t tg = true) (h3 : isSwap k tg v = true) (F : FitS g P C T X k) (tk : Takes X W) : PS X (.Assign [tg] v p) (tS g W (evS P C (.asg t e))) := by
  cases tg <;> try (simp only [isSwap] at h3; cases h3; done)
  rename_i x px
  cases t with
  | tp is => simp only [ckT] at h2; cases h2
  | nm i =>
    simp only [ckT, Sk.tgt, Bool.and_eq_true, decide_eq_true_eq] at h2
    have hi : X.N[i]? = some x := by rw [F.F.N]; exact h2.1
    exact PS.weak (swap_run F tk hi h3 e h1) fun _ _ _ hh => s_asg hh
mutual
theorem S_ok : ∀ (s : MS) {X : Cx} {k : Sk} {W : WX} {st : Stmt}, ckS T s k st = true → FitS g P C T X k → Takes X W → PS X st (tS g W (evS P C s))
  | .asg t e, X, k, W, st, h, F, tk => by
    obtain ⟨tg, v, p, rfl, h1, h2, h3⟩ := ks_asg h
    rcases h3 with ⟨h3, h4⟩ | h3
    · have h5 : (assignEach [tg] X.env).map (·.2) = [assign tg X.env] := by
        cases tg <;> first | rfl | (simp only [noPair] at h4; cases h4; done)
      exact PS.weak (ps_asg (E_ok e h1 F.F tk).1 (tgt_ok F.F h2) (swap_no F.F.sc h3) (pair_no F.F.sc h4) h5) fun _ _ _ => s_asg
    · exact swap_ok h1 h2 h3 F tk
  | .par i j a b, X, k, W, st, h, F, tk => by
    obtain ⟨x, px, y, py, q1, q2, u, v, q3, q4, p, rfl, h1, h2, h3, h4, h5, h6, h7, h8, h9, h10, h11, h12, h13⟩ := ks_par h
    have hx : X.env.scope.names.lookup x = some .local := by rw [F.F.sc]; exact h5
    have hy : X.env.scope.names.lookup y = some .local := by rw [F.F.sc]; exact h6
    have hl : ckL T (.cons a (.cons b .nil)) k [u, v] = true := by
      simp only [ckL, Bool.and_eq_true]
      exact ⟨⟨h7, h12⟩, ⟨h8, h13⟩, trivial⟩
    exact PS.weak (ps_par (px := px) (py := py) (pt := q2) (kt := q1) (k2 := q3) (pt2 := q4) F.F.calm F.F.nd (by rw [F.F.N]; exact h1) (by rw [F.F.N]; exact h2) h3 hx hy (L_ok _ hl F.F tk) (pair_yes F.kind hx hy h4 h7 h8 h9 h10 h11)) fun _ _ _ => s_par
  | .sub o i e, X, k, W, st, h, F, tk => by
    obtain ⟨x, y, q, v, p, rfl, h1, h2, h3, h4, h5⟩ := ks_sub h
    have hg := pg_sub (pos := q) (E_ok o h4 F.F tk).1 (E_ok i h5 F.F tk).1 set_list (fun w => by
      cases y <;> first | rfl | (simp only [notSlice] at h1; cases h1; done))
    have hsw : swapsWithSole [.Subscript x y q] v p.line X.env = pure false := by
      have := swap_not (env := X.env) (o := some (.Subscript x y q)) (l := p.line) h2
      simpa only [swapsWithSole] using this
    exact PS.weak (ps_asg (E_ok e h3 F.F tk).1 hg hsw rfl rfl) fun _ _ _ => s_sub
  | .dsub o i e, X, k, W, st, h, F, tk => by
    obtain ⟨x, y, q, v, p, rfl, h1, h2, h3, h4, h5⟩ := ks_dsub h
    have hg := pg_sub (pos := q) (E_ok o h4 F.F tk).1 (E_ok i h5 F.F tk).1 (set_dict (Nat.lt_of_le_of_lt (Nat.add_le_add_left (by decide : 1 ≤ 200) _) F.F.hu)) (fun w => by
      cases y <;> first | rfl | (simp only [notSlice] at h1; cases h1; done))
    have hsw : swapsWithSole [.Subscript x y q] v p.line X.env = pure false := by
      have := swap_not (env := X.env) (o := some (.Subscript x y q)) (l := p.line) h2
      simpa only [swapsWithSole] using this
    exact PS.weak (ps_asg (E_ok e h3 F.F tk).1 hg hsw rfl rfl) fun _ _ _ => s_dsub
  | .fst o f e, X, k, W, st, h, F, tk => by
    obtain ⟨x, nm, q, v, p, rfl, rfl, hnf, h1, h2, h3⟩ := ks_fst h
    have := ps_fld (f := T.fd f) (pos' := q) (pos := p) (E_ok o h3 F.F tk).1 (E_ok e h2 F.F tk).1 (swap_not h1)
    rw [F.F.K, F.F.fdx] at this
    rw [F.F.fdx]
    refine PS.weak this fun _ _ _ => s_fst (fun i j q => F.F.fdj i j (by rw [F.F.fdx]; exact q)) fun c hc => ?_
    obtain ⟨w1, w2⟩ := F.F.fds c hc
    rw [F.F.K] at w1 w2
    rw [F.F.fdx] at w2
    exact ⟨w1, w2 f hnf⟩
  | .aug i sg e, X, k, W, st, h, F, tk => by
    obtain ⟨x, q, op, v, p, rfl, h1, rfl, h2⟩ := ks_aug h
    simp only [Sk.tgt, Bool.and_eq_true, decide_eq_true_eq] at h1
    obtain ⟨hi, hx⟩ := h1
    have hi' : X.N[i]? = some x := by rw [F.F.N]; exact hi
    have hL : Loc X.env.scope x ∧ (X.fn x = true ∨ X.env.scope.names.lookup x = some .local) := by
      rw [F.F.sc, F.F.fn]
      split at hx
      · rename_i e; exact ⟨.inl e, .inr e⟩
      · rename_i e; exact ⟨.inr e, .inl hx⟩
      · cases hx
    cases sg with
    | true => exact PS.weak (ps_aug F.F.nd hi' hL.1 (E_ok e h2 F.F tk).1 ip_add hL.2) fun _ _ _ => s_aug
    | false => exact PS.weak (ps_aug F.F.nd hi' hL.1 (E_ok e h2 F.F tk).1 ip_sub hL.2) fun _ _ _ => s_aug
  | .augm i ml e, X, k, W, st, h, F, tk => by
    obtain ⟨x, q, op, v, p, rfl, h1, rfl, h2⟩ := ks_augm h
    simp only [Sk.tgt, Bool.and_eq_true, decide_eq_true_eq] at h1
    obtain ⟨hi, hx⟩ := h1
    have hi' : X.N[i]? = some x := by rw [F.F.N]; exact hi
    have hL : Loc X.env.scope x ∧ (X.fn x = true ∨ X.env.scope.names.lookup x = some .local) := by
      rw [F.F.sc, F.F.fn]
      split at hx
      · rename_i e; exact ⟨.inl e, .inr e⟩
      · rename_i e; exact ⟨.inr e, .inl hx⟩
      · cases hx
    cases ml with
    | true => exact PS.weak (ps_aug F.F.nd hi' hL.1 (E_ok e h2 F.F tk).1 ip_mul hL.2) fun _ _ _ => s_augm
    | false => exact PS.weak (ps_aug F.F.nd hi' hL.1 (E_ok e h2 F.F tk).1 ip_fdiv hL.2) fun _ _ _ => s_augm
  | .ex e, X, k, W, st, h, F, tk => by
    obtain ⟨v, p, rfl, h1, h2⟩ := ks_ex h
    exact PS.weak (ps_expr (E_ok e h2 F.F tk).1 (swap_not h1)) fun _ _ _ => s_ex
  | .iff c a b, X, k, W, st, h, F, tk => by
    obtain ⟨x, y, z, p, rfl, h1, h2, h3⟩ := ks_iff h
    exact PS.weak (ps_if (E_ok c h1 F.F tk).2 (Ss_ok a h2 F tk) (Ss_ok b h3 F tk)) fun _ _ _ => s_iff
  | .whl c b, X, k, W, st, h, F, tk => by
    obtain ⟨x, y, p, rfl, h1, h2⟩ := ks_whl h
    exact PS.weak (ps_while F.own (E_ok c h1 F.F tk).2 (Ss_ok b h2 F tk)) fun _ _ _ => s_whl
  | .forr t it b, X, k, W, st, h, F, tk => by
    obtain ⟨tg, ix, y, p, rfl, h1, h2, h3, h4, h5⟩ := ks_forr h
    have hp := pair_of h4
    exact PS.weak (ps_for F.own F.F.calm (I_ok it (tx := tg) h2 F.F tk (fun q => tgt_tup h3 (hp q))) (tgt_ok F.F h3) (Ss_ok b h5 F tk) (fold_of h1)) fun _ _ _ => s_for hp
  | .ret e, X, k, W, st, h, F, tk => by
    obtain ⟨v, p, rfl, h1⟩ := ks_ret h
    exact PS.weak (ps_ret (E_ok e h1 F.F tk).1) fun _ _ _ => s_ret
  | .retN, X, k, W, st, h, F, tk => by
    obtain ⟨p, rfl⟩ := ks_retN h
    refine PS.weak ps_retN fun D σ H hh => ?_
    obtain ⟨ρ, st, env, S, N, L⟩ := hh
    simp only [evS] at L
    exact L ρ H .non Ext.refl S (ER.ofP .non)
  | .brk, X, k, W, st, h, F, tk => by
    obtain ⟨p, rfl⟩ := ks_brk h
    refine PS.weak ps_break fun D σ H hh => ?_
    obtain ⟨ρ, st, env, S, N, L⟩ := hh
    simp only [evS] at L
    exact L ρ H σ Ext.refl S N
  | .cnt, X, k, W, st, h, F, tk => by
    obtain ⟨p, rfl⟩ := ks_cnt h
    refine PS.weak ps_continue fun D σ H hh => ?_
    obtain ⟨ρ, st, env, S, N, L⟩ := hh
    simp only [evS] at L
    exact L ρ H σ Ext.refl S N
  | .pass, X, k, W, st, h, F, tk => by
    obtain ⟨p, rfl⟩ := ks_pass h
    refine PS.weak ps_pass fun D σ H hh => ?_
    obtain ⟨ρ, st, env, S, N, L⟩ := hh
    simp only [evS] at L
    exact L ρ H σ Ext.refl S N
  | .rse d, X, k, W, st, h, F, tk => by
    obtain ⟨x, q, m, r, s, p2, p, rfl, h1, h2⟩ := ks_rse h
    obtain ⟨q1, q2, q3⟩ := F.F.gl h2
    by_cases c : P.exm d d = none
    · refine ⟨fun pins s σ H D I hh => ?_⟩
      obtain ⟨ρ, st, env, S, N, L⟩ := hh
      simp only [evS, c] at L
      exact False.elim L
    · obtain ⟨kp, rs, bmB, B, newId, initId, FB, q⟩ := F.exr d c
      refine PS.weak (ps_raise F.F.calm tk (pmk_own FB q (F.clm d x h1) kp rs q1 q2)) fun D σ H hh => ?_
      obtain ⟨ρ, st, env, S, N, L⟩ := hh
      cases e : P.exm d d with
      | none => exact absurd e c
      | some b =>
        simp only [evS, e] at L
        exact L ρ H σ Ext.refl S N
  | .tri b hd, X, k, W, st, h, F, tk => by
    obtain ⟨y, h0, hs, p, rfl, h1, h2⟩ := ks_tri h
    obtain ⟨vs, hv, ho⟩ := hds_ok F h2
    exact PS.weak (ps_try_many F.stk F.frm tk (fun W' pn xe tk' hx => Ss_ok b h1 (F.tr pn xe hx) tk') ho) fun _ _ _ => s_tri F hv
theorem Ss_ok : ∀ (ss : MSs) {X : Cx} {k : Sk} {W : WX} {sts : List Stmt}, ckSs T ss k sts = true → FitS g P C T X k → Takes X W → PSs X sts (tS g W (evSs P C ss))
  | .nil, X, k, W, sts, h, F, tk => by
    rw [ks_nil h]
    exact PSs.weak pss_nil fun _ _ _ => s_nil
  | .cons s r, X, k, W, sts, h, F, tk => by
    obtain ⟨x, xs, rfl, h1, h2⟩ := ks_cons h
    exact PSs.weak (pss_cons (S_ok s h1 F tk) (Ss_ok r h2 F tk)) fun _ _ _ => s_seq
end
end
end Mn
end
section
set_option autoImplicit false
set_option maxRecDepth 20000
/-! Mn26: defs: each keeps Mini's promise. -/
namespace Mn
open PySem PySem.Spec PyProof.Rows L2
/-- a def of the text, as a datum -/
structure FnI where
  name : Str
  qual : Str
  args : Arguments
  body : List Stmt
  scope : Scope
  N : List Str
  ps : List Str
def BindF (d : FnI) : Prop := ∀ (kV doc pm : Value) (an : Option Addr) (cdv ct : Value) (us : List Value), us.length = d.ps.length → bindArgs (PySem.W.fnOf d.name d.qual d.args d.body d.scope .none kV doc pm an cdv ct) ⟨us, []⟩ = pure (d.ps.zip us)
/-- a def of the text and Mini's agree -/
structure Agree (T : Tx) (d : FnI) (m : FD) : Prop where
  sc : FnScope d.N d.ps d.scope
  ck : ckSs T m.body ⟨d.scope, d.N, fun _ => true⟩ d.body = true
  n : m.n = d.N.length
  np : m.np = d.ps.length
  le : d.ps.length ≤ d.N.length
  bd : BindF d
/-- the text as Mini has it -/
structure World (g : G) (P : Prg) (T : Tx) (mg : Str → Option Value) (is : List FnI) : Prop where
  blt : ∀ x ∈ bltNames, mg (x : Str) = none
  len : is.length = P.fs.length
  fns : ∀ (f : Nat) (d : FnI) (m : FD), is[f]? = some d → P.fs[f]? = some m → Agree T d m ∧ ∃ fd, FunD g.K d.name d.qual d.args d.body d.scope [] [] (g.fnA f) fd
  fnm : ∀ (f : Nat) (x : Str), T.fn[f]? = some x → mg x = some (.ref (g.fnA f)) ∧ f < P.fs.length
  gls : ∀ (j : Nat) (m : MV), P.glob[j]? = some (some m) → ∃ x v u, T.gl[j]? = some x ∧ mg x = some u ∧ RelV v u ∧ ∀ ρ H, VR g ρ H v m
  clm : ∀ (c : Nat) (x : Str), T.cl[c]? = some x → mg x = some (.ref (g.clA c))
  cls : ∀ c f, P.init c = some f → Mk g.K (g.clA c) (g.fnA f) ∧ f < P.fs.length
  mth : ∀ (c m f : Nat) (nm : Str), P.meth c m = some f → T.me[m]? = some nm → Meth g.K (g.clA c) nm (g.fnA f) ∧ Cls g.K (g.clA c) ∧ f < P.fs.length ∧ ∀ i, T.fd i ≠ nm
  fds : ∀ c, P.init c ≠ none → Cls g.K (g.clA c) ∧ ∀ i, i < T.nf → NoAttr g.K (g.clA c) (T.fd i)
  fdx : T.fd = g.fld
  fdj : ∀ i j, T.fd i = T.fd j → i = j
  exr : ∀ d, P.exm d d ≠ none → PySem.W.keepIn g.K (.ref (g.clA d)) = true ∧ PySem.W.subIn g.K (.ref (g.clA d)) (.type "BaseException") = some true ∧ PySem.W.typeIn g.K (.ref (g.clA d)) = some (.type "type") ∧
    ∃ bmB B newId initId, ExcBaseFacts B newId initId bmB ∧ PySem.W.excIn g.K (g.clA d) bmB newId = true
  exm : ∀ c d b, P.exm c d = some b → PySem.W.exmOne g.K (.ref (g.clA c)) (.ref (g.clA d)) = some b
section
variable {g : G} {P : Prg} {T : Tx} {mg : Str → Option Value} {is : List FnI} {prog : Program} {base : Heap}
theorem World.mem (Wd : World g P T mg is) {f : Nat} (h : f < P.fs.length) : ∃ d m, is[f]? = some d ∧ P.fs[f]? = some m :=
  ⟨is[f]'(by rw [Wd.len]; exact h), P.fs[f], List.getElem?_eq_getElem _, List.getElem?_eq_getElem h⟩
/-- what a call gives -/
def OkAt (g : G) (P : Prg) (prog : Program) (mg : Str → Option Value) (base : Heap) (is : List FnI) (k f : Nat) : Prop := ∃ (fd : FuncData) (d : FnI), is[f]? = some d ∧ FunD g.K d.name d.qual d.args d.body d.scope [] [] (g.fnA f) fd ∧ FnOk prog g.w g.K mg base (L2.CX prog g.w) (2 * k) (g.fnA f) fd d.ps (spM g (callM P k) f) ∧ Binds g.K fd d.ps [] ∧ PySem.W.keepIn g.K (.ref (g.fnA f)) = true
theorem okAt_fnAt {X : Cx} {k extra f : Nat} (h : OkAt g P prog mg base is k f) (h1 : X.prog = prog) (h2 : X.w = g.w) (h3 : X.K = g.K) (h4 : X.mg = mg) (h5 : X.base = base) (hr : Room (2 * k + extra) X.A) : FnAt g (callM P k) X extra f := by
  obtain ⟨fd, d, _, _, F, hb, kp⟩ := h
  subst h1; subst h4; subst h5
  rw [← h2, ← h3] at F
  rw [← h3] at hb kp
  exact ⟨kp, 2 * k, fd, d.ps, F, hr, hb⟩
theorem fit_of (Wd : World g P T mg is) {k : Nat} (ih : ∀ f, f < P.fs.length → OkAt g P prog mg base is k f) {d : FnI} {f : Addr} {cdv : Value} {A : Around} {outer : List PySem.Env} {s : Shared} {H : Hp} {E : L2.XK} (S : FnScope d.N d.ps d.scope)
    (hr : Room (2 * k + 1) (A.deeper (envOfC d.qual d.scope s.heap.objs.size f cdv))) :
    FitS g P (callM P k) T (cxOf (L2.CX prog g.w) prog g.w g.K mg base d.N d.qual d.scope f cdv A outer s H E) ⟨d.scope, d.N, fun _ => true⟩ where
  F := {
    sc := rfl, N := rfl, fn := rfl, nd := S.nd, K := rfl, w := rfl, calm := rfl, hd := hr.hd
    hu := by have := hr.un; show (A.deeper (envOfC d.qual d.scope s.heap.objs.size f cdv)).units + 200 < cLine; omega
    blt := Wd.blt
    fns := fun f x h => ⟨(Wd.fnm f x h).1, okAt_fnAt (ih f (Wd.fnm f x h).2) rfl rfl rfl rfl rfl (Room.mono hr (by omega))⟩
    fnv := fun f h => okAt_fnAt (ih f h) rfl rfl rfl rfl rfl (Room.mono hr (by omega))
    gls := Wd.gls
    cls := fun c f x h h' => ⟨Wd.clm c x h, (Wd.cls c f h').1, okAt_fnAt (ih f (Wd.cls c f h').2) rfl rfl rfl rfl rfl hr⟩
    mth := fun c m f' nm h h' => by
      obtain ⟨q1, q2, q3, q4⟩ := Wd.mth c m f' nm h h'
      obtain ⟨kp, j, fd, ps, F, hr', hb⟩ := okAt_fnAt (X := cxOf (L2.CX prog g.w) prog g.w g.K mg base d.N d.qual d.scope f cdv A outer s H E) (extra := 0) (ih f' q3) rfl rfl rfl rfl rfl (Room.mono (k := 2 * k + 1) (j := 2 * k + 0) hr (by omega))
      exact ⟨⟨q2, _, j, fd, ps, q1, F, hr', hb⟩, q4⟩
    fds := Wd.fds
    fdx := Wd.fdx
    fdj := Wd.fdj }
  own := passes_of rfl
  stk := rfl
  frm := rfl
  kind := S.kind
  clm := Wd.clm
  exr := fun d h => by
    obtain ⟨q1, q2, q3, q4⟩ := Wd.exr d h
    exact ⟨q1, raises_own q2 q3, q4⟩
  exm := Wd.exm
theorem start_NR {ρ : List Addr} {H : Hp} {N : List Str} {vs : List V} {ms : List MV} (r : VRs g ρ H vs ms) (hl : ms.length ≤ N.length) : NR g ρ H (L2.start N vs) (ms.map some ++ List.replicate (N.length - ms.length) none) := by
  unfold L2.start
  refine ⟨by simp [r.1], fun i m h => ?_⟩
  by_cases c : i < ms.length
  · rw [List.getElem?_append_left (by simpa using c), List.getElem?_map] at h
    cases e : ms[i]? with
    | none => rw [e] at h; cases h
    | some m' =>
      rw [e] at h; cases h
      obtain ⟨v, h1, h2⟩ := r.get e
      refine ⟨v, ?_, h2⟩
      rw [List.getElem?_append_left (by rw [List.length_map, r.1]; exact c), List.getElem?_map, h1]; rfl
  · rw [List.getElem?_append_right (by simpa using c)] at h
    rw [List.getElem?_replicate] at h
    split at h <;> cases h
/-- each def, at each depth -/
theorem ok_all (Wd : World g P T mg is) : ∀ (k f : Nat), f < P.fs.length → OkAt g P prog mg base is k f := by
  intro k
  induction k with
  | zero =>
    intro f hf
    obtain ⟨d, m, e1, e2⟩ := Wd.mem hf
    obtain ⟨A, fd, FF⟩ := Wd.fns f d m e1 e2
    refine ⟨fd, d, e1, FF, ⟨fun vs H Q E h => ?_, fun _ _ _ _ _ _ _ _ _ _ _ _ _ h => ?_⟩, FF.bindsN A.bd, FF.kp⟩
    · obtain ⟨ρ, st, ms, S, r, L⟩ := h; exact False.elim L
    · obtain ⟨ρ, st, ms, S, r, L⟩ := h; exact False.elim L
  | succ k ih =>
    intro f hf
    obtain ⟨d, m, e1, e2⟩ := Wd.mem hf
    obtain ⟨A, fd, FF⟩ := Wd.fns f d m e1 e2
    have hlen : ∀ (vs : List V) (H : Hp) (Q : VK) (E : L2.XK), spM g (callM P (k + 1)) f vs H Q E → vs.length = d.ps.length := fun vs H Q E h => by
      obtain ⟨ρ, st, ms, S, r, L⟩ := h
      by_cases c : ms.length = m.np
      · rw [r.1, c, A.np]
      · simp only [callM, e2, runFn] at L
        rw [if_neg c] at L
        exact False.elim L
    have F := FF.ok (P := prog) (w := g.w) (mg := mg) (base := base) (CX := L2.CX prog g.w) (N := d.N) (ps := d.ps) (k := 2 * k + 1) (sp := spM g (callM P (k + 1)) f) A.sc hlen fun cdv Ar outer s H vs Q E hr h => by
      have FS := fit_of (base := base) (prog := prog) (outer := outer) (H := H) (E := E) Wd ih A.sc hr
      have tk : Takes (cxOf (L2.CX prog g.w) prog g.w g.K mg base d.N d.qual d.scope (g.fnA f) cdv Ar outer s H E) (fun cls dd _ H => E cls dd H) := takes_of rfl rfl rfl rfl
      refine ⟨_, Ss_ok m.body A.ck FS tk, ?_⟩
      obtain ⟨ρ, st, ms, S, r, L⟩ := h
      simp only [callM, e2, runFn] at L
      have c : ms.length = m.np := by
        by_cases c : ms.length = m.np
        · exact c
        · rw [if_neg c] at L; exact False.elim L
      rw [if_pos c] at L
      have hle : ms.length ≤ d.N.length := by rw [c, A.np]; exact A.le
      refine ⟨ρ, st, _, S, start_NR r hle, ?_⟩
      rw [← A.n]
      cases e : evSs P (callM P k) m.body (ms.map some ++ List.replicate (m.n - ms.length) none) st with
      | ok fl en s1 =>
        rw [e] at L
        cases fl with
        | nx => exact fun ρ' H' σ' E' S' N' => L ρ' H' E' S' .non (ER.ofP .non)
        | rt r => exact fun ρ' H' v E' S' hv => L ρ' H' E' S' v hv
        | bk => exact False.elim L
        | ct => exact False.elim L
      | exc c x en s1 =>
        rw [e] at L
        exact fun ρ' H' σ' E' S' N' => Eq.mpr (XW_XK (ρ := ρ')) (L ρ' H' E' S')
      | stk => rw [e] at L; exact L
    exact ⟨fd, d, e1, FF, F, FF.bindsN A.bd, FF.kp⟩
theorem funD_inj {K : PySem.W.Frag} {x q x' q' : Str} {a a' : Arguments} {b b' : List Stmt} {s s' : Scope} {dv dv' : List V} {kw kw' : List (Str × V)} {f : Addr} {fd fd' : FuncData} (h : FunD K x q a b s dv kw f fd) (h' : FunD K x' q' a' b' s' dv' kw' f fd') : fd = fd' := by
  obtain ⟨_, _, _, _, _, _, _, _, _, _, _, l, _⟩ := h.ex
  obtain ⟨_, _, _, _, _, _, _, _, _, _, _, l', _⟩ := h'.ex
  rw [l] at l'
  cases l'
  rfl
end
end Mn
end
section
set_option maxRecDepth 100000
/-! Mini's form of the program of law k36 (printed by mkmini.py). -/
namespace K36
open PySem L2 Mn
def top (i : Nat) : Stmt := PySem.Challenge.pw_namesbound_k36_codes_tables_and_patterns.main.body.getD i (.Pass ⟨0, 0, 0, 0⟩)
/-- free_in: 0 term, 1 bound -/
def b0 : MSs := (.cons (.iff (.cmp .eq (.ix (.var 0) (.lit (.int 0))) (.lit (.str [110, 97, 109, 101]))) (.cons (.ret (.ite (.cmp .inn (.ix (.var 0) (.lit (.int 1))) (.var 1)) (.lst .nil) (.lst (.cons (.ix (.var 0) (.lit (.int 1))) .nil))))
  .nil) .nil)
  (.cons (.iff (.cmp .eq (.ix (.var 0) (.lit (.int 0))) (.lit (.str [116, 111]))) (.cons (.ret (.call 0 (.cons (.ix (.var 0) (.lit (.int 2))) (.cons (.bin .add (.var 1) (.tup (.cons (.ix (.var 0) (.lit (.int 1))) .nil))) .nil))))
  .nil) .nil)
  (.cons (.ret (.bin .add (.call 0 (.cons (.ix (.var 0) (.lit (.int 1))) (.cons (.var 1) .nil))) (.call 0 (.cons (.ix (.var 0) (.lit (.int 2))) (.cons (.var 1) .nil)))))
  .nil)))
/-- free_names: 0 term -/
def b1 : MSs := (.cons (.ret (.bi .tuple (.cons (.bi .sorted (.cons (.bi .set (.cons (.call 0 (.cons (.var 0) (.cons (.tup .nil) .nil))) .nil)) .nil)) .nil)))
  .nil)
/-- bare_within: 0 term, 1 bound -/
def b2 : MSs := (.cons (.iff (.cmp .eq (.ix (.var 0) (.lit (.int 0))) (.lit (.str [110, 97, 109, 101]))) (.cons (.ret (.ite (.cmp .inn (.ix (.var 0) (.lit (.int 1))) (.var 1)) (.tup (.cons (.lit (.str [117, 112])) (.cons (.me .index (.var 1) (.cons (.ix (.var 0) (.lit (.int 1))) .nil)) .nil))) (.var 0)))
  .nil) .nil)
  (.cons (.iff (.cmp .eq (.ix (.var 0) (.lit (.int 0))) (.lit (.str [116, 111]))) (.cons (.ret (.tup (.cons (.lit (.str [116, 111])) (.cons (.call 2 (.cons (.ix (.var 0) (.lit (.int 2))) (.cons (.bin .add (.tup (.cons (.ix (.var 0) (.lit (.int 1))) .nil)) (.var 1)) .nil))) .nil))))
  .nil) .nil)
  (.cons (.ret (.tup (.cons (.lit (.str [111, 102])) (.cons (.call 2 (.cons (.ix (.var 0) (.lit (.int 1))) (.cons (.var 1) .nil))) (.cons (.call 2 (.cons (.ix (.var 0) (.lit (.int 2))) (.cons (.var 1) .nil))) .nil)))))
  .nil)))
/-- bare: 0 term -/
def b3 : MSs := (.cons (.ret (.call 2 (.cons (.var 0) (.cons (.tup .nil) .nil))))
  .nil)
/-- are_alike: 0 one, 1 other -/
def b4 : MSs := (.cons (.ret (.cmp .eq (.call 3 (.cons (.var 0) .nil)) (.call 3 (.cons (.var 1) .nil))))
  .nil)
/-- name_at: 0 k -/
def b5 : MSs := (.cons (.iff (.cmp .lt (.var 0) (.bi .len (.cons (.glb 0) .nil))) (.cons (.ret (.ix (.glb 0) (.var 0)))
  .nil) .nil)
  (.cons (.ret (.bin .add (.call 5 (.cons (.bin .sub (.bin .fdiv (.var 0) (.bi .len (.cons (.glb 0) .nil))) (.lit (.int 1))) .nil)) (.ix (.glb 0) (.bin .mod (.var 0) (.bi .len (.cons (.glb 0) .nil))))))
  .nil))
/-- first_name: 0 taken, 1 k -/
def b6 : MSs := (.cons (.asg (.nm 1) (.lit (.int 0)))
  (.cons (.whl (.cmp .inn (.call 5 (.cons (.var 1) .nil)) (.var 0)) (.cons (.aug 1 true (.lit (.int 1)))
  .nil))
  (.cons (.ret (.call 5 (.cons (.var 1) .nil)))
  .nil)))
/-- bare_free: 0 form, 1 part, 2 name -/
def b7 : MSs := (.cons (.iff (.cmp .eq (.ix (.var 0) (.lit (.int 0))) (.lit (.str [110, 97, 109, 101]))) (.cons (.ret (.lst (.cons (.ix (.var 0) (.lit (.int 1))) .nil)))
  .nil) .nil)
  (.cons (.iff (.cmp .eq (.ix (.var 0) (.lit (.int 0))) (.lit (.str [117, 112]))) (.cons (.ret (.lst .nil))
  .nil) .nil)
  (.cons (.ret (.lc2 (.var 2) (.nm 1) (.ex (.slf (.var 0) (.lit (.int 1)))) .nil (.nm 2) (.ex (.call 7 (.cons (.var 1) .nil))) .nil [1, 2] [2]))
  .nil)))
/-- named_within: 0 form, 1 bound, 2 free, 3 name -/
def b8 : MSs := (.cons (.iff (.cmp .eq (.ix (.var 0) (.lit (.int 0))) (.lit (.str [117, 112]))) (.cons (.ret (.tup (.cons (.lit (.str [110, 97, 109, 101])) (.cons (.ix (.var 1) (.ix (.var 0) (.lit (.int 1)))) .nil))))
  .nil) .nil)
  (.cons (.iff (.cmp .eq (.ix (.var 0) (.lit (.int 0))) (.lit (.str [110, 97, 109, 101]))) (.cons (.ret (.var 0))
  .nil) .nil)
  (.cons (.iff (.cmp .eq (.ix (.var 0) (.lit (.int 0))) (.lit (.str [116, 111]))) (.cons (.asg (.nm 3) (.call 6 (.cons (.bin .add (.var 2) (.var 1)) .nil)))
  (.cons (.ret (.tup (.cons (.lit (.str [116, 111])) (.cons (.var 3) (.cons (.call 8 (.cons (.ix (.var 0) (.lit (.int 1))) (.cons (.bin .add (.tup (.cons (.var 3) .nil)) (.var 1)) (.cons (.var 2) .nil)))) .nil)))))
  .nil)) .nil)
  (.cons (.ret (.tup (.cons (.lit (.str [111, 102])) (.cons (.call 8 (.cons (.ix (.var 0) (.lit (.int 1))) (.cons (.var 1) (.cons (.var 2) .nil)))) (.cons (.call 8 (.cons (.ix (.var 0) (.lit (.int 2))) (.cons (.var 1) (.cons (.var 2) .nil)))) .nil)))))
  .nil))))
/-- named: 0 bare_term -/
def b9 : MSs := (.cons (.ret (.call 8 (.cons (.var 0) (.cons (.tup .nil) (.cons (.bi .tuple (.cons (.call 7 (.cons (.var 0) .nil)) .nil)) .nil)))))
  .nil)
/-- pair_code: 0 m, 1 n -/
def b10 : MSs := (.cons (.ret (.bin .add (.bin .fdiv (.bin .mul (.bin .add (.var 0) (.var 1)) (.bin .add (.bin .add (.var 0) (.var 1)) (.lit (.int 1)))) (.lit (.int 2))) (.var 1)))
  .nil)
/-- pair_of: 0 code, 1 n, 2 total, 3 step -/
def b11 : MSs := (.cons (.asg (.tp [2, 3]) (.tup (.cons (.lit (.int 0)) (.cons (.lit (.int 1)) .nil))))
  (.cons (.whl (.cmp .le (.bin .fdiv (.bin .mul (.var 3) (.bin .add (.var 3) (.lit (.int 1)))) (.lit (.int 2))) (.var 0)) (.cons (.augm 3 true (.lit (.int 2)))
  .nil))
  (.cons (.whl (.cmp .gt (.var 3) (.lit (.int 0))) (.cons (.iff (.cmp .le (.bin .fdiv (.bin .mul (.bin .add (.var 2) (.var 3)) (.bin .add (.bin .add (.var 2) (.var 3)) (.lit (.int 1)))) (.lit (.int 2))) (.var 0)) (.cons (.aug 2 true (.var 3))
  .nil) .nil)
  (.cons (.augm 3 false (.lit (.int 2)))
  .nil)))
  (.cons (.asg (.nm 1) (.bin .sub (.var 0) (.bin .fdiv (.bin .mul (.var 2) (.bin .add (.var 2) (.lit (.int 1)))) (.lit (.int 2)))))
  (.cons (.ret (.tup (.cons (.bin .sub (.var 2) (.var 1)) (.cons (.var 1) .nil))))
  .nil)))))
/-- code_of: 0 form -/
def b12 : MSs := (.cons (.iff (.cmp .eq (.ix (.var 0) (.lit (.int 0))) (.lit (.str [117, 112]))) (.cons (.ret (.bin .mul (.lit (.int 3)) (.ix (.var 0) (.lit (.int 1)))))
  .nil) .nil)
  (.cons (.iff (.cmp .eq (.ix (.var 0) (.lit (.int 0))) (.lit (.str [116, 111]))) (.cons (.ret (.bin .add (.bin .mul (.lit (.int 3)) (.call 12 (.cons (.ix (.var 0) (.lit (.int 1))) .nil))) (.lit (.int 1))))
  .nil) .nil)
  (.cons (.ret (.bin .add (.bin .mul (.lit (.int 3)) (.call 10 (.cons (.call 12 (.cons (.ix (.var 0) (.lit (.int 1))) .nil)) (.cons (.call 12 (.cons (.ix (.var 0) (.lit (.int 2))) .nil)) .nil)))) (.lit (.int 2))))
  .nil)))
/-- form_of: 0 code, 1 kind, 2 rest, 3 first, 4 second -/
def b13 : MSs := (.cons (.par 1 2 (.bin .mod (.var 0) (.lit (.int 3))) (.bin .fdiv (.var 0) (.lit (.int 3))))
  (.cons (.iff (.cmp .eq (.var 1) (.lit (.int 0))) (.cons (.ret (.tup (.cons (.lit (.str [117, 112])) (.cons (.var 2) .nil))))
  .nil) .nil)
  (.cons (.iff (.cmp .eq (.var 1) (.lit (.int 1))) (.cons (.ret (.tup (.cons (.lit (.str [116, 111])) (.cons (.call 13 (.cons (.var 2) .nil)) .nil))))
  .nil) .nil)
  (.cons (.asg (.tp [3, 4]) (.call 11 (.cons (.var 2) .nil)))
  (.cons (.ret (.tup (.cons (.lit (.str [111, 102])) (.cons (.call 13 (.cons (.var 3) .nil)) (.cons (.call 13 (.cons (.var 4) .nil)) .nil)))))
  .nil)))))
/-- put_all: 0 term, 1 table -/
def b14 : MSs := (.cons (.ret (.call 15 (.cons (.var 0) (.cons (.bi .dict (.cons (.var 1) .nil)) .nil))))
  .nil)
/-- put_known: 0 term, 1 known, 2 less, 3 taken, 4 name, 5 body, 6 fresh, 7 x, 8 s, 9 one -/
def b15 : MSs := (.cons (.iff (.cmp .eq (.ix (.var 0) (.lit (.int 0))) (.lit (.str [110, 97, 109, 101]))) (.cons (.ret (.dg2 (.var 1) (.ix (.var 0) (.lit (.int 1))) (.var 0)))
  .nil) .nil)
  (.cons (.iff (.cmp .eq (.ix (.var 0) (.lit (.int 0))) (.lit (.str [111, 102]))) (.cons (.ret (.tup (.cons (.lit (.str [111, 102])) (.cons (.call 15 (.cons (.ix (.var 0) (.lit (.int 1))) (.cons (.var 1) .nil))) (.cons (.call 15 (.cons (.ix (.var 0) (.lit (.int 2))) (.cons (.var 1) .nil))) .nil)))))
  .nil) .nil)
  (.cons (.asg (.tp [4, 5]) (.tup (.cons (.ix (.var 0) (.lit (.int 1))) (.cons (.ix (.var 0) (.lit (.int 2))) .nil))))
  (.cons (.asg (.nm 2) (.lock 1 (.dcp (.var 7) (.var 8) (.tp [7, 8]) (.items (.var 1)) (.cons (.and (.cmp .ne (.var 7) (.var 4)) (.cmp .inn (.var 7) (.call 1 (.cons (.var 5) .nil)))) .nil) [7, 8])))
  (.cons (.asg (.nm 3) (.bi .tuple (.cons (.lock 2 (.lc2 (.var 9) (.nm 8) (.vals (.var 2)) .nil (.nm 9) (.ex (.call 1 (.cons (.var 8) .nil))) .nil [8, 9] [9])) .nil)))
  (.cons (.iff (.cmp .inn (.var 4) (.var 3)) (.cons (.asg (.nm 6) (.call 6 (.cons (.bin .add (.var 3) (.call 1 (.cons (.var 5) .nil))) .nil)))
  (.cons (.dsub (.var 2) (.var 4) (.tup (.cons (.lit (.str [110, 97, 109, 101])) (.cons (.var 6) .nil))))
  (.cons (.asg (.nm 4) (.var 6))
  .nil))) .nil)
  (.cons (.ret (.tup (.cons (.lit (.str [116, 111])) (.cons (.var 4) (.cons (.call 15 (.cons (.var 5) (.cons (.var 2) .nil))) .nil)))))
  .nil)))))))
/-- then_put: 0 table, 1 other, 2 names, 3 first, 4 x, 5 _, 6 s -/
def b16 : MSs := (.cons (.asg (.nm 2) (.lc (.var 4) (.tp [4, 5]) (.ex (.var 0)) .nil [4, 5]))
  (.cons (.asg (.nm 3) (.lc (.tup (.cons (.var 4) (.cons (.call 14 (.cons (.var 6) (.cons (.var 1) .nil))) .nil))) (.tp [4, 6]) (.ex (.var 0)) .nil [4, 6]))
  (.cons (.ret (.bi .tuple (.cons (.bi .sorted (.cons (.bin .add (.var 3) (.lc (.tup (.cons (.var 4) (.cons (.var 6) .nil))) (.tp [4, 6]) (.ex (.var 1)) (.cons (.cmp .nin (.var 4) (.var 2)) .nil) [4, 6])) .nil)) .nil)))
  .nil)))
/-- match_form: 0 pattern, 1 form, 2 names, 3 deep, 4 known, 5 inner, 6 found, 7 one, 8 other -/
def b17 : MSs := (.cons (.iff (.and (.cmp .eq (.ix (.var 0) (.lit (.int 0))) (.lit (.str [110, 97, 109, 101]))) (.cmp .inn (.ix (.var 0) (.lit (.int 1))) (.var 2))) (.cons (.iff (.or (.call 18 (.cons (.var 1) (.cons (.var 3) (.cons (.lit (.int 0)) .nil)))) (.cmp .ne (.dg2 (.var 4) (.ix (.var 0) (.lit (.int 1))) (.var 1)) (.var 1))) (.cons (.ret (.lit .non))
  .nil) .nil)
  (.cons (.asg (.nm 6) (.bi .dict (.cons (.var 4) .nil)))
  (.cons (.dsub (.var 6) (.ix (.var 0) (.lit (.int 1))) (.var 1))
  (.cons (.ret (.var 6))
  .nil)))) .nil)
  (.cons (.iff (.or (.cmp .ne (.ix (.var 0) (.lit (.int 0))) (.ix (.var 1) (.lit (.int 0)))) (.cmp .ne (.bi .len (.cons (.var 0) .nil)) (.bi .len (.cons (.var 1) .nil)))) (.cons (.ret (.lit .non))
  .nil) .nil)
  (.cons (.iff (.cmp .inn (.ix (.var 0) (.lit (.int 0))) (.tup (.cons (.lit (.str [110, 97, 109, 101])) (.cons (.lit (.str [117, 112])) .nil)))) (.cons (.ret (.ite (.cmp .eq (.var 0) (.var 1)) (.var 4) (.lit .non)))
  .nil) .nil)
  (.cons (.asg (.nm 5) (.ite (.cmp .eq (.ix (.var 0) (.lit (.int 0))) (.lit (.str [116, 111]))) (.bin .add (.var 3) (.lit (.int 1))) (.var 3)))
  (.cons (.forr (.tp [7, 8]) (.zip (.slf (.var 0) (.lit (.int 1))) (.slf (.var 1) (.lit (.int 1)))) (.cons (.asg (.nm 4) (.call 17 (.cons (.var 7) (.cons (.var 8) (.cons (.var 2) (.cons (.var 5) (.cons (.var 4) .nil)))))))
  (.cons (.iff (.cmp .isn (.var 4) (.lit .non)) (.cons (.ret (.lit .non))
  .nil) .nil)
  .nil)))
  (.cons (.ret (.var 4))
  .nil))))))
/-- hangs_on: 0 form, 1 deep, 2 inner, 3 part -/
def b18 : MSs := (.cons (.iff (.cmp .eq (.ix (.var 0) (.lit (.int 0))) (.lit (.str [117, 112]))) (.cons (.ret (.chn .le .lt (.var 2) (.ix (.var 0) (.lit (.int 1))) (.bin .add (.var 2) (.var 1))))
  .nil) .nil)
  (.cons (.iff (.cmp .eq (.ix (.var 0) (.lit (.int 0))) (.lit (.str [110, 97, 109, 101]))) (.cons (.ret (.lit (.bl false)))
  .nil) .nil)
  (.cons (.ret (.bi .any (.cons (.lc (.call 18 (.cons (.var 3) (.cons (.var 1) (.cons (.bin .add (.var 2) (.ite (.cmp .eq (.ix (.var 0) (.lit (.int 0))) (.lit (.str [116, 111]))) (.lit (.int 1)) (.lit (.int 0)))) .nil)))) (.nm 3) (.ex (.slf (.var 0) (.lit (.int 1)))) .nil [3]) .nil)))
  .nil)))
/-- matches: 0 pattern, 1 term, 2 names, 3 found, 4 name -/
def b19 : MSs := (.cons (.asg (.nm 3) (.call 17 (.cons (.call 3 (.cons (.var 0) .nil)) (.cons (.call 3 (.cons (.var 1) .nil)) (.cons (.var 2) (.cons (.lit (.int 0)) (.cons (.dsp [] .nil) .nil)))))))
  (.cons (.iff (.cmp .isn (.var 3) (.lit .non)) (.cons (.rse 1)
  .nil) .nil)
  (.cons (.ret (.bi .tuple (.cons (.lc (.tup (.cons (.var 4) (.cons (.call 9 (.cons (.dix (.var 3) (.var 4)) .nil)) .nil))) (.nm 4) (.ex (.bi .sorted (.cons (.var 3) .nil))) .nil [4]) .nil)))
  .nil)))
/-- _law_draw: 0 script, 1 seed, 2 cell -/
def b20 : MSs := (.cons (.asg (.nm 1) (.lit (.int 7)))
  (.cons (.forr (.nm 2) (.ex (.var 0)) (.cons (.asg (.nm 1) (.bin .mod (.bi .int (.cons (.bin .add (.bin .add (.bin .mul (.var 1) (.lit (.int 48271))) (.bin .mod (.bi .abs (.cons (.bi .int (.cons (.var 2) .nil)) .nil)) (.lit (.int 65521)))) (.lit (.int 1))) .nil)) (.lit (.int 2147483647))))
  .nil))
  (.cons (.ret (.lst (.cons (.lc (.bi .abs (.cons (.bi .int (.cons (.var 2) .nil)) .nil)) (.nm 2) (.ex (.var 0)) .nil [2]) (.cons (.neg (.lit (.int 1))) (.cons (.lit (.int 0)) (.cons (.var 1) .nil))))))
  .nil)))
/-- _law_take: 0 draw, 1 many, 2 found -/
def b21 : MSs := (.cons (.iff (.cmp .eq (.ix (.var 0) (.lit (.int 2))) (.lit (.int 0))) (.cons (.sub (.var 0) (.lit (.int 1)) (.bin .add (.ix (.var 0) (.lit (.int 1))) (.lit (.int 1))))
  (.cons (.iff (.cmp .lt (.ix (.var 0) (.lit (.int 1))) (.bi .len (.cons (.ix (.var 0) (.lit (.int 0))) .nil))) (.cons (.sub (.var 0) (.lit (.int 2)) (.ix (.ix (.var 0) (.lit (.int 0))) (.ix (.var 0) (.lit (.int 1)))))
  .nil) .nil)
  (.cons (.iff (.cmp .eq (.ix (.var 0) (.lit (.int 2))) (.lit (.int 0))) (.cons (.sub (.var 0) (.lit (.int 3)) (.bin .mod (.bi .int (.cons (.bin .add (.bin .mul (.ix (.var 0) (.lit (.int 3))) (.lit (.int 48271))) (.lit (.int 11))) .nil)) (.lit (.int 2147483647))))
  (.cons (.sub (.var 0) (.lit (.int 2)) (.ix (.var 0) (.lit (.int 3))))
  .nil)) .nil)
  .nil))) .nil)
  (.cons (.asg (.nm 2) (.bin .mod (.bi .int (.cons (.ix (.var 0) (.lit (.int 2))) .nil)) (.var 1)))
  (.cons (.sub (.var 0) (.lit (.int 2)) (.bin .fdiv (.ix (.var 0) (.lit (.int 2))) (.var 1)))
  (.cons (.ret (.var 2))
  .nil))))
/-- _law_term: 0 draw, 1 deep, 2 around, 3 free, 4 kind, 5 names, 6 first, 7 name -/
def b22 : MSs := (.cons (.asg (.nm 4) (.ite (.cmp .gt (.var 1) (.lit (.int 1))) (.call 21 (.cons (.var 0) (.cons (.lit (.int 5)) .nil))) (.lit (.int 0))))
  (.cons (.asg (.nm 5) (.ite (.cmp .ne (.bin .add (.var 2) (.var 3)) (.tup .nil)) (.bin .add (.bin .add (.var 2) (.var 2)) (.var 3)) (.tup (.cons (.lit (.str [120])) .nil))))
  (.cons (.iff (.cmp .eq (.var 4) (.lit (.int 0))) (.cons (.ret (.tup (.cons (.lit (.str [110, 97, 109, 101])) (.cons (.ix (.var 5) (.call 21 (.cons (.var 0) (.cons (.bi .len (.cons (.var 5) .nil)) .nil)))) .nil))))
  .nil) .nil)
  (.cons (.iff (.cmp .lt (.var 4) (.lit (.int 3))) (.cons (.asg (.nm 7) (.ix (.lst (.cons (.lit (.str [97])) (.cons (.lit (.str [98])) (.cons (.lit (.str [120])) (.cons (.lit (.str [121])) .nil))))) (.call 21 (.cons (.var 0) (.cons (.lit (.int 4)) .nil)))))
  (.cons (.ret (.tup (.cons (.lit (.str [116, 111])) (.cons (.var 7) (.cons (.call 22 (.cons (.var 0) (.cons (.bin .sub (.var 1) (.lit (.int 1))) (.cons (.bin .add (.tup (.cons (.var 7) .nil)) (.var 2)) (.cons (.var 3) .nil))))) .nil)))))
  .nil)) .nil)
  (.cons (.asg (.nm 6) (.call 22 (.cons (.var 0) (.cons (.bin .sub (.var 1) (.lit (.int 1))) (.cons (.var 2) (.cons (.var 3) .nil))))))
  (.cons (.ret (.tup (.cons (.lit (.str [111, 102])) (.cons (.var 6) (.cons (.call 22 (.cons (.var 0) (.cons (.bin .sub (.var 1) (.lit (.int 1))) (.cons (.var 2) (.cons (.var 3) .nil))))) .nil)))))
  .nil))))))
/-- _law_bare: 0 term, 1 bound -/
def b23 : MSs := (.cons (.iff (.cmp .eq (.ix (.var 0) (.lit (.int 0))) (.lit (.str [110, 97, 109, 101]))) (.cons (.ret (.ite (.cmp .inn (.ix (.var 0) (.lit (.int 1))) (.var 1)) (.tup (.cons (.lit (.str [117, 112])) (.cons (.me .index (.var 1) (.cons (.ix (.var 0) (.lit (.int 1))) .nil)) .nil))) (.var 0)))
  .nil) .nil)
  (.cons (.iff (.cmp .eq (.ix (.var 0) (.lit (.int 0))) (.lit (.str [116, 111]))) (.cons (.ret (.tup (.cons (.lit (.str [116, 111])) (.cons (.call 23 (.cons (.ix (.var 0) (.lit (.int 2))) (.cons (.bin .add (.tup (.cons (.ix (.var 0) (.lit (.int 1))) .nil)) (.var 1)) .nil))) .nil))))
  .nil) .nil)
  (.cons (.ret (.tup (.cons (.lit (.str [111, 102])) (.cons (.call 23 (.cons (.ix (.var 0) (.lit (.int 1))) (.cons (.var 1) .nil))) (.cons (.call 23 (.cons (.ix (.var 0) (.lit (.int 2))) (.cons (.var 1) .nil))) .nil)))))
  .nil)))
/-- _law_free: 0 term, 1 name -/
def b24 : MSs := (.cons (.iff (.cmp .eq (.ix (.var 0) (.lit (.int 0))) (.lit (.str [110, 97, 109, 101]))) (.cons (.ret (.lst (.cons (.ix (.var 0) (.lit (.int 1))) .nil)))
  .nil) .nil)
  (.cons (.iff (.cmp .eq (.ix (.var 0) (.lit (.int 0))) (.lit (.str [116, 111]))) (.cons (.ret (.lc (.var 1) (.nm 1) (.ex (.call 24 (.cons (.ix (.var 0) (.lit (.int 2))) .nil))) (.cons (.cmp .ne (.var 1) (.ix (.var 0) (.lit (.int 1)))) .nil) [1]))
  .nil) .nil)
  (.cons (.ret (.bin .add (.call 24 (.cons (.ix (.var 0) (.lit (.int 1))) .nil)) (.call 24 (.cons (.ix (.var 0) (.lit (.int 2))) .nil))))
  .nil)))
/-- _law_up: 0 form, 1 by, 2 start -/
def b25 : MSs := (.cons (.iff (.cmp .eq (.ix (.var 0) (.lit (.int 0))) (.lit (.str [117, 112]))) (.cons (.ret (.ite (.cmp .ge (.ix (.var 0) (.lit (.int 1))) (.var 2)) (.tup (.cons (.lit (.str [117, 112])) (.cons (.bin .add (.ix (.var 0) (.lit (.int 1))) (.var 1)) .nil))) (.var 0)))
  .nil) .nil)
  (.cons (.iff (.cmp .eq (.ix (.var 0) (.lit (.int 0))) (.lit (.str [116, 111]))) (.cons (.ret (.tup (.cons (.lit (.str [116, 111])) (.cons (.call 25 (.cons (.ix (.var 0) (.lit (.int 1))) (.cons (.var 1) (.cons (.bin .add (.var 2) (.lit (.int 1))) .nil)))) .nil))))
  .nil) .nil)
  (.cons (.ret (.ite (.cmp .eq (.ix (.var 0) (.lit (.int 0))) (.lit (.str [110, 97, 109, 101]))) (.var 0) (.tup (.cons (.lit (.str [111, 102])) (.cons (.call 25 (.cons (.ix (.var 0) (.lit (.int 1))) (.cons (.var 1) (.cons (.var 2) .nil)))) (.cons (.call 25 (.cons (.ix (.var 0) (.lit (.int 2))) (.cons (.var 1) (.cons (.var 2) .nil)))) .nil))))))
  .nil)))
/-- _law_form: 0 draw, 1 deep, 2 kind, 3 first -/
def b26 : MSs := (.cons (.asg (.nm 2) (.ite (.cmp .gt (.var 1) (.lit (.int 1))) (.call 21 (.cons (.var 0) (.cons (.lit (.int 3)) .nil))) (.lit (.int 0))))
  (.cons (.iff (.cmp .eq (.var 2) (.lit (.int 0))) (.cons (.ret (.tup (.cons (.lit (.str [117, 112])) (.cons (.call 21 (.cons (.var 0) (.cons (.lit (.int 4)) .nil))) .nil))))
  .nil) .nil)
  (.cons (.asg (.nm 3) (.call 26 (.cons (.var 0) (.cons (.bin .sub (.var 1) (.lit (.int 1))) .nil))))
  (.cons (.ret (.ite (.cmp .eq (.var 2) (.lit (.int 1))) (.tup (.cons (.lit (.str [116, 111])) (.cons (.var 3) .nil))) (.tup (.cons (.lit (.str [111, 102])) (.cons (.var 3) (.cons (.call 26 (.cons (.var 0) (.cons (.ite (.cmp .gt (.var 1) (.lit (.int 2))) (.bin .sub (.var 1) (.lit (.int 2))) (.lit (.int 1))) .nil))) .nil))))))
  .nil))))
/-- _law_code: 0 form, 1 m, 2 n, 3 k -/
def b27 : MSs := (.cons (.iff (.cmp .eq (.ix (.var 0) (.lit (.int 0))) (.lit (.str [117, 112]))) (.cons (.ret (.bin .mul (.lit (.int 3)) (.ix (.var 0) (.lit (.int 1)))))
  .nil) .nil)
  (.cons (.iff (.cmp .eq (.ix (.var 0) (.lit (.int 0))) (.lit (.str [116, 111]))) (.cons (.ret (.bin .add (.bin .mul (.lit (.int 3)) (.call 27 (.cons (.ix (.var 0) (.lit (.int 1))) .nil))) (.lit (.int 1))))
  .nil) .nil)
  (.cons (.par 1 2 (.call 27 (.cons (.ix (.var 0) (.lit (.int 1))) .nil)) (.call 27 (.cons (.ix (.var 0) (.lit (.int 2))) .nil)))
  (.cons (.ret (.ite (.cmp .lt (.bin .add (.var 1) (.var 2)) (.lit (.int 3000))) (.bin .add (.bin .mul (.lit (.int 3)) (.bin .add (.bi .sum (.cons (.lc (.var 3) (.nm 3) (.rng (.cons (.bin .add (.bin .add (.var 1) (.var 2)) (.lit (.int 1))) .nil)) .nil [3]) .nil)) (.var 2))) (.lit (.int 2))) (.bin .add (.bin .mul (.lit (.int 3)) (.bin .add (.bin .fdiv (.bin .mul (.bin .add (.var 1) (.var 2)) (.bin .add (.bin .add (.var 1) (.var 2)) (.lit (.int 1)))) (.lit (.int 2))) (.var 2))) (.lit (.int 2)))))
  .nil))))
/-- _law_filled: 0 form, 1 table, 2 deep -/
def b28 : MSs := (.cons (.iff (.and (.cmp .eq (.ix (.var 0) (.lit (.int 0))) (.lit (.str [110, 97, 109, 101]))) (.din (.ix (.var 0) (.lit (.int 1))) (.var 1))) (.cons (.ret (.call 25 (.cons (.dix (.var 1) (.ix (.var 0) (.lit (.int 1)))) (.cons (.var 2) (.cons (.lit (.int 0)) .nil)))))
  .nil) .nil)
  (.cons (.iff (.cmp .eq (.ix (.var 0) (.lit (.int 0))) (.lit (.str [116, 111]))) (.cons (.ret (.tup (.cons (.lit (.str [116, 111])) (.cons (.call 28 (.cons (.ix (.var 0) (.lit (.int 1))) (.cons (.var 1) (.cons (.bin .add (.var 2) (.lit (.int 1))) .nil)))) .nil))))
  .nil) .nil)
  (.cons (.ret (.ite (.cmp .inn (.ix (.var 0) (.lit (.int 0))) (.lst (.cons (.lit (.str [110, 97, 109, 101])) (.cons (.lit (.str [117, 112])) .nil)))) (.var 0) (.tup (.cons (.lit (.str [111, 102])) (.cons (.call 28 (.cons (.ix (.var 0) (.lit (.int 1))) (.cons (.var 1) (.cons (.var 2) .nil)))) (.cons (.call 28 (.cons (.ix (.var 0) (.lit (.int 2))) (.cons (.var 1) (.cons (.var 2) .nil)))) .nil))))))
  .nil)))
/-- _law_outside: 0 form, 1 deep, 2 inner, 3 part -/
def b29 : MSs := (.cons (.iff (.cmp .eq (.ix (.var 0) (.lit (.int 0))) (.lit (.str [117, 112]))) (.cons (.ret (.chn .le .lt (.var 2) (.ix (.var 0) (.lit (.int 1))) (.bin .add (.var 2) (.var 1))))
  .nil) .nil)
  (.cons (.ret (.ite (.cmp .eq (.ix (.var 0) (.lit (.int 0))) (.lit (.str [110, 97, 109, 101]))) (.lit (.bl false)) (.cmp .ne (.lc (.var 3) (.nm 3) (.ex (.slf (.var 0) (.lit (.int 1)))) (.cons (.call 29 (.cons (.var 3) (.cons (.var 1) (.cons (.bin .add (.var 2) (.ite (.cmp .eq (.ix (.var 0) (.lit (.int 0))) (.lit (.str [116, 111]))) (.lit (.int 1)) (.lit (.int 0)))) .nil)))) .nil) [3]) (.lst .nil))))
  .nil))
/-- _law_match: 0 pattern, 1 form, 2 names, 3 deep, 4 known, 5 one, 6 other -/
def b30 : MSs := (.cons (.iff (.and (.cmp .eq (.ix (.var 0) (.lit (.int 0))) (.lit (.str [110, 97, 109, 101]))) (.cmp .inn (.ix (.var 0) (.lit (.int 1))) (.var 2))) (.cons (.iff (.or (.call 29 (.cons (.var 1) (.cons (.var 3) (.cons (.lit (.int 0)) .nil)))) (.cmp .ne (.dg2 (.var 4) (.ix (.var 0) (.lit (.int 1))) (.var 1)) (.var 1))) (.cons (.ret (.lit .non))
  .nil) .nil)
  (.cons (.ret (.dadd (.var 4) (.ix (.var 0) (.lit (.int 1))) (.var 1)))
  .nil)) .nil)
  (.cons (.iff (.or (.cmp .ne (.ix (.var 0) (.lit (.int 0))) (.ix (.var 1) (.lit (.int 0)))) (.cmp .inn (.ix (.var 0) (.lit (.int 0))) (.lst (.cons (.lit (.str [110, 97, 109, 101])) (.cons (.lit (.str [117, 112])) .nil))))) (.cons (.ret (.ite (.cmp .eq (.var 0) (.var 1)) (.var 4) (.lit .non)))
  .nil) .nil)
  (.cons (.forr (.tp [5, 6]) (.zip (.slf (.var 0) (.lit (.int 1))) (.slf (.var 1) (.lit (.int 1)))) (.cons (.asg (.nm 4) (.ite (.cmp .notn (.var 4) (.lit .non)) (.call 30 (.cons (.var 5) (.cons (.var 6) (.cons (.var 2) (.cons (.bin .add (.var 3) (.ite (.cmp .eq (.ix (.var 0) (.lit (.int 0))) (.lit (.str [116, 111]))) (.lit (.int 1)) (.lit (.int 0)))) (.cons (.var 4) .nil)))))) (.lit .non)))
  .nil))
  (.cons (.ret (.var 4))
  .nil))))
/-- _law_told: 0 pattern, 1 term, 2 names -/
def b31 : MSs := (.cons (.tri (.cons (.ret (.call 19 (.cons (.var 0) (.cons (.var 1) (.cons (.var 2) .nil)))))
  .nil) [(1, .non)])
  .nil)
/-- law: 0 script, 1 draw, 2 turn, 3 form, 4 code, 5 k, 6 term, 7 one, 8 two, 9 forms, 10 both, 11 goal, 12 found, 13 told, 14 due, 15 pattern, 16 names, 17 x, 18 s -/
def b32 : MSs := (.cons (.asg (.nm 1) (.call 20 (.cons (.var 0) .nil)))
  (.cons (.forr (.nm 2) (.rng (.cons (.lit (.int 3)) .nil)) (.cons (.asg (.nm 3) (.call 26 (.cons (.var 1) (.cons (.lit (.int 4)) .nil))))
  (.cons (.asg (.nm 4) (.call 27 (.cons (.var 3) .nil)))
  (.cons (.iff (.or (.cmp .ne (.call 12 (.cons (.var 3) .nil)) (.var 4)) (.cmp .ne (.call 13 (.cons (.var 4) .nil)) (.var 3))) (.cons (.ret (.lit (.bl false)))
  .nil) .nil)
  (.cons (.asg (.nm 5) (.call 21 (.cons (.var 1) (.cons (.lit (.int 5000)) .nil))))
  (.cons (.iff (.or (.cmp .ne (.call 12 (.cons (.call 13 (.cons (.var 5) .nil)) .nil)) (.var 5)) (.cmp .ne (.call 27 (.cons (.call 13 (.cons (.var 5) .nil)) .nil)) (.var 5))) (.cons (.ret (.lit (.bl false)))
  .nil) .nil)
  .nil))))))
  (.cons (.iff (.cmp .ne (.lc (.call 13 (.cons (.var 5) .nil)) (.nm 5) (.rng (.cons (.lit (.int 6)) .nil)) .nil [5]) (.lst (.cons (.tup (.cons (.lit (.str [117, 112])) (.cons (.lit (.int 0)) .nil))) (.cons (.tup (.cons (.lit (.str [116, 111])) (.cons (.tup (.cons (.lit (.str [117, 112])) (.cons (.lit (.int 0)) .nil))) .nil))) (.cons (.tup (.cons (.lit (.str [111, 102])) (.cons (.tup (.cons (.lit (.str [117, 112])) (.cons (.lit (.int 0)) .nil))) (.cons (.tup (.cons (.lit (.str [117, 112])) (.cons (.lit (.int 0)) .nil))) .nil)))) (.cons (.tup (.cons (.lit (.str [117, 112])) (.cons (.lit (.int 1)) .nil))) (.cons (.tup (.cons (.lit (.str [116, 111])) (.cons (.tup (.cons (.lit (.str [116, 111])) (.cons (.tup (.cons (.lit (.str [117, 112])) (.cons (.lit (.int 0)) .nil))) .nil))) .nil))) (.cons (.tup (.cons (.lit (.str [111, 102])) (.cons (.tup (.cons (.lit (.str [116, 111])) (.cons (.tup (.cons (.lit (.str [117, 112])) (.cons (.lit (.int 0)) .nil))) .nil))) (.cons (.tup (.cons (.lit (.str [117, 112])) (.cons (.lit (.int 0)) .nil))) .nil)))) .nil)))))))) (.cons (.ret (.lit (.bl false)))
  .nil) .nil)
  (.cons (.forr (.nm 2) (.rng (.cons (.lit (.int 2)) .nil)) (.cons (.asg (.nm 6) (.call 22 (.cons (.var 1) (.cons (.lit (.int 4)) (.cons (.tup .nil) (.cons (.tup (.cons (.lit (.str [120])) (.cons (.lit (.str [121])) (.cons (.lit (.str [97])) .nil)))) .nil))))))
  (.cons (.asg (.nm 7) (.bi .tuple (.cons (.lc (.tup (.cons (.var 17) (.cons (.call 22 (.cons (.var 1) (.cons (.lit (.int 2)) (.cons (.tup .nil) (.cons (.tup (.cons (.lit (.str [120])) (.cons (.lit (.str [121])) (.cons (.lit (.str [97])) (.cons (.lit (.str [98])) .nil))))) .nil))))) .nil))) (.nm 17) (.ex (.ix (.lst (.cons (.tup (.cons (.lit (.str [120])) (.cons (.lit (.str [121])) .nil))) (.cons (.tup (.cons (.lit (.str [121])) .nil)) (.cons (.tup (.cons (.lit (.str [97])) (.cons (.lit (.str [120])) .nil))) .nil)))) (.call 21 (.cons (.var 1) (.cons (.lit (.int 3)) .nil))))) .nil [17]) .nil)))
  (.cons (.asg (.nm 8) (.bi .tuple (.cons (.lc (.tup (.cons (.var 17) (.cons (.call 22 (.cons (.var 1) (.cons (.lit (.int 2)) (.cons (.tup .nil) (.cons (.tup (.cons (.lit (.str [120])) (.cons (.lit (.str [98])) .nil))) .nil))))) .nil))) (.nm 17) (.ex (.ix (.lst (.cons (.tup (.cons (.lit (.str [97])) (.cons (.lit (.str [98])) .nil))) (.cons (.tup (.cons (.lit (.str [120])) (.cons (.lit (.str [121])) .nil))) .nil))) (.call 21 (.cons (.var 1) (.cons (.lit (.int 2)) .nil))))) .nil [17]) .nil)))
  (.cons (.asg (.nm 9) (.bi .dict (.cons (.lc (.tup (.cons (.var 17) (.cons (.call 23 (.cons (.var 18) (.cons (.tup .nil) .nil))) .nil))) (.tp [17, 18]) (.ex (.var 7)) .nil [17, 18]) .nil)))
  (.cons (.iff (.or (.cmp .ne (.call 3 (.cons (.call 14 (.cons (.var 6) (.cons (.var 7) .nil))) .nil)) (.call 28 (.cons (.call 23 (.cons (.var 6) (.cons (.tup .nil) .nil))) (.cons (.var 9) (.cons (.lit (.int 0)) .nil))))) (.not (.isi (.call 14 (.cons (.var 6) (.cons (.var 7) .nil))) .tuple))) (.cons (.ret (.lit (.bl false)))
  .nil) .nil)
  (.cons (.asg (.nm 10) (.call 16 (.cons (.var 7) (.cons (.var 8) .nil))))
  (.cons (.iff (.or (.cmp .ne (.lc (.var 17) (.tp [17, 18]) (.ex (.var 10)) .nil [17, 18]) (.bi .sorted (.cons (.bi .set (.cons (.bin .add (.lc (.var 17) (.tp [17, 18]) (.ex (.var 7)) .nil [17, 18]) (.lc (.var 17) (.tp [17, 18]) (.ex (.var 8)) .nil [17, 18])) .nil)) .nil))) (.not (.call 4 (.cons (.call 14 (.cons (.var 6) (.cons (.var 10) .nil))) (.cons (.call 14 (.cons (.call 14 (.cons (.var 6) (.cons (.var 7) .nil))) (.cons (.var 8) .nil))) .nil))))) (.cons (.ret (.lit (.bl false)))
  .nil) .nil)
  (.cons (.asg (.tp [15, 16]) (.tup (.cons (.call 22 (.cons (.var 1) (.cons (.lit (.int 3)) (.cons (.tup .nil) (.cons (.tup (.cons (.lit (.str [120])) (.cons (.lit (.str [121])) (.cons (.lit (.str [113])) .nil)))) .nil))))) (.cons (.slt (.lst (.cons (.lit (.str [120])) (.cons (.lit (.str [121])) .nil))) (.bin .add (.lit (.int 1)) (.call 21 (.cons (.var 1) (.cons (.lit (.int 2)) .nil))))) .nil))))
  (.cons (.asg (.nm 11) (.ix (.lst (.cons (.call 14 (.cons (.var 15) (.cons (.var 7) .nil))) (.cons (.call 22 (.cons (.var 1) (.cons (.lit (.int 4)) (.cons (.tup .nil) (.cons (.tup (.cons (.lit (.str [120])) (.cons (.lit (.str [121])) .nil))) .nil))))) (.cons (.call 14 (.cons (.var 15) (.cons (.var 8) .nil))) .nil)))) (.call 21 (.cons (.var 1) (.cons (.lit (.int 3)) .nil)))))
  (.cons (.asg (.nm 12) (.call 30 (.cons (.call 23 (.cons (.var 15) (.cons (.tup .nil) .nil))) (.cons (.call 23 (.cons (.var 11) (.cons (.tup .nil) .nil))) (.cons (.var 16) (.cons (.lit (.int 0)) (.cons (.dsp [] .nil) .nil)))))))
  (.cons (.asg (.nm 13) (.call 31 (.cons (.var 15) (.cons (.var 11) (.cons (.bi .tuple (.cons (.var 16) .nil)) .nil)))))
  (.cons (.asg (.nm 14) (.ite (.cmp .isn (.var 12) (.lit .non)) (.lit .non) (.lc (.tup (.cons (.var 17) (.cons (.dix (.var 12) (.var 17)) .nil))) (.nm 17) (.ex (.bi .sorted (.cons (.var 12) .nil))) .nil [17])))
  (.cons (.iff (.cmp .ne (.cmp .isn (.var 13) (.lit .non)) (.cmp .isn (.var 14) (.lit .non))) (.cons (.ret (.lit (.bl false)))
  .nil) .nil)
  (.cons (.iff (.and (.cmp .notn (.var 13) (.lit .non)) (.or (.cmp .ne (.lc (.tup (.cons (.var 17) (.cons (.call 3 (.cons (.var 18) .nil)) .nil))) (.tp [17, 18]) (.ex (.var 13)) .nil [17, 18]) (.var 14)) (.cmp .ne (.lc (.var 17) (.tp [17, 18]) (.ex (.var 13)) .nil [17, 18]) (.lc (.var 17) (.nm 17) (.ex (.bi .sorted (.cons (.var 16) .nil))) (.cons (.cmp .inn (.var 17) (.call 1 (.cons (.var 15) .nil))) .nil) [17])))) (.cons (.ret (.lit (.bl false)))
  .nil) .nil)
  (.cons (.iff (.and (.cmp .notn (.var 13) (.lit .non)) (.cmp .ne (.lc (.var 18) (.tp [17, 18]) (.ex (.var 13)) (.cons (.cmp .ne (.var 18) (.call 9 (.cons (.call 3 (.cons (.var 18) .nil)) .nil))) .nil) [17, 18]) (.lst .nil))) (.cons (.ret (.lit (.bl false)))
  .nil) .nil)
  (.cons (.iff (.and (.cmp .notn (.var 13) (.lit .non)) (.not (.call 4 (.cons (.call 14 (.cons (.var 15) (.cons (.var 13) .nil))) (.cons (.var 11) .nil))))) (.cons (.ret (.lit (.bl false)))
  .nil) .nil)
  .nil)))))))))))))))))
  (.cons (.ret (.lit (.bl true)))
  .nil)))))
abbrev s0 : Stmt := top 5
def i0 : FnI := ⟨"free_in", "free_in", defArgs s0, defBody s0, defScope s0, ["term", "bound"], ["term", "bound"]⟩
abbrev s1 : Stmt := top 6
def i1 : FnI := ⟨"free_names", "free_names", defArgs s1, defBody s1, defScope s1, ["term"], ["term"]⟩
abbrev s2 : Stmt := top 7
def i2 : FnI := ⟨"bare_within", "bare_within", defArgs s2, defBody s2, defScope s2, ["term", "bound"], ["term", "bound"]⟩
abbrev s3 : Stmt := top 8
def i3 : FnI := ⟨"bare", "bare", defArgs s3, defBody s3, defScope s3, ["term"], ["term"]⟩
abbrev s4 : Stmt := top 9
def i4 : FnI := ⟨"are_alike", "are_alike", defArgs s4, defBody s4, defScope s4, ["one", "other"], ["one", "other"]⟩
abbrev s5 : Stmt := top 10
def i5 : FnI := ⟨"name_at", "name_at", defArgs s5, defBody s5, defScope s5, ["k"], ["k"]⟩
abbrev s6 : Stmt := top 11
def i6 : FnI := ⟨"first_name", "first_name", defArgs s6, defBody s6, defScope s6, ["taken", "k"], ["taken"]⟩
abbrev s7 : Stmt := top 12
def i7 : FnI := ⟨"bare_free", "bare_free", defArgs s7, defBody s7, defScope s7, ["form", "part", "name"], ["form"]⟩
abbrev s8 : Stmt := top 13
def i8 : FnI := ⟨"named_within", "named_within", defArgs s8, defBody s8, defScope s8, ["form", "bound", "free", "name"], ["form", "bound", "free"]⟩
abbrev s9 : Stmt := top 14
def i9 : FnI := ⟨"named", "named", defArgs s9, defBody s9, defScope s9, ["bare_term"], ["bare_term"]⟩
abbrev s10 : Stmt := top 16
def i10 : FnI := ⟨"pair_code", "pair_code", defArgs s10, defBody s10, defScope s10, ["m", "n"], ["m", "n"]⟩
abbrev s11 : Stmt := top 17
def i11 : FnI := ⟨"pair_of", "pair_of", defArgs s11, defBody s11, defScope s11, ["code", "n", "total", "step"], ["code"]⟩
abbrev s12 : Stmt := top 18
def i12 : FnI := ⟨"code_of", "code_of", defArgs s12, defBody s12, defScope s12, ["form"], ["form"]⟩
abbrev s13 : Stmt := top 19
def i13 : FnI := ⟨"form_of", "form_of", defArgs s13, defBody s13, defScope s13, ["code", "kind", "rest", "first", "second"], ["code"]⟩
abbrev s14 : Stmt := top 20
def i14 : FnI := ⟨"put_all", "put_all", defArgs s14, defBody s14, defScope s14, ["term", "table"], ["term", "table"]⟩
abbrev s15 : Stmt := top 21
def i15 : FnI := ⟨"put_known", "put_known", defArgs s15, defBody s15, defScope s15, ["term", "known", "less", "taken", "name", "body", "fresh", "x", "s", "one"], ["term", "known"]⟩
abbrev s16 : Stmt := top 22
def i16 : FnI := ⟨"then_put", "then_put", defArgs s16, defBody s16, defScope s16, ["table", "other", "names", "first", "x", "_", "s"], ["table", "other"]⟩
abbrev s17 : Stmt := top 23
def i17 : FnI := ⟨"match_form", "match_form", defArgs s17, defBody s17, defScope s17, ["pattern", "form", "names", "deep", "known", "inner", "found", "one", "other"], ["pattern", "form", "names", "deep", "known"]⟩
abbrev s18 : Stmt := top 24
def i18 : FnI := ⟨"hangs_on", "hangs_on", defArgs s18, defBody s18, defScope s18, ["form", "deep", "inner", "part"], ["form", "deep", "inner"]⟩
abbrev s19 : Stmt := top 25
def i19 : FnI := ⟨"matches", "matches", defArgs s19, defBody s19, defScope s19, ["pattern", "term", "names", "found", "name"], ["pattern", "term", "names"]⟩
abbrev s20 : Stmt := top 27
def i20 : FnI := ⟨"_law_draw", "_law_draw", defArgs s20, defBody s20, defScope s20, ["script", "seed", "cell"], ["script"]⟩
abbrev s21 : Stmt := top 28
def i21 : FnI := ⟨"_law_take", "_law_take", defArgs s21, defBody s21, defScope s21, ["draw", "many", "found"], ["draw", "many"]⟩
abbrev s22 : Stmt := top 29
def i22 : FnI := ⟨"_law_term", "_law_term", defArgs s22, defBody s22, defScope s22, ["draw", "deep", "around", "free", "kind", "names", "first", "name"], ["draw", "deep", "around", "free"]⟩
abbrev s23 : Stmt := top 30
def i23 : FnI := ⟨"_law_bare", "_law_bare", defArgs s23, defBody s23, defScope s23, ["term", "bound"], ["term", "bound"]⟩
abbrev s24 : Stmt := top 31
def i24 : FnI := ⟨"_law_free", "_law_free", defArgs s24, defBody s24, defScope s24, ["term", "name"], ["term"]⟩
abbrev s25 : Stmt := top 32
def i25 : FnI := ⟨"_law_up", "_law_up", defArgs s25, defBody s25, defScope s25, ["form", "by", "start"], ["form", "by", "start"]⟩
abbrev s26 : Stmt := top 33
def i26 : FnI := ⟨"_law_form", "_law_form", defArgs s26, defBody s26, defScope s26, ["draw", "deep", "kind", "first"], ["draw", "deep"]⟩
abbrev s27 : Stmt := top 34
def i27 : FnI := ⟨"_law_code", "_law_code", defArgs s27, defBody s27, defScope s27, ["form", "m", "n", "k"], ["form"]⟩
abbrev s28 : Stmt := top 35
def i28 : FnI := ⟨"_law_filled", "_law_filled", defArgs s28, defBody s28, defScope s28, ["form", "table", "deep"], ["form", "table", "deep"]⟩
abbrev s29 : Stmt := top 36
def i29 : FnI := ⟨"_law_outside", "_law_outside", defArgs s29, defBody s29, defScope s29, ["form", "deep", "inner", "part"], ["form", "deep", "inner"]⟩
abbrev s30 : Stmt := top 37
def i30 : FnI := ⟨"_law_match", "_law_match", defArgs s30, defBody s30, defScope s30, ["pattern", "form", "names", "deep", "known", "one", "other"], ["pattern", "form", "names", "deep", "known"]⟩
abbrev s31 : Stmt := top 38
def i31 : FnI := ⟨"_law_told", "_law_told", defArgs s31, defBody s31, defScope s31, ["pattern", "term", "names"], ["pattern", "term", "names"]⟩
abbrev s32 : Stmt := top 39
def i32 : FnI := ⟨"law", "law", defArgs s32, defBody s32, defScope s32, ["script", "draw", "turn", "form", "code", "k", "term", "one", "two", "forms", "both", "goal", "found", "told", "due", "pattern", "names", "x", "s"], ["script"]⟩
def fis : List FnI := [i0, i1, i2, i3, i4, i5, i6, i7, i8, i9, i10, i11, i12, i13, i14, i15, i16, i17, i18, i19, i20, i21, i22, i23, i24, i25, i26, i27, i28, i29, i30, i31, i32]
def fds : List FD := [⟨2, 2, b0⟩, ⟨1, 1, b1⟩, ⟨2, 2, b2⟩, ⟨1, 1, b3⟩, ⟨2, 2, b4⟩, ⟨1, 1, b5⟩, ⟨2, 1, b6⟩, ⟨3, 1, b7⟩, ⟨4, 3, b8⟩, ⟨1, 1, b9⟩, ⟨2, 2, b10⟩, ⟨4, 1, b11⟩, ⟨1, 1, b12⟩, ⟨5, 1, b13⟩, ⟨2, 2, b14⟩, ⟨10, 2, b15⟩, ⟨7, 2, b16⟩, ⟨9, 5, b17⟩, ⟨4, 3, b18⟩, ⟨5, 3, b19⟩, ⟨3, 1, b20⟩, ⟨3, 2, b21⟩, ⟨8, 4, b22⟩, ⟨2, 2, b23⟩, ⟨2, 1, b24⟩, ⟨3, 3, b25⟩, ⟨4, 2, b26⟩, ⟨4, 1, b27⟩, ⟨3, 3, b28⟩, ⟨4, 3, b29⟩, ⟨7, 5, b30⟩, ⟨3, 3, b31⟩, ⟨19, 1, b32⟩]
def glv : List (Option MV) := [some (.p (.str [97, 98, 99, 100, 101, 102, 103, 104, 105, 106, 107, 108, 109, 110, 111, 112, 113, 114, 115, 116, 117, 118, 119, 120, 121, 122]))]
def initF : Nat → Option Nat
  | _ => none
def methF : Nat → Nat → Option Nat
  | _, _ => none
def exmF : Nat → Nat → Option Bool
  | 0, 0 => some true
  | 0, 1 => some false
  | 1, 0 => some true
  | 1, 1 => some true
  | _, _ => none
def P : Prg := ⟨fds, glv, methF, initF, exmF⟩
def fieldN : List Str := []
def fdF (i : Nat) : Str := match fieldN[i]? with
  | some x => x
  | none => ⟨#[2000000 + i]⟩
def T : Tx := ⟨((["free_in", "free_names", "bare_within", "bare", "are_alike", "name_at", "first_name", "bare_free", "named_within", "named", "pair_code", "pair_of", "code_of", "form_of", "put_all", "put_known", "then_put", "match_form", "hangs_on", "matches"] : List Str) ++ (["_law_draw", "_law_take", "_law_term", "_law_bare", "_law_free", "_law_up", "_law_form", "_law_code", "_law_filled", "_law_outside", "_law_match", "_law_told", "law"] : List Str)), ["TermError", "Missing"], ["LETTERS"], [], fdF, 0⟩
def lawF : Nat := 32
end K36
end
section
set_option maxRecDepth 100000
set_option maxHeartbeats 0
/-! The head of law k36 and what its text holds (printed by mkworld.py). -/
namespace K36
open PySem PySem.Spec PyProof.Rows L2 Mn
abbrev R : PySem.W.OpenRow := PySem.W.OpenLaw.row PySem.Challenge.rw_namesbound_k36_codes_tables_and_patterns
abbrev qv : Program := PySem.W.view R.prog [39]
def names0 : List Str := ["TermError", "Missing", "LETTERS", "free_in", "free_names", "bare_within", "bare", "are_alike", "name_at", "first_name", "bare_free", "named_within", "named", "pair_code", "pair_of", "code_of", "form_of", "put_all", "put_known", "then_put", "match_form", "hangs_on", "matches", "_law_draw", "_law_take", "_law_term", "_law_bare", "_law_free", "_law_up", "_law_form"]
def names1 : List Str := ["_law_code", "_law_filled", "_law_outside", "_law_match", "_law_told"]
def names : List Str := names0 ++ names1
def ats : List (Str × Option Str) := [(("free_in" : Str), (none : Option Str)), (("free_names" : Str), (none : Option Str)), (("bare_within" : Str), (none : Option Str)), (("bare" : Str), (none : Option Str)), (("are_alike" : Str), (none : Option Str)), (("name_at" : Str), (none : Option Str)), (("first_name" : Str), (none : Option Str)), (("bare_free" : Str), (none : Option Str)), (("named_within" : Str), (none : Option Str)), (("named" : Str), (none : Option Str)), (("pair_code" : Str), (none : Option Str)), (("pair_of" : Str), (none : Option Str)), (("code_of" : Str), (none : Option Str)), (("form_of" : Str), (none : Option Str)), (("put_all" : Str), (none : Option Str)), (("put_known" : Str), (none : Option Str)), (("then_put" : Str), (none : Option Str)), (("match_form" : Str), (none : Option Str)), (("hangs_on" : Str), (none : Option Str)), (("matches" : Str), (none : Option Str)), (("_law_draw" : Str), (none : Option Str)), (("_law_take" : Str), (none : Option Str)), (("_law_term" : Str), (none : Option Str)), (("_law_bare" : Str), (none : Option Str)), (("_law_free" : Str), (none : Option Str)), (("_law_up" : Str), (none : Option Str)), (("_law_form" : Str), (none : Option Str)), (("_law_code" : Str), (none : Option Str)), (("_law_filled" : Str), (none : Option Str)), (("_law_outside" : Str), (none : Option Str)), (("_law_match" : Str), (none : Option Str)), (("_law_told" : Str), (none : Option Str)), (("law" : Str), (none : Option Str))]
def atF (f : Nat) : Str × Option Str := ats.getD f ("", none)
def dOf (a : Str × Option Str) (i : FnI) : He.DefD := ⟨a, i.name, i.qual, i.args, i.body, i.scope, [], []⟩
def fnL : List He.DefD := [dOf (("free_in" : Str), (none : Option Str)) i0, dOf (("free_names" : Str), (none : Option Str)) i1, dOf (("bare_within" : Str), (none : Option Str)) i2, dOf (("bare" : Str), (none : Option Str)) i3, dOf (("are_alike" : Str), (none : Option Str)) i4, dOf (("name_at" : Str), (none : Option Str)) i5, dOf (("first_name" : Str), (none : Option Str)) i6, dOf (("bare_free" : Str), (none : Option Str)) i7, dOf (("named_within" : Str), (none : Option Str)) i8, dOf (("named" : Str), (none : Option Str)) i9, dOf (("pair_code" : Str), (none : Option Str)) i10, dOf (("pair_of" : Str), (none : Option Str)) i11, dOf (("code_of" : Str), (none : Option Str)) i12, dOf (("form_of" : Str), (none : Option Str)) i13, dOf (("put_all" : Str), (none : Option Str)) i14, dOf (("put_known" : Str), (none : Option Str)) i15, dOf (("then_put" : Str), (none : Option Str)) i16, dOf (("match_form" : Str), (none : Option Str)) i17, dOf (("hangs_on" : Str), (none : Option Str)) i18, dOf (("matches" : Str), (none : Option Str)) i19, dOf (("_law_draw" : Str), (none : Option Str)) i20, dOf (("_law_take" : Str), (none : Option Str)) i21, dOf (("_law_term" : Str), (none : Option Str)) i22, dOf (("_law_bare" : Str), (none : Option Str)) i23, dOf (("_law_free" : Str), (none : Option Str)) i24, dOf (("_law_up" : Str), (none : Option Str)) i25, dOf (("_law_form" : Str), (none : Option Str)) i26, dOf (("_law_code" : Str), (none : Option Str)) i27, dOf (("_law_filled" : Str), (none : Option Str)) i28, dOf (("_law_outside" : Str), (none : Option Str)) i29, dOf (("_law_match" : Str), (none : Option Str)) i30, dOf (("_law_told" : Str), (none : Option Str)) i31, dOf (("law" : Str), (none : Option Str)) i32]
def faX : List He.Fa := [.str "LETTERS" "abcdefghijklmnopqrstuvwxyz", .exc "TermError", .exc "Missing", .exm "TermError" "TermError" true, .exm "TermError" "Missing" false, .exm "Missing" "TermError" true, .exm "Missing" "Missing" true]
def fa : List He.Fa := T.fn.map .glo ++ T.cl.map .glo ++ bltNames.map (fun x => .free (x : Str)) ++ faX
abbrev hk : PySem.W.Hook := He.hookD 6 fa fnL
def ob (s : PySem.W.SharedT) : He.AlD := He.obsDG 6 fa fnL (HandSHeadRun.getT s)
theorem ob_eq (s : PySem.W.SharedT) : ob s = hk.obs s.abs := He.obsDG_eq (HandSHeadRun.getT_eq s)
theorem run (w : PySem.World) : HandSHeadRun.RunEq R qv hk ob 4000 names w := by
  intro os
  kernel_rfl
end K36
end
section
set_option maxRecDepth 100000
set_option maxHeartbeats 0
/-! What the text of law k36 holds (printed by mkworld2.py). -/
namespace K36
open PySem PySem.Spec PyProof.Rows L2 Mn
theorem ag0 : Agree T i0 ⟨2, 2, b0⟩ where
  sc := ⟨rfl, rfl, rfl, by decide +kernel, rfl, by decide +kernel, by decide +kernel⟩
  ck := by decide +kernel
  n := rfl
  np := rfl
  le := by decide
  bd := fun _ _ _ _ _ _ us hl => match us, hl with | [_, _], _ => rfl
theorem ag1 : Agree T i1 ⟨1, 1, b1⟩ where
  sc := ⟨rfl, rfl, rfl, by decide +kernel, rfl, by decide +kernel, by decide +kernel⟩
  ck := by decide +kernel
  n := rfl
  np := rfl
  le := by decide
  bd := fun _ _ _ _ _ _ us hl => match us, hl with | [_], _ => rfl
theorem ag2 : Agree T i2 ⟨2, 2, b2⟩ where
  sc := ⟨rfl, rfl, rfl, by decide +kernel, rfl, by decide +kernel, by decide +kernel⟩
  ck := by decide +kernel
  n := rfl
  np := rfl
  le := by decide
  bd := fun _ _ _ _ _ _ us hl => match us, hl with | [_, _], _ => rfl
theorem ag3 : Agree T i3 ⟨1, 1, b3⟩ where
  sc := ⟨rfl, rfl, rfl, by decide +kernel, rfl, by decide +kernel, by decide +kernel⟩
  ck := by decide +kernel
  n := rfl
  np := rfl
  le := by decide
  bd := fun _ _ _ _ _ _ us hl => match us, hl with | [_], _ => rfl
theorem ag4 : Agree T i4 ⟨2, 2, b4⟩ where
  sc := ⟨rfl, rfl, rfl, by decide +kernel, rfl, by decide +kernel, by decide +kernel⟩
  ck := by decide +kernel
  n := rfl
  np := rfl
  le := by decide
  bd := fun _ _ _ _ _ _ us hl => match us, hl with | [_, _], _ => rfl
theorem ag5 : Agree T i5 ⟨1, 1, b5⟩ where
  sc := ⟨rfl, rfl, rfl, by decide +kernel, rfl, by decide +kernel, by decide +kernel⟩
  ck := by decide +kernel
  n := rfl
  np := rfl
  le := by decide
  bd := fun _ _ _ _ _ _ us hl => match us, hl with | [_], _ => rfl
theorem ag6 : Agree T i6 ⟨2, 1, b6⟩ where
  sc := ⟨rfl, rfl, rfl, by decide +kernel, rfl, by decide +kernel, by decide +kernel⟩
  ck := by decide +kernel
  n := rfl
  np := rfl
  le := by decide
  bd := fun _ _ _ _ _ _ us hl => match us, hl with | [_], _ => rfl
theorem ag7 : Agree T i7 ⟨3, 1, b7⟩ where
  sc := ⟨rfl, rfl, rfl, by decide +kernel, rfl, by decide +kernel, by decide +kernel⟩
  ck := by decide +kernel
  n := rfl
  np := rfl
  le := by decide
  bd := fun _ _ _ _ _ _ us hl => match us, hl with | [_], _ => rfl
theorem ag8 : Agree T i8 ⟨4, 3, b8⟩ where
  sc := ⟨rfl, rfl, rfl, by decide +kernel, rfl, by decide +kernel, by decide +kernel⟩
  ck := by decide +kernel
  n := rfl
  np := rfl
  le := by decide
  bd := fun _ _ _ _ _ _ us hl => match us, hl with | [_, _, _], _ => rfl
theorem ag9 : Agree T i9 ⟨1, 1, b9⟩ where
  sc := ⟨rfl, rfl, rfl, by decide +kernel, rfl, by decide +kernel, by decide +kernel⟩
  ck := by decide +kernel
  n := rfl
  np := rfl
  le := by decide
  bd := fun _ _ _ _ _ _ us hl => match us, hl with | [_], _ => rfl
theorem ag10 : Agree T i10 ⟨2, 2, b10⟩ where
  sc := ⟨rfl, rfl, rfl, by decide +kernel, rfl, by decide +kernel, by decide +kernel⟩
  ck := by decide +kernel
  n := rfl
  np := rfl
  le := by decide
  bd := fun _ _ _ _ _ _ us hl => match us, hl with | [_, _], _ => rfl
theorem ag11 : Agree T i11 ⟨4, 1, b11⟩ where
  sc := ⟨rfl, rfl, rfl, by decide +kernel, rfl, by decide +kernel, by decide +kernel⟩
  ck := by decide +kernel
  n := rfl
  np := rfl
  le := by decide
  bd := fun _ _ _ _ _ _ us hl => match us, hl with | [_], _ => rfl
theorem ag12 : Agree T i12 ⟨1, 1, b12⟩ where
  sc := ⟨rfl, rfl, rfl, by decide +kernel, rfl, by decide +kernel, by decide +kernel⟩
  ck := by decide +kernel
  n := rfl
  np := rfl
  le := by decide
  bd := fun _ _ _ _ _ _ us hl => match us, hl with | [_], _ => rfl
theorem ag13 : Agree T i13 ⟨5, 1, b13⟩ where
  sc := ⟨rfl, rfl, rfl, by decide +kernel, rfl, by decide +kernel, by decide +kernel⟩
  ck := by decide +kernel
  n := rfl
  np := rfl
  le := by decide
  bd := fun _ _ _ _ _ _ us hl => match us, hl with | [_], _ => rfl
theorem ag14 : Agree T i14 ⟨2, 2, b14⟩ where
  sc := ⟨rfl, rfl, rfl, by decide +kernel, rfl, by decide +kernel, by decide +kernel⟩
  ck := by decide +kernel
  n := rfl
  np := rfl
  le := by decide
  bd := fun _ _ _ _ _ _ us hl => match us, hl with | [_, _], _ => rfl
theorem ag15 : Agree T i15 ⟨10, 2, b15⟩ where
  sc := ⟨rfl, rfl, rfl, by decide +kernel, rfl, by decide +kernel, by decide +kernel⟩
  ck := by decide +kernel
  n := rfl
  np := rfl
  le := by decide
  bd := fun _ _ _ _ _ _ us hl => match us, hl with | [_, _], _ => rfl
theorem ag16 : Agree T i16 ⟨7, 2, b16⟩ where
  sc := ⟨rfl, rfl, rfl, by decide +kernel, rfl, by decide +kernel, by decide +kernel⟩
  ck := by decide +kernel
  n := rfl
  np := rfl
  le := by decide
  bd := fun _ _ _ _ _ _ us hl => match us, hl with | [_, _], _ => rfl
theorem ag17 : Agree T i17 ⟨9, 5, b17⟩ where
  sc := ⟨rfl, rfl, rfl, by decide +kernel, rfl, by decide +kernel, by decide +kernel⟩
  ck := by decide +kernel
  n := rfl
  np := rfl
  le := by decide
  bd := fun _ _ _ _ _ _ us hl => match us, hl with | [_, _, _, _, _], _ => rfl
theorem ag18 : Agree T i18 ⟨4, 3, b18⟩ where
  sc := ⟨rfl, rfl, rfl, by decide +kernel, rfl, by decide +kernel, by decide +kernel⟩
  ck := by decide +kernel
  n := rfl
  np := rfl
  le := by decide
  bd := fun _ _ _ _ _ _ us hl => match us, hl with | [_, _, _], _ => rfl
theorem ag19 : Agree T i19 ⟨5, 3, b19⟩ where
  sc := ⟨rfl, rfl, rfl, by decide +kernel, rfl, by decide +kernel, by decide +kernel⟩
  ck := by decide +kernel
  n := rfl
  np := rfl
  le := by decide
  bd := fun _ _ _ _ _ _ us hl => match us, hl with | [_, _, _], _ => rfl
theorem ag20 : Agree T i20 ⟨3, 1, b20⟩ where
  sc := ⟨rfl, rfl, rfl, by decide +kernel, rfl, by decide +kernel, by decide +kernel⟩
  ck := by decide +kernel
  n := rfl
  np := rfl
  le := by decide
  bd := fun _ _ _ _ _ _ us hl => match us, hl with | [_], _ => rfl
theorem ag21 : Agree T i21 ⟨3, 2, b21⟩ where
  sc := ⟨rfl, rfl, rfl, by decide +kernel, rfl, by decide +kernel, by decide +kernel⟩
  ck := by decide +kernel
  n := rfl
  np := rfl
  le := by decide
  bd := fun _ _ _ _ _ _ us hl => match us, hl with | [_, _], _ => rfl
theorem ag22 : Agree T i22 ⟨8, 4, b22⟩ where
  sc := ⟨rfl, rfl, rfl, by decide +kernel, rfl, by decide +kernel, by decide +kernel⟩
  ck := by decide +kernel
  n := rfl
  np := rfl
  le := by decide
  bd := fun _ _ _ _ _ _ us hl => match us, hl with | [_, _, _, _], _ => rfl
theorem ag23 : Agree T i23 ⟨2, 2, b23⟩ where
  sc := ⟨rfl, rfl, rfl, by decide +kernel, rfl, by decide +kernel, by decide +kernel⟩
  ck := by decide +kernel
  n := rfl
  np := rfl
  le := by decide
  bd := fun _ _ _ _ _ _ us hl => match us, hl with | [_, _], _ => rfl
theorem ag24 : Agree T i24 ⟨2, 1, b24⟩ where
  sc := ⟨rfl, rfl, rfl, by decide +kernel, rfl, by decide +kernel, by decide +kernel⟩
  ck := by decide +kernel
  n := rfl
  np := rfl
  le := by decide
  bd := fun _ _ _ _ _ _ us hl => match us, hl with | [_], _ => rfl
theorem ag25 : Agree T i25 ⟨3, 3, b25⟩ where
  sc := ⟨rfl, rfl, rfl, by decide +kernel, rfl, by decide +kernel, by decide +kernel⟩
  ck := by decide +kernel
  n := rfl
  np := rfl
  le := by decide
  bd := fun _ _ _ _ _ _ us hl => match us, hl with | [_, _, _], _ => rfl
theorem ag26 : Agree T i26 ⟨4, 2, b26⟩ where
  sc := ⟨rfl, rfl, rfl, by decide +kernel, rfl, by decide +kernel, by decide +kernel⟩
  ck := by decide +kernel
  n := rfl
  np := rfl
  le := by decide
  bd := fun _ _ _ _ _ _ us hl => match us, hl with | [_, _], _ => rfl
theorem ag27 : Agree T i27 ⟨4, 1, b27⟩ where
  sc := ⟨rfl, rfl, rfl, by decide +kernel, rfl, by decide +kernel, by decide +kernel⟩
  ck := by decide +kernel
  n := rfl
  np := rfl
  le := by decide
  bd := fun _ _ _ _ _ _ us hl => match us, hl with | [_], _ => rfl
theorem ag28 : Agree T i28 ⟨3, 3, b28⟩ where
  sc := ⟨rfl, rfl, rfl, by decide +kernel, rfl, by decide +kernel, by decide +kernel⟩
  ck := by decide +kernel
  n := rfl
  np := rfl
  le := by decide
  bd := fun _ _ _ _ _ _ us hl => match us, hl with | [_, _, _], _ => rfl
theorem ag29 : Agree T i29 ⟨4, 3, b29⟩ where
  sc := ⟨rfl, rfl, rfl, by decide +kernel, rfl, by decide +kernel, by decide +kernel⟩
  ck := by decide +kernel
  n := rfl
  np := rfl
  le := by decide
  bd := fun _ _ _ _ _ _ us hl => match us, hl with | [_, _, _], _ => rfl
theorem ag30 : Agree T i30 ⟨7, 5, b30⟩ where
  sc := ⟨rfl, rfl, rfl, by decide +kernel, rfl, by decide +kernel, by decide +kernel⟩
  ck := by decide +kernel
  n := rfl
  np := rfl
  le := by decide
  bd := fun _ _ _ _ _ _ us hl => match us, hl with | [_, _, _, _, _], _ => rfl
theorem ag31 : Agree T i31 ⟨3, 3, b31⟩ where
  sc := ⟨rfl, rfl, rfl, by decide +kernel, rfl, by decide +kernel, by decide +kernel⟩
  ck := by decide +kernel
  n := rfl
  np := rfl
  le := by decide
  bd := fun _ _ _ _ _ _ us hl => match us, hl with | [_, _, _], _ => rfl
theorem ag32 : Agree T i32 ⟨19, 1, b32⟩ where
  sc := ⟨rfl, rfl, rfl, by decide +kernel, rfl, by decide +kernel, by decide +kernel⟩
  ck := by decide +kernel
  n := rfl
  np := rfl
  le := by decide
  bd := fun _ _ _ _ _ _ us hl => match us, hl with | [_], _ => rfl
theorem agree : ∀ (f : Nat) (d : FnI) (m : FD), fis[f]? = some d → fds[f]? = some m → Agree T d m
  | 0, d, m, h1, h2 => by cases h1; cases h2; exact ag0
  | 1, d, m, h1, h2 => by cases h1; cases h2; exact ag1
  | 2, d, m, h1, h2 => by cases h1; cases h2; exact ag2
  | 3, d, m, h1, h2 => by cases h1; cases h2; exact ag3
  | 4, d, m, h1, h2 => by cases h1; cases h2; exact ag4
  | 5, d, m, h1, h2 => by cases h1; cases h2; exact ag5
  | 6, d, m, h1, h2 => by cases h1; cases h2; exact ag6
  | 7, d, m, h1, h2 => by cases h1; cases h2; exact ag7
  | 8, d, m, h1, h2 => by cases h1; cases h2; exact ag8
  | 9, d, m, h1, h2 => by cases h1; cases h2; exact ag9
  | 10, d, m, h1, h2 => by cases h1; cases h2; exact ag10
  | 11, d, m, h1, h2 => by cases h1; cases h2; exact ag11
  | 12, d, m, h1, h2 => by cases h1; cases h2; exact ag12
  | 13, d, m, h1, h2 => by cases h1; cases h2; exact ag13
  | 14, d, m, h1, h2 => by cases h1; cases h2; exact ag14
  | 15, d, m, h1, h2 => by cases h1; cases h2; exact ag15
  | 16, d, m, h1, h2 => by cases h1; cases h2; exact ag16
  | 17, d, m, h1, h2 => by cases h1; cases h2; exact ag17
  | 18, d, m, h1, h2 => by cases h1; cases h2; exact ag18
  | 19, d, m, h1, h2 => by cases h1; cases h2; exact ag19
  | 20, d, m, h1, h2 => by cases h1; cases h2; exact ag20
  | 21, d, m, h1, h2 => by cases h1; cases h2; exact ag21
  | 22, d, m, h1, h2 => by cases h1; cases h2; exact ag22
  | 23, d, m, h1, h2 => by cases h1; cases h2; exact ag23
  | 24, d, m, h1, h2 => by cases h1; cases h2; exact ag24
  | 25, d, m, h1, h2 => by cases h1; cases h2; exact ag25
  | 26, d, m, h1, h2 => by cases h1; cases h2; exact ag26
  | 27, d, m, h1, h2 => by cases h1; cases h2; exact ag27
  | 28, d, m, h1, h2 => by cases h1; cases h2; exact ag28
  | 29, d, m, h1, h2 => by cases h1; cases h2; exact ag29
  | 30, d, m, h1, h2 => by cases h1; cases h2; exact ag30
  | 31, d, m, h1, h2 => by cases h1; cases h2; exact ag31
  | 32, d, m, h1, h2 => by cases h1; cases h2; exact ag32
  | n + 33, d, m, h1, h2 => by cases h1
section
variable {w : PySem.World} {K : PySem.W.Frag} {h : Heap} {mg : Str → Option Value}
def g (w : PySem.World) (K : PySem.W.Frag) : G := { w := w, K := K, fnA := fun f => He.fAd K (atF f), clA := fun c => He.ga K (T.cl.getD c Str.empty), fld := fdF }
theorem all_ok (c : He.SaysD fa fnL K) {f : He.Fa} (hf : f ∈ fa) : f.ok K = true := by
  have e : ((fa.all fun f => f.ok K) && fnL.all fun d => d.ok K) = true := congrArg Prod.fst c
  rw [Bool.and_eq_true] at e
  exact List.all_eq_true.mp e.1 f hf
theorem in_x {f : He.Fa} (hf : f ∈ faX) : f ∈ fa := List.mem_append_right _ hf
theorem funs (c : He.SaysD fa fnL K) : ∀ (f : Nat) (d : FnI), fis[f]? = some d → ∃ fd, FunD K d.name d.qual d.args d.body d.scope [] [] (He.fAd K (atF f)) fd
  | 0, d, h1 => by cases h1; exact c.def_ 0 (d := dOf (ats.getD 0 ("", none)) i0) rfl
  | 1, d, h1 => by cases h1; exact c.def_ 1 (d := dOf (ats.getD 1 ("", none)) i1) rfl
  | 2, d, h1 => by cases h1; exact c.def_ 2 (d := dOf (ats.getD 2 ("", none)) i2) rfl
  | 3, d, h1 => by cases h1; exact c.def_ 3 (d := dOf (ats.getD 3 ("", none)) i3) rfl
  | 4, d, h1 => by cases h1; exact c.def_ 4 (d := dOf (ats.getD 4 ("", none)) i4) rfl
  | 5, d, h1 => by cases h1; exact c.def_ 5 (d := dOf (ats.getD 5 ("", none)) i5) rfl
  | 6, d, h1 => by cases h1; exact c.def_ 6 (d := dOf (ats.getD 6 ("", none)) i6) rfl
  | 7, d, h1 => by cases h1; exact c.def_ 7 (d := dOf (ats.getD 7 ("", none)) i7) rfl
  | 8, d, h1 => by cases h1; exact c.def_ 8 (d := dOf (ats.getD 8 ("", none)) i8) rfl
  | 9, d, h1 => by cases h1; exact c.def_ 9 (d := dOf (ats.getD 9 ("", none)) i9) rfl
  | 10, d, h1 => by cases h1; exact c.def_ 10 (d := dOf (ats.getD 10 ("", none)) i10) rfl
  | 11, d, h1 => by cases h1; exact c.def_ 11 (d := dOf (ats.getD 11 ("", none)) i11) rfl
  | 12, d, h1 => by cases h1; exact c.def_ 12 (d := dOf (ats.getD 12 ("", none)) i12) rfl
  | 13, d, h1 => by cases h1; exact c.def_ 13 (d := dOf (ats.getD 13 ("", none)) i13) rfl
  | 14, d, h1 => by cases h1; exact c.def_ 14 (d := dOf (ats.getD 14 ("", none)) i14) rfl
  | 15, d, h1 => by cases h1; exact c.def_ 15 (d := dOf (ats.getD 15 ("", none)) i15) rfl
  | 16, d, h1 => by cases h1; exact c.def_ 16 (d := dOf (ats.getD 16 ("", none)) i16) rfl
  | 17, d, h1 => by cases h1; exact c.def_ 17 (d := dOf (ats.getD 17 ("", none)) i17) rfl
  | 18, d, h1 => by cases h1; exact c.def_ 18 (d := dOf (ats.getD 18 ("", none)) i18) rfl
  | 19, d, h1 => by cases h1; exact c.def_ 19 (d := dOf (ats.getD 19 ("", none)) i19) rfl
  | 20, d, h1 => by cases h1; exact c.def_ 20 (d := dOf (ats.getD 20 ("", none)) i20) rfl
  | 21, d, h1 => by cases h1; exact c.def_ 21 (d := dOf (ats.getD 21 ("", none)) i21) rfl
  | 22, d, h1 => by cases h1; exact c.def_ 22 (d := dOf (ats.getD 22 ("", none)) i22) rfl
  | 23, d, h1 => by cases h1; exact c.def_ 23 (d := dOf (ats.getD 23 ("", none)) i23) rfl
  | 24, d, h1 => by cases h1; exact c.def_ 24 (d := dOf (ats.getD 24 ("", none)) i24) rfl
  | 25, d, h1 => by cases h1; exact c.def_ 25 (d := dOf (ats.getD 25 ("", none)) i25) rfl
  | 26, d, h1 => by cases h1; exact c.def_ 26 (d := dOf (ats.getD 26 ("", none)) i26) rfl
  | 27, d, h1 => by cases h1; exact c.def_ 27 (d := dOf (ats.getD 27 ("", none)) i27) rfl
  | 28, d, h1 => by cases h1; exact c.def_ 28 (d := dOf (ats.getD 28 ("", none)) i28) rfl
  | 29, d, h1 => by cases h1; exact c.def_ 29 (d := dOf (ats.getD 29 ("", none)) i29) rfl
  | 30, d, h1 => by cases h1; exact c.def_ 30 (d := dOf (ats.getD 30 ("", none)) i30) rfl
  | 31, d, h1 => by cases h1; exact c.def_ 31 (d := dOf (ats.getD 31 ("", none)) i31) rfl
  | 32, d, h1 => by cases h1; exact c.def_ 32 (d := dOf (ats.getD 32 ("", none)) i32) rfl
  | n + 33, d, h1 => by cases h1
theorem fn_at : ∀ (f : Nat) (x : Str), T.fn[f]? = some x → atF f = (x, none) ∧ f < fds.length
  | 0, x, h1 => by cases h1; exact ⟨rfl, by decide⟩
  | 1, x, h1 => by cases h1; exact ⟨rfl, by decide⟩
  | 2, x, h1 => by cases h1; exact ⟨rfl, by decide⟩
  | 3, x, h1 => by cases h1; exact ⟨rfl, by decide⟩
  | 4, x, h1 => by cases h1; exact ⟨rfl, by decide⟩
  | 5, x, h1 => by cases h1; exact ⟨rfl, by decide⟩
  | 6, x, h1 => by cases h1; exact ⟨rfl, by decide⟩
  | 7, x, h1 => by cases h1; exact ⟨rfl, by decide⟩
  | 8, x, h1 => by cases h1; exact ⟨rfl, by decide⟩
  | 9, x, h1 => by cases h1; exact ⟨rfl, by decide⟩
  | 10, x, h1 => by cases h1; exact ⟨rfl, by decide⟩
  | 11, x, h1 => by cases h1; exact ⟨rfl, by decide⟩
  | 12, x, h1 => by cases h1; exact ⟨rfl, by decide⟩
  | 13, x, h1 => by cases h1; exact ⟨rfl, by decide⟩
  | 14, x, h1 => by cases h1; exact ⟨rfl, by decide⟩
  | 15, x, h1 => by cases h1; exact ⟨rfl, by decide⟩
  | 16, x, h1 => by cases h1; exact ⟨rfl, by decide⟩
  | 17, x, h1 => by cases h1; exact ⟨rfl, by decide⟩
  | 18, x, h1 => by cases h1; exact ⟨rfl, by decide⟩
  | 19, x, h1 => by cases h1; exact ⟨rfl, by decide⟩
  | 20, x, h1 => by cases h1; exact ⟨rfl, by decide⟩
  | 21, x, h1 => by cases h1; exact ⟨rfl, by decide⟩
  | 22, x, h1 => by cases h1; exact ⟨rfl, by decide⟩
  | 23, x, h1 => by cases h1; exact ⟨rfl, by decide⟩
  | 24, x, h1 => by cases h1; exact ⟨rfl, by decide⟩
  | 25, x, h1 => by cases h1; exact ⟨rfl, by decide⟩
  | 26, x, h1 => by cases h1; exact ⟨rfl, by decide⟩
  | 27, x, h1 => by cases h1; exact ⟨rfl, by decide⟩
  | 28, x, h1 => by cases h1; exact ⟨rfl, by decide⟩
  | 29, x, h1 => by cases h1; exact ⟨rfl, by decide⟩
  | 30, x, h1 => by cases h1; exact ⟨rfl, by decide⟩
  | 31, x, h1 => by cases h1; exact ⟨rfl, by decide⟩
  | 32, x, h1 => by cases h1; exact ⟨rfl, by decide⟩
  | n + 33, x, h1 => by cases h1
theorem glo_fn (X : K.In h) (G : h.Ns mainGlobals mg) (c : He.SaysD fa fnL K) {x : Str} (hx : x ∈ T.fn ∨ x ∈ T.cl) : mg x = some (.ref (He.ga K x)) := by
  refine He.glo_ok X G (all_ok c ?_)
  rcases hx with hx | hx
  · exact List.mem_append_left _ (List.mem_append_left _ (List.mem_append_left _ (List.mem_map_of_mem hx)))
  · exact List.mem_append_left _ (List.mem_append_left _ (List.mem_append_right _ (List.mem_map_of_mem hx)))
theorem fd_inj : ∀ i j, fdF i = fdF j → i = j := by
  have big : ∀ x ∈ fieldN, ∀ n : Nat, x ≠ ⟨#[2000000 + n]⟩ := by
    intro x hx n e
    subst e
    have : (fieldN.all fun x => x.cps.all fun c => decide (c < 2000000)) = true := by decide +kernel
    have h1 := List.all_eq_true.mp this _ hx
    simp at h1
    omega
  have nd : fieldN.Nodup := by decide +kernel
  intro i j e
  unfold fdF at e
  cases h1 : fieldN[i]? with
  | none =>
    cases h2 : fieldN[j]? with
    | none =>
      rw [h1, h2] at e
      have := congrArg (fun z : Str => z.cps.toList) e
      simp at this
      exact this
    | some y => rw [h1, h2] at e; exact absurd e.symm (big y (List.mem_of_getElem? h2) i)
  | some x =>
    cases h2 : fieldN[j]? with
    | none => rw [h1, h2] at e; exact absurd e (big x (List.mem_of_getElem? h1) j)
    | some y =>
      rw [h1, h2] at e
      dsimp only at e
      subst e
      exact (List.getElem?_inj (List.getElem?_eq_some_iff.mp h1).1 nd).mp (h1.trans h2.symm)
theorem fd_ne {nm : Str} (hn : nm ∉ fieldN) (hb : nm.cps.all (fun c => decide (c < 2000000)) = true) : ∀ i, fdF i ≠ nm := by
  intro i e
  unfold fdF at e
  cases h1 : fieldN[i]? with
  | none =>
    rw [h1] at e
    subst e
    simp at hb
    omega
  | some x => rw [h1] at e; dsimp only at e; subst e; exact hn (List.mem_of_getElem? h1)
theorem world (X : K.In h) (G : h.Ns mainGlobals mg) (c : He.SaysD fa fnL K) : Mn.World (g w K) P T mg fis where
  blt := fun x hx => He.free_ok X G (all_ok c (List.mem_append_left _ (List.mem_append_right _ (List.mem_map_of_mem (f := fun x : String => He.Fa.free (x : Str)) hx))))
  len := rfl
  fns := fun f d m h1 h2 => ⟨agree f d m h1 h2, funs c f d h1⟩
  fnm := fun f x hx => by
    obtain ⟨e1, e2⟩ := fn_at f x hx
    refine ⟨?_, e2⟩
    show mg x = some (.ref (He.fAd K (atF f)))
    rw [e1]
    exact glo_fn X G c (.inl (List.mem_of_getElem? hx))
  gls := fun j m hj => by
    match j, hj with
    | 0, hj => cases hj; obtain ⟨t, ht⟩ := He.str_ok X G (x := "LETTERS") (all_ok c (in_x (List.mem_of_getElem? (i := 0) rfl : He.Fa.str "LETTERS" "abcdefghijklmnopqrstuvwxyz" ∈ faX))); exact ⟨"LETTERS", .str (toStr [97, 98, 99, 100, 101, 102, 103, 104, 105, 106, 107, 108, 109, 110, 111, 112, 113, 114, 115, 116, 117, 118, 119, 120, 121, 122]), _, rfl, ht, ⟨t, congrArg (fun y => Value.str y t) (by decide +kernel)⟩, fun ρ H => .p (.str _)⟩
    | n + 1, hj => cases hj
  clm := fun d x hx => by
    have e : T.cl.getD d Str.empty = x := by rw [List.getD_eq_getElem?_getD, hx]; rfl
    show mg x = some (.ref (He.ga K (T.cl.getD d Str.empty)))
    rw [e]
    exact glo_fn X G c (.inr (List.mem_of_getElem? hx))
  cls := fun d f hf => by
    match d, hf with
    | n + 0, hf => cases hf
  mth := fun d m f nm hf hm => by
    match d, m, hf, hm with
    | d, m, hf, hm => cases hf
  fds := fun d hd => by
    match d, hd with
    | n + 0, hd => exact absurd rfl hd
  fdx := rfl
  fdj := fd_inj
  exr := fun d hd => by
    match d, hd with
    | 0, hd => obtain ⟨q1, q2, q3, q4⟩ := He.exc_ok (all_ok c (in_x (List.mem_of_getElem? (i := 1) rfl : He.Fa.exc "TermError" ∈ faX))); exact ⟨q2, q3, q4, He.veBase, _, _, _, PySem.F.excBase_ValueError, q1⟩
    | 1, hd => obtain ⟨q1, q2, q3, q4⟩ := He.exc_ok (all_ok c (in_x (List.mem_of_getElem? (i := 2) rfl : He.Fa.exc "Missing" ∈ faX))); exact ⟨q2, q3, q4, He.veBase, _, _, _, PySem.F.excBase_ValueError, q1⟩
    | n + 2, hd => exact absurd rfl hd
  exm := fun a b v hv => by
    match a, b, hv with
    | 0, 0, hv => cases hv; exact He.exm_ok (all_ok c (in_x (List.mem_of_getElem? (i := 3) rfl : He.Fa.exm "TermError" "TermError" true ∈ faX)))
    | 0, 1, hv => cases hv; exact He.exm_ok (all_ok c (in_x (List.mem_of_getElem? (i := 4) rfl : He.Fa.exm "TermError" "Missing" false ∈ faX)))
    | 1, 0, hv => cases hv; exact He.exm_ok (all_ok c (in_x (List.mem_of_getElem? (i := 5) rfl : He.Fa.exm "Missing" "TermError" true ∈ faX)))
    | 1, 1, hv => cases hv; exact He.exm_ok (all_ok c (in_x (List.mem_of_getElem? (i := 6) rfl : He.Fa.exm "Missing" "Missing" true ∈ faX)))
    | 0, n + 2, hv => cases hv
    | 1, n + 2, hv => cases hv
    | n + 2, b, hv => cases hv
end
end K36
end
section
set_option autoImplicit false
set_option maxRecDepth 100000
set_option maxHeartbeats 2000000
/-! Mn27: a law's end. -/
namespace Mn
open PySem PySem.Spec PyProof.Rows L2
/-- walk_ofE's way where what may be let out leans on the world -/
theorem walk_w {l : PySem.W.OpenLaw} {n k : Nat} {q : Program} {loose : List Str} {XP : (Str → Option Value) → Heap → Prop} {YP : PySem.World → Heap → Prop} {d : DefRec} {CX : PySem.World → CXT} {x : Str}
    (hn : l.most = some n) (hz : n ≤ sizeLine) (hd : d.params.defaults = []) (hr : Room k callerA)
    (F : ∀ (w : PySem.World) (mg : Str → Option Value) (fa : Addr) (h : Heap), YP w h → h.Ns mainGlobals mg → mg d.name = some (.ref fa) →
      ∃ (K : PySem.W.Frag) (fd : FuncData) (sp : Sp), K.In h ∧ (∀ (s : Shared) (u : Value), BindsTo s fd ⟨[u], []⟩ [(x, u)]) ∧
        (∀ (H : Hp) (a : Addr) (ns : List Int), ns.length ≤ n → Only H → SqL K H a (ns.map V.int) → sp [.ref a] H (fun v _ => v = .bl true) fun _ _ _ => False) ∧
        ∀ base : Heap, K.In base → base.Ns mainGlobals mg → FnOk l.prog w K mg base (CX w) k fa fd [x] sp)
    (hC : ∀ (w : PySem.World) (H : Hp) (s : Shared) (e : Value) (s' : Shared), CX w [] H s (fun _ _ _ => False) e s' → False) : PySem.W.WalkO q loose XP YP l.row.toRowW d [] (fun f vs => PySem.call f vs) := by
  refine Att.attach_call hn hd fun w s₀ s₁ mg mb fa o pm cd doc a vs ns G Y ho hdd hcd hmg hobj hints hlen hg => ?_
  obtain ⟨K, fd, sp, KX, hb, hs, hF⟩ := F w mg fa _ Y G.T.g hmg
  exact law_call KX G.T.g G.T.b G.T.builtins G.T.nolimit hg hobj hints (Nat.le_trans hlen hz) hr hF hb (fun H hO hS => hs H a ns hlen hO hS) fun H e s' => hC w H s₁ e s'
/-- what Mini's law says of a script -/
def Says (P : Prg) (k f : Nat) (ns : List Int) : Prop := ∃ s, callM P k f [.w (ns.map fun i => .p (.int i))] [] = .ok (bl true) s
theorem sp_law {g : G} {P : Prg} {k f : Nat} {H : Hp} {a : Addr} {ns : List Int} (hO : Only H) (hS : SqL g.K H a (ns.map V.int)) (r : Says P k f ns) : spM g (callM P k) f [.ref a] H (fun v _ => v = .bl true) (fun _ _ _ => False) := by
  obtain ⟨s, hr⟩ := r
  have hW : WL g.K H a (ns.map V.int) := by
    rcases hS with (h | ⟨o, h⟩) | h
    · rcases hO a with h0 | ⟨o, xs, h0⟩
      · rw [h] at h0; cases h0
      · rw [h] at h0; cases h0
    · exact .inl ⟨o, h⟩
    · exact .inr fun H' => .inr h
  refine ⟨[], [], [.w (ns.map fun i => .p (.int i))], SR.none, VRs.cons (.w hW (by simp) fun i x m h1 h2 => ?_) VRs.nil, ?_⟩
  · rw [List.getElem?_map] at h1 h2
    cases e : ns[i]? with
    | none => rw [e] at h1; cases h1
    | some j => rw [e] at h1 h2; cases h1; cases h2; exact .p (.int j)
  · rw [hr]
    exact fun ρ' H' E S v hv => ER.bl_inv hv
theorem cx_no {P : Program} {w : PySem.World} {H : Hp} {s : Shared} {e : Value} {s' : Shared} (h : L2.CX P w [] H s (fun _ _ _ => False) e s') : False := by
  obtain ⟨_, _, _, _, _, _, _, _, _, _, _, _, h⟩ := h
  exact h
/-- the law's def, from all defs -/
theorem law_fn {g : G} {P : Prg} {T : Tx} {mg : Str → Option Value} {is : List FnI} {prog : Program} {f k : Nat} {d : FnI} {fd : FuncData} {fa : Addr} (Wd : Mn.World g P T mg is) (hf : is[f]? = some d) (FF : FunD g.K d.name d.qual d.args d.body d.scope [] [] (g.fnA f) fd) (he : g.fnA f = fa) (hl : f < P.fs.length) (base : Heap) :
    FnOk prog g.w g.K mg base (L2.CX prog g.w) (2 * k) fa fd d.ps (spM g (callM P k) f) := by
  obtain ⟨fd', d', e1, F2, F, _, _⟩ := ok_all (prog := prog) (base := base) Wd k f hl
  rw [hf] at e1
  cases e1
  rw [← he, funD_inj FF F2]
  exact F
end Mn
end
section
set_option maxRecDepth 20000
/-! MnE: Mini run by rewriting. -/
namespace Mev
open Mn
variable {P : Prg} {C : Nat → List MV → Sto → Res EV}
@[simp] theorem bind_ok {α β : Type} (a : α) (s : Sto) (f : α → Sto → Res β) : Res.bind (.ok a s) f = f a s := rfl
@[simp] theorem bind_exc {α β : Type} (c x) (s : Sto) (f : α → Sto → Res β) : Res.bind (.exc c x s) f = .exc c x s := rfl
@[simp] theorem bindE_ok {α : Type} (a : α) (s : Sto) (env : Env) (f : α → Sto → RS) : RS.bindE (.ok a s) env f = f a s := rfl
@[simp] theorem bindE_exc {α : Type} (c x) (s : Sto) (env : Env) (f : α → Sto → RS) : RS.bindE (.exc c x s) env f = .exc c x env s := rfl
@[simp] theorem seq_nx (e : Env) (s : Sto) (f : Env → Sto → RS) : RS.seq (.ok .nx e s) f = f e s := rfl
@[simp] theorem seq_rt (r) (e : Env) (s : Sto) (f : Env → Sto → RS) : RS.seq (.ok (.rt r) e s) f = .ok (.rt r) e s := rfl
@[simp] theorem seq_bk (e : Env) (s : Sto) (f : Env → Sto → RS) : RS.seq (.ok .bk e s) f = .ok .bk e s := rfl
@[simp] theorem seq_ct (e : Env) (s : Sto) (f : Env → Sto → RS) : RS.seq (.ok .ct e s) f = .ok .ct e s := rfl
@[simp] theorem seq_exc (c x) (e : Env) (s : Sto) (f : Env → Sto → RS) : RS.seq (.exc c x e s) f = .exc c x e s := rfl
@[simp] theorem tst_ok (a : EV) (s : Sto) : tst (.ok a s) = optR (truth a s) s := rfl
@[simp] theorem optR_some {α : Type} (a : α) (s : Sto) : optR (some a) s = .ok a s := rfl
@[simp] theorem stOr_some (a : Sto) (f : Sto → RS) : stOr (some a) f = f a := rfl
@[simp] theorem noX_ok {α : Type} (a : α) (s : Sto) : noX (.ok a s) = .ok a s := rfl
@[simp] theorem evP_eq (v : PV) : evP v = .v (.p v) := rfl
@[simp] theorem bl_eq (b : Bool) : bl b = .v (.p (.bl b)) := rfl
@[simp] theorem hold_v (m : MV) (s : Sto) : hold (.v m) s = (m, s) := rfl
@[simp] theorem hold_o (o : MO) (s : Sto) : hold (.o o) s = (.r s.length, s ++ [o]) := rfl
@[simp] theorem holdAll_nil (s : Sto) : holdAll [] s = ([], s) := rfl
@[simp] theorem holdAll_cons (e : EV) (es : List EV) (s : Sto) : holdAll (e :: es) s = ((hold e s).1 :: (holdAll es (hold e s).2).1, (holdAll es (hold e s).2).2) := rfl
@[simp] theorem allP_nil : allP [] = some [] := rfl
@[simp] theorem allP_cons (v : PV) (r : List MV) : allP (.p v :: r) = match allP r with
    | some l => some (v :: l)
    | none => none := rfl
@[simp] theorem allP_map (b : List PV) : allP (b.map MV.p) = some b := by
  induction b with
  | nil => rfl
  | cons a r ih => simp [ih]
theorem allP_app (a b : List MV) (x y : List PV) (ha : allP a = some x) (hb : allP b = some y) : allP (a ++ b) = some (x ++ y) := by
  induction a generalizing x with
  | nil => cases ha; exact hb
  | cons m r ih =>
    cases m with
    | p v =>
      simp only [allP_cons] at ha
      cases hr : allP r with
      | none => rw [hr] at ha; cases ha
      | some l => rw [hr] at ha; cases ha; simp [ih l hr]
    | _ => cases ha
@[simp] theorem mkTup_map (b : List PV) : mkTup (b.map MV.p) = .p (.tup b) := by simp [mkTup]
@[simp] theorem mkTup_nil : mkTup [] = .p (.tup []) := rfl
@[simp] theorem mkTup_1 (a : PV) : mkTup [.p a] = .p (.tup [a]) := rfl
@[simp] theorem mkTup_2 (a b : PV) : mkTup [.p a, .p b] = .p (.tup [a, b]) := rfl
@[simp] theorem mkTup_3 (a b c : PV) : mkTup [.p a, .p b, .p c] = .p (.tup [a, b, c]) := rfl
@[simp] theorem mkTup_app (a b : List PV) : mkTup (a.map .p ++ b.map .p) = .p (.tup (a ++ b)) := by rw [← List.map_append]; exact mkTup_map _
theorem bin_tt (x y : List PV) (s : Sto) (h : x.length + y.length ≤ 16777216) : binop .add (.v (.p (.tup x))) (.v (.p (.tup y))) s = .ok (.v (.p (.tup (x ++ y)))) s := by
  show (if (x.map MV.p).length + (y.map MV.p).length ≤ lim then Res.ok (EV.v (mkTup (x.map .p ++ y.map .p))) s else .stk) = _
  rw [if_pos (by simpa [lim] using h), mkTup_app]
theorem bin_ll (x y : List MV) (s : Sto) (h : x.length + y.length ≤ 16777216) : binop .add (.o (.lst x)) (.o (.lst y)) s = .ok (.o (.lst (x ++ y))) s := by
  show (if x.length + y.length ≤ lim then Res.ok (EV.o (.lst (x ++ y))) s else .stk) = _
  rw [if_pos (by simpa [lim] using h)]
@[simp] theorem bin_add (i j : Int) (s : Sto) : binop .add (.v (.p (.int i))) (.v (.p (.int j))) s = .ok (.v (.p (.int (i + j)))) s := rfl
@[simp] theorem bin_sub (i j : Int) (s : Sto) : binop .sub (.v (.p (.int i))) (.v (.p (.int j))) s = .ok (.v (.p (.int (i - j)))) s := rfl
@[simp] theorem ix_20 (a b : PV) (s : Sto) : index (.v (.p (.tup [a, b]))) (.v (.p (.int 0))) s = some (.v (.p a)) := rfl
@[simp] theorem ix_21 (a b : PV) (s : Sto) : index (.v (.p (.tup [a, b]))) (.v (.p (.int 1))) s = some (.v (.p b)) := rfl
@[simp] theorem ix_30 (a b c : PV) (s : Sto) : index (.v (.p (.tup [a, b, c]))) (.v (.p (.int 0))) s = some (.v (.p a)) := rfl
@[simp] theorem ix_31 (a b c : PV) (s : Sto) : index (.v (.p (.tup [a, b, c]))) (.v (.p (.int 1))) s = some (.v (.p b)) := rfl
@[simp] theorem ix_32 (a b c : PV) (s : Sto) : index (.v (.p (.tup [a, b, c]))) (.v (.p (.int 2))) s = some (.v (.p c)) := rfl
@[simp] theorem truth_bl (b : Bool) (s : Sto) : truth (.v (.p (.bl b))) s = some b := rfl
@[simp] theorem cmp_eq_ss (a b : List Nat) (s : Sto) : cmpop .eq (.v (.p (.str a))) (.v (.p (.str b))) s = some (decide (a = b)) := by
  simp [cmpop, eqD, view, viewM, PV.dep, PV.eqv, dlim, Bool.beq_eq_decide_eq]
@[simp] theorem cmp_ne_ss (a b : List Nat) (s : Sto) : cmpop .ne (.v (.p (.str a))) (.v (.p (.str b))) s = some (!decide (a = b)) := by
  have := cmp_eq_ss a b s
  simp only [cmpop] at this ⊢
  rw [this]; rfl
@[simp] theorem cmp_lt (i j : Int) (s : Sto) : cmpop .lt (.v (.p (.int i))) (.v (.p (.int j))) s = some (decide (i < j)) := rfl
@[simp] theorem cmp_gt (i j : Int) (s : Sto) : cmpop .gt (.v (.p (.int i))) (.v (.p (.int j))) s = some (decide (j < i)) := rfl
@[simp] theorem cmp_le (i j : Int) (s : Sto) : cmpop .le (.v (.p (.int i))) (.v (.p (.int j))) s = some (decide (i ≤ j)) := rfl
@[simp] theorem cmp_ge (i j : Int) (s : Sto) : cmpop .ge (.v (.p (.int i))) (.v (.p (.int j))) s = some (decide (j ≤ i)) := rfl
@[simp] theorem cmp_eq_ii (i j : Int) (s : Sto) : cmpop .eq (.v (.p (.int i))) (.v (.p (.int j))) s = some (decide (i = j)) := by
  simp [cmpop, eqD, view, viewM, PV.dep, PV.eqv, dlim]
  rfl
@[simp] theorem cmp_eq_bb (i j : Bool) (s : Sto) : cmpop .eq (.v (.p (.bl i))) (.v (.p (.bl j))) s = some (i == j) := by
  simp [cmpop, eqD, view, viewM, PV.dep, PV.eqv, dlim]
@[simp] theorem deps_str (b : List (List Nat)) : PV.deps (b.map PV.str) = 0 := by
  induction b with
  | nil => rfl
  | cons a r ih => simp [PV.deps, PV.dep, ih]
@[simp] theorem any_str (b : List (List Nat)) (x : List Nat) : (b.map PV.str).any (fun y => y.eqv (.str x)) = decide (x ∈ b) := by
  induction b with
  | nil => rfl
  | cons a r ih =>
    rw [List.map_cons, List.any_cons, ih]
    simp only [PV.eqv, List.mem_cons]
    by_cases h : a = x
    · subst h; simp
    · have h2 : ¬ x = a := fun e => h e.symm
      simp [h, h2]
@[simp] theorem cmp_in (b : List (List Nat)) (x : List Nat) (s : Sto) : cmpop .inn (.v (.p (.str x))) (.v (.p (.tup (b.map .str)))) s = some (decide (x ∈ b)) := by
  show inD (.v (.p (.str x))) (.v (.p (.tup (b.map .str)))) s = _
  simp only [inD, view, viewM, deps_str, any_str]
  rfl
@[simp] theorem cmp_nin (b : List (List Nat)) (x : List Nat) (s : Sto) : cmpop .nin (.v (.p (.str x))) (.v (.p (.tup (b.map .str)))) s = some (!decide (x ∈ b)) := by
  have := cmp_in b x s
  simp only [cmpop] at this ⊢
  rw [this]; rfl
@[simp] theorem setT_nm (i : Nat) (m : MV) (e : Env) : setT (.nm i) m e = some (e.set i (some m)) := rfl
@[simp] theorem setT_tp (is : List Nat) (l : List PV) (e : Env) : setT (.tp is) (.p (.tup l)) e = setMany e is (l.map .p) := rfl
@[simp] theorem setT_tt (is : List Nat) (l : List MV) (e : Env) : setT (.tp is) (.t l) e = setMany e is l := rfl
@[simp] theorem setMany_nil (e : Env) : setMany e [] [] = some e := rfl
@[simp] theorem setMany_cons (i : Nat) (is : List Nat) (m : MV) (ms : List MV) (e : Env) : setMany e (i :: is) (m :: ms) = setMany (e.set i (some m)) is ms := rfl
/-! ### calls that run by themselves -/
def isoFin : RS → Option EV
  | .ok .nx _ _ => some (.v (.p .non))
  | .ok (.rt r) _ s => isoOut r s
  | _ => none
@[simp] theorem isoFin_v (v : PV) (e : Env) (s : Sto) : isoFin (.ok (.rt (.v (.p v))) e s) = some (.v (.p v)) := rfl
@[simp] theorem isoFin_o (l : List MV) (e : Env) (s : Sto) : isoFin (.ok (.rt (.o (.lst l))) e s) = if refFree l then some (.o (.lst l)) else none := rfl
@[simp] theorem refFree_map (b : List PV) : refFree (b.map MV.p) = true := by
  induction b with
  | nil => rfl
  | cons a r ih => exact ih
@[simp] theorem refFree_nil : refFree [] = true := rfl
@[simp] theorem refFree_cons (v : PV) (r : List MV) : refFree (.p v :: r) = refFree r := rfl
@[simp] theorem refFree_app (a b : List MV) : refFree (a ++ b) = (refFree a && refFree b) := by
  induction a with
  | nil => rfl
  | cons m r ih => cases m with
    | p v => exact ih
    | _ => rfl
@[simp] theorem refFree_mapf {α : Type} (f : α → PV) (b : List α) : refFree (b.map fun x => MV.p (f x)) = true := by
  induction b with
  | nil => rfl
  | cons a r ih => exact ih
@[simp] theorem refFree_mapc {α : Type} (f : α → PV) (b : List α) : refFree (b.map (MV.p ∘ f)) = true := refFree_mapf f b
theorem callM_fin {k f : Nat} {d : FD} {ms : List MV} {s : Sto} (hd : P.fs[f]? = some d) (hl : ms.length = d.np) : callM P (k + 1) f ms s = (match evSs P (callM P k) d.body (ms.map some ++ List.replicate (d.n - ms.length) none) s with
    | .ok .nx _ s1 => .ok (evP .non) s1
    | .ok (.rt r) _ s1 => .ok r s1
    | .ok _ _ _ => .stk
    | .exc c x _ s1 => .exc c x s1
    | .stk => .stk) := by
  show (match P.fs[f]? with
    | some d => runFn P (callM P k) d ms s
    | none => .stk) = _
  rw [hd]
  show runFn P (callM P k) d ms s = _
  unfold runFn
  rw [if_pos hl]
  try rfl
/-- what a def gives, run by itself -/
def Gives (P : Prg) (k f : Nat) (ms : List MV) (r : EV) : Prop := ∀ s, doCall (callM P k) f ms s = .ok r s
theorem gives {k f : Nat} {d : FD} {ms : List MV} {r : EV} (hd : P.fs[f]? = some d) (hl : ms.length = d.np) (hf : refFree ms = true) (h : isoFin (evSs P (callM P k) d.body (ms.map some ++ List.replicate (d.n - ms.length) none) []) = some r) : Gives P (k + 1) f ms r := by
  intro s
  unfold doCall isoCall
  rw [if_pos hf, callM_fin hd hl]
  cases hr : evSs P (callM P k) d.body (ms.map some ++ List.replicate (d.n - ms.length) none) [] with
  | ok q e s1 =>
    rw [hr] at h
    cases q with
    | nx => cases h; rfl
    | rt r1 => simp only [isoFin] at h; simp [h]
    | bk => cases h
    | ct => cases h
  | exc c x e s1 => rw [hr] at h; cases h
  | stk => rw [hr] at h; cases h
@[simp] theorem allStr_map (b : List (List Nat)) : allStr (b.map fun x => MV.p (.str x)) = some b := by
  induction b with
  | nil => rfl
  | cons a r ih => simp only [List.map_cons, allStr, ih]; rfl
@[simp] theorem allStr_mapc (b : List (List Nat)) : allStr (b.map (MV.p ∘ PV.str)) = some b := allStr_map b
@[simp] theorem setStr_map (b : List (List Nat)) : setStr (b.map PV.str) = some b := by
  induction b with
  | nil => rfl
  | cons a r ih => simp only [List.map_cons, setStr, ih]; rfl
/-- the first of each text -/
def ddS : List (List Nat) → List (List Nat) → List (List Nat)
  | acc, [] => acc
  | acc, x :: r => if x ∈ acc then ddS acc r else ddS (acc ++ [x]) r
@[simp] theorem dedup_map (b acc : List (List Nat)) : dedup (acc.map PV.str) (b.map PV.str) = (ddS acc b).map PV.str := by
  induction b generalizing acc with
  | nil => rfl
  | cons a r ih =>
    simp only [List.map_cons, dedup, any_str, ddS, decide_eq_true_eq]
    by_cases h : a ∈ acc
    · rw [if_pos h, if_pos h]; exact ih acc
    · rw [if_neg h, if_neg h]
      have := ih (acc ++ [a])
      rw [List.map_append] at this
      exact this
theorem ddS_len (b acc : List (List Nat)) : (ddS acc b).length ≤ acc.length + b.length := by
  induction b generalizing acc with
  | nil => simp [ddS]
  | cons a r ih =>
    simp only [ddS]
    split
    · have := ih acc; simp; omega
    · have := ih (acc ++ [a]); simp at this ⊢; omega
theorem bi_set (b : List (List Nat)) (s : Sto) (h : b.length < 4000) : biF .set [.o (.lst (b.map fun x => .p (.str x)))] s = .ok (.o (.set ((ddS [] b).map .str))) s := by
  simp only [biF, strsOf, lstOf, objOf, allStr_map]
  rw [if_pos h]
  have := dedup_map b []
  rw [List.map_nil] at this
  rw [this]
theorem bi_sort (b : List (List Nat)) (s : Sto) (h : b.length < 64) : biF .sorted [.o (.set (b.map .str))] s = .ok (.o (.lst ((sortS b).map fun z => .p (.str z)))) s := by
  simp only [biF, objOf, setStr_map]
  rw [if_pos h]
@[simp] theorem bi_tupS (b : List (List Nat)) (s : Sto) : biF .tuple [.o (.lst (b.map fun x => .p (.str x)))] s = .ok (.v (.p (.tup (b.map .str)))) s := by
  have : mkTup (b.map fun x => MV.p (.str x)) = .p (.tup (b.map .str)) := by
    have := mkTup_map (b.map PV.str)
    rwa [List.map_map] at this
  simp only [biF, tupOf, lstOf, objOf, this]
theorem fin_nx {a : MS} {r : MSs} {e e1 : Env} {s s1 : Sto} {q : EV} (h : evS P C a e s = .ok .nx e1 s1) (h2 : isoFin (evSs P C r e1 s1) = some q) : isoFin (evSs P C (.cons a r) e s) = some q := by
  simp only [evSs, h, seq_nx, h2]
theorem ss_nx {a : MS} {r : MSs} {e e1 : Env} {s s1 : Sto} {q : RS} (h : evS P C a e s = .ok .nx e1 s1) (h2 : evSs P C r e1 s1 = q) : evSs P C (.cons a r) e s = q := by
  simp only [evSs, h, seq_nx, h2]
theorem whGo_count {c : Env → Sto → Res Bool} {b : Env → Sto → RS} {e : Nat → Env} {s : Sto} {n : Nat} (hc : ∀ i, i < n → c (e i) s = .ok true s) (hn : c (e n) s = .ok false s) (hb : ∀ i, i < n → b (e i) s = .ok .nx (e (i + 1)) s) :
    ∀ (f j : Nat), j ≤ n → n - j < f → whGo c b f (e j) s = .ok .nx (e n) s := by
  intro f
  induction f with
  | zero => intro j _ h; omega
  | succ f ih =>
    intro j hj hf
    unfold whGo
    by_cases h : j = n
    · subst h; simp [hn]
    · have hlt : j < n := by omega
      simp [hc j hlt, hb j hlt]
      exact ih (j + 1) (by omega) (by omega)
theorem wh_count {c : MX} {b : MSs} {e : Nat → Env} {s : Sto} (n : Nat) (hn0 : n < 1000000) (hc : ∀ i, i < n → tst (evE P C c (e i) s) = .ok true s) (hn : tst (evE P C c (e n) s) = .ok false s) (hb : ∀ i, i < n → evSs P C b (e i) s = .ok .nx (e (i + 1)) s) :
    evS P C (.whl c b) (e 0) s = .ok .nx (e n) s := by
  simp only [evS]
  exact whGo_count hc hn hb wfuel 0 (by omega) (by simp only [wfuel]; omega)
theorem lcGo_snap {α : Type} {f : MV → Sto → Res (List MV)} {q : α → MV} {g : α → List MV} {s : Sto} {sq : Sq} (l : List α) (hs : sqAt sq s = some (l.map q)) (h : ∀ x, x ∈ l → f (q x) s = .ok (g x) s) :
    ∀ (n i : Nat), l.length - i < n → lcGo (.sq sq) f n i s = .ok ((l.drop i).flatMap g) s := by
  intro n
  induction n with
  | zero => intro i h; omega
  | succ n ih =>
    intro i hn
    unfold lcGo
    simp only [itm, hs, Option.map_some, List.getElem?_map]
    by_cases hi : i < l.length
    · have e : l[i]? = some l[i] := List.getElem?_eq_getElem hi
      rw [e]
      simp only [Option.map_some]
      rw [h _ (List.getElem_mem hi)]
      simp only [bind_ok]
      rw [ih (i + 1) (by omega)]
      simp only [bind_ok]
      rw [List.drop_eq_getElem_cons hi, List.flatMap_cons]
    · have e : l[i]? = none := List.getElem?_eq_none (by omega)
      rw [e]
      simp only [Option.map_none]
      rw [List.drop_eq_nil_of_le (by omega)]
      rfl
theorem ev_lc {α : Type} {elt : MX} {tg : MT} {it : MI} {cs : MXs} {own : List Nat} {env : Env} {s : Sto} (q : α → MV) (g : α → List MV) (l : List α) (sq : Sq) (hi : evI P C it env s = .ok (.sq sq) s) (hs : sqAt sq s = some (l.map q)) (hl : l.length < 1000000) (hg : (l.flatMap g).length ≤ 16777216)
    (h : ∀ x, x ∈ l → turnE (wipeE env own) tg (fun e1 s1 => evC P C cs e1 s1) (fun e1 s1 => (evE P C elt e1 s1).bind fun r s2 => .ok [(hold r s2).1] (hold r s2).2) (q x) s = .ok (g x) s) :
    evE P C (.lc elt tg it cs own) env s = .ok (.o (.lst (l.flatMap g))) s := by
  simp only [evE, hi, bind_ok]
  have := lcGo_snap (f := turnE (wipeE env own) tg (fun e1 s1 => evC P C cs e1 s1) (fun e1 s1 => (evE P C elt e1 s1).bind fun r s2 => .ok [(hold r s2).1] (hold r s2).2)) l hs h wfuel 0 (by simp only [wfuel]; omega)
  rw [List.drop_zero] at this
  rw [this]
  simp only [noX_ok, bind_ok]
  exact if_pos hg
theorem ev_lcm {α : Type} {elt : MX} {tg : MT} {it : MI} {cs : MXs} {own : List Nat} {env : Env} {s : Sto} (q : α → MV) (g : α → MV) (l : List α) (sq : Sq) (hi : evI P C it env s = .ok (.sq sq) s) (hs : sqAt sq s = some (l.map q)) (hl : l.length < 1000000)
    (h : ∀ x, x ∈ l → turnE (wipeE env own) tg (fun e1 s1 => evC P C cs e1 s1) (fun e1 s1 => (evE P C elt e1 s1).bind fun r s2 => .ok [(hold r s2).1] (hold r s2).2) (q x) s = .ok [g x] s) :
    evE P C (.lc elt tg it cs own) env s = .ok (.o (.lst (l.map g))) s := by
  have e : l.flatMap (fun x => [g x]) = l.map g := by
    clear hs hl h
    induction l with
    | nil => rfl
    | cons a r ih => rw [List.flatMap_cons, ih]; rfl
  have := ev_lc (P := P) (C := C) q (fun x => [g x]) l sq hi hs hl (by rw [e, List.length_map]; omega) h
  rw [e] at this
  exact this
theorem ev_lcf {α : Type} {elt : MX} {tg : MT} {it : MI} {cs : MXs} {own : List Nat} {env : Env} {s : Sto} (q : α → MV) (p : α → Bool) (g : α → MV) (l : List α) (sq : Sq) (hi : evI P C it env s = .ok (.sq sq) s) (hs : sqAt sq s = some (l.map q)) (hl : l.length < 1000000)
    (h : ∀ x, x ∈ l → turnE (wipeE env own) tg (fun e1 s1 => evC P C cs e1 s1) (fun e1 s1 => (evE P C elt e1 s1).bind fun r s2 => .ok [(hold r s2).1] (hold r s2).2) (q x) s = .ok (if p x then [g x] else []) s) :
    evE P C (.lc elt tg it cs own) env s = .ok (.o (.lst ((l.filter p).map g))) s := by
  have e : l.flatMap (fun x => if p x then [g x] else []) = (l.filter p).map g := by
    clear hs hl h
    induction l with
    | nil => rfl
    | cons a r ih => rw [List.flatMap_cons, List.filter_cons, ih]; split <;> simp
  have hle : ((l.filter p).map g).length ≤ 16777216 := by
    rw [List.length_map]
    have := List.length_filter_le p l
    omega
  have := ev_lc (P := P) (C := C) q (fun x => if p x then [g x] else []) l sq hi hs hl (by rw [e]; exact hle) h
  rw [e] at this
  exact this
theorem bi_set_r (n : Nat) (b : List (List Nat)) (s : Sto) (hn : s[n]? = some (.lst (b.map fun x => .p (.str x)))) (h : b.length < 4000) : biF .set [.v (.r n)] s = .ok (.o (.set ((ddS [] b).map .str))) s := by
  simp only [biF, strsOf, lstOf, objOf, hn, allStr_map]
  rw [if_pos h]
  have := dedup_map b []
  rw [List.map_nil] at this
  rw [this]
theorem bi_len_r (n : Nat) (l : List MV) (s : Sto) (hn : s[n]? = some (.lst l)) : biF .len [.v (.r n)] s = .ok (.v (.p (.int l.length))) s := by
  simp only [biF, lenOf, seqOf, tupOf, tupSeq, lstOf, objOf, hn, evP_eq]
theorem bi_len_s (l : List PV) (s : Sto) : biF .len [.o (.set l)] s = .ok (.v (.p (.int l.length))) s := rfl
theorem bi_len_t (l : List PV) (s : Sto) : biF .len [.v (.p (.tup l))] s = .ok (.v (.p (.int l.length))) s := by
  simp only [biF, lenOf, seqOf, tupOf, tupSeq, evP_eq, List.length_map]
theorem bi_any (b : List Bool) (s : Sto) : biF .any [.o (.lst (b.map fun x => .p (.bl x)))] s = .ok (.v (.p (.bl (b.any id)))) s := by
  have : allBl (b.map fun x => MV.p (.bl x)) = some b := by
    induction b with
    | nil => rfl
    | cons a r ih => simp only [List.map_cons, allBl, ih]; rfl
  simp only [biF, lstOf, objOf, this, bl_eq]
theorem sqOf_r (n : Nat) (l : List MV) (s : Sto) (hn : s[n]? = some (.lst l)) : sqOf (.v (.r n)) s = some (.live n) := by
  simp only [sqOf, sqL, hn]
theorem sqAt_r (n : Nat) (l : List MV) (s : Sto) (hn : s[n]? = some (.lst l)) : sqAt (.live n) s = some l := by
  simp only [sqAt, hn, objSeq]
/-! ### the equations, loops left out -/
@[simp] theorem E_var (i : Nat) (env : Env) (s : Sto) : evE P C (.var i) env s = (match env[i]? with
    | some (some m) => .ok (.v m) s
    | _ => .stk) := by first | rfl | (simp only [evE]; rfl)
@[simp] theorem E_lit (v : PV) (env : Env) (s : Sto) : evE P C (.lit v) env s = (.ok (evP v) s) := by first | rfl | (simp only [evE]; rfl)
@[simp] theorem E_glb (x : Nat) (env : Env) (s : Sto) : evE P C (.glb x) env s = (match P.glob[x]? with
    | some (some m) => .ok (.v m) s
    | _ => .stk) := by first | rfl | (simp only [evE]; rfl)
@[simp] theorem E_tup (es : MXs) (env : Env) (s : Sto) : evE P C (.tup es) env s = ((evL P C es env s).bind fun l s1 => match holdAll l s1 with
    | (ms, s2) => if ms.length ≤ lim then .ok (.v (mkTup ms)) s2 else .stk) := by first | rfl | (simp only [evE]; rfl)
@[simp] theorem E_lst (es : MXs) (env : Env) (s : Sto) : evE P C (.lst es) env s = ((evL P C es env s).bind fun l s1 => match holdAll l s1 with
    | (ms, s2) => if ms.length ≤ lim then .ok (.o (.lst ms)) s2 else .stk) := by first | rfl | (simp only [evE]; rfl)
@[simp] theorem E_bin (op : BOp) (a : MX) (b : MX) (env : Env) (s : Sto) : evE P C (.bin op a b) env s = ((evE P C a env s).bind fun x s1 => (evE P C b env s1).bind fun y s2 => binop op x y s2) := by first | rfl | (simp only [evE]; rfl)
@[simp] theorem E_cmp (op : COp) (a : MX) (b : MX) (env : Env) (s : Sto) : evE P C (.cmp op a b) env s = ((evE P C a env s).bind fun x s1 => (evE P C b env s1).bind fun y s2 => match cmpop op x y s2 with
    | some b => .ok (bl b) s2
    | none => .stk) := by first | rfl | (simp only [evE]; rfl)
@[simp] theorem E_chn (o1 : COp) (o2 : COp) (a : MX) (b : MX) (c : MX) (env : Env) (s : Sto) : evE P C (.chn o1 o2 a b c) env s = ((evE P C a env s).bind fun x s1 => (evE P C b env s1).bind fun y s2 => match cmpop o1 x y s2 with
    | some true => (evE P C c env s2).bind fun z s3 => match cmpop o2 y z s3 with
      | some b => .ok (bl b) s3
      | none => .stk
    | some false => .ok (bl false) s2
    | none => .stk) := by first | rfl | (simp only [evE]; rfl)
@[simp] theorem E_and (a : MX) (b : MX) (env : Env) (s : Sto) : evE P C (.and a b) env s = ((evE P C a env s).bind fun x s1 => match truth x s1 with
    | some true => evE P C b env s1
    | some false => .ok x s1
    | none => .stk) := by first | rfl | (simp only [evE]; rfl)
@[simp] theorem E_or (a : MX) (b : MX) (env : Env) (s : Sto) : evE P C (.or a b) env s = ((evE P C a env s).bind fun x s1 => match truth x s1 with
    | some true => .ok x s1
    | some false => evE P C b env s1
    | none => .stk) := by first | rfl | (simp only [evE]; rfl)
@[simp] theorem E_not (a : MX) (env : Env) (s : Sto) : evE P C (.not a) env s = ((evE P C a env s).bind fun x s1 => match truth x s1 with
    | some b => .ok (bl (!b)) s1
    | none => .stk) := by first | rfl | (simp only [evE]; rfl)
@[simp] theorem E_neg (a : MX) (env : Env) (s : Sto) : evE P C (.neg a) env s = ((evE P C a env s).bind fun x s1 => match x with
    | .v (.p (.int i)) => .ok (evP (.int (-i))) s1
    | _ => .stk) := by first | rfl | (simp only [evE]; rfl)
@[simp] theorem E_ite (c : MX) (a : MX) (b : MX) (env : Env) (s : Sto) : evE P C (.ite c a b) env s = ((tst (evE P C c env s)).bind fun k s1 => if k then evE P C a env s1 else evE P C b env s1) := by first | rfl | (simp only [evE]; rfl)
@[simp] theorem E_ix (a : MX) (i : MX) (env : Env) (s : Sto) : evE P C (.ix a i) env s = ((evE P C a env s).bind fun x s1 => (evE P C i env s1).bind fun y s2 => optR (index x y s2) s2) := by first | rfl | (simp only [evE]; rfl)
@[simp] theorem E_slf (a : MX) (lo : MX) (env : Env) (s : Sto) : evE P C (.slf a lo) env s = ((evE P C a env s).bind fun x s1 => (evE P C lo env s1).bind fun y s2 => match y with
    | .v (.p (.int i)) => optR (slice x (some i) none s2) s2
    | _ => .stk) := by first | rfl | (simp only [evE]; rfl)
@[simp] theorem E_slt (a : MX) (hi : MX) (env : Env) (s : Sto) : evE P C (.slt a hi) env s = ((evE P C a env s).bind fun x s1 => (evE P C hi env s1).bind fun y s2 => match y with
    | .v (.p (.int i)) => optR (slice x none (some i) s2) s2
    | _ => .stk) := by first | rfl | (simp only [evE]; rfl)
@[simp] theorem E_slb (a : MX) (lo : MX) (hi : MX) (env : Env) (s : Sto) : evE P C (.slb a lo hi) env s = ((evE P C a env s).bind fun x s1 => (evE P C lo env s1).bind fun y s2 => match y with
    | .v (.p (.int i)) => (evE P C hi env s2).bind fun z s3 => match z with
      | .v (.p (.int j)) => optR (slice x (some i) (some j) s3) s3
      | _ => .stk
    | _ => .stk) := by first | rfl | (simp only [evE]; rfl)
@[simp] theorem E_call (f : Nat) (es : MXs) (env : Env) (s : Sto) : evE P C (.call f es) env s = ((evL P C es env s).bind fun l s1 => match holdAll l s1 with
    | (ms, s2) => doCall C f ms s2) := by first | rfl | (simp only [evE]; rfl)
@[simp] theorem E_cv (i : Nat) (es : MXs) (env : Env) (s : Sto) : evE P C (.cv i es) env s = (match env[i]? with
    | some (some (.f g)) => if g < P.fs.length then (evL P C es env s).bind fun l s1 => match holdAll l s1 with
      | (ms, s2) => doCall C g ms s2 else .stk
    | _ => .stk) := by first | rfl | (simp only [evE]; rfl)
@[simp] theorem E_bi (b : BI) (es : MXs) (env : Env) (s : Sto) : evE P C (.bi b es) env s = ((evL P C es env s).bind fun l s1 => biF b l s1) := by first | rfl | (simp only [evE]; rfl)
@[simp] theorem E_isi (a : MX) (t : TyN) (env : Env) (s : Sto) : evE P C (.isi a t) env s = ((evE P C a env s).bind fun x s1 => match typeIs t x s1 with
    | some b => .ok (bl b) s1
    | none => .stk) := by first | rfl | (simp only [evE]; rfl)
@[simp] theorem E_me (m : ME) (o : MX) (es : MXs) (env : Env) (s : Sto) : evE P C (.me m o es) env s = ((evE P C o env s).bind fun x s1 => if meTy m x s1 then (evL P C es env s1).bind fun l s2 => mef m x l s2 else .stk) := by first | rfl | (simp only [evE]; rfl)
@[simp] theorem E_mk (c : Nat) (es : MXs) (env : Env) (s : Sto) : evE P C (.mk c es) env s = (match P.init c with
    | some f => (evL P C es env s).bind fun l s1 => match holdAll l s1 with
      | (ms, s2) => match C f (.r s2.length :: ms) (s2 ++ [.ins c []]) with
        | .ok (.v (.p .non)) s3 => .ok (.v (.r s2.length)) s3
        | _ => .stk
    | none => .stk) := by first | rfl | (simp only [evE]; rfl)
@[simp] theorem E_um (m : Nat) (o : MX) (es : MXs) (env : Env) (s : Sto) : evE P C (.um m o es) env s = ((evE P C o env s).bind fun x s1 => match x with
    | .v (.r n) => match s1[n]? with
      | some (.ins c fs) => match P.meth c m with
        | some f => (evL P C es env s1).bind fun l s2 => match holdAll l s2 with
          | (ms, s3) => C f (.r n :: ms) s3
        | none => .stk
      | _ => .stk
    | _ => .stk) := by first | rfl | (simp only [evE]; rfl)
@[simp] theorem E_fld (o : MX) (x : Nat) (env : Env) (s : Sto) : evE P C (.fld o x) env s = ((evE P C o env s).bind fun v s1 => match v with
    | .v (.r n) => match s1[n]? with
      | some (.ins c fs) => match P.init c with
        | some _ => match lookF x fs with
          | some m => .ok (.v m) s1
          | none => .stk
        | none => .stk
      | _ => .stk
    | _ => .stk) := by first | rfl | (simp only [evE]; rfl)
@[simp] theorem E_dix (o : MX) (k : MX) (env : Env) (s : Sto) : evE P C (.dix o k) env s = ((evE P C o env s).bind fun x s1 => (evE P C k env s1).bind fun y s2 => match dicOf x s2, kstr y with
    | some l, some z => optR ((dget z l).map .v) s2
    | _, _ => .stk) := by first | rfl | (simp only [evE]; rfl)
@[simp] theorem E_dg1 (o : MX) (k : MX) (env : Env) (s : Sto) : evE P C (.dg1 o k) env s = ((evE P C o env s).bind fun x s1 => match dicOf x s1 with
    | some _ => (evE P C k env s1).bind fun y s2 => match dicOf x s2, kstr y with
      | some l, some z => .ok (.v ((dget z l).getD (.p .non))) s2
      | _, _ => .stk
    | none => .stk) := by first | rfl | (simp only [evE]; rfl)
@[simp] theorem E_dg2 (o : MX) (k : MX) (d : MX) (env : Env) (s : Sto) : evE P C (.dg2 o k d) env s = ((evE P C o env s).bind fun x s1 => match dicOf x s1 with
    | some _ => (evE P C k env s1).bind fun y s2 => (evE P C d env s2).bind fun w s3 => match dicOf x s3, kstr y with
      | some l, some z => (match dget z l with
        | some v => .ok (.v v) s3
        | none => .ok w s3)
      | _, _ => .stk
    | none => .stk) := by first | rfl | (simp only [evE]; rfl)
@[simp] theorem E_din (k : MX) (o : MX) (env : Env) (s : Sto) : evE P C (.din k o) env s = ((evE P C k env s).bind fun y s1 => (evE P C o env s1).bind fun x s2 => match dicOf x s2, kstr y with
    | some l, some z => .ok (bl (dget z l).isSome) s2
    | _, _ => .stk) := by first | rfl | (simp only [evE]; rfl)
@[simp] theorem E_dnin (k : MX) (o : MX) (env : Env) (s : Sto) : evE P C (.dnin k o) env s = ((evE P C k env s).bind fun y s1 => (evE P C o env s1).bind fun x s2 => match dicOf x s2, kstr y with
    | some l, some z => .ok (bl (!(dget z l).isSome)) s2
    | _, _ => .stk) := by first | rfl | (simp only [evE]; rfl)
@[simp] theorem L_nil (env : Env) (s : Sto) : evL P C .nil env s = .ok [] s := by simp only [evL]
@[simp] theorem L_cons (e : MX) (r : MXs) (env : Env) (s : Sto) : evL P C (.cons e r) env s = ((evE P C e env s).bind fun x s1 => (evL P C r env s1).bind fun l s2 => .ok (x :: l) s2) := by simp only [evL]
@[simp] theorem C_nil (env : Env) (s : Sto) : evC P C .nil env s = .ok true s := by simp only [evC]
@[simp] theorem C_one (e : MX) (env : Env) (s : Sto) : evC P C (.cons e .nil) env s = tst (evE P C e env s) := by simp only [evC]
@[simp] theorem S_asg (t : MT) (e : MX) (env : Env) (s : Sto) : evS P C (.asg t e) env s = (RS.bindE (evE P C e env s) env fun x s1 => match setT t (hold x s1).1 env with
    | some env1 => .ok .nx env1 (hold x s1).2
    | none => .stk) := by first | rfl | (simp only [evS]; rfl)
@[simp] theorem S_par (i : Nat) (j : Nat) (a : MX) (b : MX) (env : Env) (s : Sto) : evS P C (.par i j a b) env s = (RS.bindE (evL P C (.cons a (.cons b .nil)) env s) env fun l s1 => match holdAll l s1 with
    | ([u, v], s3) => .ok .nx ((env.set i (some u)).set j (some v)) s3
    | _ => .stk) := by first | rfl | (simp only [evS]; rfl)
@[simp] theorem S_sub (o : MX) (i : MX) (e : MX) (env : Env) (s : Sto) : evS P C (.sub o i e) env s = (RS.bindE (evE P C e env s) env fun x s1 => RS.bindE (evE P C o env s1) env fun y s2 => RS.bindE (evE P C i env s2) env fun z s3 => stOr (setIx y z (hold x s3).1 (hold x s3).2) fun s5 => .ok .nx env s5) := by first | rfl | (simp only [evS]; rfl)
@[simp] theorem S_dsub (o : MX) (k : MX) (e : MX) (env : Env) (s : Sto) : evS P C (.dsub o k e) env s = (RS.bindE (evE P C e env s) env fun x s1 => RS.bindE (evE P C o env s1) env fun y s2 => RS.bindE (evE P C k env s2) env fun z s3 => match y, kstr z with
    | .v (.r n), some q => match (hold x s3).2[n]? with
      | some (.dic l) => if l.length < lim then .ok .nx env ((hold x s3).2.set n (.dic (dput q (hold x s3).1 l))) else .stk
      | _ => .stk
    | _, _ => .stk) := by first | rfl | (simp only [evS]; rfl)
@[simp] theorem S_fst (o : MX) (f : Nat) (e : MX) (env : Env) (s : Sto) : evS P C (.fst o f e) env s = (RS.bindE (evE P C e env s) env fun x s1 => RS.bindE (evE P C o env s1) env fun y s2 => match y with
    | .v (.r n) => match s2[n]? with
      | some (.ins c fs) => if fs.length < 900 ∧ (P.init c).isSome = true then .ok .nx env ((hold x s2).2.set n (.ins c (putFM f (hold x s2).1 fs))) else .stk
      | _ => .stk
    | _ => .stk) := by first | rfl | (simp only [evS]; rfl)
@[simp] theorem S_aug (i : Nat) (sg : Bool) (e : MX) (env : Env) (s : Sto) : evS P C (.aug i sg e) env s = (match env[i]? with
    | some (some (.p (.int a))) => RS.bindE (evE P C e env s) env fun y s1 => match y with
      | .v (.p (.int b)) => .ok .nx (env.set i (some (.p (.int (if sg then a + b else a - b))))) s1
      | _ => .stk
    | _ => .stk) := by first | rfl | (simp only [evS]; rfl)
@[simp] theorem S_ex (e : MX) (env : Env) (s : Sto) : evS P C (.ex e) env s = (RS.bindE (evE P C e env s) env fun _ s1 => .ok .nx env s1) := by first | rfl | (simp only [evS]; rfl)
@[simp] theorem S_iff (c : MX) (a : MSs) (b : MSs) (env : Env) (s : Sto) : evS P C (.iff c a b) env s = (RS.bindE (tst (evE P C c env s)) env fun k s1 => if k then evSs P C a env s1 else evSs P C b env s1) := by first | rfl | (simp only [evS]; rfl)
@[simp] theorem S_ret (e : MX) (env : Env) (s : Sto) : evS P C (.ret e) env s = (RS.bindE (evE P C e env s) env fun x s1 => .ok (.rt x) env s1) := by first | rfl | (simp only [evS]; rfl)
@[simp] theorem S_retN  (env : Env) (s : Sto) : evS P C (.retN ) env s = (.ok (.rt (evP .non)) env s) := by first | rfl | (simp only [evS]; rfl)
@[simp] theorem S_brk  (env : Env) (s : Sto) : evS P C (.brk ) env s = (.ok .bk env s) := by first | rfl | (simp only [evS]; rfl)
@[simp] theorem S_cnt  (env : Env) (s : Sto) : evS P C (.cnt ) env s = (.ok .ct env s) := by first | rfl | (simp only [evS]; rfl)
@[simp] theorem S_pass  (env : Env) (s : Sto) : evS P C (.pass ) env s = (.ok .nx env s) := by first | rfl | (simp only [evS]; rfl)
@[simp] theorem S_rse (c : Nat) (env : Env) (s : Sto) : evS P C (.rse c) env s = (match P.exm c c with
    | some _ => .exc c none env s
    | none => .stk) := by first | rfl | (simp only [evS]; rfl)
@[simp] theorem Ss_nil (env : Env) (s : Sto) : evSs P C .nil env s = .ok .nx env s := by simp only [evSs]
@[simp] theorem Ss_cons (a : MS) (r : MSs) (env : Env) (s : Sto) : evSs P C (.cons a r) env s = ((evS P C a env s).seq fun e1 s1 => evSs P C r e1 s1) := by simp only [evSs]
theorem foGo_st {α : Type} {tg : MT} {b : Env → Sto → RS} {q : α → MV} {sq : Sq} (l : List α) (E : Nat → Env) (S : Nat → Sto) (hs : ∀ i, i ≤ l.length → sqAt sq (S i) = some (l.map q))
    (h : ∀ i (hi : i < l.length), ∃ e1, setT tg (q l[i]) (E i) = some e1 ∧ b e1 (S i) = .ok .nx (E (i + 1)) (S (i + 1))) :
    ∀ (n i : Nat), i ≤ l.length → l.length - i < n → foGo (.sq sq) tg b n i (E i) (S i) = .ok .nx (E l.length) (S l.length) := by
  intro n
  induction n with
  | zero => intro i _ h; omega
  | succ n ih =>
    intro i hi hn
    unfold foGo
    simp only [itm, hs i hi, Option.map_some, List.getElem?_map]
    by_cases hl : i < l.length
    · rw [List.getElem?_eq_getElem hl]
      obtain ⟨e1, h1, h2⟩ := h i hl
      simp only [Option.map_some, h1, h2]
      exact ih (i + 1) (by omega) (by omega)
    · have : i = l.length := by omega
      subst this
      rw [List.getElem?_eq_none (by omega)]
      rfl
theorem ev_for {α : Type} {tg : MT} {it : MI} {b : MSs} {env : Env} {s s1 : Sto} {q : α → MV} {sq : Sq} (l : List α) (E : Nat → Env) (S : Nat → Sto) (hi : evI P C it env s = .ok (.sq sq) s1) (h0 : E 0 = env) (h1 : S 0 = s1) (hl : l.length < 1000000)
    (hs : ∀ i, i ≤ l.length → sqAt sq (S i) = some (l.map q))
    (h : ∀ i (hi : i < l.length), ∃ e1, setT tg (q l[i]) (E i) = some e1 ∧ evSs P C b e1 (S i) = .ok .nx (E (i + 1)) (S (i + 1))) : evS P C (.forr tg it b) env s = .ok .nx (E l.length) (S l.length) := by
  subst h0; subst h1
  simp only [evS, hi, bindE_ok]
  exact foGo_st l E S hs h wfuel 0 (by omega) (by simp only [wfuel]; omega)
theorem foGo_inv {α : Type} {tg : MT} {b : Env → Sto → RS} {q : α → MV} {sq : Sq} (l : List α) (I : Nat → Env → Sto → Prop) (hs : ∀ i e s, I i e s → sqAt sq s = some (l.map q))
    (h : ∀ i (hi : i < l.length) e s, I i e s → ∃ e1 e2 s2, setT tg (q l[i]) e = some e1 ∧ b e1 s = .ok .nx e2 s2 ∧ I (i + 1) e2 s2) :
    ∀ (n i : Nat) e s, I i e s → i ≤ l.length → l.length - i < n → ∃ e2 s2, foGo (.sq sq) tg b n i e s = .ok .nx e2 s2 ∧ I l.length e2 s2 := by
  intro n
  induction n with
  | zero => intro i _ _ _ _ h; omega
  | succ n ih =>
    intro i e s hI hi hn
    unfold foGo
    simp only [itm, hs i e s hI, Option.map_some, List.getElem?_map]
    by_cases hl : i < l.length
    · rw [List.getElem?_eq_getElem hl]
      obtain ⟨e1, e2, s2, h1, h2, h3⟩ := h i hl e s hI
      simp only [Option.map_some, h1, h2]
      exact ih (i + 1) e2 s2 h3 (by omega) (by omega)
    · have : i = l.length := by omega
      subst this
      rw [List.getElem?_eq_none (by omega)]
      exact ⟨e, s, rfl, hI⟩
theorem ev_for_inv {α : Type} {tg : MT} {it : MI} {b : MSs} {env : Env} {s s1 : Sto} {q : α → MV} {sq : Sq} (l : List α) (I : Nat → Env → Sto → Prop) (hi : evI P C it env s = .ok (.sq sq) s1) (h0 : I 0 env s1) (hl : l.length < 1000000)
    (hs : ∀ i e s, I i e s → sqAt sq s = some (l.map q))
    (h : ∀ i (hi : i < l.length) e s, I i e s → ∃ e1 e2 s2, setT tg (q l[i]) e = some e1 ∧ evSs P C b e1 s = .ok .nx e2 s2 ∧ I (i + 1) e2 s2) : ∃ e2 s2, evS P C (.forr tg it b) env s = .ok .nx e2 s2 ∧ I l.length e2 s2 := by
  simp only [evS, hi, bindE_ok]
  exact foGo_inv l I hs h wfuel 0 env s1 h0 (by omega) (by simp only [wfuel]; omega)
theorem ge1 {k n : Nat} (h : n + 1 ≤ k) : ∃ j, k = j + 1 := ⟨k - 1, by omega⟩
end Mev
end
section
set_option maxRecDepth 20000
namespace K36
open Mn Mev
inductive Tm where
  | nm (x : List Nat) | to (x : List Nat) (b : Tm) | of (a b : Tm)
def sNm : PV := .str [110, 97, 109, 101]
def sTo : PV := .str [116, 111]
def sOf : PV := .str [111, 102]
def enc : Tm → PV
  | .nm x => .tup [sNm, .str x]
  | .to x b => .tup [sTo, .str x, enc b]
  | .of a b => .tup [sOf, enc a, enc b]
def encN (b : List (List Nat)) : PV := .tup (b.map .str)
def lstN (b : List (List Nat)) : EV := .o (.lst (b.map fun x => .p (.str x)))
def freeIn : Tm → List (List Nat) → List (List Nat)
  | .nm x, b => if x ∈ b then [] else [x]
  | .to x t, b => freeIn t (b ++ [x])
  | .of s t, b => freeIn s b ++ freeIn t b
def dp : Tm → Nat
  | .nm _ => 1
  | .to _ b => dp b + 1
  | .of a b => max (dp a) (dp b) + 1
def sz : Tm → Nat
  | .nm _ => 1
  | .to _ b => sz b + 1
  | .of a b => sz a + sz b + 1
theorem free_in_ok : ∀ (t : Tm) (b : List (List Nat)) (k : Nat), b.length + dp t < 1000 → dp t ≤ k → (freeIn t b).length ≤ 1000 → Gives P k 0 [.p (enc t), .p (encN b)] (lstN (freeIn t b)) := by
  intro t
  induction t with
  | nm x =>
    intro b k hb hk hl
    obtain ⟨k, rfl⟩ := ge1 hk
    refine gives (d := ⟨2, 2, b0⟩) rfl rfl rfl ?_
    by_cases hx : x ∈ b <;> simp [b0, evSs, evS, evE, evL, enc, encN, sNm, hx, freeIn, lstN, lim]
  | to x t ih =>
    intro b k hb hk hl
    obtain ⟨k, rfl⟩ := ge1 hk
    simp only [dp, freeIn] at hb hk hl
    have h1 := ih (b ++ [x]) k (by rw [List.length_append]; simp only [List.length_cons, List.length_nil]; omega) (by omega) hl
    refine gives (d := ⟨2, 2, b0⟩) rfl rfl rfl ?_
    have h2 := bin_tt (b.map .str) [.str x] [] (by simp; omega)
    simp [Gives, encN] at h1
    simp [b0, evSs, evS, evE, evL, enc, encN, sTo, freeIn, lim, h1, h2, lstN]
  | of a b iha ihb =>
    intro b k hb hk hl
    obtain ⟨k, rfl⟩ := ge1 hk
    simp only [dp, freeIn, List.length_append] at hb hk hl
    have h1 := iha b k (by omega) (by omega) (by omega)
    have h2 := ihb b k (by omega) (by omega) (by omega)
    refine gives (d := ⟨2, 2, b0⟩) rfl rfl rfl ?_
    simp only [Gives, lstN] at h1 h2
    simp [b0, evSs, evS, evE, evL, enc, sOf, freeIn, lim, h1, h2, lstN]
    rw [bin_ll _ _ _ (by simp; omega)]
    simp
theorem insS_len (x : List Nat) (l : List (List Nat)) : (insS x l).length = l.length + 1 := by
  induction l with
  | nil => rfl
  | cons a r ih => simp only [insS]; split <;> simp [ih]
theorem sortS_len (l : List (List Nat)) : (sortS l).length = l.length := by
  induction l with
  | nil => rfl
  | cons a r ih => simp only [sortS]; rw [insS_len, ih]; rfl
def freeN (t : Tm) : List (List Nat) := sortS (ddS [] (freeIn t []))
theorem free_names_ok (t : Tm) (k : Nat) (ht : dp t < 900) (hk : dp t + 1 ≤ k) (hl : (freeIn t []).length ≤ 63) : Gives P k 1 [.p (enc t)] (.v (.p (encN (freeN t)))) := by
  obtain ⟨k, rfl⟩ := ge1 hk
  have h1 := free_in_ok t [] k (by simp; omega) (by omega) (by omega)
  have h2 := ddS_len (freeIn t []) []
  refine gives (d := ⟨1, 1, b1⟩) rfl rfl rfl ?_
  simp only [Gives, lstN, encN, List.map_nil] at h1
  have h3 := bi_set (freeIn t []) [] (by omega)
  have h4 := bi_sort (ddS [] (freeIn t [])) [] (by simp at h2; omega)
  simp [b1, evSs, evS, evE, evL, h1, lim, h3, h4, freeN, encN]
inductive Fm where
  | nm (x : List Nat) | up (i : Nat) | to (b : Fm) | of (a b : Fm)
def sUp : PV := .str [117, 112]
def encF : Fm → PV
  | .nm x => .tup [sNm, .str x]
  | .up i => .tup [sUp, .int i]
  | .to b => .tup [sTo, encF b]
  | .of a b => .tup [sOf, encF a, encF b]
def bareW : Tm → List (List Nat) → Fm
  | .nm x, b => if x ∈ b then .up (b.idxOf x) else .nm x
  | .to x t, b => .to (bareW t (x :: b))
  | .of s t, b => .of (bareW s b) (bareW t b)
theorem idxS_eq (x : List Nat) (b : List (List Nat)) (k : Nat) (h : x ∈ b) : idxS x b k = some (k + b.idxOf x) := by
  induction b generalizing k with
  | nil => cases h
  | cons a r ih =>
    simp only [idxS, List.idxOf_cons]
    by_cases e : a = x
    · simp [e]
    · have hr : x ∈ r := by
        cases h with
        | head => exact absurd rfl e
        | tail _ h => exact h
      simp only [e, if_false, ih (k + 1) hr]
      have : (a == x) = false := by simpa using e
      simp [this]; omega
theorem mef_index (b : List (List Nat)) (x : List Nat) (s : Sto) (h : x ∈ b) : mef .index (.v (.p (.tup (b.map .str)))) [.v (.p (.str x))] s = .ok (.v (.p (.int (b.idxOf x)))) s := by
  have : allStr ((b.map PV.str).map MV.p) = some b := by rw [List.map_map]; exact allStr_mapc b
  simp [mef, tupOf, tupSeq, this, idxS_eq x b 0 h]
theorem bare_ok (f : Nat) (hf : f = 2 ∨ f = 23) : ∀ (t : Tm) (b : List (List Nat)) (k : Nat), b.length + dp t < 1000 → dp t ≤ k → Gives P k f [.p (enc t), .p (encN b)] (.v (.p (encF (bareW t b)))) := by
  intro t
  induction t with
  | nm x =>
    intro b k hb hk
    obtain ⟨k, rfl⟩ := ge1 hk
    have hi := mef_index b x []
    rcases hf with rfl | rfl
    · refine gives (d := ⟨2, 2, b2⟩) rfl rfl rfl ?_
      by_cases hx : x ∈ b <;> simp [b2, evSs, evS, evE, evL, enc, encN, sNm, hx, lim, bareW, encF, sUp, meTy, tupOf, tupSeq, hi]
    · refine gives (d := ⟨2, 2, b23⟩) rfl rfl rfl ?_
      by_cases hx : x ∈ b <;> simp [b23, evSs, evS, evE, evL, enc, encN, sNm, hx, lim, bareW, encF, sUp, meTy, tupOf, tupSeq, hi]
  | to x t ih =>
    intro b k hb hk
    obtain ⟨k, rfl⟩ := ge1 hk
    simp only [dp] at hb hk
    have h1 := ih (x :: b) k (by simp only [List.length_cons]; omega) (by omega)
    have h2 := bin_tt [.str x] (b.map .str) [] (by simp; omega)
    simp [Gives, encN] at h1 h2
    rcases hf with rfl | rfl
    · refine gives (d := ⟨2, 2, b2⟩) rfl rfl rfl ?_
      simp [b2, evSs, evS, evE, evL, enc, encN, sTo, lim, h1, h2, bareW, encF]
    · refine gives (d := ⟨2, 2, b23⟩) rfl rfl rfl ?_
      simp [b23, evSs, evS, evE, evL, enc, encN, sTo, lim, h1, h2, bareW, encF]
  | of a b iha ihb =>
    intro b k hb hk
    obtain ⟨k, rfl⟩ := ge1 hk
    simp only [dp] at hb hk
    have h1 := iha b k (by omega) (by omega)
    have h2 := ihb b k (by omega) (by omega)
    simp only [Gives] at h1 h2
    rcases hf with rfl | rfl
    · refine gives (d := ⟨2, 2, b2⟩) rfl rfl rfl ?_
      simp [b2, evSs, evS, evE, evL, enc, sOf, lim, h1, h2, bareW, encF]
    · refine gives (d := ⟨2, 2, b23⟩) rfl rfl rfl ?_
      simp [b23, evSs, evS, evE, evL, enc, sOf, lim, h1, h2, bareW, encF]
theorem bare3_ok (t : Tm) (k : Nat) (ht : dp t < 900) (hk : dp t + 1 ≤ k) : Gives P k 3 [.p (enc t)] (.v (.p (encF (bareW t [])))) := by
  obtain ⟨k, rfl⟩ := ge1 hk
  have h1 := bare_ok 2 (.inl rfl) t [] k (by simp; omega) (by omega)
  refine gives (d := ⟨1, 1, b3⟩) rfl rfl rfl ?_
  simp [Gives, encN] at h1
  simp [b3, evSs, evS, evE, evL, lim, h1]
end K36
end
section
set_option maxRecDepth 20000
namespace K36
open Mn Mev
def abc : List Nat := [97, 98, 99, 100, 101, 102, 103, 104, 105, 106, 107, 108, 109, 110, 111, 112, 113, 114, 115, 116, 117, 118, 119, 120, 121, 122]
theorem at_abc : ∀ k, k < 26 → at_ abc ((k : Nat) : Int) = some (97 + k) := by decide
theorem ix_abc (k : Nat) (s : Sto) (h : k < 26) : index (.v (.p (.str abc))) (.v (.p (.int k))) s = some (.v (.p (.str [97 + k]))) := by
  simp only [index, at_abc k h]
  rfl
theorem len_abc (s : Sto) : biF .len [.v (.p (.str abc))] s = .ok (.v (.p (.int 26))) s := rfl
theorem name_at_ok (j k : Nat) (hj : j < 26) (hk : 1 ≤ k) : Gives P k 5 [.p (.int j)] (.v (.p (.str [97 + j]))) := by
  obtain ⟨k, rfl⟩ := ge1 hk
  refine gives (d := ⟨1, 1, b5⟩) rfl rfl rfl ?_
  have h1 := ix_abc j [] hj
  have hg : P.glob[0]? = some (some (.p (.str abc))) := rfl
  have hj2 : (j : Int) < 26 := by omega
  simp [b5, evSs, evS, evE, evL, hg, len_abc, hj2, h1]
def frGo (tk : List (List Nat)) : Nat → Nat → Nat
  | 0, j => j
  | f + 1, j => if [97 + j] ∈ tk then frGo tk f (j + 1) else j
def fr (tk : List (List Nat)) : Nat := frGo tk 26 0
def first (tk : List (List Nat)) : List Nat := [97 + fr tk]
theorem frGo_spec (tk : List (List Nat)) : ∀ f j, j ≤ frGo tk f j ∧ frGo tk f j ≤ j + f ∧ (∀ i, j ≤ i → i < frGo tk f j → [97 + i] ∈ tk) ∧ (frGo tk f j < j + f → [97 + frGo tk f j] ∉ tk) := by
  intro f
  induction f with
  | zero => intro j; simp [frGo]; omega
  | succ f ih =>
    intro j
    simp only [frGo]
    by_cases h : [97 + j] ∈ tk
    · rw [if_pos h]
      obtain ⟨h1, h2, h3, h4⟩ := ih (j + 1)
      refine ⟨by omega, by omega, ?_, fun q => h4 (by omega)⟩
      intro i hi hl
      by_cases e : i = j
      · subst e; exact h
      · exact h3 i (by omega) hl
    · rw [if_neg h]
      refine ⟨by omega, by omega, fun i h1 h2 => by omega, fun _ => h⟩
theorem pigeon : ∀ (n : Nat) (tk : List (List Nat)), (∀ i, i < n → [97 + i] ∈ tk) → n ≤ tk.length := by
  intro n
  induction n with
  | zero => intro tk _; omega
  | succ n ih =>
    intro tk h
    have hn := h n (by omega)
    have := ih (tk.erase [97 + n]) (by
      intro i hi
      have := h i (by omega)
      refine (List.mem_erase_of_ne ?_).2 this
      intro e; injection e with e; omega)
    rw [List.length_erase_of_mem hn] at this
    have : 0 < tk.length := List.length_pos_of_mem hn
    omega
theorem fr_lt (tk : List (List Nat)) (h : tk.length ≤ 25) : fr tk < 26 := by
  obtain ⟨_, h2, h3, _⟩ := frGo_spec tk 26 0
  have := pigeon (fr tk) tk (fun i hi => h3 i (by omega) hi)
  unfold fr at *
  omega
theorem first_no (tk : List (List Nat)) (h : tk.length ≤ 25) : first tk ∉ tk := (frGo_spec tk 26 0).2.2.2 (by have := fr_lt tk h; unfold fr at this; omega)
theorem fr_in (tk : List (List Nat)) (i : Nat) (h : i < fr tk) : [97 + i] ∈ tk := (frGo_spec tk 26 0).2.2.1 i (by omega) h
theorem first_name_ok (tk : List (List Nat)) (k : Nat) (h : tk.length ≤ 25) (hk : 2 ≤ k) : Gives P k 6 [.p (encN tk)] (.v (.p (.str (first tk)))) := by
  obtain ⟨k, rfl⟩ := ge1 hk
  refine gives (d := ⟨2, 1, b6⟩) rfl rfl rfl ?_
  have hl := fr_lt tk h
  refine fin_nx (e1 := [some (.p (encN tk)), some (.p (.int (0 : Nat)))]) (s1 := []) (by simp [evS, evE, setT]) ?_
  refine fin_nx (wh_count (e := fun i => [some (.p (encN tk)), some (.p (.int i))]) (fr tk) (by omega) ?_ ?_ ?_) ?_
  · intro i hi
    have h2 := name_at_ok i k (by omega) (by omega)
    have h3 := fr_in tk i hi
    simp only [Gives] at h2
    simp [evE, evL, h2, encN, h3]
  · have h2 := name_at_ok (fr tk) k hl (by omega)
    have h3 := first_no tk h
    simp only [Gives] at h2
    simp only [first] at h3
    simp [evE, evL, h2, encN, h3]
  · intro i hi
    simp [evSs, evS, evE]
  · have h2 := name_at_ok (fr tk) k hl (by omega)
    simp only [Gives] at h2
    simp [evSs, evS, evE, evL, h2, first]
end K36
end
section
set_option maxRecDepth 20000
namespace K36
open Mn Mev
def sw : Tm → Nat
  | .nm _ => 1
  | .to _ b => sw b + 1
  | .of a b => sw a + sw b
theorem freeIn_len (t : Tm) : ∀ b, (freeIn t b).length ≤ sw t := by
  induction t with
  | nm x => intro b; simp only [freeIn, sw]; split <;> simp
  | to x t ih => intro b; simp only [freeIn, sw]; have := ih (b ++ [x]); omega
  | of a c iha ihc => intro b; simp only [freeIn, sw, List.length_append]; have := iha b; have := ihc b; omega
theorem sw_pos (t : Tm) : 1 ≤ sw t := by
  induction t with
  | nm x => simp [sw]
  | to x t ih => simp only [sw]; omega
  | of a c iha ihc => simp only [sw]; omega
theorem dp_sw (t : Tm) : dp t ≤ sw t := by
  induction t with
  | nm x => simp [dp, sw]
  | to x t ih => simp only [dp, sw]; omega
  | of a c iha ihc =>
    simp only [dp, sw]
    have h1 := sw_pos a
    have h2 := sw_pos c
    omega
theorem freeN_len (t : Tm) : (freeN t).length ≤ sw t := by
  have h1 := ddS_len (freeIn t []) []
  have h2 := freeIn_len t []
  unfold freeN
  rw [sortS_len]
  simp at h1
  omega
theorem freeN_nm (z : List Nat) : freeN (.nm z) = [z] := rfl
end K36
end
section
set_option maxRecDepth 20000
/-! MnF: more rewriting for Mini: equality of data, slices, lengths. -/
namespace Mev
open Mn
variable {P : Prg} {C : Nat → List MV → Sto → Res EV}
mutual
def noB : PV → Bool
  | .bl _ => false
  | .tup l => noBs l
  | .lst l => noBs l
  | _ => true
def noBs : List PV → Bool
  | [] => true
  | a :: r => noB a && noBs r
end
mutual
theorem eqv_eq : ∀ x y : PV, noB x = true → noB y = true → (PV.eqv x y = true ↔ x = y)
  | .non, y, _, hy => by cases y <;> simp [PV.eqv]
  | .bl _, y, hx, hy => by simp [noB] at hx
  | .int i, y, hx, hy => by cases y <;> simp [PV.eqv]; simp [noB] at hy
  | .str i, y, hx, hy => by cases y <;> simp [PV.eqv]
  | .tup l, y, hx, hy => by
    cases y <;> simp [PV.eqv]
    simp only [noB] at hx hy
    exact eqvs_eq l _ hx hy
  | .lst l, y, hx, hy => by
    cases y <;> simp [PV.eqv]
    simp only [noB] at hx hy
    exact eqvs_eq l _ hx hy
theorem eqvs_eq : ∀ x y : List PV, noBs x = true → noBs y = true → (PV.eqvs x y = true ↔ x = y)
  | [], y, _, _ => by cases y <;> simp [PV.eqvs]
  | a :: r, [], _, _ => by simp [PV.eqvs]
  | a :: r, b :: q, hx, hy => by
    simp only [noBs, Bool.and_eq_true] at hx hy
    simp only [PV.eqvs, Bool.and_eq_true, eqv_eq a b hx.1 hy.1, eqvs_eq r q hx.2 hy.2, List.cons.injEq]
end
theorem noBs_map {α : Type} (f : α → PV) (l : List α) (h : ∀ x, x ∈ l → noB (f x) = true) : noBs (l.map f) = true := by
  induction l with
  | nil => rfl
  | cons a r ih => simp only [List.map_cons, noBs, h a (List.mem_cons_self ..), ih fun x hx => h x (List.mem_cons_of_mem _ hx)]; rfl
theorem deps_map {α : Type} (f : α → PV) (l : List α) (n : Nat) (h : ∀ x, x ∈ l → (f x).dep ≤ n) : PV.deps (l.map f) ≤ n := by
  induction l with
  | nil => simp [PV.deps]
  | cons a r ih =>
    simp only [List.map_cons, PV.deps]
    have := h a (List.mem_cons_self ..)
    have := ih fun x hx => h x (List.mem_cons_of_mem _ hx)
    omega
theorem cmp_eq_pp (x y : PV) (s : Sto) (hx : noB x = true) (hy : noB y = true) (hd : x.dep ≤ 60 ∨ y.dep ≤ 60) (b : Bool) (hb : b = true ↔ x = y) : cmpop .eq (.v (.p x)) (.v (.p y)) s = some b := by
  have h2 : min x.dep y.dep ≤ 60 := by omega
  have e : x.eqv y = b := Bool.eq_iff_iff.mpr ((eqv_eq x y hx hy).trans hb.symm)
  show eqD (.v (.p x)) (.v (.p y)) s = some b
  simp [eqD, view, viewM, dlim, h2, e]
theorem cmp_ne_pp (x y : PV) (s : Sto) (hx : noB x = true) (hy : noB y = true) (hd : x.dep ≤ 60 ∨ y.dep ≤ 60) (b : Bool) (hb : b = true ↔ x = y) : cmpop .ne (.v (.p x)) (.v (.p y)) s = some (!b) := by
  have := cmp_eq_pp x y s hx hy hd b hb
  simp only [cmpop] at this ⊢
  rw [this]; rfl
@[simp] theorem slt_t (l : List PV) (n : Nat) (s : Sto) : slice (.v (.p (.tup l))) none (some (n : Int)) s = some (.v (.p (.tup (l.take n)))) := by
  have e : cut (l.map MV.p) none (some (n : Int)) = (l.take n).map MV.p := by
    have h0 : ¬ ((n : Int) < 0) := by omega
    simp only [cut, sIx, List.drop_zero, h0, if_false, Int.toNat_natCast, List.length_map, Nat.sub_zero]
    rw [← List.map_take]
    congr 1
    by_cases h : n ≤ l.length
    · rw [Nat.min_eq_left h]
    · rw [Nat.min_eq_right (by omega), List.take_of_length_le (Nat.le_refl _), List.take_of_length_le (by omega)]
  show some (EV.v (mkTup (cut (l.map MV.p) none (some (n : Int))))) = _
  rw [e, mkTup_map]
@[simp] theorem slf_t (l : List PV) (n : Nat) (s : Sto) : slice (.v (.p (.tup l))) (some (n : Int)) none s = some (.v (.p (.tup (l.drop n)))) := by
  have e : cut (l.map MV.p) (some (n : Int)) none = (l.drop n).map MV.p := by
    have h0 : ¬ ((n : Int) < 0) := by omega
    simp only [cut, sIx, h0, if_false, Int.toNat_natCast, List.length_map]
    rw [← List.map_drop, ← List.map_take]
    congr 1
    rw [List.take_of_length_le (by rw [List.length_drop]; omega)]
    by_cases h : n ≤ l.length
    · rw [Nat.min_eq_left h]
    · rw [Nat.min_eq_right (by omega), List.drop_of_length_le (Nat.le_refl _), List.drop_of_length_le (by omega)]
  show some (EV.v (mkTup (cut (l.map MV.p) (some (n : Int)) none))) = _
  rw [e, mkTup_map]
theorem slt1 (l : List PV) (s : Sto) : slice (.v (.p (.tup l))) none (some 1) s = some (.v (.p (.tup (l.take 1)))) := slt_t l 1 s
theorem slf1 (l : List PV) (s : Sto) : slice (.v (.p (.tup l))) (some 1) none s = some (.v (.p (.tup (l.drop 1)))) := slf_t l 1 s
theorem bi_len_o (l : List MV) (s : Sto) : biF .len [.o (.lst l)] s = .ok (.v (.p (.int l.length))) s := rfl
theorem bi_tup_o (l : List PV) (s : Sto) : biF .tuple [.o (.lst (l.map MV.p))] s = .ok (.v (.p (.tup l))) s := by
  simp only [biF, tupOf, lstOf, objOf, mkTup_map]
theorem ge_s {a k n : Nat} (h : n + a ≤ k) (ha : 0 < a) : ∃ j, k = j + 1 := ⟨k - 1, by omega⟩
end Mev
end
section
set_option maxRecDepth 20000
namespace K36
open Mn Mev
def Fr (x : List Nat) : Tm → Prop
  | .nm y => x = y
  | .to y b => x ≠ y ∧ Fr x b
  | .of a b => Fr x a ∨ Fr x b
theorem mem_freeIn (x : List Nat) : ∀ (t : Tm) (B : List (List Nat)), x ∈ freeIn t B ↔ Fr x t ∧ x ∉ B := by
  intro t
  induction t with
  | nm y =>
    intro B
    simp only [freeIn, Fr]
    by_cases h : y ∈ B
    · rw [if_pos h]
      constructor
      · intro q; cases q
      · rintro ⟨rfl, q⟩; exact absurd h q
    · rw [if_neg h]
      constructor
      · intro q; simp at q; subst q; exact ⟨rfl, h⟩
      · rintro ⟨rfl, q⟩; simp
  | to y b ih =>
    intro B
    simp only [freeIn, Fr, ih, List.mem_append, List.mem_singleton]
    constructor
    · rintro ⟨h1, h2⟩; exact ⟨⟨fun e => h2 (.inr e), h1⟩, fun e => h2 (.inl e)⟩
    · rintro ⟨⟨h1, h2⟩, h3⟩; exact ⟨h2, fun e => e.elim h3 h1⟩
  | of a b iha ihb =>
    intro B
    simp only [freeIn, Fr, iha, ihb, List.mem_append]
    constructor
    · rintro (⟨h1, h2⟩ | ⟨h1, h2⟩)
      · exact ⟨.inl h1, h2⟩
      · exact ⟨.inr h1, h2⟩
    · rintro ⟨h1 | h1, h2⟩
      · exact .inl ⟨h1, h2⟩
      · exact .inr ⟨h1, h2⟩
theorem mem_insS (x y : List Nat) (l : List (List Nat)) : x ∈ insS y l ↔ x = y ∨ x ∈ l := by
  induction l with
  | nil => simp [insS]
  | cons a r ih =>
    simp only [insS]
    split
    · simp only [List.mem_cons, ih]
      constructor
      · rintro (h | h | h) <;> simp [h]
      · rintro (h | h | h) <;> simp [h]
    · simp [List.mem_cons]
theorem mem_sortS (x : List Nat) (l : List (List Nat)) : x ∈ sortS l ↔ x ∈ l := by
  induction l with
  | nil => simp [sortS]
  | cons a r ih => simp only [sortS, mem_insS, ih, List.mem_cons]
theorem mem_ddS (x : List Nat) : ∀ (l acc : List (List Nat)), x ∈ ddS acc l ↔ x ∈ acc ∨ x ∈ l := by
  intro l
  induction l with
  | nil => intro acc; simp [ddS]
  | cons a r ih =>
    intro acc
    simp only [ddS]
    by_cases h : a ∈ acc
    · rw [if_pos h, ih, List.mem_cons]
      constructor
      · rintro (q | q) <;> simp [q]
      · rintro (q | q | q)
        · exact .inl q
        · subst q; exact .inl h
        · exact .inr q
    · rw [if_neg h, ih]
      simp only [List.mem_append, List.mem_cons, List.not_mem_nil, or_false]
      constructor
      · rintro ((q | q) | q)
        · exact .inl q
        · exact .inr (.inl q)
        · exact .inr (.inr q)
      · rintro (q | q | q)
        · exact .inl (.inl q)
        · exact .inl (.inr q)
        · exact .inr q
theorem mem_freeN (x : List Nat) (t : Tm) : x ∈ freeN t ↔ Fr x t := by
  unfold freeN
  rw [mem_sortS, mem_ddS, mem_freeIn]
  simp
def ix (u : List Nat) : List (List Nat) → Option Nat
  | [] => none
  | y :: L => if u = y then some 0 else (ix u L).map (· + 1)
def leaf (u : List Nat) (L : List (List Nat)) : Fm := match ix u L with
  | some i => .up i
  | none => .nm u
theorem bareW_nm (u : List Nat) (L : List (List Nat)) : bareW (.nm u) L = leaf u L := by
  unfold leaf
  simp only [bareW]
  induction L with
  | nil => simp [ix]
  | cons y L ih =>
    simp only [ix, List.mem_cons, List.idxOf_cons]
    by_cases h : u = y
    · subst h; simp
    · have h2 : ¬ y = u := fun e => h e.symm
      have h3 : (y == u) = false := by simpa using h2
      simp only [h, false_or, if_false, h3]
      by_cases hm : u ∈ L
      · rw [if_pos hm] at ih ⊢
        cases e : ix u L with
        | none => rw [e] at ih; cases ih
        | some i => rw [e] at ih; simp at ih; simp [ih]
      · rw [if_neg hm] at ih ⊢
        cases e : ix u L with
        | none => simp
        | some i => rw [e] at ih; cases ih
theorem leaf_hd (y : List Nat) (L : List (List Nat)) : leaf y (y :: L) = .up 0 := by simp [leaf, ix]
def lift (c : Nat) : Fm → Fm
  | .nm x => .nm x
  | .up i => if c ≤ i then .up (i + 1) else .up i
  | .to b => .to (lift (c + 1) b)
  | .of a b => .of (lift c a) (lift c b)
theorem leaf_tl (u y : List Nat) (L : List (List Nat)) (h : u ≠ y) : leaf u (y :: L) = lift 0 (leaf u L) := by
  simp only [leaf, ix, h, if_false]
  cases ix u L <;> simp [lift]
theorem leaf_shift {u v y z : List Nat} {L M : List (List Nat)} (h : leaf u L = leaf v M) (hu : u ≠ y) (hv : v ≠ z) : leaf u (y :: L) = leaf v (z :: M) := by
  rw [leaf_tl _ _ _ hu, leaf_tl _ _ _ hv, h]
theorem bareW_congr : ∀ (t : Tm) (L M : List (List Nat)), (∀ u, Fr u t → leaf u L = leaf u M) → bareW t L = bareW t M := by
  intro t
  induction t with
  | nm y => intro L M h; rw [bareW_nm, bareW_nm]; exact h y rfl
  | to y b ih =>
    intro L M h
    simp only [bareW]
    rw [ih (y :: L) (y :: M) fun u hu => ?_]
    by_cases e : u = y
    · subst e; rw [leaf_hd, leaf_hd]
    · exact leaf_shift (h u ⟨e, hu⟩) e e
  | of a b iha ihb =>
    intro L M h
    simp only [bareW]
    rw [iha L M fun u hu => h u (.inl hu), ihb L M fun u hu => h u (.inr hu)]
theorem ix_get {u : List Nat} : ∀ {L : List (List Nat)} {i : Nat}, ix u L = some i → L.getD i [] = u ∧ i < L.length := by
  intro L
  induction L with
  | nil => intro i h; cases h
  | cons y L ih =>
    intro i h
    simp only [ix] at h
    by_cases e : u = y
    · rw [if_pos e] at h; cases h; subst e; simp
    · rw [if_neg e] at h
      cases hq : ix u L with
      | none => rw [hq] at h; cases h
      | some j =>
        rw [hq] at h
        cases h
        have := ih hq
        simp only [List.getD_cons_succ, List.length_cons]
        exact ⟨this.1, by omega⟩
def FrF (x : List Nat) : Fm → Prop
  | .nm y => x = y
  | .up _ => False
  | .to b => FrF x b
  | .of a b => FrF x a ∨ FrF x b
def Cl (m : Nat) : Fm → Prop
  | .nm _ => True
  | .up i => i < m
  | .to b => Cl (m + 1) b
  | .of a b => Cl m a ∧ Cl m b
theorem bareW_cl : ∀ (t : Tm) (L : List (List Nat)), Cl L.length (bareW t L) := by
  intro t
  induction t with
  | nm x =>
    intro L
    rw [bareW_nm]
    unfold leaf
    cases h : ix x L with
    | none => exact trivial
    | some i => exact (ix_get h).2
  | to x b ih => intro L; exact ih (x :: L)
  | of a b iha ihb => intro L; exact ⟨iha L, ihb L⟩
theorem ix_none {u : List Nat} : ∀ {L : List (List Nat)}, ix u L = none ↔ u ∉ L := by
  intro L
  induction L with
  | nil => simp [ix]
  | cons y L ih =>
    simp only [ix]
    by_cases e : u = y
    · simp [e]
    · simp [e, ih]
theorem bareW_frF : ∀ (t : Tm) (x : List Nat) (L : List (List Nat)), FrF x (bareW t L) ↔ Fr x t ∧ x ∉ L := by
  intro t
  induction t with
  | nm y =>
    intro x L
    rw [bareW_nm]
    unfold leaf
    cases h : ix y L with
    | none =>
      simp only [FrF, Fr]
      constructor
      · rintro rfl; exact ⟨rfl, ix_none.1 h⟩
      · exact fun h => h.1
    | some i =>
      simp only [FrF, Fr, false_iff]
      rintro ⟨rfl, h2⟩
      rw [ix_none.2 h2] at h; cases h
  | to y b ih =>
    intro x L
    simp only [bareW, FrF, Fr, ih, List.mem_cons, not_or]
    constructor
    · rintro ⟨a, b, c⟩; exact ⟨⟨b, a⟩, c⟩
    · rintro ⟨⟨a, b⟩, c⟩; exact ⟨b, a, c⟩
  | of a b iha ihb =>
    intro x L
    simp only [bareW, FrF, Fr, iha, ihb]
    constructor
    · rintro (⟨a, b⟩ | ⟨a, b⟩)
      · exact ⟨.inl a, b⟩
      · exact ⟨.inr a, b⟩
    · rintro ⟨a | a, b⟩
      · exact .inl ⟨a, b⟩
      · exact .inr ⟨a, b⟩
theorem ix_nodup : ∀ {L : List (List Nat)} {i : Nat}, L.Nodup → i < L.length → ix (L.getD i []) L = some i := by
  intro L
  induction L with
  | nil => intro i _ h; simp at h
  | cons y L ih =>
    intro i hd h
    rw [List.nodup_cons] at hd
    cases i with
    | zero => simp [ix]
    | succ i =>
      simp only [List.length_cons] at h
      simp only [List.getD_cons_succ, ix]
      have hi : i < L.length := by omega
      have hm : L.getD i [] ∈ L := by
        rw [List.getD_eq_getElem?_getD, List.getElem?_eq_getElem hi]; exact List.getElem_mem hi
      have : ¬ L.getD i [] = y := by intro e; rw [e] at hm; exact hd.1 hm
      rw [if_neg this, ih hd.2 hi]; rfl
theorem ddS_nodup : ∀ (l acc : List (List Nat)), (acc ++ l).Nodup → ddS acc l = acc ++ l := by
  intro l
  induction l with
  | nil => intro acc _; simp [ddS]
  | cons a r ih =>
    intro acc h
    have h0 : a ∉ acc := by
      rw [List.nodup_append] at h
      intro ha
      exact h.2.2 a ha a (List.mem_cons_self ..) rfl
    simp only [ddS]
    rw [if_neg h0, ih (acc ++ [a]) (by simpa using h)]
    simp
theorem nodup_insS (x : List Nat) : ∀ (l : List (List Nat)), l.Nodup → x ∉ l → (insS x l).Nodup := by
  intro l
  induction l with
  | nil => intro _ _; simp [insS]
  | cons a r ih =>
    intro h hx
    rw [List.nodup_cons] at h
    rw [List.mem_cons, not_or] at hx
    simp only [insS]
    split
    · rw [List.nodup_cons]
      refine ⟨?_, ih h.2 hx.2⟩
      rw [mem_insS]
      rintro (e | e)
      · exact hx.1 e.symm
      · exact h.1 e
    · rw [List.nodup_cons, List.nodup_cons]
      exact ⟨by rw [List.mem_cons, not_or]; exact hx, h⟩
theorem nodup_sortS : ∀ (l : List (List Nat)), l.Nodup → (sortS l).Nodup := by
  intro l
  induction l with
  | nil => intro h; exact h
  | cons a r ih =>
    intro h
    rw [List.nodup_cons] at h
    exact nodup_insS a _ (ih h.2) (by rw [mem_sortS]; exact h.1)
theorem nodup_ddS : ∀ (l acc : List (List Nat)), acc.Nodup → (ddS acc l).Nodup := by
  intro l
  induction l with
  | nil => intro acc h; exact h
  | cons a r ih =>
    intro acc h
    simp only [ddS]
    split
    · exact ih acc h
    · rename_i ha
      refine ih _ ?_
      rw [List.nodup_append]
      refine ⟨h, by simp, ?_⟩
      intro u hu b hb
      rw [List.mem_singleton] at hb
      subst hb
      rintro rfl
      exact ha hu
theorem freeN_nodup (t : Tm) : (freeN t).Nodup := nodup_sortS _ (nodup_ddS _ _ (by simp))
def look {β : Type} (x : List Nat) : List (List Nat × β) → Option β
  | [] => none
  | (y, s) :: r => if y = x then some s else look x r
abbrev Tab := List (List Nat × Tm)
def app (σ : Tab) (u : List Nat) : Tm := (look u σ).getD (.nm u)
def less (σ : Tab) (y : List Nat) (b : Tm) : Tab := σ.filter fun q => !decide (q.1 = y) && decide (q.1 ∈ freeN b)
def tkn (σ : Tab) : List (List Nat) := σ.flatMap fun q => freeN q.2
def pk : Nat → Tm → Tab → Tm
  | 0, t, _ => t
  | _ + 1, .nm x, σ => app σ x
  | n + 1, .of a b, σ => .of (pk n a σ) (pk n b σ)
  | n + 1, .to y b, σ => if y ∈ tkn (less σ y b) then .to (first (tkn (less σ y b) ++ freeN b)) (pk n b (less σ y b ++ [(y, .nm (first (tkn (less σ y b) ++ freeN b)))])) else .to y (pk n b (less σ y b))
def fill (T : Nat → List Nat → Fm) : Nat → Fm → Fm
  | d, .nm x => T d x
  | _, .up i => .up i
  | d, .to b => .to (fill T (d + 1) b)
  | d, .of a b => .of (fill T d a) (fill T d b)
theorem bareW_lift : ∀ (s : Tm) (M L : List (List Nat)) (y : List Nat), ¬ Fr y s ∨ y ∈ M → bareW s (M ++ y :: L) = lift M.length (bareW s (M ++ L)) := by
  intro s
  induction s with
  | nm u =>
    intro M L y h
    rw [bareW_nm, bareW_nm]
    induction M with
    | nil =>
      simp only [List.nil_append, List.length_nil]
      refine leaf_tl _ _ _ ?_
      rintro rfl
      rcases h with h | h
      · exact h rfl
      · cases h
    | cons z M ih =>
      simp only [List.cons_append, List.length_cons]
      by_cases e : u = z
      · subst e; rw [leaf_hd, leaf_hd]; simp [lift]
      · rw [leaf_tl _ _ _ e, leaf_tl _ _ _ e, ih (by
          rcases h with h | h
          · exact .inl h
          · rcases List.mem_cons.1 h with rfl | h
            · exact .inl fun q => e q.symm
            · exact .inr h)]
        unfold leaf
        cases ix u (M ++ L) with
        | none => rfl
        | some i =>
          simp only [lift, Nat.zero_le, if_true]
          by_cases hi : M.length ≤ i
          · simp [hi, lift]
          · simp [hi, lift]
  | to z b ih =>
    intro M L y h
    simp only [bareW, lift]
    have := ih (z :: M) L y (by
      rcases h with h | h
      · by_cases e : y = z
        · exact .inr (by simp [e])
        · exact .inl fun q => h ⟨e, q⟩
      · exact .inr (List.mem_cons_of_mem _ h))
    simp only [List.cons_append, List.length_cons] at this
    rw [this]
  | of a b iha ihb =>
    intro M L y h
    simp only [bareW, lift]
    rw [iha M L y (h.imp_left fun q r => q (.inl r)), ihb M L y (h.imp_left fun q r => q (.inr r))]
theorem look_app {β : Type} (x : List Nat) (a b : List (List Nat × β)) : look x (a ++ b) = match look x a with
    | some s => some s
    | none => look x b := by
  induction a with
  | nil => rfl
  | cons q r ih =>
    obtain ⟨y, s⟩ := q
    simp only [List.cons_append, look]
    split
    · rfl
    · exact ih
theorem look_filter {β : Type} (x : List Nat) (p : List Nat → Bool) (σ : List (List Nat × β)) : look x (σ.filter fun q => p q.1) = if p x then look x σ else none := by
  induction σ with
  | nil => simp [look]
  | cons q r ih =>
    obtain ⟨y, s⟩ := q
    simp only [List.filter_cons, look]
    by_cases h : p y = true
    · simp only [h, if_true, look, ih]
      by_cases e : y = x
      · subst e; simp [h]
      · simp [e]
    · have h' : p y = false := by simpa using h
      simp only [h', Bool.false_eq_true, if_false, ih]
      by_cases e : y = x
      · subst e; simp [h']
      · simp [e]
theorem look_mem {β : Type} {x : List Nat} {s : β} : ∀ {σ : List (List Nat × β)}, look x σ = some s → (x, s) ∈ σ := by
  intro σ
  induction σ with
  | nil => intro h; cases h
  | cons q r ih =>
    obtain ⟨y, t⟩ := q
    intro h
    simp only [look] at h
    by_cases e : y = x
    · rw [if_pos e] at h; cases h; subst e; simp
    · rw [if_neg e] at h; exact List.mem_cons_of_mem _ (ih h)
theorem app_less (σ : Tab) (y u : List Nat) (b : Tm) (hu : Fr u b) : app (less σ y b) u = if u = y then .nm u else app σ u := by
  unfold app less
  rw [look_filter u (fun x => !decide (x = y) && decide (x ∈ freeN b)) σ]
  have : u ∈ freeN b := (mem_freeN _ _).2 hu
  by_cases e : u = y <;> simp [e, this]
theorem app_less_tkn (σ : Tab) (y u w : List Nat) (b : Tm) (hu : Fr u b) (e : u ≠ y) (hw : Fr w (app σ u)) : w ∈ tkn (less σ y b) ∨ w = u := by
  unfold app at hw
  cases h : look u σ with
  | none => rw [h] at hw; exact .inr hw
  | some s =>
    rw [h] at hw
    refine .inl ?_
    unfold tkn
    rw [List.mem_flatMap]
    refine ⟨(u, s), ?_, (mem_freeN _ _).2 hw⟩
    unfold less
    rw [List.mem_filter]
    refine ⟨look_mem h, ?_⟩
    have : u ∈ freeN b := (mem_freeN _ _).2 hu
    simp [e, this]
def Room (σ : Tab) (t : Tm) : Prop := (tkn σ).length + sw t ≤ 24
theorem flat_filter_len {β γ : Type} (f : β → List γ) (p : β → Bool) (l : List β) : ((l.filter p).flatMap f).length ≤ (l.flatMap f).length := by
  induction l with
  | nil => simp
  | cons a r ih =>
    simp only [List.filter_cons, List.flatMap_cons, List.length_append]
    split
    · simp only [List.flatMap_cons, List.length_append]; omega
    · omega
theorem less_len (σ : Tab) (y : List Nat) (b : Tm) : (tkn (less σ y b)).length ≤ (tkn σ).length := flat_filter_len _ _ _
theorem pk_bare (T : Nat → List Nat → Fm) (hT : ∀ d x, lift 0 (T d x) = T (d + 1) x) : ∀ (n : Nat) (t : Tm) (σ : Tab) (L M : List (List Nat)), dp t ≤ n → Room σ t → (∀ u, Fr u t → bareW (app σ u) M = fill T L.length (leaf u L)) → bareW (pk n t σ) M = fill T L.length (bareW t L) := by
  intro n
  induction n with
  | zero => intro t σ L M h; cases t <;> simp [dp] at h
  | succ n ih =>
    intro t σ L M hn hr h
    cases t with
    | nm y => simp only [pk]; rw [bareW_nm]; exact h y rfl
    | of a b =>
      simp only [dp] at hn
      unfold Room at hr
      simp only [sw] at hr
      have h1 := sw_pos a
      have h2 := sw_pos b
      simp only [pk, bareW, fill]
      rw [ih a σ L M (by omega) (by unfold Room; omega) fun u hu => h u (.inl hu), ih b σ L M (by omega) (by unfold Room; omega) fun u hu => h u (.inr hu)]
    | to y b =>
      simp only [dp] at hn
      unfold Room at hr
      simp only [sw] at hr
      have h1 := sw_pos b
      have hll := less_len σ y b
      have key : ∀ (u z : List Nat), Fr u b → u ≠ y → ¬ Fr z (app σ u) → bareW (app σ u) (z :: M) = fill T (y :: L).length (leaf u (y :: L)) := by
        intro u z hu e hz
        have := bareW_lift (app σ u) [] M z (.inl hz)
        simp only [List.nil_append, List.length_nil] at this
        rw [this, h u ⟨e, hu⟩, leaf_tl _ _ _ e]
        unfold leaf
        cases ix u L with
        | none => simp only [fill, lift, hT, List.length_cons]
        | some i => simp [fill, lift]
      simp only [pk]
      split
      · rename_i hy
        have hfl : (tkn (less σ y b) ++ freeN b).length ≤ 25 := by
          have := freeN_len b
          rw [List.length_append]; omega
        have hw := first_no _ hfl
        generalize first (tkn (less σ y b) ++ freeN b) = w at hw ⊢
        rw [List.mem_append, not_or] at hw
        simp only [bareW, fill]
        refine congrArg Fm.to (ih b _ (y :: L) (w :: M) (by omega) ?_ fun u hu => ?_)
        · unfold Room
          have e : tkn (less σ y b ++ [(y, .nm w)]) = tkn (less σ y b) ++ [w] := by unfold tkn; rw [List.flatMap_append]; rfl
          rw [e, List.length_append]
          simp only [List.length_cons, List.length_nil]
          omega
        · have e2 : app (less σ y b ++ [(y, .nm w)]) u = if u = y then .nm w else app σ u := by
            have h3 := app_less σ y u b hu
            unfold app at h3 ⊢
            rw [look_app]
            by_cases e : u = y
            · subst e
              have : look u (less σ u b) = none := by
                unfold less
                rw [look_filter u (fun x => !decide (x = u) && decide (x ∈ freeN b)) σ]
                simp
              rw [this]
              simp [look]
            · rw [if_neg e] at h3
              cases hq : look u (less σ y b) with
              | none =>
                rw [hq] at h3
                simp only [if_neg e]
                rw [← h3]
                have e' : ¬ y = u := fun q => e q.symm
                simp [look, e']
              | some s => rw [hq] at h3; simp only [if_neg e]; exact h3
          rw [e2]
          by_cases e : u = y
          · rw [if_pos e]; subst e; rw [bareW_nm, leaf_hd, leaf_hd]; rfl
          · rw [if_neg e]
            refine key u w hu e fun q => ?_
            rcases app_less_tkn σ y u w b hu e q with q | rfl
            · exact hw.1 q
            · exact hw.2 ((mem_freeN _ _).2 hu)
      · rename_i hy
        simp only [bareW, fill]
        refine congrArg Fm.to (ih b _ (y :: L) (y :: M) (by omega) (by unfold Room; omega) fun u hu => ?_)
        rw [app_less σ y u b hu]
        by_cases e : u = y
        · rw [if_pos e]; subst e; rw [bareW_nm, leaf_hd, leaf_hd]; rfl
        · rw [if_neg e]
          refine key u y hu e fun q => ?_
          rcases app_less_tkn σ y u y b hu e q with q | q
          · exact hy q
          · exact e q.symm
theorem look_map {β γ : Type} (f : β → γ) (x : List Nat) (l : List (List Nat × β)) : look x (l.map fun q => (q.1, f q.2)) = (look x l).map f := by
  induction l with
  | nil => rfl
  | cons q r ih =>
    obtain ⟨y, s⟩ := q
    simp only [List.map_cons, look]
    split
    · rfl
    · exact ih
end K36
end
section
set_option maxRecDepth 20000
/-! MnG: calls that use the store, dicts, loops of all sources. -/
namespace Mev
open Mn
variable {P : Prg} {C : Nat → List MV → Sto → Res EV}
theorem doCall_ref {f : Nat} {ms : List MV} {s : Sto} (h : refFree ms = false) : doCall C f ms s = C f ms s := by
  unfold doCall isoCall
  rw [h]
  rfl
theorem runs {k f : Nat} {d : FD} {ms : List MV} {s s' : Sto} {r : EV} {e : Env} (hd : P.fs[f]? = some d) (hl : ms.length = d.np) (h : evSs P (callM P k) d.body (ms.map some ++ List.replicate (d.n - ms.length) none) s = .ok (.rt r) e s') : callM P (k + 1) f ms s = .ok r s' := by
  rw [callM_fin hd hl, h]
theorem runsN {k f : Nat} {d : FD} {ms : List MV} {s s' : Sto} {e : Env} (hd : P.fs[f]? = some d) (hl : ms.length = d.np) (h : evSs P (callM P k) d.body (ms.map some ++ List.replicate (d.n - ms.length) none) s = .ok .nx e s') : callM P (k + 1) f ms s = .ok (.v (.p .non)) s' := by
  rw [callM_fin hd hl, h]; rfl
theorem runs_ref {k f : Nat} {d : FD} {ms : List MV} {s s' : Sto} {r : EV} {e : Env} (hd : P.fs[f]? = some d) (hl : ms.length = d.np) (hr : refFree ms = false) (h : evSs P (callM P k) d.body (ms.map some ++ List.replicate (d.n - ms.length) none) s = .ok (.rt r) e s') : doCall (callM P (k + 1)) f ms s = .ok r s' := by
  rw [doCall_ref hr]; exact runs hd hl h
/-- a loop of a comprehension over any source that stands still -/
theorem lcGo_gen {α : Type} {f : MV → Sto → Res (List MV)} {q : α → MV} {g : α → List MV} {s : Sto} {src : Src} (l : List α) (hs : ∀ i, itm src s i = some ((l[i]?).map q)) (h : ∀ x, x ∈ l → f (q x) s = .ok (g x) s) :
    ∀ (n i : Nat), l.length - i < n → lcGo src f n i s = .ok ((l.drop i).flatMap g) s := by
  intro n
  induction n with
  | zero => intro i h; omega
  | succ n ih =>
    intro i hn
    unfold lcGo
    simp only [hs]
    by_cases hi : i < l.length
    · have e : l[i]? = some l[i] := List.getElem?_eq_getElem hi
      rw [e]
      simp only [Option.map_some]
      rw [h _ (List.getElem_mem hi)]
      simp only [bind_ok]
      rw [ih (i + 1) (by omega)]
      simp only [bind_ok]
      rw [List.drop_eq_getElem_cons hi, List.flatMap_cons]
    · have e : l[i]? = none := List.getElem?_eq_none (by omega)
      rw [e]
      simp only [Option.map_none]
      rw [List.drop_eq_nil_of_le (by omega)]
      rfl
abbrev Kv := List Nat × MV
theorem dput_new (k : List Nat) (v : MV) (l : List Kv) (h : k ∉ l.map (·.1)) : dput k v l = l ++ [(k, v)] := by
  induction l with
  | nil => rfl
  | cons q r ih =>
    obtain ⟨a, u⟩ := q
    simp only [List.map_cons, List.mem_cons, not_or] at h
    simp only [dput]
    rw [if_neg fun e => h.1 e.symm, ih h.2]
    rfl
theorem dcGo_its {f : MV → Sto → Res (Option Kv)} {p : Kv → Bool} {s : Sto} (l : List Kv) (hd : (l.map (·.1)).Nodup) (h : ∀ q, q ∈ l → f (mkTup [.p (.str q.1), q.2]) s = .ok (if p q then some q else none) s) :
    ∀ (n i : Nat), l.length - i < n → dcGo (.its l) f n i ((l.take i).filter p) s = .ok (l.filter p) s := by
  intro n
  induction n with
  | zero => intro i h; omega
  | succ n ih =>
    intro i hn
    unfold dcGo
    simp only [itm]
    by_cases hi : i < l.length
    · have e : l[i]? = some l[i] := List.getElem?_eq_getElem hi
      rw [e]
      simp only [Option.map_some]
      rw [h _ (List.getElem_mem hi)]
      simp only [bind_ok]
      have hk : (match (if p l[i] then some l[i] else none) with
          | some q => dput q.1 q.2 ((l.take i).filter p)
          | none => (l.take i).filter p) = (l.take (i + 1)).filter p := by
        rw [List.take_succ_eq_append_getElem hi, List.filter_append]
        by_cases hp : p l[i] = true
        · simp only [hp, if_true, List.filter_cons, List.filter_nil]
          refine dput_new _ _ _ ?_
          intro hm
          rw [List.mem_map] at hm
          obtain ⟨q, hq, e⟩ := hm
          have hq2 := (List.mem_filter.1 hq).1
          have : (l.map (·.1)) = (l.take i).map (·.1) ++ (l.drop i).map (·.1) := by rw [← List.map_append, List.take_append_drop]
          rw [this, List.nodup_append] at hd
          refine hd.2.2 q.1 (List.mem_map_of_mem hq2) l[i].1 (List.mem_map_of_mem (f := fun x : Kv => x.1) ?_) e
          rw [List.drop_eq_getElem_cons hi]
          exact List.mem_cons_self ..
        · simp [hp]
      have := ih (i + 1) (by omega)
      rw [← hk] at this
      exact this
    · have e : l[i]? = none := List.getElem?_eq_none (by omega)
      rw [e]
      simp only [Option.map_none]
      rw [List.take_of_length_le (by omega)]
theorem mkTup_sv (z : List Nat) (m : MV) (e : Env) (i j : Nat) : setT (.tp [i, j]) (mkTup [.p (.str z), m]) e = some ((e.set i (some (.p (.str z)))).set j (some m)) := by
  cases m <;> rfl
theorem E_lc2 (elt : MX) (tg : MT) (it : MI) (cs : MXs) (tg2 : MT) (it2 : MI) (cs2 : MXs) (own own2 : List Nat) (env : Env) (s : Sto) : evE P C (.lc2 elt tg it cs tg2 it2 cs2 own own2) env s = (evI P C it env s).bind fun src s0 =>
      (noX (lcGo src (turnE (wipeE env own) tg (fun e1 s1 => evC P C cs e1 s1) (fun e1 s1 => (evI P C it2 e1 s1).bind fun src2 s2 =>
        lcGo src2 (turnE (wipeE e1 own2) tg2 (fun e2 s3 => evC P C cs2 e2 s3) (fun e2 s3 => (evE P C elt e2 s3).bind fun r s4 => .ok [(hold r s4).1] (hold r s4).2)) wfuel 0 s2)) wfuel 0 s0)).bind fun l s3 =>
        if l.length ≤ lim then .ok (.o (.lst l)) s3 else .stk := rfl
theorem E_lc (elt : MX) (tg : MT) (it : MI) (cs : MXs) (own : List Nat) (env : Env) (s : Sto) : evE P C (.lc elt tg it cs own) env s = (evI P C it env s).bind fun src s0 =>
      (noX (lcGo src (turnE (wipeE env own) tg (fun e1 s1 => evC P C cs e1 s1) (fun e1 s1 => (evE P C elt e1 s1).bind fun r s2 => .ok [(hold r s2).1] (hold r s2).2)) wfuel 0 s0)).bind fun l s3 =>
        if l.length ≤ lim then .ok (.o (.lst l)) s3 else .stk := rfl
theorem E_dcp (kx vx : MX) (tg : MT) (it : MI) (cs : MXs) (own : List Nat) (env : Env) (s : Sto) : evE P C (.dcp kx vx tg it cs own) env s = (evI P C it env s).bind fun src s0 =>
      (noX (dcGo src (turnD (wipeE env own) tg (fun e1 s1 => evC P C cs e1 s1) (fun e1 s1 => evE P C kx e1 s1) (fun e1 s1 => evE P C vx e1 s1)) wfuel 0 [] s0)).bind fun l s3 =>
        if l.length < lim then .ok (.o (.dic l)) s3 else .stk := rfl
theorem set_back (s : Sto) (n : Nat) (o o2 : MO) (h : s[n]? = some o) : (s.set n o2).set n o = s := by
  have hm1 := (List.getElem?_eq_some_iff.1 h).1
  rw [List.set_set]
  refine List.ext_getElem? fun i => ?_
  rw [List.getElem?_set]
  split
  · rename_i e; subst e; simp only [h]; try simp [hm1]
  · rfl
/-- a comprehension over a dict's items or values -/
theorem E_lock_ok {i n : Nat} {e : MX} {env : Env} {s : Sto} {l : List Kv} {r : EV} (h1 : env[i]? = some (some (.r n))) (h2 : s[n]? = some (.dic l)) (h3 : evE P C e env (s.set n (.lck l)) = .ok r (s.set n (.lck l))) : evE P C (.lock i e) env s = .ok r s := by
  have hm1 := (List.getElem?_eq_some_iff.1 h2).1
  have hset : (s.set n (.lck l))[n]? = some (.lck l) := by simp [hm1]
  show (match env[i]? with
    | some (some (.r n)) => match s[n]? with
      | some (.dic l) => (noX (evE P C e env (s.set n (.lck l)))).bind fun r s1 => match s1[n]? with
        | some (.lck k) => Res.ok r (s1.set n (.dic k))
        | _ => .stk
      | _ => .stk
    | _ => .stk) = _
  rw [h1]
  simp only [h2, h3, noX_ok, bind_ok, hset, set_back s n (.dic l) (.lck l) h2]
theorem ge_add {a k n : Nat} (h : n + a + 1 ≤ k) : ∃ j, k = j + 1 := ⟨k - 1, by omega⟩
end Mev
end
section
set_option maxRecDepth 20000
namespace K36
open Mn Mev
def encD (σ : Tab) : List Kv := σ.map fun q => (q.1, MV.p (enc q.2))
theorem dget_encD (x : List Nat) (σ : Tab) : dget x (encD σ) = (look x σ).map fun s => .p (enc s) := by
  induction σ with
  | nil => rfl
  | cons q r ih =>
    obtain ⟨y, s⟩ := q
    simp only [encD, List.map_cons, dget, look]
    split
    · rfl
    · exact ih
theorem encD_filter (σ : Tab) (p : List Nat → Bool) : (encD σ).filter (fun q => p q.1) = encD (σ.filter fun q => p q.1) := by
  induction σ with
  | nil => rfl
  | cons q r ih =>
    simp only [encD, List.map_cons, List.filter_cons] at ih ⊢
    split
    · simp [ih]
    · exact ih
theorem encD_keys (σ : Tab) : (encD σ).map (·.1) = σ.map (·.1) := by simp [encD, Function.comp_def]
theorem ev_less (σ : Tab) (y : List Nat) (b : Tm) (k m : Nat) (s : Sto) (a0 a2 a3 a6 a7 a8 a9 : Option MV) (hm : s[m]? = some (.dic (encD σ))) (hd : (σ.map (·.1)).Nodup) (hl : σ.length ≤ 500) (hsw : sw b ≤ 60) (hk : dp b + 1 ≤ k) :
    evE P (callM P k) (.lock 1 (.dcp (.var 7) (.var 8) (.tp [7, 8]) (.items (.var 1)) (.cons (.and (.cmp .ne (.var 7) (.var 4)) (.cmp .inn (.var 7) (.call 1 (.cons (.var 5) .nil)))) .nil) [7, 8])) [a0, some (.r m), a2, a3, some (.p (.str y)), some (.p (enc b)), a6, a7, a8, a9] s
    = .ok (.o (.dic (encD (less σ y b)))) s := by
  have hm1 : m < s.length := (List.getElem?_eq_some_iff.1 hm).1
  have hset : (s.set m (.lck (encD σ)))[m]? = some (.lck (encD σ)) := by simp [hm1]
  have hfn := free_names_ok b k (by have := dp_sw b; omega) hk (by have := freeIn_len b []; omega)
  simp only [Gives, encN] at hfn
  have hgo := dcGo_its (f := turnD (wipeE [a0, some (.r m), a2, a3, some (.p (.str y)), some (.p (enc b)), a6, a7, a8, a9] [7, 8]) (.tp [7, 8]) (fun e1 s1 => evC P (callM P k) (.cons (.and (.cmp .ne (.var 7) (.var 4)) (.cmp .inn (.var 7) (.call 1 (.cons (.var 5) .nil)))) .nil) e1 s1) (fun e1 s1 => evE P (callM P k) (.var 7) e1 s1) (fun e1 s1 => evE P (callM P k) (.var 8) e1 s1))
    (p := fun q => !decide (q.1 = y) && decide (q.1 ∈ freeN b)) (s := s.set m (.lck (encD σ))) (encD σ) (by rw [encD_keys]; exact hd) (by
      intro q hq
      obtain ⟨x, v⟩ := q
      simp only [turnD, mkTup_sv, wipeE]
      by_cases h1 : x = y
      · simp [h1]
      · by_cases h2 : x ∈ freeN b <;> simp [h1, h2, hfn, kstr]) wfuel 0 (by simp [encD, wfuel]; omega)
  simp only [List.take_zero, List.filter_nil] at hgo
  have h3 := encD_filter σ (fun x => !decide (x = y) && decide (x ∈ freeN b))
  have hlen : (encD (less σ y b)).length < lim := by
    have := List.length_filter_le (fun q : List Nat × Tm => !decide (q.1 = y) && decide (q.1 ∈ freeN b)) σ
    simp [encD, less, lim]; omega
  refine E_lock_ok rfl hm ?_
  rw [E_dcp]
  have hI : evI P (callM P k) (.items (.var 1)) [a0, some (.r m), a2, a3, some (.p (.str y)), some (.p (enc b)), a6, a7, a8, a9] (s.set m (.lck (encD σ))) = .ok (.its (encD σ)) (s.set m (.lck (encD σ))) := by
    simp [evI, objOf, hm1]
  rw [hI]
  simp only [Mev.bind_ok]
  rw [hgo]
  simp only [Mev.noX_ok, Mev.bind_ok]
  rw [h3]
  exact if_pos hlen
theorem ev_tkn (σ : Tab) (k m : Nat) (s : Sto) (a0 a1 a3 a4 a5 a6 a7 a8 a9 : Option MV) (hm : s[m]? = some (.dic (encD σ))) (hl : σ.length ≤ 501) (ht : (tkn σ).length ≤ 30) (hsw : ∀ q, q ∈ σ → sw q.2 ≤ 60 ∧ dp q.2 + 1 ≤ k) :
    evE P (callM P k) (.bi .tuple (.cons (.lock 2 (.lc2 (.var 9) (.nm 8) (.vals (.var 2)) .nil (.nm 9) (.ex (.call 1 (.cons (.var 8) .nil))) .nil [8, 9] [9])) .nil)) [a0, a1, some (.r m), a3, a4, a5, a6, a7, a8, a9] s
    = .ok (.v (.p (.tup ((tkn σ).map .str)))) s := by
  have hm1 : m < s.length := (List.getElem?_eq_some_iff.1 hm).1
  let s1 := s.set m (.lck (encD σ))
  have hset : s1[m]? = some (.lck (encD σ)) := by simp [s1, hm1]
  let env : Env := [a0, a1, some (.r m), a3, a4, a5, a6, a7, a8, a9]
  have hgo := lcGo_gen (f := turnE (wipeE env [8, 9]) (.nm 8) (fun e1 s1 => evC P (callM P k) .nil e1 s1) (fun e1 s1 => (evI P (callM P k) (.ex (.call 1 (.cons (.var 8) .nil))) e1 s1).bind fun src2 s2 =>
        lcGo src2 (turnE (wipeE e1 [9]) (.nm 9) (fun e2 s3 => evC P (callM P k) .nil e2 s3) (fun e2 s3 => (evE P (callM P k) (.var 9) e2 s3).bind fun r s4 => .ok [(hold r s4).1] (hold r s4).2)) wfuel 0 s2))
    (q := fun q : List Nat × Tm => MV.p (enc q.2)) (g := fun q => (freeN q.2).map fun x => MV.p (.str x)) (s := s1) (src := .vls (encD σ)) σ (by
      intro i; simp [itm, encD]; cases σ[i]? <;> rfl) (by
      intro q hq
      have h0 := hsw q hq
      have hfn := free_names_ok q.2 k (by have := dp_sw q.2; omega) h0.2 (by have := freeIn_len q.2 []; omega)
      simp only [Gives, encN] at hfn
      have hin := lcGo_snap (f := turnE (wipeE [a0, a1, some (.r m), a3, a4, a5, a6, a7, some (.p (enc q.2)), none] [9]) (.nm 9) (fun e2 s3 => evC P (callM P k) .nil e2 s3) (fun e2 s3 => (evE P (callM P k) (.var 9) e2 s3).bind fun r s4 => .ok [(hold r s4).1] (hold r s4).2))
        (q := fun x => MV.p (.str x)) (g := fun x => [MV.p (.str x)]) (s := s1) (sq := .snap ((freeN q.2).map fun x => MV.p (.str x))) (freeN q.2) rfl (by
          intro x hx
          simp [turnE, wipeE]) wfuel 0 (by have := freeN_len q.2; simp only [wfuel]; omega)
      have e : ((freeN q.2).drop 0).flatMap (fun x => [MV.p (.str x)]) = (freeN q.2).map fun x => MV.p (.str x) := by
        rw [List.drop_zero]
        generalize freeN q.2 = l
        induction l with
        | nil => rfl
        | cons a r ih => rw [List.flatMap_cons, ih]; rfl
      rw [e] at hin
      simp only [turnE, setT_nm, C_nil, Mev.noX_ok, Mev.bind_ok, wipeE, env]
      simp [evI, hfn, sqOf, sqL, tupOf, tupSeq, Function.comp_def]
      simp [wipeE] at hin
      simp [hin]) wfuel 0 (by simp only [wfuel]; omega)
  have e2 : ((σ.drop 0).flatMap fun q => (freeN q.2).map fun x => MV.p (.str x)) = (tkn σ).map fun x => MV.p (.str x) := by
    rw [List.drop_zero]
    unfold tkn
    rw [List.map_flatMap]
  rw [e2] at hgo
  have h5 : ((tkn σ).map fun x => MV.p (.str x)).length ≤ lim := by simp [lim]; omega
  have hgo2 : evE P (callM P k) (.lc2 (.var 9) (.nm 8) (.vals (.var 2)) .nil (.nm 9) (.ex (.call 1 (.cons (.var 8) .nil))) .nil [8, 9] [9]) env s1 = .ok (.o (.lst ((tkn σ).map fun x => MV.p (.str x)))) s1 := by
    have hI : evI P (callM P k) (.vals (.var 2)) env s1 = .ok (.vls (encD σ)) s1 := by
      simp [evI, env, objOf, hset]
    rw [E_lc2, hI]
    simp only [Mev.bind_ok]
    rw [hgo]
    simp only [Mev.noX_ok, Mev.bind_ok]
    exact if_pos h5
  have hlk : evE P (callM P k) (.lock 2 (.lc2 (.var 9) (.nm 8) (.vals (.var 2)) .nil (.nm 9) (.ex (.call 1 (.cons (.var 8) .nil))) .nil [8, 9] [9])) env s = .ok (.o (.lst ((tkn σ).map fun x => MV.p (.str x)))) s := E_lock_ok rfl hm hgo2
  simp only [E_bi, L_cons, L_nil, env] at hlk ⊢
  rw [hlk]
  simp only [Mev.bind_ok]
  exact bi_tupS _ _
theorem less_nodup (σ : Tab) (y : List Nat) (b : Tm) (h : (σ.map (·.1)).Nodup) : ((less σ y b).map (·.1)).Nodup := h.sublist ((List.filter_sublist).map _)
theorem less_y (σ : Tab) (y : List Nat) (b : Tm) : y ∉ (less σ y b).map (·.1) := by
  intro h
  rw [List.mem_map] at h
  obtain ⟨q, hq, rfl⟩ := h
  unfold less at hq
  rw [List.mem_filter] at hq
  simp at hq
theorem less_mem {σ : Tab} {y : List Nat} {b : Tm} {q} (h : q ∈ less σ y b) : q ∈ σ := (List.mem_filter.1 h).1
theorem put_known_ok : ∀ (n : Nat) (t : Tm) (σ : Tab) (k m : Nat) (s : Sto), dp t ≤ n → Room σ t → (σ.map (·.1)).Nodup → σ.length + dp t ≤ 500 → dp t + 40 ≤ k → (∀ q, q ∈ σ → sw q.2 ≤ 60 ∧ dp q.2 ≤ 30) → s[m]? = some (.dic (encD σ)) →
    ∃ x, doCall (callM P k) 15 [.p (enc t), .r m] s = .ok (.v (.p (enc (pk n t σ)))) (s ++ x) := by
  intro n
  induction n with
  | zero => intro t σ k m s h; cases t <;> simp [dp] at h
  | succ n ih =>
    intro t σ k m s hn hr hd hl hk hq hm
    obtain ⟨k, rfl⟩ := ge1 (n := dp t + 39) hk
    cases t with
    | nm y =>
      refine ⟨[], runs_ref (e := [some (.p (enc (.nm y))), some (.r m), none, none, none, none, none, none, none, none]) (d := ⟨10, 2, b15⟩) rfl rfl rfl ?_⟩
      have h1 := dget_encD y σ
      cases hs : look y σ with
      | none => rw [hs] at h1; simp [b15, enc, sNm, dicOf, objOf, hm, kstr, h1, pk, app, hs]
      | some v => rw [hs] at h1; simp [b15, enc, sNm, dicOf, objOf, hm, kstr, h1, pk, app, hs]
    | of a b =>
      simp only [dp] at hn hl hk
      unfold Room at hr
      simp only [sw] at hr
      have p1 := sw_pos a
      have p2 := sw_pos b
      obtain ⟨x1, h1⟩ := ih a σ k m s (by omega) (by unfold Room; omega) hd (by omega) (by omega) hq hm
      have hm2 : (s ++ x1)[m]? = some (.dic (encD σ)) := by
        rw [List.getElem?_append_left (List.getElem?_eq_some_iff.1 hm).1]; exact hm
      obtain ⟨x2, h2⟩ := ih b σ k m (s ++ x1) (by omega) (by unfold Room; omega) hd (by omega) (by omega) hq hm2
      refine ⟨x1 ++ x2, runs_ref (e := [some (.p (enc (.of a b))), some (.r m), none, none, none, none, none, none, none, none]) (d := ⟨10, 2, b15⟩) rfl rfl rfl ?_⟩
      rw [← List.append_assoc]
      simp [b15, enc, sOf, pk, h1, h2, lim]
    | to y b =>
      simp only [dp] at hn hl hk
      unfold Room at hr
      simp only [sw] at hr
      have p1 := sw_pos b
      have hll := less_len σ y b
      have hfl := List.length_filter_le (fun q : List Nat × Tm => !decide (q.1 = y) && decide (q.1 ∈ freeN b)) σ
      have hfl2 : (less σ y b).length ≤ σ.length := hfl
      have hmlt := (List.getElem?_eq_some_iff.1 hm).1
      let s1 : Sto := s ++ [.dic (encD (less σ y b))]
      have hs1 : s1[s.length]? = some (.dic (encD (less σ y b))) := by simp [s1]
      have e1 := ev_less σ y b k m s (some (.p (enc (.to y b)))) none none none none none none hm hd (by omega) (by omega) (by omega)
      have e2 := ev_tkn (less σ y b) k s.length s1 (some (.p (enc (.to y b)))) (some (.r m)) none (some (.p (.str y))) (some (.p (enc b))) none none none none hs1 (by omega) (by omega) (fun q hq' => by have := hq q (less_mem hq'); omega)
      have hfn := free_names_ok b k (by have := dp_sw b; omega) (by omega) (by have := freeIn_len b []; omega)
      simp only [Gives, encN] at hfn
      by_cases hy : y ∈ tkn (less σ y b)
      · have hfl3 : (tkn (less σ y b) ++ freeN b).length ≤ 25 := by
          have := freeN_len b
          rw [List.length_append]; omega
        have h3 := first_name_ok (tkn (less σ y b) ++ freeN b) k hfl3 (by omega)
        simp only [Gives, encN, List.map_append] at h3
        have h4 := bin_tt ((tkn (less σ y b)).map .str) ((freeN b).map .str) s1 (by have := freeN_len b; simp; omega)
        let w := first (tkn (less σ y b) ++ freeN b)
        let σ2 : Tab := less σ y b ++ [(y, .nm w)]
        have ed : dput y (.p (enc (.nm w))) (encD (less σ y b)) = encD σ2 := by
          rw [dput_new _ _ _ (by rw [encD_keys]; exact less_y σ y b)]
          simp [encD, σ2]
        let s2 : Sto := s ++ [.dic (encD σ2)]
        have hs2 : s1.set s.length (.dic (encD σ2)) = s2 := by
          simp [s1, s2]
        have hs3 : s2[s.length]? = some (.dic (encD σ2)) := by simp [s2]
        have etk : tkn σ2 = tkn (less σ y b) ++ [w] := by simp only [σ2]; unfold tkn; rw [List.flatMap_append]; rfl
        obtain ⟨x, h5⟩ := ih b σ2 k s.length s2 (by omega) (by unfold Room; rw [etk, List.length_append]; simp only [List.length_cons, List.length_nil]; omega) (by
            simp only [σ2, List.map_append, List.map_cons, List.map_nil]
            rw [List.nodup_append]
            refine ⟨less_nodup σ y b hd, by simp, ?_⟩
            intro a ha c hc
            rw [List.mem_singleton] at hc
            subst hc
            rintro rfl
            exact less_y σ a b ha) (by simp only [σ2, List.length_append, List.length_cons, List.length_nil]; omega) (by omega) (by
            intro q hq'
            simp only [σ2, List.mem_append, List.mem_singleton] at hq'
            rcases hq' with hq' | rfl
            · exact hq q (less_mem hq')
            · simp [sw, dp]) hs3
        have hlen : (encD (less σ y b)).length < lim := by simp [encD, lim]; omega
        refine ⟨[.dic (encD σ2)] ++ x, runs_ref (e := [some (.p (enc (.to y b))), some (.r m), some (.r s.length), some (.p (.tup ((tkn (less σ y b)).map .str))), some (.p (.str w)), some (.p (enc b)), some (.p (.str w)), none, none, none]) (d := ⟨10, 2, b15⟩) rfl rfl rfl ?_⟩
        rw [← List.append_assoc]
        refine ss_nx (e1 := [some (.p (enc (.to y b))), some (.r m), none, none, none, none, none, none, none, none]) (s1 := s) (by simp [enc, sTo]) ?_
        refine ss_nx (e1 := [some (.p (enc (.to y b))), some (.r m), none, none, none, none, none, none, none, none]) (s1 := s) (by simp [enc, sTo]) ?_
        refine ss_nx (e1 := [some (.p (enc (.to y b))), some (.r m), none, none, some (.p (.str y)), some (.p (enc b)), none, none, none, none]) (s1 := s) (by simp [enc, sTo, lim]) ?_
        refine ss_nx (e1 := [some (.p (enc (.to y b))), some (.r m), some (.r s.length), none, some (.p (.str y)), some (.p (enc b)), none, none, none, none]) (s1 := s1) (by rw [S_asg, e1]; simp [s1]) ?_
        refine ss_nx (e1 := [some (.p (enc (.to y b))), some (.r m), some (.r s.length), some (.p (.tup ((tkn (less σ y b)).map .str))), some (.p (.str y)), some (.p (enc b)), none, none, none, none]) (s1 := s1) (by rw [S_asg, e2]; simp) ?_
        refine ss_nx (e1 := [some (.p (enc (.to y b))), some (.r m), some (.r s.length), some (.p (.tup ((tkn (less σ y b)).map .str))), some (.p (.str w)), some (.p (enc b)), some (.p (.str w)), none, none, none]) (s1 := s2) ?_ ?_
        · have ed' := ed
          simp only [enc, w] at ed'
          simp [hy, hfn, h3, h4, hs1, kstr, lim, hlen]
          simp only [lim] at hlen
          simp [hlen]
          simp only [sNm] at ed'
          simp [ed', hs2, w]
        · skip
          simp [h5, s2, lim, pk, hy, enc, sTo, w]
          first | rfl | (simp [σ2, w]; done)
      · obtain ⟨x, h5⟩ := ih b (less σ y b) k s.length s1 (by omega) (by unfold Room; omega) (less_nodup σ y b hd) (by omega) (by omega) (fun q hq' => hq q (less_mem hq')) hs1
        refine ⟨[.dic (encD (less σ y b))] ++ x, runs_ref (e := [some (.p (enc (.to y b))), some (.r m), some (.r s.length), some (.p (.tup ((tkn (less σ y b)).map .str))), some (.p (.str y)), some (.p (enc b)), none, none, none, none]) (d := ⟨10, 2, b15⟩) rfl rfl rfl ?_⟩
        rw [← List.append_assoc]
        refine ss_nx (e1 := [some (.p (enc (.to y b))), some (.r m), none, none, none, none, none, none, none, none]) (s1 := s) (by simp [enc, sTo]) ?_
        refine ss_nx (e1 := [some (.p (enc (.to y b))), some (.r m), none, none, none, none, none, none, none, none]) (s1 := s) (by simp [enc, sTo]) ?_
        refine ss_nx (e1 := [some (.p (enc (.to y b))), some (.r m), none, none, some (.p (.str y)), some (.p (enc b)), none, none, none, none]) (s1 := s) (by simp [enc, sTo, lim]) ?_
        refine ss_nx (e1 := [some (.p (enc (.to y b))), some (.r m), some (.r s.length), none, some (.p (.str y)), some (.p (enc b)), none, none, none, none]) (s1 := s1) (by rw [S_asg, e1]; simp [s1]) ?_
        refine ss_nx (e1 := [some (.p (enc (.to y b))), some (.r m), some (.r s.length), some (.p (.tup ((tkn (less σ y b)).map .str))), some (.p (.str y)), some (.p (enc b)), none, none, none, none]) (s1 := s1) (by rw [S_asg, e2]; simp) ?_
        simp [hy, h5, s1, lim, pk, enc, sTo]
end K36
end
section
set_option maxRecDepth 20000
namespace K36
open Mn Mev
def encT (σ : Tab) : PV := .tup (σ.map fun q => .tup [.str q.1, enc q.2])
theorem dput_fold (l acc : List Kv) (h : ((acc ++ l).map (·.1)).Nodup) : l.foldl (fun acc q => dput q.1 q.2 acc) acc = acc ++ l := by
  induction l generalizing acc with
  | nil => simp
  | cons q r ih =>
    have h0 : q.1 ∉ acc.map (·.1) := by
      rw [List.map_append, List.nodup_append] at h
      intro hm
      exact h.2.2 q.1 hm q.1 (by simp) rfl
    rw [List.foldl_cons, dput_new _ _ _ h0, ih _ (by simpa using h)]
    simp
theorem mapO_pairs (l : List Kv) : mapO pairOf (l.map fun q => mkTup [.p (.str q.1), q.2]) = some l := by
  induction l with
  | nil => rfl
  | cons q r ih =>
    obtain ⟨a, v⟩ := q
    have : pairOf (mkTup [.p (.str a), v]) = some (a, v) := by cases v <;> rfl
    simp only [List.map_cons, mapO, this, ih]
theorem bi_dict (l : List Kv) (ps : List PV) (s : Sto) (hp : ps.map MV.p = l.map fun q => mkTup [.p (.str q.1), q.2]) (hd : (l.map (·.1)).Nodup) (hl : l.length ≤ 1000) : biF .dict [.v (.p (.tup ps))] s = .ok (.o (.dic l)) s := by
  have h1 : pairsOf (.v (.p (.tup ps))) s = some l := by
    show mapO pairOf (ps.map MV.p) = some l
    rw [hp, mapO_pairs]
  have h2 : l.length ≤ lim := by simp [lim]; omega
  simp only [biF, h1]
  rw [if_pos h2]
  have := dput_fold l [] (by simpa using hd)
  rw [this]; rfl
theorem put_all_ok (t : Tm) (σ : Tab) (k : Nat) (hr : Room σ t) (hd : (σ.map (·.1)).Nodup) (hl : σ.length + dp t ≤ 500) (hk : dp t + 41 ≤ k) (hq : ∀ q, q ∈ σ → sw q.2 ≤ 60 ∧ dp q.2 ≤ 30) : Gives P k 14 [.p (enc t), .p (encT σ)] (.v (.p (enc (pk (dp t) t σ)))) := by
  obtain ⟨k, rfl⟩ := ge1 (n := dp t + 40) hk
  have h1 := bi_dict (encD σ) (σ.map fun q => .tup [.str q.1, enc q.2]) [] (by simp [encD, Function.comp_def]) (by rw [encD_keys]; exact hd) (by simp [encD]; omega)
  obtain ⟨x, h2⟩ := put_known_ok (dp t) t σ k 0 [.dic (encD σ)] (Nat.le_refl _) hr hd hl (by omega) hq rfl
  refine gives (d := ⟨2, 2, b14⟩) rfl rfl rfl ?_
  simp [b14, encT, h1, h2]
end K36
end
section
set_option maxRecDepth 20000
/-! MnH: loops over a range with an invariant; the laws' draws (_law_draw, _law_take). -/
namespace Mev
open Mn
variable {P : Prg} {C : Nat → List MV → Sto → Res EV}
theorem foGo_rg {tg : MT} {b : Env → Sto → RS} {N : Nat} (I : Nat → Env → Sto → Prop)
    (h : ∀ i, i < N → ∀ e s, I i e s → ∃ e1 e2 s2, setT tg (.p (.int i)) e = some e1 ∧ b e1 s = .ok .nx e2 s2 ∧ I (i + 1) e2 s2) :
    ∀ (n i : Nat) e s, I i e s → i ≤ N → N - i < n → ∃ e2 s2, foGo (.rg 0 1 N) tg b n i e s = .ok .nx e2 s2 ∧ I N e2 s2 := by
  intro n
  induction n with
  | zero => intro i _ _ _ _ h; omega
  | succ n ih =>
    intro i e s hI hi hn
    unfold foGo
    simp only [itm]
    by_cases hl : i < N
    · rw [if_pos hl]
      obtain ⟨e1, e2, s2, h1, h2, h3⟩ := h i hl e s hI
      have e0 : (0 : Int) + 1 * (i : Int) = i := by omega
      rw [e0]
      simp only [h1, h2]
      exact ih (i + 1) e2 s2 h3 (by omega) (by omega)
    · have : i = N := by omega
      subst this
      rw [if_neg hl]
      exact ⟨e, s, rfl, hI⟩
theorem ev_for_rg {tg : MT} {it : MI} {b : MSs} {env : Env} {s s1 : Sto} (N : Nat) (I : Nat → Env → Sto → Prop) (hi : evI P C it env s = .ok (.rg 0 1 N) s1) (h0 : I 0 env s1) (hl : N < 1000000)
    (h : ∀ i, i < N → ∀ e s, I i e s → ∃ e1 e2 s2, setT tg (.p (.int i)) e = some e1 ∧ evSs P C b e1 s = .ok .nx e2 s2 ∧ I (i + 1) e2 s2) : ∃ e2 s2, evS P C (.forr tg it b) env s = .ok .nx e2 s2 ∧ I N e2 s2 := by
  simp only [evS, hi, bindE_ok]
  exact foGo_rg I h wfuel 0 env s1 h0 (by omega) (by simp only [wfuel]; omega)
/-- a draw's list and its cells -/
structure DrawOk (s : Sto) (a d : Nat) (cells : List Int) (p q sd : Int) : Prop where
  ha : s[a]? = some (.lst (cells.map fun i => .p (.int i)))
  pos : ∀ c, c ∈ cells → 0 ≤ c
  hd : s[d]? = some (.lst [.r a, .p (.int p), .p (.int q), .p (.int sd)])
  hp : -1 ≤ p
  hq : 0 ≤ q
  hs : 0 ≤ sd ∧ sd < 2147483647
def Dr (s : Sto) (a d : Nat) : Prop := ∃ cells p q sd, DrawOk s a d cells p q sd
theorem DrawOk.set {s : Sto} {a d : Nat} {cells : List Int} {p q sd p2 q2 sd2 : Int} (h : DrawOk s a d cells p q sd) (hp : -1 ≤ p2) (hq : 0 ≤ q2) (hs : 0 ≤ sd2 ∧ sd2 < 2147483647) : DrawOk (s.set d (.lst [.r a, .p (.int p2), .p (.int q2), .p (.int sd2)])) a d cells p2 q2 sd2 where
  ha := by
    have h1 := h.ha
    have hne : d ≠ a := by
      rintro rfl
      have h2 := h.hd
      rw [h1] at h2
      injection h2 with h2
      injection h2 with h2
      cases cells with
      | nil => cases h2
      | cons c r => simp at h2
    rw [List.getElem?_set_ne hne]; exact h1
  pos := h.pos
  hd := by
    have := (List.getElem?_eq_some_iff.1 h.hd).1
    simp [this]
  hp := hp
  hq := hq
  hs := hs
theorem Dr.app {s : Sto} {a d : Nat} (h : Dr s a d) (x : Sto) : Dr (s ++ x) a d := by
  obtain ⟨cells, p, q, sd, h⟩ := h
  refine ⟨cells, p, q, sd, ?_, h.pos, ?_, h.hp, h.hq, h.hs⟩
  · rw [List.getElem?_append_left (List.getElem?_eq_some_iff.1 h.ha).1]; exact h.ha
  · rw [List.getElem?_append_left (List.getElem?_eq_some_iff.1 h.hd).1]; exact h.hd
theorem ix_l (l : List MV) (n i : Nat) (m : MV) (s : Sto) (hn : s[n]? = some (.lst l)) (hi : l[i]? = some m) : index (.v (.r n)) (.v (.p (.int (i : Int)))) s = some (.v m) := by
  have hlt := (List.getElem?_eq_some_iff.1 hi).1
  have h1 : ixN l.length (i : Int) = some i := by unfold ixN; rw [if_pos (by omega), if_pos (by omega)]; rfl
  simp only [index, seqOf, tupOf, tupSeq, lstOf, objOf, hn, at_, h1, Option.bind_some, hi, Option.map_some]
theorem ix_l0 (m0 m1 m2 m3 : MV) (n : Nat) (s : Sto) (hn : s[n]? = some (.lst [m0, m1, m2, m3])) : index (.v (.r n)) (.v (.p (.int 0))) s = some (.v m0) := ix_l _ n 0 _ s hn rfl
theorem ix_l1 (m0 m1 m2 m3 : MV) (n : Nat) (s : Sto) (hn : s[n]? = some (.lst [m0, m1, m2, m3])) : index (.v (.r n)) (.v (.p (.int 1))) s = some (.v m1) := ix_l _ n 1 _ s hn rfl
theorem ix_l2 (m0 m1 m2 m3 : MV) (n : Nat) (s : Sto) (hn : s[n]? = some (.lst [m0, m1, m2, m3])) : index (.v (.r n)) (.v (.p (.int 2))) s = some (.v m2) := ix_l _ n 2 _ s hn rfl
theorem ix_l3 (m0 m1 m2 m3 : MV) (n : Nat) (s : Sto) (hn : s[n]? = some (.lst [m0, m1, m2, m3])) : index (.v (.r n)) (.v (.p (.int 3))) s = some (.v m3) := ix_l _ n 3 _ s hn rfl
theorem st_l (l : List MV) (n i : Nat) (v : MV) (s : Sto) (hn : s[n]? = some (.lst l)) (hi : i < l.length) : setIx (.v (.r n)) (.v (.p (.int (i : Int)))) v s = some (s.set n (.lst (l.set i v))) := by
  have h1 : ixN l.length (i : Int) = some i := by unfold ixN; rw [if_pos (by omega), if_pos (by omega)]; rfl
  simp only [setIx, hn, h1, Option.map_some]
theorem st_l1 (m0 m1 m2 m3 v : MV) (n : Nat) (s : Sto) (hn : s[n]? = some (.lst [m0, m1, m2, m3])) : setIx (.v (.r n)) (.v (.p (.int 1))) v s = some (s.set n (.lst [m0, v, m2, m3])) := st_l _ n 1 v s hn (by simp)
theorem st_l2 (m0 m1 m2 m3 v : MV) (n : Nat) (s : Sto) (hn : s[n]? = some (.lst [m0, m1, m2, m3])) : setIx (.v (.r n)) (.v (.p (.int 2))) v s = some (s.set n (.lst [m0, m1, v, m3])) := st_l _ n 2 v s hn (by simp)
theorem st_l3 (m0 m1 m2 m3 v : MV) (n : Nat) (s : Sto) (hn : s[n]? = some (.lst [m0, m1, m2, m3])) : setIx (.v (.r n)) (.v (.p (.int 3))) v s = some (s.set n (.lst [m0, m1, m2, v])) := st_l _ n 3 v s hn (by simp)
theorem bin_mul (i j : Int) (s : Sto) (h : small i = true ∨ small j = true) : binop .mul (.v (.p (.int i))) (.v (.p (.int j))) s = .ok (.v (.p (.int (i * j)))) s := by
  show (if small i || small j then Res.ok (evP (.int (i * j))) s else .stk) = _
  rw [if_pos (by rcases h with h | h <;> simp [h])]; rfl
theorem bin_mod (i j : Int) (s : Sto) (h : 0 < j) : binop .mod (.v (.p (.int i))) (.v (.p (.int j))) s = .ok (.v (.p (.int (i % j)))) s := by
  show (if 0 < j then Res.ok (evP (.int (i % j))) s else .stk) = _
  rw [if_pos h]; rfl
theorem bin_fdiv (i j : Int) (s : Sto) (h : 0 < j) (h2 : j < 1073741824) : binop .fdiv (.v (.p (.int i))) (.v (.p (.int j))) s = .ok (.v (.p (.int (i / j)))) s := by
  show (if 0 < j ∧ j < 1073741824 then Res.ok (evP (.int (i / j))) s else .stk) = _
  rw [if_pos ⟨h, h2⟩]; rfl
@[simp] theorem bi_int (i : Int) (s : Sto) : biF .int [.v (.p (.int i))] s = .ok (.v (.p (.int i))) s := rfl
@[simp] theorem bi_abs (i : Int) (s : Sto) : biF .abs [.v (.p (.int i))] s = .ok (.v (.p (.int (if i < 0 then -i else i)))) s := rfl
def takeI : MS := (.iff (.cmp .eq (.ix (.var 0) (.lit (.int 2))) (.lit (.int 0))) (.cons (.sub (.var 0) (.lit (.int 1)) (.bin .add (.ix (.var 0) (.lit (.int 1))) (.lit (.int 1))))
  (.cons (.iff (.cmp .lt (.ix (.var 0) (.lit (.int 1))) (.bi .len (.cons (.ix (.var 0) (.lit (.int 0))) .nil))) (.cons (.sub (.var 0) (.lit (.int 2)) (.ix (.ix (.var 0) (.lit (.int 0))) (.ix (.var 0) (.lit (.int 1)))))
  .nil) .nil)
  (.cons (.iff (.cmp .eq (.ix (.var 0) (.lit (.int 2))) (.lit (.int 0))) (.cons (.sub (.var 0) (.lit (.int 3)) (.bin .mod (.bi .int (.cons (.bin .add (.bin .mul (.ix (.var 0) (.lit (.int 3))) (.lit (.int 48271))) (.lit (.int 11))) .nil)) (.lit (.int 2147483647))))
  (.cons (.sub (.var 0) (.lit (.int 2)) (.ix (.var 0) (.lit (.int 3))))
  .nil)) .nil)
  .nil))) .nil)
def takeB : MSs := (.cons takeI
  (.cons (.asg (.nm 2) (.bin .mod (.bi .int (.cons (.ix (.var 0) (.lit (.int 2))) .nil)) (.var 1)))
  (.cons (.sub (.var 0) (.lit (.int 2)) (.bin .fdiv (.ix (.var 0) (.lit (.int 2))) (.var 1)))
  (.cons (.ret (.var 2))
  .nil))))
/-- the store, but for the draw's list -/
structure Keeps (s s' : Sto) (d : Nat) : Prop where
  len : s'.length = s.length
  ne : ∀ i, i ≠ d → s'[i]? = s[i]?
theorem Keeps.refl (s : Sto) (d : Nat) : Keeps s s d := ⟨rfl, fun _ _ => rfl⟩
theorem Keeps.trans {s s1 s2 : Sto} {d : Nat} (h : Keeps s s1 d) (h2 : Keeps s1 s2 d) : Keeps s s2 d := ⟨h2.len.trans h.len, fun i hi => (h2.ne i hi).trans (h.ne i hi)⟩
theorem Keeps.set (s : Sto) (d : Nat) (o : MO) : Keeps s (s.set d o) d := ⟨by simp, fun i hi => by rw [List.getElem?_set_ne (fun e => hi e.symm)]⟩
theorem take_ok {f : Nat} (hf : P.fs[f]? = some ⟨3, 2, takeB⟩) {s : Sto} {a d : Nat} (h : Dr s a d) (many k : Nat) (hm : 0 < many) (hm2 : many < 1000000000) : ∃ r s', r < many ∧ callM P (k + 1) f [.r d, .p (.int many)] s = .ok (.v (.p (.int (r : Int)))) s' ∧ Dr s' a d ∧ Keeps s s' d := by
  obtain ⟨cells, p, q, sd, h⟩ := h
  -- the end: q drawn
  have fin : ∀ (s1 : Sto) (p q sd : Int), DrawOk s1 a d cells p q sd → Keeps s s1 d → evS P (callM P k) takeI [some (.r d), some (.p (.int many)), none] s = .ok .nx [some (.r d), some (.p (.int many)), none] s1 →
      ∃ r s', r < many ∧ callM P (k + 1) f [.r d, .p (.int many)] s = .ok (.v (.p (.int (r : Int)))) s' ∧ Dr s' a d ∧ Keeps s s' d := by
    intro s1 p q sd h1 hk he
    have hmp : (0 : Int) < many := by omega
    have hr0 := Int.emod_nonneg q (b := many) (by omega)
    have hr1 := Int.emod_lt_of_pos q hmp
    refine ⟨(q % many).toNat, s1.set d (.lst [.r a, .p (.int p), .p (.int (q / many)), .p (.int sd)]), by omega, ?_, ⟨cells, p, q / many, sd, h1.set h1.hp (Int.ediv_nonneg h1.hq (by omega)) h1.hs⟩, hk.trans (Keeps.set ..)⟩
    refine runs (d := ⟨3, 2, takeB⟩) (e := [some (.r d), some (.p (.int many)), some (.p (.int (q % many)))]) hf rfl ?_
    rw [Int.toNat_of_nonneg hr0]
    have h2 := ix_l2 _ _ _ _ d s1 h1.hd
    have h3 := bin_mod q many s1 hmp
    have h4 := bin_fdiv q many s1 hmp (by omega)
    have h5 := st_l2 (.r a) (.p (.int p)) (.p (.int q)) (.p (.int sd)) (.p (.int (q / many))) d s1 h1.hd
    refine ss_nx he ?_
    simp [h2, h3, h4, h5]
  have i2 := ix_l2 _ _ _ _ d s h.hd
  by_cases hq : q = 0
  · -- a new cell
    subst hq
    let s1 := s.set d (.lst [.r a, .p (.int (p + 1)), .p (.int 0), .p (.int sd)])
    have h1 : DrawOk s1 a d cells (p + 1) 0 sd := h.set (by have := h.hp; omega) h.hq h.hs
    have i1 := ix_l1 _ _ _ _ d s h.hd
    have t1 := st_l1 (.r a) (.p (.int p)) (.p (.int 0)) (.p (.int sd)) (.p (.int (p + 1))) d s h.hd
    have j0 := ix_l0 _ _ _ _ d s1 h1.hd
    have j1 := ix_l1 _ _ _ _ d s1 h1.hd
    have hlen : biF .len [.v (.r a)] s1 = .ok (.v (.p (.int cells.length))) s1 := by
      have := bi_len_r a _ s1 h1.ha
      rw [List.length_map] at this; exact this
    have hmul : ∀ s, binop .mul (.v (.p (.int sd))) (.v (.p (.int 48271))) s = .ok (.v (.p (.int (sd * 48271)))) s := fun s => bin_mul _ _ _ (.inr (by decide))
    have hmod : ∀ s, binop .mod (.v (.p (.int (sd * 48271 + 11)))) (.v (.p (.int 2147483647))) s = .ok (.v (.p (.int ((sd * 48271 + 11) % 2147483647)))) s := fun s => bin_mod _ _ _ (by decide)
    have hsd2 : 0 ≤ (sd * 48271 + 11) % 2147483647 ∧ (sd * 48271 + 11) % 2147483647 < 2147483647 := ⟨Int.emod_nonneg _ (by decide), Int.emod_lt_of_pos _ (by decide)⟩
    by_cases hl : p + 1 < cells.length
    · have hp0 := h.hp
      let j := (p + 1).toNat
      have hj : ((j : Nat) : Int) = p + 1 := Int.toNat_of_nonneg (by omega)
      have hjl : j < cells.length := by omega
      obtain ⟨c, hcd⟩ : ∃ c, c = cells[j] := ⟨_, rfl⟩
      have hc0 : 0 ≤ c := by rw [hcd]; exact h.pos _ (List.getElem_mem hjl)
      have j2 : index (.v (.r a)) (.v (.p (.int (p + 1)))) s1 = some (.v (.p (.int c))) := by
        have := ix_l _ a j (.p (.int c)) s1 h1.ha (by simp [hjl, hcd])
        rw [hj] at this; exact this
      have t2 := st_l2 (.r a) (.p (.int (p + 1))) (.p (.int 0)) (.p (.int sd)) (.p (.int c)) d s1 h1.hd
      let s2 := s1.set d (.lst [.r a, .p (.int (p + 1)), .p (.int c), .p (.int sd)])
      have h2 : DrawOk s2 a d cells (p + 1) c sd := h1.set h1.hp hc0 h1.hs
      have l2 := ix_l2 _ _ _ _ d s2 h2.hd
      have hk2 : Keeps s s2 d := (Keeps.set ..).trans (Keeps.set ..)
      by_cases hc : c = 0
      · clear hcd
        subst hc
        have l3 := ix_l3 _ _ _ _ d s2 h2.hd
        have t3 := st_l3 (.r a) (.p (.int (p + 1))) (.p (.int 0)) (.p (.int sd)) (.p (.int ((sd * 48271 + 11) % 2147483647))) d s2 h2.hd
        let s3 := s2.set d (.lst [.r a, .p (.int (p + 1)), .p (.int 0), .p (.int ((sd * 48271 + 11) % 2147483647))])
        have h3 : DrawOk s3 a d cells (p + 1) 0 ((sd * 48271 + 11) % 2147483647) := h2.set h2.hp h2.hq hsd2
        have m3 := ix_l3 _ _ _ _ d s3 h3.hd
        have t4 := st_l2 (.r a) (.p (.int (p + 1))) (.p (.int 0)) (.p (.int ((sd * 48271 + 11) % 2147483647))) (.p (.int ((sd * 48271 + 11) % 2147483647))) d s3 h3.hd
        refine fin (s3.set d (.lst [.r a, .p (.int (p + 1)), .p (.int ((sd * 48271 + 11) % 2147483647)), .p (.int ((sd * 48271 + 11) % 2147483647))])) (p + 1) ((sd * 48271 + 11) % 2147483647) ((sd * 48271 + 11) % 2147483647) (h3.set h3.hp hsd2.1 hsd2) ((hk2.trans (Keeps.set ..)).trans (Keeps.set ..)) ?_
        simp only [s1, s2, s3] at *
        simp only [takeI, Ss_cons, Ss_nil, S_iff, S_sub, E_cmp, E_ix, E_var, E_lit, E_bin, E_bi, L_cons, L_nil, List.getElem?_cons_succ, List.getElem?_cons_zero, Mev.bind_ok, evP_eq, i2, optR_some, cmp_eq_ii, decide_true, bl_eq, tst_ok, truth_bl, bindE_ok, if_true, i1, bin_add, t1, stOr_some, hold_v, seq_nx, j1, j0, hlen, cmp_lt, hl, j2, t2, l2, hmul, hmod, l3, bi_int, t3, m3, t4]
      · refine fin s2 (p + 1) c sd h2 hk2 ?_
        simp only [s1, s2] at *
        simp only [takeI, Ss_cons, Ss_nil, S_iff, S_sub, E_cmp, E_ix, E_var, E_lit, E_bin, E_bi, L_cons, L_nil, List.getElem?_cons_succ, List.getElem?_cons_zero, Mev.bind_ok, evP_eq, i2, optR_some, cmp_eq_ii, decide_true, bl_eq, tst_ok, truth_bl, bindE_ok, if_true, i1, bin_add, t1, stOr_some, hold_v, seq_nx, j1, j0, hlen, cmp_lt, hl, j2, t2, l2, hc, decide_false, Bool.false_eq_true, if_false]
    · have l2 := ix_l2 _ _ _ _ d s1 h1.hd
      have l3 := ix_l3 _ _ _ _ d s1 h1.hd
      have t3 := st_l3 (.r a) (.p (.int (p + 1))) (.p (.int 0)) (.p (.int sd)) (.p (.int ((sd * 48271 + 11) % 2147483647))) d s1 h1.hd
      let s3 := s1.set d (.lst [.r a, .p (.int (p + 1)), .p (.int 0), .p (.int ((sd * 48271 + 11) % 2147483647))])
      have h3 : DrawOk s3 a d cells (p + 1) 0 ((sd * 48271 + 11) % 2147483647) := h1.set h1.hp h1.hq hsd2
      have m3 := ix_l3 _ _ _ _ d s3 h3.hd
      have t4 := st_l2 (.r a) (.p (.int (p + 1))) (.p (.int 0)) (.p (.int ((sd * 48271 + 11) % 2147483647))) (.p (.int ((sd * 48271 + 11) % 2147483647))) d s3 h3.hd
      refine fin (s3.set d (.lst [.r a, .p (.int (p + 1)), .p (.int ((sd * 48271 + 11) % 2147483647)), .p (.int ((sd * 48271 + 11) % 2147483647))])) (p + 1) ((sd * 48271 + 11) % 2147483647) ((sd * 48271 + 11) % 2147483647) (h3.set h3.hp hsd2.1 hsd2) (((Keeps.set ..).trans (Keeps.set ..)).trans (Keeps.set ..)) ?_
      simp only [s1, s3] at *
      simp only [takeI, Ss_cons, Ss_nil, S_iff, S_sub, E_cmp, E_ix, E_var, E_lit, E_bin, E_bi, L_cons, L_nil, List.getElem?_cons_succ, List.getElem?_cons_zero, Mev.bind_ok, evP_eq, i2, optR_some, cmp_eq_ii, decide_true, bl_eq, tst_ok, truth_bl, bindE_ok, if_true, i1, bin_add, t1, stOr_some, hold_v, seq_nx, j1, j0, hlen, cmp_lt, hl, decide_false, Bool.false_eq_true, if_false, l2, hmul, hmod, l3, bi_int, t3, m3, t4]
  · refine fin s p q sd h (Keeps.refl ..) ?_
    simp only [takeI, Ss_cons, Ss_nil, S_iff, E_cmp, E_ix, E_var, E_lit, List.getElem?_cons_succ, List.getElem?_cons_zero, Mev.bind_ok, evP_eq, i2, optR_some, cmp_eq_ii, bl_eq, tst_ok, truth_bl, bindE_ok, hq, decide_false, Bool.false_eq_true, if_false, seq_nx]
end Mev
namespace Mev
open Mn
variable {P : Prg} {C : Nat → List MV → Sto → Res EV}
def drawB : MSs := (.cons (.asg (.nm 1) (.lit (.int 7)))
  (.cons (.forr (.nm 2) (.ex (.var 0)) (.cons (.asg (.nm 1) (.bin .mod (.bi .int (.cons (.bin .add (.bin .add (.bin .mul (.var 1) (.lit (.int 48271))) (.bin .mod (.bi .abs (.cons (.bi .int (.cons (.var 2) .nil)) .nil)) (.lit (.int 65521)))) (.lit (.int 1))) .nil)) (.lit (.int 2147483647))))
  .nil))
  (.cons (.ret (.lst (.cons (.lc (.bi .abs (.cons (.bi .int (.cons (.var 2) .nil)) .nil)) (.nm 2) (.ex (.var 0)) .nil [2]) (.cons (.neg (.lit (.int 1))) (.cons (.lit (.int 0)) (.cons (.var 1) .nil))))))
  .nil)))
theorem draw_ok {f : Nat} (hf : P.fs[f]? = some ⟨3, 1, drawB⟩) (ns : List Int) (hl : ns.length ≤ 63) (k : Nat) : ∃ cells sd, callM P (k + 1) f [.w (ns.map fun i => .p (.int i))] [] = .ok (.o (.lst [.r 0, .p (.int (-1)), .p (.int 0), .p (.int sd)])) [.lst cells] ∧ Dr [.lst cells, .lst [.r 0, .p (.int (-1)), .p (.int 0), .p (.int sd)]] 0 1 := by
  let w : MV := .w (ns.map fun i => .p (.int i))
  let I : Nat → Env → Sto → Prop := fun _ e s => s = [] ∧ ∃ sd x, e = [some w, some (.p (.int sd)), x] ∧ 0 ≤ sd ∧ sd < 2147483647
  obtain ⟨e2, s2, h1, rfl, sd, x, rfl, hs1, hs2⟩ := ev_for_inv (P := P) (C := callM P k) (tg := .nm 2) (it := .ex (.var 0)) (b := .cons (.asg (.nm 1) (.bin .mod (.bi .int (.cons (.bin .add (.bin .add (.bin .mul (.var 1) (.lit (.int 48271))) (.bin .mod (.bi .abs (.cons (.bi .int (.cons (.var 2) .nil)) .nil)) (.lit (.int 65521)))) (.lit (.int 1))) .nil)) (.lit (.int 2147483647)))) .nil)
    (env := [some w, some (.p (.int 7)), none]) (s := []) (s1 := []) (q := fun i => MV.p (.int i)) (sq := .snap (ns.map fun i => MV.p (.int i))) ns I (by simp [evI, w, sqOf, sqL]) ⟨rfl, 7, none, rfl, by decide, by decide⟩ (by omega) (fun _ _ _ _ => rfl) (by
      rintro i hi e s ⟨rfl, sd, x, rfl, g1, g2⟩
      refine ⟨_, [some w, some (.p (.int ((sd * 48271 + (if ns[i] < 0 then -ns[i] else ns[i]) % 65521 + 1) % 2147483647))), some (.p (.int ns[i]))], [], rfl, ?_, rfl, _, _, rfl, Int.emod_nonneg _ (by decide), Int.emod_lt_of_pos _ (by decide)⟩
      have a1 := bin_mul sd 48271 [] (.inr (by decide))
      have a2 := bin_mod (if ns[i] < 0 then -ns[i] else ns[i]) 65521 [] (by decide)
      have a3 := bin_mod (sd * 48271 + (if ns[i] < 0 then -ns[i] else ns[i]) % 65521 + 1) 2147483647 [] (by decide)
      simp only [Ss_cons, Ss_nil, S_asg, E_bin, E_bi, E_var, E_lit, L_cons, L_nil, List.set_cons_succ, List.set_cons_zero, List.getElem?_cons_succ, List.getElem?_cons_zero, Mev.bind_ok, evP_eq, a1, bi_int, bi_abs, a2, bin_add, a3, bindE_ok, setT_nm, hold_v, seq_nx])
  have h2 := ev_lcm (P := P) (C := callM P k) (elt := .bi .abs (.cons (.bi .int (.cons (.var 2) .nil)) .nil)) (tg := .nm 2) (it := .ex (.var 0)) (cs := .nil) (own := [2])
    (env := [some w, some (.p (.int sd)), x]) (s := []) (fun i => MV.p (.int i)) (fun i => .p (.int (if i < 0 then -i else i))) ns (.snap (ns.map fun i => MV.p (.int i))) (by simp [evI, w, sqOf, sqL]) rfl (by omega) (by
      intro i hi
      simp [turnE, wipeE])
  refine ⟨ns.map fun i => .p (.int (if i < 0 then -i else i)), sd, ?_, ?_⟩
  · refine runs (d := ⟨3, 1, drawB⟩) (e := [some w, some (.p (.int sd)), x]) hf rfl ?_
    refine ss_nx (e1 := [some w, some (.p (.int 7)), none]) (s1 := []) (by simp [w]) ?_
    refine ss_nx h1 ?_
    simp [h2, lim]
  · refine ⟨ns.map fun i => if i < 0 then -i else i, -1, 0, sd, ?_, ?_, rfl, by decide, by decide, hs1, hs2⟩
    · simp [Function.comp_def]
    · intro c hc
      rw [List.mem_map] at hc
      obtain ⟨i, _, rfl⟩ := hc
      split <;> omega
theorem ix_lit {l : List MV} {i : Nat} {m : MV} (s : Sto) (hi : l[i]? = some m) : index (.o (.lst l)) (.v (.p (.int (i : Int)))) s = some (.v m) := by
  have hlt := (List.getElem?_eq_some_iff.1 hi).1
  have h1 : ixN l.length (i : Int) = some i := by unfold ixN; rw [if_pos (by omega), if_pos (by omega)]; rfl
  simp only [index, seqOf, tupOf, lstOf, objOf, at_, h1, Option.bind_some, hi, Option.map_some]
end Mev
end
section
set_option maxRecDepth 20000
/-! MnI: written dicts, one more pair, *= and //=, comprehensions whose turns change the store. -/
namespace Mev
open Mn
variable {P : Prg} {C : Nat → List MV → Sto → Res EV}
@[simp] theorem E_dsp (ks : List (List Nat)) (vs : MXs) (env : Env) (s : Sto) : evE P C (.dsp ks vs) env s = ((evL P C vs env s).bind fun l s1 => match holdAll l s1 with
    | (ms, s2) => if ks.length = ms.length ∧ ks.length ≤ 15 then .ok (.o (.dic ((ks.zip ms).foldl (fun acc q => dput q.1 q.2 acc) []))) s2 else .stk) := by first | rfl | (simp only [evE]; rfl)
@[simp] theorem E_dadd (d k v : MX) (env : Env) (s : Sto) : evE P C (.dadd d k v) env s = ((evE P C d env s).bind fun x s1 => match objOf x s1 with
    | some (.dic l) => (evE P C k env s1).bind fun y s2 => (evE P C v env s2).bind fun z s3 => match kstr y with
      | some q => if l.length < 1000 then .ok (.o (.dic ((l ++ [(q, (hold z s3).1)]).foldl (fun acc q => dput q.1 q.2 acc) []))) (hold z s3).2 else .stk
      | none => .stk
    | _ => .stk) := by first | rfl | (simp only [evE]; rfl)
@[simp] theorem S_augm (i : Nat) (ml : Bool) (e : MX) (env : Env) (s : Sto) : evS P C (.augm i ml e) env s = (match env[i]? with
    | some (some (.p (.int a))) => RS.bindE (evE P C e env s) env fun y s1 => match y with
      | .v (.p (.int b)) => if ml then (if small a || small b then .ok .nx (env.set i (some (.p (.int (a * b))))) s1 else .stk) else (if 0 < b ∧ b < 1073741824 then .ok .nx (env.set i (some (.p (.int (a / b))))) s1 else .stk)
      | _ => .stk
    | _ => .stk) := by first | rfl | (simp only [evS]; rfl)
/-- a comprehension whose turns change the store -/
theorem lcGo_inv {α : Type} {f : MV → Sto → Res (List MV)} {q : α → MV} {sq : Sq} (l : List α) (R : α → MV → Prop) (I : Sto → Prop) (hs : ∀ s, I s → sqAt sq s = some (l.map q))
    (h : ∀ x, x ∈ l → ∀ s, I s → ∃ m s', f (q x) s = .ok [m] s' ∧ R x m ∧ I s') :
    ∀ (n i : Nat) (s : Sto), I s → l.length - i < n → ∃ ms s', lcGo (.sq sq) f n i s = .ok ms s' ∧ I s' ∧ ms.length = (l.drop i).length ∧ ∀ p, p ∈ (l.drop i).zip ms → R p.1 p.2 := by
  intro n
  induction n with
  | zero => intro i s _ h; omega
  | succ n ih =>
    intro i s hI hn
    unfold lcGo
    simp only [itm, hs s hI, Option.map_some, List.getElem?_map]
    by_cases hi : i < l.length
    · have e : l[i]? = some l[i] := List.getElem?_eq_getElem hi
      rw [e]
      simp only [Option.map_some]
      obtain ⟨m, s1, h1, h2, h3⟩ := h _ (List.getElem_mem hi) s hI
      rw [h1]
      simp only [bind_ok]
      obtain ⟨ms, s2, g1, g2, g3, g4⟩ := ih (i + 1) s1 h3 (by omega)
      rw [g1]
      simp only [bind_ok]
      refine ⟨m :: ms, s2, rfl, g2, ?_, ?_⟩
      · rw [List.drop_eq_getElem_cons hi, List.length_cons, List.length_cons, g3]
      · rw [List.drop_eq_getElem_cons hi]
        intro p hp
        rw [List.zip_cons_cons, List.mem_cons] at hp
        rcases hp with rfl | hp
        · exact h2
        · exact g4 p hp
    · have e : l[i]? = none := List.getElem?_eq_none (by omega)
      rw [e]
      simp only [Option.map_none]
      refine ⟨[], s, rfl, hI, ?_, ?_⟩ <;> rw [List.drop_eq_nil_of_le (by omega)]
      · rfl
      · intro p hp; simp at hp
theorem ev_lc_inv {α : Type} {elt : MX} {tg : MT} {it : MI} {cs : MXs} {own : List Nat} {env : Env} {s s0 : Sto} (q : α → MV) (l : List α) (sq : Sq) (R : α → MV → Prop) (I : Sto → Prop) (hi : evI P C it env s = .ok (.sq sq) s0) (h0 : I s0) (hs : ∀ s, I s → sqAt sq s = some (l.map q)) (hl : l.length < 1000000)
    (h : ∀ x, x ∈ l → ∀ s, I s → ∃ m s', turnE (wipeE env own) tg (fun e1 s1 => evC P C cs e1 s1) (fun e1 s1 => (evE P C elt e1 s1).bind fun r s2 => .ok [(hold r s2).1] (hold r s2).2) (q x) s = .ok [m] s' ∧ R x m ∧ I s') :
    ∃ ms s', evE P C (.lc elt tg it cs own) env s = .ok (.o (.lst ms)) s' ∧ I s' ∧ ms.length = l.length ∧ ∀ p, p ∈ l.zip ms → R p.1 p.2 := by
  obtain ⟨ms, s', h1, h2, h3, h4⟩ := lcGo_inv (f := turnE (wipeE env own) tg (fun e1 s1 => evC P C cs e1 s1) (fun e1 s1 => (evE P C elt e1 s1).bind fun r s2 => .ok [(hold r s2).1] (hold r s2).2)) l R I hs h wfuel 0 s0 h0 (by simp only [wfuel]; omega)
  rw [List.drop_zero] at h3 h4
  refine ⟨ms, s', ?_, h2, h3, h4⟩
  rw [E_lc, hi]
  simp only [bind_ok, h1, noX_ok]
  exact if_pos (by simp only [lim]; omega)
end Mev
end
section
set_option maxRecDepth 20000
namespace K36
open Mn Mev
def fd : Fm → Nat
  | .nm _ => 1
  | .up _ => 1
  | .to b => fd b + 1
  | .of a b => max (fd a) (fd b) + 1
theorem fd_bare : ∀ (t : Tm) (B : List (List Nat)), fd (bareW t B) = dp t := by
  intro t
  induction t with
  | nm x => intro B; simp only [bareW]; split <;> rfl
  | to x b ih => intro B; simp only [bareW, fd, dp, ih]
  | of a b iha ihb => intro B; simp only [bareW, fd, dp, iha, ihb]
theorem bin_rl (m : Nat) (x y : List MV) (s : Sto) (hm : s[m]? = some (.lst x)) (h : x.length + y.length ≤ 16777216) : binop .add (.v (.r m)) (.o (.lst y)) s = .ok (.o (.lst (x ++ y))) s := by
  have h1 : kdOf (.v (.r m)) s = .lst x := by simp only [kdOf, tupOf, tupSeq, objOf, hm]
  have h2 : kdOf (.o (.lst y)) s = .lst y := rfl
  unfold binop
  rw [h1, h2]
  exact if_pos (by simpa [lim] using h)
theorem ixN_nat (n i : Nat) (h : i < n) : ixN n (i : Int) = some i := by
  unfold ixN
  rw [if_pos (by omega), if_pos (by omega)]; rfl
theorem ix_encN (B : List (List Nat)) (i : Nat) (s : Sto) (h : i < B.length) : index (.v (.p (encN B))) (.v (.p (.int i))) s = some (.v (.p (.str (B.getD i [])))) := by
  have h1 : ((B.map PV.str).map MV.p)[i]? = some (.p (.str (B.getD i []))) := by
    simp [h]
  simp only [index, encN, seqOf, tupOf, tupSeq, at_, List.length_map, ixN_nat _ _ h, Option.bind_some, h1, Option.map_some]
theorem enc_noB : ∀ t : Tm, noB (enc t) = true := by
  intro t
  induction t with
  | nm x => rfl
  | to x b ih => simp [enc, noB, noBs, sTo, ih]
  | of a b iha ihb => simp [enc, noB, noBs, sOf, iha, ihb]
theorem enc_dep : ∀ t : Tm, (enc t).dep ≤ dp t := by
  intro t
  induction t with
  | nm x => simp [enc, PV.dep, PV.deps, dp, sNm]
  | to x b ih => simp [enc, PV.dep, PV.deps, dp, sTo]; omega
  | of a b iha ihb => simp [enc, PV.dep, PV.deps, dp, sOf]; omega
theorem encF_noB : ∀ t : Fm, noB (encF t) = true := by
  intro t
  induction t with
  | nm x => rfl
  | up x => rfl
  | to b ih => simp [encF, noB, noBs, sTo, ih]
  | of a b iha ihb => simp [encF, noB, noBs, sOf, iha, ihb]
theorem encF_dep : ∀ t : Fm, (encF t).dep ≤ fd t := by
  intro t
  induction t with
  | nm x => simp [encF, PV.dep, PV.deps, fd, sNm]
  | up x => simp [encF, PV.dep, PV.deps, fd, sUp]
  | to b ih => simp [encF, PV.dep, PV.deps, fd, sTo]; omega
  | of a b iha ihb => simp [encF, PV.dep, PV.deps, fd, sOf]; omega
theorem ne_same (x : PV) (s : Sto) (h1 : noB x = true) (h2 : x.dep ≤ 60) : cmpop .ne (.v (.p x)) (.v (.p x)) s = some false :=
  cmp_ne_pp x x s h1 h1 (.inl h2) true (by simp)
def swF : Fm → Nat
  | .nm _ => 1
  | .up _ => 1
  | .to b => swF b + 1
  | .of a b => swF a + swF b
theorem sw_bare : ∀ (t : Tm) (B : List (List Nat)), swF (bareW t B) = sw t := by
  intro t
  induction t with
  | nm x => intro B; simp only [bareW]; split <;> rfl
  | to x b ih => intro B; simp only [bareW, swF, sw, ih]
  | of a b iha ihb => intro B; simp only [bareW, swF, sw, iha, ihb]
theorem view_l {α : Type} (f : α → PV) (l : List α) (s : Sto) : view (.o (.lst (l.map fun x => .p (f x)))) s = some (.lst (l.map f)) := by
  have : mapO (viewM s 3) (l.map fun x => MV.p (f x)) = some (l.map f) := by
    induction l with
    | nil => rfl
    | cons a r ih => simp only [List.map_cons, mapO, viewM, ih]
  simp only [view, this]; rfl
theorem cmp_eq_nil {α : Type} (f : α → PV) (l : List α) (s : Sto) : cmpop .eq (.o (.lst (l.map fun x => .p (f x)))) (.o (.lst [])) s = some (decide (l = [])) := by
  show eqD _ _ s = _
  unfold eqD
  rw [view_l]
  have h2 : view (.o (.lst [])) s = some (.lst []) := rfl
  rw [h2]
  have h3 : min (PV.lst (l.map f)).dep (PV.lst []).dep ≤ dlim := by
    have : (PV.lst []).dep = 1 := rfl
    rw [this]; unfold dlim; omega
  simp only [h3, if_true]
  cases l <;> simp [PV.eqv, PV.eqvs]
theorem eq_nil_any {α : Type} (l : List α) (p : α → Bool) : decide (l.filter p = []) = !l.any p := by
  cases h : l.any p with
  | true =>
    obtain ⟨x, hx, hp⟩ := List.any_eq_true.1 h
    have : l.filter p ≠ [] := by
      intro e
      have := List.mem_filter.2 ⟨hx, hp⟩
      rw [e] at this; cases this
    simp [this]
  | false =>
    have : l.filter p = [] := by
      rw [List.filter_eq_nil_iff]
      intro x hx
      rw [List.any_eq_false] at h
      exact h x hx
    simp [this]
theorem cmp_ne_bb (i j : Bool) (s : Sto) : cmpop .ne (.v (.p (.bl i))) (.v (.p (.bl j))) s = some (!(i == j)) := by
  have := cmp_eq_bb i j s
  simp only [cmpop] at this ⊢
  rw [this]; rfl
theorem bin_or (m : Nat) (x y : List MV) (s : Sto) (hm : s[m]? = some (.lst y)) (h : x.length + y.length ≤ 16777216) : binop .add (.o (.lst x)) (.v (.r m)) s = .ok (.o (.lst (x ++ y))) s := by
  have h1 : kdOf (.v (.r m)) s = .lst y := by simp only [kdOf, tupOf, tupSeq, objOf, hm]
  have h2 : kdOf (.o (.lst x)) s = .lst x := rfl
  unfold binop
  rw [h1, h2]
  exact if_pos (by simpa [lim] using h)
theorem sw_dp : ∀ (t : Tm), sw t ≤ 2 ^ (dp t - 1) := by
  have mono : ∀ a b : Nat, a ≤ b → 2 ^ a ≤ 2 ^ b := fun a b h => Nat.pow_le_pow_right (by decide) h
  intro t
  induction t with
  | nm x => simp [sw, dp]
  | to x b ih =>
    have hp : 1 ≤ dp b := by cases b <;> simp [dp]
    simp only [sw, dp, Nat.add_sub_cancel]
    have e : 2 ^ dp b = 2 * 2 ^ (dp b - 1) := by rw [← Nat.pow_succ']; congr 1; omega
    have h5 : 0 < 2 ^ (dp b - 1) := Nat.pos_of_neZero _
    omega
  | of a b iha ihb =>
    have hp : 1 ≤ dp a := by cases a <;> simp [dp]
    have hq : 1 ≤ dp b := by cases b <;> simp [dp]
    simp only [sw, dp, Nat.add_sub_cancel]
    have m1 := mono (dp a) (max (dp a) (dp b)) (by omega)
    have m2 := mono (dp b) (max (dp a) (dp b)) (by omega)
    have e : 2 ^ dp a = 2 * 2 ^ (dp a - 1) := by rw [← Nat.pow_succ']; congr 1; omega
    have f : 2 ^ dp b = 2 * 2 ^ (dp b - 1) := by rw [← Nat.pow_succ']; congr 1; omega
    omega
theorem sw_le (t : Tm) (d : Nat) (h : dp t ≤ d) : sw t ≤ 2 ^ (d - 1) := Nat.le_trans (sw_dp t) (Nat.pow_le_pow_right (by decide) (by omega))
end K36
end
section
set_option maxRecDepth 20000
namespace K36
open Mn Mev
/-! codes of forms -/
def tri : Nat → Nat
  | 0 => 0
  | k + 1 => tri k + k + 1
theorem tri_eq2 (k : Nat) : k * (k + 1) = 2 * tri k := by
  induction k with
  | zero => rfl
  | succ k ih =>
    have e : (k + 1) * (k + 1 + 1) = k * (k + 1) + 2 * (k + 1) := by rw [Nat.mul_comm]; exact Nat.add_mul k 2 (k + 1)
    rw [e, ih]; simp only [tri]; omega
theorem tri_eq (k : Nat) : k * (k + 1) / 2 = tri k := by rw [tri_eq2]; omega
theorem tri_ge (k : Nat) : k ≤ tri k := by
  cases k with
  | zero => exact Nat.le_refl _
  | succ k => simp only [tri]; omega
theorem tri_mono {a b : Nat} (h : a ≤ b) : tri a ≤ tri b := by
  induction b with
  | zero => have : a = 0 := by omega
            subst this; exact Nat.le_refl _
  | succ b ih =>
    by_cases e : a = b + 1
    · subst e; exact Nat.le_refl _
    · have := ih (by omega)
      simp only [tri]; omega
theorem tri_lt {a b : Nat} (h : a < b) : tri a + a + 1 ≤ tri b := tri_mono (a := a + 1) h
def pc (m n : Nat) : Nat := tri (m + n) + n
theorem pc_inj {m n p q : Nat} (h : pc m n = pc p q) : m = p ∧ n = q := by
  unfold pc at h
  rcases Nat.lt_trichotomy (m + n) (p + q) with l | l | l
  · have := tri_lt l; omega
  · rw [l] at h; omega
  · have := tri_lt l; omega
theorem pc_ge (m n : Nat) : m + n ≤ pc m n := by
  have := tri_ge (m + n)
  unfold pc; omega
theorem triI (k : Nat) : (k : Int) * ((k : Int) + 1) / 2 = ((tri k : Nat) : Int) := by
  rw [← tri_eq]; rfl
theorem small_nat (k : Nat) (h : k ≤ 4611686018427387904) : small (k : Int) = true := by
  have e : (2 : Int) ^ 64 = 18446744073709551616 := by decide
  unfold small
  rw [e]
  simp only [Bool.and_eq_true, decide_eq_true_eq]
  omega
theorem binE {C : Nat → List MV → Sto → Res EV} {op : BOp} {x y : MX} {env : Env} {s : Sto} {u v r : EV} (hx : evE P C x env s = .ok u s) (hy : evE P C y env s = .ok v s) (h : binop op u v s = .ok r s) : evE P C (.bin op x y) env s = .ok r s := by
  rw [E_bin, hx]
  show (evE P C y env s).bind _ = _
  rw [hy]
  exact h
theorem litE {C : Nat → List MV → Sto → Res EV} (v : PV) (env : Env) (s : Sto) : evE P C (.lit v) env s = .ok (.v (.p v)) s := E_lit ..
theorem triE {C : Nat → List MV → Sto → Res EV} (x : MX) (q : Nat) (hq : q ≤ 4611686018427387904) (env : Env) (s : Sto) (hx : evE P C x env s = .ok (.v (.p (.int (q : Int)))) s) : evE P C (.bin .fdiv (.bin .mul x (.bin .add x (.lit (.int 1)))) (.lit (.int 2))) env s = .ok (.v (.p (.int ((tri q : Nat) : Int)))) s := by
  have h1 := bin_mul (q : Int) ((q : Int) + 1) s (.inl (small_nat q hq))
  have h2 := bin_fdiv ((q : Int) * ((q : Int) + 1)) 2 s (by omega) (by omega)
  rw [triI] at h2
  exact binE (binE hx (binE hx (litE ..) (bin_add ..)) h1) (litE ..) h2
theorem addE {C : Nat → List MV → Sto → Res EV} (x y : MX) (m n : Nat) (env : Env) (s : Sto) (hx : evE P C x env s = .ok (.v (.p (.int (m : Int)))) s) (hy : evE P C y env s = .ok (.v (.p (.int (n : Int)))) s) : evE P C (.bin .add x y) env s = .ok (.v (.p (.int ((m + n : Nat) : Int)))) s := by
  exact binE hx hy (by rw [bin_add]; rfl)
theorem pair_code_ok (m n k : Nat) (h : m + n ≤ 4611686018427387904) (hk : 1 ≤ k) : Gives P k 10 [.p (.int (m : Int)), .p (.int (n : Int))] (.v (.p (.int ((pc m n : Nat) : Int)))) := by
  obtain ⟨k, rfl⟩ := ge1 hk
  refine gives (d := ⟨2, 2, b10⟩) rfl rfl rfl ?_
  let env : Env := [some (.p (.int (m : Int))), some (.p (.int (n : Int)))]
  have h1 : evE P (callM P k) (.var 0) env [] = .ok (.v (.p (.int (m : Int)))) [] := by simp [env]
  have h2 : evE P (callM P k) (.var 1) env [] = .ok (.v (.p (.int (n : Int)))) [] := by simp [env]
  have h3 := triE (.bin .add (.var 0) (.var 1)) (m + n) h env [] (addE _ _ m n env [] h1 h2)
  have h4 := addE _ _ _ _ env [] h3 h2
  show isoFin (evSs P (callM P k) b10 env []) = _
  simp only [b10, Ss_cons, Ss_nil, S_ret]
  rw [h4]
  rfl
theorem subE {C : Nat → List MV → Sto → Res EV} (x y : MX) (m n : Int) (env : Env) (s : Sto) (hx : evE P C x env s = .ok (.v (.p (.int m))) s) (hy : evE P C y env s = .ok (.v (.p (.int n))) s) : evE P C (.bin .sub x y) env s = .ok (.v (.p (.int (m - n)))) s := by
  exact binE hx hy (bin_sub ..)
def stp (n j : Nat) : Nat := if j ≤ n then 2 ^ (n - j) else 0
def tot (c n : Nat) : Nat → Nat
  | 0 => 0
  | j + 1 => if tri (tot c n j + stp n j) ≤ c then tot c n j + stp n j else tot c n j
theorem tot_inv (c n : Nat) (hc : c < tri (2 ^ n)) : ∀ j, j ≤ n + 1 → tri (tot c n j) ≤ c ∧ c < tri (tot c n j + 2 ^ (n + 1 - j)) := by
  intro j
  induction j with
  | zero =>
    intro _
    refine ⟨Nat.zero_le _, Nat.lt_of_lt_of_le hc (tri_mono ?_)⟩
    simp only [tot, Nat.zero_add, Nat.sub_zero]
    exact Nat.pow_le_pow_right (by decide) (by omega)
  | succ j ih =>
    intro hj
    obtain ⟨h1, h2⟩ := ih (by omega)
    have e : 2 ^ (n + 1 - j) = 2 ^ (n - j) + 2 ^ (n - j) := by
      have : n + 1 - j = (n - j) + 1 := by omega
      rw [this, Nat.pow_succ]; omega
    have e2 : n + 1 - (j + 1) = n - j := by omega
    have e3 : stp n j = 2 ^ (n - j) := if_pos (by omega)
    rw [e] at h2
    rw [e2]
    simp only [tot, e3]
    split
    · rename_i h
      refine ⟨h, ?_⟩
      rw [Nat.add_assoc]; exact h2
    · rename_i h
      exact ⟨h1, by omega⟩
theorem lg_ex (c : Nat) : ∀ N, c < tri (2 ^ N) → ∃ n, n ≤ N ∧ (∀ i, i < n → tri (2 ^ i) ≤ c) ∧ c < tri (2 ^ n) := by
  intro N
  induction N with
  | zero => intro h; exact ⟨0, Nat.le_refl _, fun i h => by omega, h⟩
  | succ N ih =>
    intro h
    by_cases h2 : c < tri (2 ^ N)
    · obtain ⟨n, h3, h4⟩ := ih h2
      exact ⟨n, by omega, h4⟩
    · refine ⟨N + 1, Nat.le_refl _, fun i hi => ?_, h⟩
      have := tri_mono (Nat.pow_le_pow_right (n := 2) (by decide) (show i ≤ N by omega))
      omega
theorem augm_mul {C : Nat → List MV → Sto → Res EV} {i : Nat} {e : MX} {env : Env} {s : Sto} {a b : Int} (h0 : env[i]? = some (some (.p (.int a)))) (hx : evE P C e env s = .ok (.v (.p (.int b))) s) (hs : small a = true) : evS P C (.augm i true e) env s = .ok .nx (env.set i (some (.p (.int (a * b))))) s := by
  rw [S_augm, h0]
  show RS.bindE (evE P C e env s) env _ = _
  rw [hx]
  exact if_pos (by rw [hs]; rfl)
theorem p60 : 2 ^ 60 = 1152921504606846976 := by decide
theorem pair_of_ok (c k : Nat) (hc : c < 1152921504606846976) (hk : 1 ≤ k) : ∃ m n, pc m n = c ∧ Gives P k 11 [.p (.int (c : Int))] (.v (.p (.tup [.int (m : Int), .int (n : Int)]))) := by
  obtain ⟨k, rfl⟩ := ge1 hk
  obtain ⟨n, hn, hn1, hn2⟩ := lg_ex c 60 (Nat.lt_of_lt_of_le (by rw [p60]; exact hc) (tri_ge _))
  have hinv := tot_inv c n hn2
  obtain ⟨hA, hB⟩ := hinv (n + 1) (Nat.le_refl _)
  have e0 : 2 ^ (n + 1 - (n + 1)) = 1 := by rw [Nat.sub_self]
  rw [e0] at hB
  simp only [tri] at hB
  refine ⟨tot c n (n + 1) - (c - tri (tot c n (n + 1))), c - tri (tot c n (n + 1)), ?_, ?_⟩
  · unfold pc
    rw [Nat.sub_add_cancel (by omega)]
    omega
  refine gives (d := ⟨4, 1, b11⟩) rfl rfl rfl ?_
  let E1 : Nat → Env := fun i => [some (.p (.int (c : Int))), none, some (.p (.int 0)), some (.p (.int ((2 ^ i : Nat) : Int)))]
  let E2 : Nat → Env := fun j => [some (.p (.int (c : Int))), none, some (.p (.int ((tot c n j : Nat) : Int))), some (.p (.int ((stp n j : Nat) : Int)))]
  have hp : ∀ i, i ≤ n → 2 ^ i ≤ 1152921504606846976 := fun i hi => by rw [← p60]; exact Nat.pow_le_pow_right (by decide) (by omega)
  have hcond : ∀ i, i ≤ n → evE P (callM P k) (.cmp .le (.bin .fdiv (.bin .mul (.var 3) (.bin .add (.var 3) (.lit (.int 1)))) (.lit (.int 2))) (.var 0)) (E1 i) [] = .ok (.v (.p (.bl (decide (tri (2 ^ i) ≤ c))))) [] := by
    intro i hi
    have h1 := triE (C := callM P k) (.var 3) (2 ^ i) (by have := hp i hi; omega) (E1 i) [] rfl
    rw [E_cmp, h1]
    have h2 : decide (((tri (2 ^ i) : Nat) : Int) ≤ (c : Int)) = decide (tri (2 ^ i) ≤ c) := by simp only [decide_eq_decide]; omega
    simp only [Mev.bind_ok, E_var, E1, List.getElem?_cons_zero, cmp_le, bl_eq, h2]
  refine fin_nx (e1 := E1 0) (s1 := []) (by simp [lim, E1]) ?_
  refine fin_nx (wh_count (e := E1) n (by omega) ?_ ?_ ?_) ?_
  · intro i hi
    rw [hcond i (by omega)]
    have := hn1 i hi
    simp [this]
  · rw [hcond n (Nat.le_refl _)]
    have : ¬ tri (2 ^ n) ≤ c := by omega
    simp [this]
  · intro i hi
    have h1 : small ((2 ^ i : Nat) : Int) = true := small_nat _ (by have := hp i (by omega); omega)
    have e : ((2 ^ i : Nat) : Int) * 2 = ((2 ^ (i + 1) : Nat) : Int) := by rw [Nat.pow_succ]; omega
    have h2 := augm_mul (C := callM P k) (i := 3) (e := .lit (.int 2)) (env := E1 i) (s := []) (b := 2) rfl (litE ..) h1
    rw [e] at h2
    rw [Ss_cons, h2, seq_nx, Ss_nil]
    rfl
  have e12 : E1 n = E2 0 := by simp [E1, E2, tot, stp]
  rw [e12]
  refine fin_nx (wh_count (e := E2) (n + 1) (by omega) ?_ ?_ ?_) ?_
  · intro j hj
    have h1 : stp n j = 2 ^ (n - j) := if_pos (by omega)
    have h0 : 0 < 2 ^ (n - j) := Nat.pos_of_neZero _
    have h2 : 0 < stp n j := by rw [h1]; exact h0
    simp [E2, h2]
  · have h2 : stp n (n + 1) = 0 := if_neg (by omega)
    simp [E2, h2]
  · intro j hj
    have hv := hinv j (by omega)
    have ht : tot c n j ≤ c := Nat.le_trans (tri_ge _) hv.1
    have hs1 : stp n j = 2 ^ (n - j) := if_pos (by omega)
    have hs2 : 2 ^ (n - j) ≤ 1152921504606846976 := hp _ (by omega)
    have h1 := triE (C := callM P k) (.bin .add (.var 2) (.var 3)) (tot c n j + stp n j) (by omega) (E2 j) [] (addE _ _ _ _ _ _ rfl rfl)
    have hd2 : ((stp n j : Nat) : Int) / 2 = ((stp n (j + 1) : Nat) : Int) := by
      rw [hs1]
      by_cases e : j = n
      · subst e
        have : stp j (j + 1) = 0 := if_neg (by omega)
        rw [this, Nat.sub_self]; rfl
      · have h3 : stp n (j + 1) = 2 ^ (n - (j + 1)) := if_pos (by omega)
        have h4 : n - j = (n - (j + 1)) + 1 := by omega
        rw [h3, h4, Nat.pow_succ]; omega
    have h5 : decide (((tri (tot c n j + stp n j) : Nat) : Int) ≤ (c : Int)) = decide (tri (tot c n j + stp n j) ≤ c) := by simp only [decide_eq_decide]; omega
    have h6 : (0 : Int) < 2 ∧ (2 : Int) < 1073741824 := ⟨by omega, by omega⟩
    have hc0 : evE P (callM P k) (.cmp .le (.bin .fdiv (.bin .mul (.bin .add (.var 2) (.var 3)) (.bin .add (.bin .add (.var 2) (.var 3)) (.lit (.int 1)))) (.lit (.int 2))) (.var 0)) (E2 j) [] = .ok (.v (.p (.bl (decide (tri (tot c n j + stp n j) ≤ c))))) [] := by
      rw [E_cmp, h1]
      simp only [Mev.bind_ok, E_var, E2, List.getElem?_cons_zero, cmp_le, bl_eq, h5]
    by_cases hq : tri (tot c n j + stp n j) ≤ c
    · have e1 : tot c n (j + 1) = tot c n j + stp n j := by simp only [tot]; exact if_pos hq
      have e2 : ((tot c n j : Nat) : Int) + ((stp n j : Nat) : Int) = ((tot c n (j + 1) : Nat) : Int) := by rw [e1]; omega
      simp only [Ss_cons, Ss_nil, S_iff]
      rw [hc0]
      simp only [hq, decide_true, tst_ok, truth_bl, optR_some, bindE_ok, if_true, S_aug, S_augm, E2, List.getElem?_cons_succ, List.getElem?_cons_zero, E_var, E_lit, evP_eq, List.set_cons_succ, List.set_cons_zero, e2, seq_nx, Bool.false_eq_true, if_false, h6, and_self, hd2]
    · have e1 : tot c n (j + 1) = tot c n j := by simp only [tot]; exact if_neg hq
      simp only [Ss_cons, Ss_nil, S_iff]
      rw [hc0]
      simp only [hq, decide_false, tst_ok, truth_bl, optR_some, bindE_ok, S_augm, E2, List.getElem?_cons_succ, List.getElem?_cons_zero, E_var, E_lit, evP_eq, List.set_cons_succ, List.set_cons_zero, seq_nx, Bool.false_eq_true, if_false, h6, and_self, if_true, hd2, e1]
  · generalize hte : tot c n (n + 1) = t at *
    have ht : t ≤ c := Nat.le_trans (tri_ge _) hA
    have hse : stp n (n + 1) = 0 := if_neg (by omega)
    let env : Env := [some (.p (.int (c : Int))), none, some (.p (.int (t : Int))), some (.p (.int 0))]
    have hE : E2 (n + 1) = env := by simp only [E2, hte, hse, env]; rfl
    rw [hE]
    have h1 := triE (C := callM P k) (.var 2) t (by omega) env [] rfl
    obtain ⟨r, hr⟩ : ∃ r, r = c - tri t := ⟨_, rfl⟩
    have e1 : (c : Int) - ((tri t : Nat) : Int) = (r : Int) := by omega
    have e2 : (t : Int) - (r : Int) = ((t - r : Nat) : Int) := by omega
    refine fin_nx (e1 := [some (.p (.int (c : Int))), some (.p (.int (r : Int))), some (.p (.int (t : Int))), some (.p (.int 0))]) (s1 := []) ?_ ?_
    · have h2 := subE (C := callM P k) (.var 0) _ (c : Int) _ env [] rfl h1
      rw [e1] at h2
      rw [S_asg, h2]
      simp only [env, bindE_ok, hold_v, setT_nm, List.set_cons_succ, List.set_cons_zero]
    · rw [← hr]
      simp [lim, e2]
end K36
end
section
set_option maxRecDepth 20000
namespace K36
open Mn Mev
theorem cmp_ne_nil (b : List (List Nat)) (s : Sto) : cmpop .ne (.v (.p (.tup (b.map .str)))) (.v (.p (.tup []))) s = some (!decide (b = [])) := by
  refine cmp_ne_pp _ _ s (by simp only [noB]; exact noBs_map _ _ fun _ _ => rfl) rfl (.inr (by decide)) _ ?_
  simp
theorem law_term_ok : ∀ (deep : Nat) (B fr : List (List Nat)) (s : Sto) (a d k : Nat), Dr s a d → 1 ≤ deep → B.length + deep ≤ 100 → fr.length ≤ 100 → deep + 1 ≤ k →
    ∃ t s', dp t ≤ deep ∧ callM P k 22 [.r d, .p (.int deep), .p (encN B), .p (encN fr)] s = .ok (.v (.p (enc t))) s' ∧ Dr s' a d ∧ Keeps s s' d := by
  intro deep
  induction deep with
  | zero => intro B fr s a d k _ h; omega
  | succ deep ih =>
    intro B fr s a d k hd _ hB hfr hk
    obtain ⟨k, rfl⟩ := ge1 (n := deep + 1) hk
    obtain ⟨k, rfl⟩ := ge1 (n := deep) (k := k) (by omega)
    -- the kind
    have hkind : ∃ r s1, (deep = 0 → r = 0) ∧ evE P (callM P (k + 1)) (.ite (.cmp .gt (.var 1) (.lit (.int 1))) (.call 21 (.cons (.var 0) (.cons (.lit (.int 5)) .nil))) (.lit (.int 0))) [some (.r d), some (.p (.int ((deep + 1 : Nat) : Int))), some (.p (encN B)), some (.p (encN fr)), none, none, none, none] s = .ok (.v (.p (.int ((r : Nat) : Int)))) s1 ∧ Dr s1 a d ∧ Keeps s s1 d := by
      by_cases h0 : deep = 0
      · subst h0
        exact ⟨0, s, fun _ => rfl, by simp, hd, Keeps.refl ..⟩
      · obtain ⟨r, s1, _, h1, h2, h3⟩ := take_ok (P := P) (f := 21) rfl hd 5 k (by decide) (by decide)
        refine ⟨r, s1, fun h => absurd h h0, ?_, h2, h3⟩
        have hgt : (1 : Int) < ((deep + 1 : Nat) : Int) := by omega
        have h1' : doCall (callM P (k + 1)) 21 [.r d, .p (.int 5)] s = .ok (.v (.p (.int (r : Int)))) s1 := by rw [doCall_ref rfl]; exact h1
        simp only [E_ite, E_cmp, E_var, E_lit, E_call, L_cons, L_nil, List.getElem?_cons_succ, List.getElem?_cons_zero, Mev.bind_ok, evP_eq, cmp_gt, hgt, decide_true, bl_eq, tst_ok, truth_bl, optR_some, if_true, holdAll_cons, holdAll_nil, hold_v, h1']
    obtain ⟨r, s1, hr0, h1, hd1, hk1⟩ := hkind
    -- the names
    obtain ⟨nm, hnm0, hnl, h2⟩ : ∃ nm : List (List Nat), 0 < nm.length ∧ nm.length < 1000 ∧ evE P (callM P (k + 1)) (.ite (.cmp .ne (.bin .add (.var 2) (.var 3)) (.tup .nil)) (.bin .add (.bin .add (.var 2) (.var 2)) (.var 3)) (.tup (.cons (.lit (.str [120])) .nil))) [some (.r d), some (.p (.int ((deep + 1 : Nat) : Int))), some (.p (encN B)), some (.p (encN fr)), some (.p (.int (r : Int))), none, none, none] s1 = .ok (.v (.p (encN nm))) s1 := by
      have a1 := bin_tt (B.map .str) (fr.map .str) s1 (by simp; omega)
      have a2 := bin_tt (B.map .str) (B.map .str) s1 (by simp; omega)
      have a3 := bin_tt (B.map .str ++ B.map .str) (fr.map .str) s1 (by simp; omega)
      have a4 := cmp_ne_nil (B ++ fr) s1
      rw [List.map_append] at a4
      by_cases hc : B ++ fr = []
      · refine ⟨[[120]], by simp, by simp, ?_⟩
        simp only [E_ite, E_cmp, E_bin, E_var, E_lit, E_tup, L_cons, L_nil, List.getElem?_cons_succ, List.getElem?_cons_zero, Mev.bind_ok, evP_eq, encN, a1, holdAll_nil, List.length_nil, Nat.zero_le, if_true, mkTup_nil, a4, hc, decide_true, Bool.not_true, bl_eq, tst_ok, truth_bl, optR_some, Bool.false_eq_true, if_false, holdAll_cons, hold_v, lim, List.length_cons, mkTup_1, List.map_cons, List.map_nil]
        simp
      · refine ⟨B ++ B ++ fr, ?_, by simp; omega, ?_⟩
        · rw [List.length_append, List.length_append]
          have : 0 < (B ++ fr).length := List.length_pos_iff.2 hc
          rw [List.length_append] at this; omega
        · simp only [E_ite, E_cmp, E_bin, E_var, E_lit, E_tup, L_cons, L_nil, List.getElem?_cons_succ, List.getElem?_cons_zero, Mev.bind_ok, evP_eq, encN, a1, holdAll_nil, List.length_nil, Nat.zero_le, if_true, mkTup_nil, a4, hc, decide_false, Bool.not_false, bl_eq, tst_ok, truth_bl, optR_some, a2, a3, List.map_append]
    by_cases hr : r = 0
    · -- a name
      subst hr
      obtain ⟨j, s2, hj, h3, hd2, hk2⟩ := take_ok (P := P) (f := 21) rfl hd1 nm.length k hnm0 (by omega)
      have h3' : doCall (callM P (k + 1)) 21 [.r d, .p (.int nm.length)] s1 = .ok (.v (.p (.int (j : Int)))) s2 := by rw [doCall_ref rfl]; exact h3
      have h4 := ix_encN nm j s2 hj
      have h5 : biF .len [.v (.p (encN nm))] s1 = .ok (.v (.p (.int nm.length))) s1 := by
        have := bi_len_t (nm.map .str) s1
        rw [List.length_map] at this; exact this
      refine ⟨.nm (nm.getD j []), s2, by simp [dp], ?_, hd2, hk1.trans hk2⟩
      refine runs (d := ⟨8, 4, b22⟩) (e := [some (.r d), some (.p (.int ((deep + 1 : Nat) : Int))), some (.p (encN B)), some (.p (encN fr)), some (.p (.int (0 : Nat))), some (.p (encN nm)), none, none]) rfl rfl ?_
      refine ss_nx (e1 := [some (.r d), some (.p (.int ((deep + 1 : Nat) : Int))), some (.p (encN B)), some (.p (encN fr)), some (.p (.int (0 : Nat))), none, none, none]) (s1 := s1) (by rw [S_asg]; exact (congrArg (fun z => RS.bindE z _ _) h1).trans rfl) ?_
      refine ss_nx (e1 := [some (.r d), some (.p (.int ((deep + 1 : Nat) : Int))), some (.p (encN B)), some (.p (encN fr)), some (.p (.int (0 : Nat))), some (.p (encN nm)), none, none]) (s1 := s1) (by rw [S_asg, h2]; simp) ?_
      simp [h5, h3', h4, lim, enc, sNm]
    · have hdp : 1 ≤ deep := by
        rcases Nat.eq_zero_or_pos deep with h | h
        · exact absurd (hr0 h) hr
        · exact h
      have hsub : (((deep + 1 : Nat) : Int) - 1) = (deep : Int) := by omega
      have hne : ¬ ((r : Int) = 0) := by omega
      by_cases hr3 : r < 3
      · -- a function
        obtain ⟨j, s2, hj, h3, hd2, hk2⟩ := take_ok (P := P) (f := 21) rfl hd1 4 k (by decide) (by decide)
        have h3' : doCall (callM P (k + 1)) 21 [.r d, .p (.int 4)] s1 = .ok (.v (.p (.int (j : Int)))) s2 := by rw [doCall_ref rfl]; exact h3
        obtain ⟨x, h4⟩ : ∃ x, ([MV.p (.str [97]), .p (.str [98]), .p (.str [120]), .p (.str [121])])[j]? = some (.p (.str x)) := by
          match j, hj with
          | 0, _ => exact ⟨_, rfl⟩
          | 1, _ => exact ⟨_, rfl⟩
          | 2, _ => exact ⟨_, rfl⟩
          | 3, _ => exact ⟨_, rfl⟩
          | n + 4, h => omega
        have h5 := ix_lit s2 h4
        obtain ⟨t, s3, ht, h6, hd3, hk3⟩ := ih (x :: B) fr s2 a d (k + 1) hd2 hdp (by simp; omega) hfr (by omega)
        have h6' : doCall (callM P (k + 1)) 22 [.r d, .p (.int (deep : Int)), .p (encN (x :: B)), .p (encN fr)] s2 = .ok (.v (.p (enc t))) s3 := by rw [doCall_ref rfl]; exact h6
        have h7 := bin_tt [.str x] (B.map .str) s2 (by simp; omega)
        have h8 : encN (x :: B) = .tup ([.str x] ++ B.map .str) := by simp [encN]
        rw [h8] at h6'
        refine ⟨.to x t, s3, by simp only [dp]; omega, ?_, hd3, (hk1.trans hk2).trans hk3⟩
        refine runs (d := ⟨8, 4, b22⟩) (e := [some (.r d), some (.p (.int ((deep + 1 : Nat) : Int))), some (.p (encN B)), some (.p (encN fr)), some (.p (.int (r : Int))), some (.p (encN nm)), none, some (.p (.str x))]) rfl rfl ?_
        refine ss_nx (e1 := [some (.r d), some (.p (.int ((deep + 1 : Nat) : Int))), some (.p (encN B)), some (.p (encN fr)), some (.p (.int (r : Int))), none, none, none]) (s1 := s1) (by rw [S_asg]; exact (congrArg (fun z => RS.bindE z _ _) h1).trans rfl) ?_
        refine ss_nx (e1 := [some (.r d), some (.p (.int ((deep + 1 : Nat) : Int))), some (.p (encN B)), some (.p (encN fr)), some (.p (.int (r : Int))), some (.p (encN nm)), none, none]) (s1 := s1) (by rw [S_asg, h2]; simp) ?_
        have hlt : (r : Int) < 3 := by omega
        refine ss_nx (e1 := [some (.r d), some (.p (.int ((deep + 1 : Nat) : Int))), some (.p (encN B)), some (.p (encN fr)), some (.p (.int (r : Int))), some (.p (encN nm)), none, none]) (s1 := s1) (by simp [hr]) ?_
        have hi : evS P (callM P (k + 1)) (.iff (.cmp .lt (.var 4) (.lit (.int 3))) (.cons (.asg (.nm 7) (.ix (.lst (.cons (.lit (.str [97])) (.cons (.lit (.str [98])) (.cons (.lit (.str [120])) (.cons (.lit (.str [121])) .nil))))) (.call 21 (.cons (.var 0) (.cons (.lit (.int 4)) .nil)))))
  (.cons (.ret (.tup (.cons (.lit (.str [116, 111])) (.cons (.var 7) (.cons (.call 22 (.cons (.var 0) (.cons (.bin .sub (.var 1) (.lit (.int 1))) (.cons (.bin .add (.tup (.cons (.var 7) .nil)) (.var 2)) (.cons (.var 3) .nil))))) .nil)))))
  .nil)) .nil) [some (.r d), some (.p (.int ((deep + 1 : Nat) : Int))), some (.p (encN B)), some (.p (encN fr)), some (.p (.int (r : Int))), some (.p (encN nm)), none, none] s1 = .ok (.rt (.v (.p (enc (.to x t))))) [some (.r d), some (.p (.int ((deep + 1 : Nat) : Int))), some (.p (encN B)), some (.p (encN fr)), some (.p (.int (r : Int))), some (.p (encN nm)), none, some (.p (.str x))] s3 := by
          rw [S_iff]
          simp only [E_cmp, E_var, E_lit, List.getElem?_cons_succ, List.getElem?_cons_zero, Mev.bind_ok, evP_eq, cmp_lt, hlt, decide_true, bl_eq, tst_ok, truth_bl, optR_some, bindE_ok, if_true]
          refine ss_nx (e1 := [some (.r d), some (.p (.int ((deep + 1 : Nat) : Int))), some (.p (encN B)), some (.p (encN fr)), some (.p (.int (r : Int))), some (.p (encN nm)), none, some (.p (.str x))]) (s1 := s2) ?_ ?_
          · simp only [S_asg, E_ix, E_lst, E_lit, E_call, E_var, L_cons, L_nil, List.getElem?_cons_succ, List.getElem?_cons_zero, Mev.bind_ok, evP_eq, holdAll_cons, holdAll_nil, hold_v, List.length_cons, List.length_nil, lim, Nat.reduceAdd, Nat.reduceLeDiff, if_true, h3', h5, optR_some, bindE_ok, setT_nm]
            rfl
          · simp only [encN] at h7 h6' ⊢
            simp only [Ss_cons, Ss_nil, S_ret, E_tup, E_lit, E_call, E_var, E_bin, L_cons, L_nil, List.getElem?_cons_succ, List.getElem?_cons_zero, Mev.bind_ok, evP_eq, bin_sub, hsub, holdAll_cons, holdAll_nil, hold_v, List.length_cons, List.length_nil, lim, Nat.reduceAdd, Nat.reduceLeDiff, if_true, mkTup_1, h7, h6', mkTup_3, bindE_ok, seq_rt, enc, sTo]
        simp only [Ss_cons, hi, seq_rt]
      · -- one put to the other
        obtain ⟨t1, s2, ht1, h3, hd2, hk2⟩ := ih B fr s1 a d (k + 1) hd1 hdp (by omega) hfr (by omega)
        obtain ⟨t2, s3, ht2, h4, hd3, hk3⟩ := ih B fr s2 a d (k + 1) hd2 hdp (by omega) hfr (by omega)
        have h3' : doCall (callM P (k + 1)) 22 [.r d, .p (.int (deep : Int)), .p (encN B), .p (encN fr)] s1 = .ok (.v (.p (enc t1))) s2 := by rw [doCall_ref rfl]; exact h3
        have h4' : doCall (callM P (k + 1)) 22 [.r d, .p (.int (deep : Int)), .p (encN B), .p (encN fr)] s2 = .ok (.v (.p (enc t2))) s3 := by rw [doCall_ref rfl]; exact h4
        refine ⟨.of t1 t2, s3, by simp only [dp]; omega, ?_, hd3, (hk1.trans hk2).trans hk3⟩
        refine runs (d := ⟨8, 4, b22⟩) (e := [some (.r d), some (.p (.int ((deep + 1 : Nat) : Int))), some (.p (encN B)), some (.p (encN fr)), some (.p (.int (r : Int))), some (.p (encN nm)), some (.p (enc t1)), none]) rfl rfl ?_
        refine ss_nx (e1 := [some (.r d), some (.p (.int ((deep + 1 : Nat) : Int))), some (.p (encN B)), some (.p (encN fr)), some (.p (.int (r : Int))), none, none, none]) (s1 := s1) (by rw [S_asg]; exact (congrArg (fun z => RS.bindE z _ _) h1).trans rfl) ?_
        refine ss_nx (e1 := [some (.r d), some (.p (.int ((deep + 1 : Nat) : Int))), some (.p (encN B)), some (.p (encN fr)), some (.p (.int (r : Int))), some (.p (encN nm)), none, none]) (s1 := s1) (by rw [S_asg, h2]; simp) ?_
        have hlt : ¬ ((r : Int) < 3) := by omega
        refine ss_nx (e1 := [some (.r d), some (.p (.int ((deep + 1 : Nat) : Int))), some (.p (encN B)), some (.p (encN fr)), some (.p (.int (r : Int))), some (.p (encN nm)), none, none]) (s1 := s1) (by simp [hr]) ?_
        refine ss_nx (e1 := [some (.r d), some (.p (.int ((deep + 1 : Nat) : Int))), some (.p (encN B)), some (.p (encN fr)), some (.p (.int (r : Int))), some (.p (encN nm)), none, none]) (s1 := s1) (by simp [hlt]) ?_
        simp only [Ss_cons, Ss_nil, S_asg, S_ret, E_tup, E_lit, E_call, E_var, E_bin, L_cons, L_nil, List.getElem?_cons_succ, List.getElem?_cons_zero, Mev.bind_ok, evP_eq, bin_sub, hsub, holdAll_cons, holdAll_nil, hold_v, List.length_cons, List.length_nil, lim, Nat.reduceAdd, Nat.reduceLeDiff, if_true, h3', bindE_ok, setT_nm, List.set_cons_succ, List.set_cons_zero, seq_nx, h4', mkTup_3, seq_rt, enc, sOf]
end K36
end
section
set_option maxRecDepth 20000
namespace K36
open Mn Mev
/-- no free names -/
def Nf : Fm → Prop
  | .nm _ => False
  | .up _ => True
  | .to b => Nf b
  | .of a b => Nf a ∧ Nf b
def codeF : Fm → Nat
  | .nm _ => 0
  | .up i => 3 * i
  | .to b => 3 * codeF b + 1
  | .of a b => 3 * pc (codeF a) (codeF b) + 2
theorem codeF_inj : ∀ (F G : Fm), Nf F → Nf G → codeF F = codeF G → F = G := by
  intro F
  induction F with
  | nm x => intro G h; cases h
  | up i =>
    intro G _ hg h
    cases G with
    | nm x => cases hg
    | up j => simp only [codeF] at h; have : i = j := by omega
              rw [this]
    | to b => simp only [codeF] at h; omega
    | of a b => simp only [codeF] at h; omega
  | to b ih =>
    intro G hf hg h
    cases G with
    | nm x => cases hg
    | up j => simp only [codeF] at h; omega
    | to c => simp only [codeF] at h; rw [ih c hf hg (by omega)]
    | of a b => simp only [codeF] at h; omega
  | of a b iha ihb =>
    intro G hf hg h
    cases G with
    | nm x => cases hg
    | up j => simp only [codeF] at h; omega
    | to c => simp only [codeF] at h; omega
    | of c e =>
      simp only [codeF] at h
      have hp := pc_inj (m := codeF a) (n := codeF b) (p := codeF c) (q := codeF e) (by omega)
      rw [iha c hf.1 hg.1 hp.1, ihb e hf.2 hg.2 hp.2]
theorem mul3 (x : Nat) (s : Sto) : binop .mul (.v (.p (.int 3))) (.v (.p (.int (x : Int)))) s = .ok (.v (.p (.int ((3 * x : Nat) : Int)))) s := by
  rw [bin_mul 3 (x : Int) s (.inl (small_nat 3 (by omega)))]
  rfl
theorem addn (x n : Nat) (s : Sto) : binop .add (.v (.p (.int (x : Int)))) (.v (.p (.int (n : Int)))) s = .ok (.v (.p (.int ((x + n : Nat) : Int)))) s := rfl
theorem varE {C : Nat → List MV → Sto → Res EV} {i : Nat} {m : MV} {env : Env} {s : Sto} (h : env[i]? = some (some m)) : evE P C (.var i) env s = .ok (.v m) s := by rw [E_var, h]
theorem iteT {C : Nat → List MV → Sto → Res EV} {c a b : MX} {env : Env} {s s1 : Sto} {r : Res EV} (hc : evE P C c env s = .ok (.v (.p (.bl true))) s1) (ha : evE P C a env s1 = r) : evE P C (.ite c a b) env s = r := by
  rw [E_ite, hc, tst_ok, truth_bl, optR_some, Mev.bind_ok, if_pos rfl]; exact ha
theorem iteF {C : Nat → List MV → Sto → Res EV} {c a b : MX} {env : Env} {s s1 : Sto} {r : Res EV} (hc : evE P C c env s = .ok (.v (.p (.bl false))) s1) (ha : evE P C b env s1 = r) : evE P C (.ite c a b) env s = r := by
  rw [E_ite, hc, tst_ok, truth_bl, optR_some, Mev.bind_ok, if_neg (by decide)]; exact ha
theorem code_of_ok : ∀ (F : Fm) (k : Nat), Nf F → codeF F ≤ 1152921504606846976 → fd F + 1 ≤ k → Gives P k 12 [.p (encF F)] (.v (.p (.int ((codeF F : Nat) : Int)))) := by
  intro F
  induction F with
  | nm x => intro k h; cases h
  | up i =>
    intro k _ _ hk
    obtain ⟨k, rfl⟩ := ge1 (n := 0) (k := k) (by simp [fd] at hk; omega)
    refine gives (d := ⟨1, 1, b12⟩) rfl rfl rfl ?_
    have h1 := mul3 i []
    simp [b12, encF, sUp, h1, codeF]
  | to b ih =>
    intro k hf hc hk
    simp only [fd, codeF] at hk hc
    obtain ⟨k, rfl⟩ := ge1 (n := fd b + 1) (k := k) hk
    have h1 := ih k hf (by omega) (by omega) []
    have h2 := mul3 (codeF b) []
    refine gives (d := ⟨1, 1, b12⟩) rfl rfl rfl ?_
    simp [b12, encF, sTo, h1, h2, codeF]
  | of a b iha ihb =>
    intro k hf hc hk
    simp only [fd, codeF] at hk hc
    obtain ⟨k, rfl⟩ := ge1 (n := max (fd a) (fd b) + 1) (k := k) hk
    have hp := pc_ge (codeF a) (codeF b)
    have h1 := iha k hf.1 (by omega) (by omega) []
    have h2 := ihb k hf.2 (by omega) (by omega) []
    have h3 := pair_code_ok (codeF a) (codeF b) k (by omega) (by omega) []
    have h4 := mul3 (pc (codeF a) (codeF b)) []
    refine gives (d := ⟨1, 1, b12⟩) rfl rfl rfl ?_
    simp [b12, encF, sOf, h1, h2, h3, h4, codeF]
theorem form_of_ok : ∀ (d c k : Nat), c < 3 ^ d → c < 1152921504606846976 → d + 2 ≤ k → ∃ F, Nf F ∧ codeF F = c ∧ fd F ≤ d + 1 ∧ Gives P k 13 [.p (.int (c : Int))] (.v (.p (encF F))) := by
  intro d
  induction d with
  | zero =>
    intro c k h1 h2 hk
    have : c = 0 := by simpa using h1
    subst this
    obtain ⟨k, rfl⟩ := ge1 (n := 1) (k := k) hk
    refine ⟨.up 0, trivial, rfl, Nat.le_refl _, gives (d := ⟨5, 1, b13⟩) rfl rfl rfl ?_⟩
    have e1 := bin_mod 0 3 [] (by omega)
    have e2 := bin_fdiv 0 3 [] (by omega) (by omega)
    simp at e1 e2
    simp [b13, e1, e2, lim, encF, sUp]
  | succ d ih =>
    intro c k hc1 hc2 hk
    obtain ⟨k, rfl⟩ := ge1 (n := d + 2) (k := k) hk
    rw [Nat.pow_succ] at hc1
    obtain ⟨q, hq⟩ : ∃ q, q = c / 3 := ⟨_, rfl⟩
    obtain ⟨r, hr⟩ : ∃ r, r = c % 3 := ⟨_, rfl⟩
    have e1 : binop .mod (.v (.p (.int (c : Int)))) (.v (.p (.int 3))) [] = .ok (.v (.p (.int (r : Int)))) [] := by
      rw [bin_mod _ _ _ (by omega)]
      have : (c : Int) % 3 = (r : Int) := by omega
      rw [this]
    have e2 : binop .fdiv (.v (.p (.int (c : Int)))) (.v (.p (.int 3))) [] = .ok (.v (.p (.int (q : Int)))) [] := by
      rw [bin_fdiv _ _ _ (by omega) (by omega)]
      have : (c : Int) / 3 = (q : Int) := by omega
      rw [this]
    have hr3 : r = 0 ∨ r = 1 ∨ r = 2 := by omega
    rcases hr3 with h | h | h
    · subst h
      refine ⟨.up q, trivial, by simp only [codeF]; omega, by simp [fd], gives (d := ⟨5, 1, b13⟩) rfl rfl rfl ?_⟩
      simp [b13, e1, e2, lim, encF, sUp]
    · subst h
      obtain ⟨F, g1, g2, g3, g4⟩ := ih q k (by omega) (by omega) (by omega)
      have g5 := g4 []
      refine ⟨.to F, g1, by simp only [codeF]; omega, by simp only [fd]; omega, gives (d := ⟨5, 1, b13⟩) rfl rfl rfl ?_⟩
      simp [b13, e1, e2, lim, encF, sTo, g5]
    · subst h
      obtain ⟨m, n, p1, p2⟩ := pair_of_ok q k (by omega) (by omega)
      have p3 := pc_ge m n
      obtain ⟨F, g1, g2, g3, g4⟩ := ih m k (by omega) (by omega) (by omega)
      obtain ⟨G, f1, f2, f3, f4⟩ := ih n k (by omega) (by omega) (by omega)
      have p4 := p2 []
      have g5 := g4 []
      have f5 := f4 []
      refine ⟨.of F G, ⟨g1, f1⟩, by simp only [codeF, g2, f2, p1]; omega, by simp only [fd]; omega, gives (d := ⟨5, 1, b13⟩) rfl rfl rfl ?_⟩
      simp [b13, e1, e2, lim, encF, sOf, p4, g5, f5]
theorem sum_tri (n : Nat) : ((List.range (n + 1)).map fun i : Nat => (i : Int)).sum = ((tri n : Nat) : Int) := by
  induction n with
  | zero => rfl
  | succ n ih =>
    rw [List.range_succ, List.map_append, List.sum_append, ih]
    simp only [List.map_cons, List.map_nil, List.sum_cons, List.sum_nil, tri]
    omega
theorem sumE {C : Nat → List MV → Sto → Res EV} (x : MX) (q : Nat) (hq : q < 5000) (env : Env) (s : Sto) (he : (wipeE env [3]).length = 4) (hx : evE P C x env s = .ok (.v (.p (.int ((q + 1 : Nat) : Int)))) s) : evE P C (.bi .sum (.cons (.lc (.var 3) (.nm 3) (.rng (.cons x .nil)) .nil [3]) .nil)) env s = .ok (.v (.p (.int ((tri q : Nat) : Int)))) s := by
  have hI : evI P C (.rng (.cons x .nil)) env s = .ok (.rg 0 1 (q + 1)) s := by
    have h1 : rngOf [.v (.p (.int ((q + 1 : Nat) : Int)))] = some (.rg 0 1 (q + 1)) := by
      have e : (2 : Int) ^ 62 = 4611686018427387904 := by decide
      unfold rngOf
      rw [e]
      exact if_pos (by omega)
    rw [evI, L_cons, hx, Mev.bind_ok, L_nil, Mev.bind_ok, Mev.bind_ok, h1]
    exact optR_some ..
  have h2 := lcGo_gen (f := turnE (wipeE env [3]) (.nm 3) (fun e1 s1 => evC P C .nil e1 s1) (fun e1 s1 => (evE P C (.var 3) e1 s1).bind fun r s2 => .ok [(hold r s2).1] (hold r s2).2)) (q := fun i : Nat => MV.p (.int i)) (g := fun i => [MV.p (.int (i : Int))]) (s := s) (src := .rg 0 1 (q + 1)) (List.range (q + 1)) (by
      intro i
      simp only [itm]
      by_cases hi : i < q + 1
      · rw [if_pos hi, List.getElem?_range hi]; simp
      · rw [if_neg hi, List.getElem?_eq_none (by simp; omega)]; rfl) (by
      intro i hi
      have h3 : ((wipeE env [3]).set 3 (some (.p (.int (i : Int)))))[3]? = some (some (.p (.int (i : Int)))) := by simp [he]
      simp [turnE, h3]) wfuel 0 (by simp only [wfuel]; simp; omega)
  have e3 : ((List.range (q + 1)).drop 0).flatMap (fun i : Nat => [MV.p (.int (i : Int))]) = (((List.range (q + 1)).map fun i : Nat => (i : Int)).map fun i => MV.p (.int i)) := by
    rw [List.drop_zero, List.map_map]
    generalize List.range (q + 1) = l
    induction l with
    | nil => rfl
    | cons a r ih => rw [List.flatMap_cons, ih]; rfl
  rw [e3] at h2
  have h4 : evE P C (.lc (.var 3) (.nm 3) (.rng (.cons x .nil)) .nil [3]) env s = .ok (.o (.lst (((List.range (q + 1)).map fun i : Nat => (i : Int)).map fun i => MV.p (.int i)))) s := by
    rw [E_lc, hI]
    simp only [Mev.bind_ok]
    rw [h2]
    simp only [Mev.noX_ok, Mev.bind_ok]
    exact if_pos (by simp [lim]; omega)
  have hall : ∀ l : List Int, allInt (l.map fun x => MV.p (.int x)) = some l := by
    intro l
    induction l with
    | nil => rfl
    | cons a r ih => simp only [List.map_cons, allInt, ih]; rfl
  rw [E_bi, L_cons, h4]
  simp only [Mev.bind_ok, L_nil, biF, lstOf, objOf, hall, sum_tri, evP_eq]
theorem law_code_ok : ∀ (F : Fm) (k : Nat), Nf F → codeF F ≤ 1152921504606846976 → fd F ≤ k → Gives P k 27 [.p (encF F)] (.v (.p (.int ((codeF F : Nat) : Int)))) := by
  intro F
  induction F with
  | nm x => intro k h; cases h
  | up i =>
    intro k _ _ hk
    obtain ⟨k, rfl⟩ := ge1 (n := 0) (k := k) (by simp [fd] at hk; omega)
    refine gives (d := ⟨4, 1, b27⟩) rfl rfl rfl ?_
    have h1 := mul3 i []
    simp [b27, encF, sUp, h1, codeF]
  | to b ih =>
    intro k hf hc hk
    simp only [fd, codeF] at hk hc
    obtain ⟨k, rfl⟩ := ge1 (n := fd b) (k := k) hk
    have h1 := ih k hf (by omega) (by omega) []
    have h2 := mul3 (codeF b) []
    refine gives (d := ⟨4, 1, b27⟩) rfl rfl rfl ?_
    simp [b27, encF, sTo, h1, h2, codeF]
  | of a b iha ihb =>
    intro k hf hc hk
    simp only [fd, codeF] at hk hc
    obtain ⟨k, rfl⟩ := ge1 (n := max (fd a) (fd b)) (k := k) hk
    have hp := pc_ge (codeF a) (codeF b)
    have h1 := iha k hf.1 (by omega) (by omega) []
    have h2 := ihb k hf.2 (by omega) (by omega) []
    refine gives (d := ⟨4, 1, b27⟩) rfl rfl rfl ?_
    obtain ⟨m, hm⟩ : ∃ m, m = codeF a := ⟨_, rfl⟩
    obtain ⟨n, hn⟩ : ∃ n, n = codeF b := ⟨_, rfl⟩
    rw [← hm] at h1
    rw [← hn] at h2
    let env : Env := [some (.p (encF (.of a b))), some (.p (.int (m : Int))), some (.p (.int (n : Int))), none]
    refine fin_nx (e1 := [some (.p (encF (.of a b))), none, none, none]) (s1 := []) (by simp [encF, sOf]) ?_
    refine fin_nx (e1 := [some (.p (encF (.of a b))), none, none, none]) (s1 := []) (by simp [encF, sOf]) ?_
    refine fin_nx (e1 := env) (s1 := []) (by simp [encF, sOf, h1, h2, env]) ?_
    have v1 : evE P (callM P k) (.var 1) env [] = .ok (.v (.p (.int (m : Int)))) [] := varE rfl
    have v2 : evE P (callM P k) (.var 2) env [] = .ok (.v (.p (.int (n : Int)))) [] := varE rfl
    have v3 := addE (C := callM P k) _ _ _ _ _ _ v1 v2
    have v4 := triE _ _ (by omega) _ _ v3
    have v5 := addE (C := callM P k) _ (.lit (.int 1)) _ 1 _ _ v3 (litE ..)
    have hfin : ∀ x, evE P (callM P k) x env [] = .ok (.v (.p (.int ((tri (m + n) : Nat) : Int)))) [] → evE P (callM P k) (.bin .add (.bin .mul (.lit (.int 3)) (.bin .add x (.var 2))) (.lit (.int 2))) env [] = .ok (.v (.p (.int ((3 * pc m n + 2 : Nat) : Int)))) [] := by
      intro x hx
      exact addE _ _ _ _ _ _ (binE (litE ..) (addE _ _ _ _ _ _ hx v2) (mul3 ..)) (litE ..)
    have hlt : evE P (callM P k) (.cmp .lt (.bin .add (.var 1) (.var 2)) (.lit (.int 3000))) env [] = .ok (.v (.p (.bl (decide (m + n < 3000))))) [] := by
      rw [E_cmp, v3]
      have : decide (((m + n : Nat) : Int) < 3000) = decide (m + n < 3000) := by simp only [decide_eq_decide]; omega
      simp only [Mev.bind_ok, E_lit, evP_eq, cmp_lt, bl_eq, this]
    have hres : evE P (callM P k) (.ite (.cmp .lt (.bin .add (.var 1) (.var 2)) (.lit (.int 3000))) (.bin .add (.bin .mul (.lit (.int 3)) (.bin .add (.bi .sum (.cons (.lc (.var 3) (.nm 3) (.rng (.cons (.bin .add (.bin .add (.var 1) (.var 2)) (.lit (.int 1))) .nil)) .nil [3]) .nil)) (.var 2))) (.lit (.int 2))) (.bin .add (.bin .mul (.lit (.int 3)) (.bin .add (.bin .fdiv (.bin .mul (.bin .add (.var 1) (.var 2)) (.bin .add (.bin .add (.var 1) (.var 2)) (.lit (.int 1)))) (.lit (.int 2))) (.var 2))) (.lit (.int 2)))) env [] = .ok (.v (.p (.int ((3 * pc m n + 2 : Nat) : Int)))) [] := by
      by_cases hq : m + n < 3000
      · rw [decide_eq_true hq] at hlt
        exact iteT hlt (hfin _ (sumE _ _ (by omega) _ _ rfl v5))
      · rw [decide_eq_false hq] at hlt
        exact iteF hlt (hfin _ v4)
    rw [Ss_cons, S_ret, hres]
    simp only [codeF, ← hm, ← hn]
    rfl
/-! law_form -/
def cB : Nat → Nat
  | 0 => 9
  | 1 => 9
  | 2 => 542
  | n + 3 => 3 * pc (cB (n + 2)) (cB (n + 1)) + 2
theorem pc_mono {a b c d : Nat} (h : a ≤ c) (h2 : b ≤ d) : pc a b ≤ pc c d := by
  unfold pc
  have := tri_mono (show a + b ≤ c + d by omega)
  omega
theorem cB_ge : ∀ n, 9 ≤ cB (n + 1) := by
  intro n
  induction n using Nat.strongRecOn with
  | ind n ih2 =>
    match n, ih2 with
    | 0, _ => exact Nat.le_refl _
    | 1, _ => exact by decide
    | n + 2, ih2 =>
      have h1 : 9 ≤ cB (n + 2) := ih2 (n + 1) (by omega)
      have h2 := pc_ge (cB (n + 2)) (cB (n + 1))
      show 9 ≤ 3 * pc (cB (n + 2)) (cB (n + 1)) + 2
      omega
theorem law_form_ok : ∀ (deep : Nat) (s : Sto) (a d k : Nat), Dr s a d → 1 ≤ deep → deep + 1 ≤ k →
    ∃ F s', Nf F ∧ codeF F ≤ cB deep ∧ fd F ≤ deep ∧ callM P k 26 [.r d, .p (.int (deep : Nat))] s = .ok (.v (.p (encF F))) s' ∧ Dr s' a d ∧ Keeps s s' d := by
  intro deep
  induction deep using Nat.strongRecOn with
  | ind deep ih =>
    intro s a d k hd h1 hk
    obtain ⟨k, rfl⟩ := ge1 (n := deep) hk
    obtain ⟨k, rfl⟩ := ge1 (n := deep - 1) (k := k) (by omega)
    have hkind : ∃ r s1, r < 3 ∧ (deep = 1 → r = 0) ∧ evE P (callM P (k + 1)) (.ite (.cmp .gt (.var 1) (.lit (.int 1))) (.call 21 (.cons (.var 0) (.cons (.lit (.int 3)) .nil))) (.lit (.int 0))) [some (.r d), some (.p (.int (deep : Nat))), none, none] s = .ok (.v (.p (.int ((r : Nat) : Int)))) s1 ∧ Dr s1 a d ∧ Keeps s s1 d := by
      by_cases h0 : deep = 1
      · subst h0
        exact ⟨0, s, by omega, fun _ => rfl, by simp, hd, Keeps.refl ..⟩
      · obtain ⟨r, s1, hr, h1, h2, h3⟩ := take_ok (P := P) (f := 21) rfl hd 3 k (by decide) (by decide)
        refine ⟨r, s1, hr, fun h => absurd h h0, ?_, h2, h3⟩
        have hgt : (1 : Int) < (deep : Nat) := by omega
        have h1' : doCall (callM P (k + 1)) 21 [.r d, .p (.int 3)] s = .ok (.v (.p (.int (r : Int)))) s1 := by rw [doCall_ref rfl]; exact h1
        simp only [E_ite, E_cmp, E_var, E_lit, E_call, L_cons, L_nil, List.getElem?_cons_succ, List.getElem?_cons_zero, Mev.bind_ok, evP_eq, cmp_gt, hgt, decide_true, bl_eq, tst_ok, truth_bl, optR_some, if_true, holdAll_cons, holdAll_nil, hold_v, h1']
    obtain ⟨r, s1, hr3, hr0, h2, hd1, hk1⟩ := hkind
    have h2' : evS P (callM P (k + 1)) (.asg (.nm 2) (.ite (.cmp .gt (.var 1) (.lit (.int 1))) (.call 21 (.cons (.var 0) (.cons (.lit (.int 3)) .nil))) (.lit (.int 0)))) [some (.r d), some (.p (.int (deep : Nat))), none, none] s = .ok .nx [some (.r d), some (.p (.int (deep : Nat))), some (.p (.int (r : Nat))), none] s1 := by
      rw [S_asg, h2]; rfl
    by_cases hr : r = 0
    · subst hr
      obtain ⟨j, s2, hj, h3, hd2, hk2⟩ := take_ok (P := P) (f := 21) rfl hd1 4 k (by decide) (by decide)
      have h3' : doCall (callM P (k + 1)) 21 [.r d, .p (.int 4)] s1 = .ok (.v (.p (.int (j : Int)))) s2 := by rw [doCall_ref rfl]; exact h3
      refine ⟨.up j, s2, trivial, ?_, by simp only [fd]; exact h1, ?_, hd2, hk1.trans hk2⟩
      · have h9 : 9 ≤ cB deep := by
          have := cB_ge (deep - 1)
          rwa [Nat.sub_add_cancel h1] at this
        simp only [codeF]; omega
      · refine runs (d := ⟨4, 2, b26⟩) (e := [some (.r d), some (.p (.int (deep : Nat))), some (.p (.int ((0 : Nat) : Int))), none]) rfl rfl ?_
        refine ss_nx h2' ?_
        simp [h3', lim, encF, sUp]
    · have hdp : 2 ≤ deep := by
        rcases Nat.lt_or_ge deep 2 with h | h
        · exact absurd (hr0 (by omega)) hr
        · exact h
      have hcase : deep = 2 ∨ ∃ n, deep = n + 3 := by
        rcases Nat.lt_or_ge deep 3 with h | h
        · exact .inl (by omega)
        · exact .inr ⟨deep - 3, by omega⟩
      have hsub : ((deep : Nat) : Int) - 1 = ((deep - 1 : Nat) : Int) := by omega
      obtain ⟨F, s2, f1, f2, f3, f4, hd2, hk2⟩ := ih (deep - 1) (by omega) s1 a d (k + 1) hd1 (by omega) (by omega)
      have f4' : doCall (callM P (k + 1)) 26 [.r d, .p (.int ((deep - 1 : Nat) : Int))] s1 = .ok (.v (.p (encF F))) s2 := by rw [doCall_ref rfl]; exact f4
      have hrn : ¬ ((r : Int) = 0) := by omega
      have hpre : ∀ (e : Env) (s3 : Sto) (q : EV), evE P (callM P (k + 1)) (.ite (.cmp .eq (.var 2) (.lit (.int 1))) (.tup (.cons (.lit (.str [116, 111])) (.cons (.var 3) .nil))) (.tup (.cons (.lit (.str [111, 102])) (.cons (.var 3) (.cons (.call 26 (.cons (.var 0) (.cons (.ite (.cmp .gt (.var 1) (.lit (.int 2))) (.bin .sub (.var 1) (.lit (.int 2))) (.lit (.int 1))) .nil))) .nil))))) [some (.r d), some (.p (.int (deep : Nat))), some (.p (.int (r : Nat))), some (.p (encF F))] s2 = .ok q s3 → callM P (k + 1 + 1) 26 [.r d, .p (.int (deep : Nat))] s = .ok q s3 := by
        intro e s3 q hq
        refine runs (d := ⟨4, 2, b26⟩) (e := [some (.r d), some (.p (.int (deep : Nat))), some (.p (.int (r : Nat))), some (.p (encF F))]) rfl rfl ?_
        refine ss_nx h2' ?_
        refine ss_nx (e1 := [some (.r d), some (.p (.int (deep : Nat))), some (.p (.int (r : Nat))), none]) (s1 := s1) (by simp [hr]) ?_
        refine ss_nx (e1 := [some (.r d), some (.p (.int (deep : Nat))), some (.p (.int (r : Nat))), some (.p (encF F))]) (s1 := s2) ?_ ?_
        · simp only [S_asg, E_call, E_var, E_bin, E_lit, L_cons, L_nil, List.getElem?_cons_succ, List.getElem?_cons_zero, Mev.bind_ok, evP_eq, bin_sub, hsub, holdAll_cons, holdAll_nil, hold_v, f4', bindE_ok, setT_nm, List.set_cons_succ, List.set_cons_zero]
        · rw [Ss_cons, S_ret, hq]
          rfl
      by_cases hr1 : r = 1
      · subst hr1
        refine ⟨.to F, s2, f1, ?_, by simp only [fd]; omega, ?_, hd2, hk1.trans hk2⟩
        · simp only [codeF]
          rcases hcase with rfl | ⟨n, rfl⟩
          · have f2' : codeF F ≤ 9 := f2
            have : cB 2 = 542 := rfl
            omega
          · have f2' : codeF F ≤ cB (n + 2) := f2
            simp only [cB]
            have := pc_ge (cB (n + 2)) (cB (n + 1))
            omega
        · refine hpre [] _ _ ?_
          simp [lim, encF, sTo]
      · have hr2 : r = 2 := by omega
        subst hr2
        obtain ⟨q, hq1, hq2⟩ : ∃ q, q = (if 2 < deep then deep - 2 else 1) ∧ (1 ≤ q ∧ q < deep) := ⟨_, rfl, by split <;> omega⟩
        obtain ⟨G, s3, g1, g2, g3, g4, hd3, hk3⟩ := ih q hq2.2 s2 a d (k + 1) hd2 hq2.1 (by omega)
        have g4' : doCall (callM P (k + 1)) 26 [.r d, .p (.int ((q : Nat) : Int))] s2 = .ok (.v (.p (encF G))) s3 := by rw [doCall_ref rfl]; exact g4
        refine ⟨.of F G, s3, ⟨f1, g1⟩, ?_, by simp only [fd]; omega, ?_, hd3, (hk1.trans hk2).trans hk3⟩
        · simp only [codeF]
          rcases hcase with rfl | ⟨n, rfl⟩
          · have e : q = 1 := by rw [hq1]; rfl
            rw [e] at g2
            have g2' : codeF G ≤ 9 := g2
            have f2' : codeF F ≤ 9 := f2
            have := pc_mono f2' g2'
            have h8 : pc 9 9 = 180 := by decide
            have h9 : cB 2 = 542 := rfl
            omega
          · have e : q = n + 1 := by rw [hq1, if_pos (by omega)]; omega
            rw [e] at g2
            have f2' : codeF F ≤ cB (n + 2) := f2
            have := pc_mono f2' g2
            simp only [cB]
            omega
        · refine hpre [] _ _ ?_
          have hif : evE P (callM P (k + 1)) (.ite (.cmp .gt (.var 1) (.lit (.int 2))) (.bin .sub (.var 1) (.lit (.int 2))) (.lit (.int 1))) [some (.r d), some (.p (.int (deep : Nat))), some (.p (.int ((2 : Nat) : Int))), some (.p (encF F))] s2 = .ok (.v (.p (.int (q : Nat)))) s2 := by
            by_cases hl : 2 < deep
            · have hl2 : (2 : Int) < (deep : Nat) := by omega
              have e : ((deep : Nat) : Int) - 2 = (q : Nat) := by rw [hq1, if_pos hl]; omega
              simp only [E_ite, E_cmp, E_var, E_lit, E_bin, List.getElem?_cons_succ, List.getElem?_cons_zero, Mev.bind_ok, evP_eq, cmp_gt, hl2, decide_true, bl_eq, tst_ok, truth_bl, optR_some, if_true, bin_sub, e]
            · have hl2 : ¬ (2 : Int) < (deep : Nat) := by omega
              have e : (1 : Int) = (q : Nat) := by rw [hq1, if_neg hl]; rfl
              simp only [E_ite, E_cmp, E_var, E_lit, E_bin, List.getElem?_cons_succ, List.getElem?_cons_zero, Mev.bind_ok, evP_eq, cmp_gt, hl2, decide_false, bl_eq, tst_ok, truth_bl, optR_some, Bool.false_eq_true, if_false, e]
          have hne : ¬ ((2 : Nat) : Int) = 1 := by decide
          rw [E_ite]
          simp only [E_cmp, E_var, E_lit, List.getElem?_cons_succ, List.getElem?_cons_zero, Mev.bind_ok, evP_eq, cmp_eq_ii, hne, decide_false, bl_eq, tst_ok, truth_bl, optR_some, Bool.false_eq_true, if_false]
          rw [E_tup]
          simp only [L_cons, L_nil, E_call, E_var, E_lit, List.getElem?_cons_succ, List.getElem?_cons_zero, Mev.bind_ok, evP_eq, hif, holdAll_cons, holdAll_nil, hold_v, g4', List.length_cons, List.length_nil, lim, Nat.reduceAdd, Nat.reduceLeDiff, if_true, mkTup_3, encF, sOf]
end K36
end
section
set_option maxRecDepth 20000
namespace K36
open Mn Mev
def upF (n : Nat) : Nat → Fm → Fm
  | _, .nm x => .nm x
  | c, .up i => if c ≤ i then .up (i + n) else .up i
  | c, .to b => .to (upF n (c + 1) b)
  | c, .of a b => .of (upF n c a) (upF n c b)
theorem law_up_ok (n : Nat) : ∀ (F : Fm) (c k : Nat), fd F ≤ k → Gives P k 25 [.p (encF F), .p (.int (n : Int)), .p (.int (c : Int))] (.v (.p (encF (upF n c F)))) := by
  intro F
  induction F with
  | nm x =>
    intro c k hk
    obtain ⟨k, rfl⟩ := ge1 (n := 0) (k := k) (by simp [fd] at hk; omega)
    refine gives (d := ⟨3, 3, b25⟩) rfl rfl rfl ?_
    simp [b25, encF, sNm, upF]
  | up i =>
    intro c k hk
    obtain ⟨k, rfl⟩ := ge1 (n := 0) (k := k) (by simp [fd] at hk; omega)
    refine gives (d := ⟨3, 3, b25⟩) rfl rfl rfl ?_
    by_cases h : c ≤ i <;> simp [b25, encF, sUp, upF, h, lim]
  | to b ih =>
    intro c k hk
    simp only [fd] at hk
    obtain ⟨k, rfl⟩ := ge1 (n := fd b) (k := k) hk
    have h1 := ih (c + 1) k (by omega) []
    have e : (((c + 1 : Nat)) : Int) = (c : Int) + 1 := rfl
    rw [e] at h1
    refine gives (d := ⟨3, 3, b25⟩) rfl rfl rfl ?_
    simp [b25, encF, sTo, upF, h1, lim]
  | of a b iha ihb =>
    intro c k hk
    simp only [fd] at hk
    obtain ⟨k, rfl⟩ := ge1 (n := max (fd a) (fd b)) (k := k) hk
    have h1 := iha c k (by omega) []
    have h2 := ihb c k (by omega) []
    refine gives (d := ⟨3, 3, b25⟩) rfl rfl rfl ?_
    simp [b25, encF, sOf, upF, h1, h2, lim]
def hangs (deep : Nat) : Nat → Fm → Bool
  | _, .nm _ => false
  | inner, .up i => decide (inner ≤ i ∧ i < inner + deep)
  | inner, .to b => hangs deep (inner + 1) b
  | inner, .of a b => hangs deep inner a || hangs deep inner b
theorem chnE {C : Nat → List MV → Sto → Res EV} (env : Env) (s : Sto) (deep inner i : Nat) (form : PV) (h0 : env[0]? = some (some (.p (.tup [sUp, .int (i : Int)])))) (h1 : env[1]? = some (some (.p (.int (deep : Int))))) (h2 : env[2]? = some (some (.p (.int (inner : Int))))) : evE P C (.chn .le .lt (.var 2) (.ix (.var 0) (.lit (.int 1))) (.bin .add (.var 2) (.var 1))) env s = .ok (.v (.p (.bl (decide (inner ≤ i ∧ i < inner + deep))))) s := by
  by_cases h : inner ≤ i
  · have h3 : decide ((i : Int) < (inner : Int) + (deep : Int)) = decide (inner ≤ i ∧ i < inner + deep) := by simp only [decide_eq_decide]; omega
    have h4 : (inner : Int) ≤ (i : Int) := by omega
    simp only [E_chn, E_var, E_ix, E_lit, E_bin, h0, h1, h2, Mev.bind_ok, evP_eq, ix_21, optR_some, cmp_le, h4, decide_true, bin_add, cmp_lt, bl_eq, h3]
  · have h3 : decide (inner ≤ i ∧ i < inner + deep) = false := decide_eq_false fun q => h q.1
    have h4 : ¬ (inner : Int) ≤ (i : Int) := by omega
    simp only [E_chn, E_var, E_ix, E_lit, E_bin, h0, h1, h2, Mev.bind_ok, evP_eq, ix_21, optR_some, cmp_le, h4, decide_false, bl_eq, h3]
theorem cmp_ne_nil2 {α : Type} (f : α → PV) (l : List α) (s : Sto) : cmpop .ne (.o (.lst (l.map fun x => .p (f x)))) (.o (.lst [])) s = some (!decide (l = [])) := by
  have := cmp_eq_nil f l s
  simp only [cmpop] at this ⊢
  rw [this]; rfl
theorem hangs_on_ok (deep : Nat) : ∀ (F : Fm) (inner k : Nat), fd F ≤ k → Gives P k 18 [.p (encF F), .p (.int (deep : Int)), .p (.int (inner : Int))] (.v (.p (.bl (hangs deep inner F)))) := by
  intro F
  induction F with
  | nm x =>
    intro inner k hk
    obtain ⟨k, rfl⟩ := ge1 (n := 0) (k := k) (by simp [fd] at hk; omega)
    refine gives (d := ⟨4, 3, b18⟩) rfl rfl rfl ?_
    simp [b18, encF, sNm, hangs]
  | up i =>
    intro inner k hk
    obtain ⟨k, rfl⟩ := ge1 (n := 0) (k := k) (by simp [fd] at hk; omega)
    refine gives (d := ⟨4, 3, b18⟩) rfl rfl rfl ?_
    have h1 := chnE (C := callM P k) [some (.p (encF (.up i))), some (.p (.int (deep : Int))), some (.p (.int (inner : Int))), none] [] deep inner i .non rfl rfl rfl
    show isoFin (evSs P (callM P k) b18 [some (.p (encF (.up i))), some (.p (.int (deep : Int))), some (.p (.int (inner : Int))), none] []) = _
    unfold b18
    rw [Ss_cons, S_iff]
    have h0 : evE P (callM P k) (.cmp .eq (.ix (.var 0) (.lit (.int 0))) (.lit (.str [117, 112]))) [some (.p (encF (.up i))), some (.p (.int (deep : Int))), some (.p (.int (inner : Int))), none] [] = .ok (.v (.p (.bl true))) [] := by simp [encF, sUp]
    rw [h0, tst_ok, truth_bl, optR_some, bindE_ok, if_pos rfl, Ss_cons, S_ret, h1]
    simp only [hangs]
    rfl
  | to b ih =>
    intro inner k hk
    simp only [fd] at hk
    obtain ⟨k, rfl⟩ := ge1 (n := fd b) (k := k) hk
    have h1 := ih (inner + 1) k (by omega) []
    have e : (((inner + 1 : Nat)) : Int) = (inner : Int) + 1 := rfl
    rw [e] at h1
    have h3 := ev_lcm (P := P) (C := callM P k) (elt := .call 18 (.cons (.var 3) (.cons (.var 1) (.cons (.bin .add (.var 2) (.ite (.cmp .eq (.ix (.var 0) (.lit (.int 0))) (.lit (.str [116, 111]))) (.lit (.int 1)) (.lit (.int 0)))) .nil)))) (tg := .nm 3) (it := .ex (.slf (.var 0) (.lit (.int 1)))) (cs := .nil) (own := [3])
      (env := [some (.p (encF (.to b))), some (.p (.int (deep : Int))), some (.p (.int (inner : Int))), none]) (s := []) (fun F => MV.p (encF F)) (fun F => MV.p (.bl (hangs deep (inner + 1) F))) [b]
      (.snap [.p (encF b)]) (by
        have := slf1 [sTo, encF b] []
        simp [evI, encF, this, sqOf, sqL, tupOf, tupSeq]) (by simp [sqAt]) (by simp) (by
        intro q hq
        simp at hq
        subst hq
        simp [turnE, wipeE, encF, sTo, h1])
    have h4 := bi_any [hangs deep (inner + 1) b] []
    simp only [List.map_cons, List.map_nil, List.any_cons, List.any_nil, Bool.or_false, id] at h3 h4
    refine gives (d := ⟨4, 3, b18⟩) rfl rfl rfl ?_
    simp only [encF, sTo] at h3
    simp [b18, encF, sTo, h3, h4, hangs]
  | of a b iha ihb =>
    intro inner k hk
    simp only [fd] at hk
    obtain ⟨k, rfl⟩ := ge1 (n := max (fd a) (fd b)) (k := k) hk
    have h1 := iha inner k (by omega) []
    have h2 := ihb inner k (by omega) []
    have h3 := ev_lcm (P := P) (C := callM P k) (elt := .call 18 (.cons (.var 3) (.cons (.var 1) (.cons (.bin .add (.var 2) (.ite (.cmp .eq (.ix (.var 0) (.lit (.int 0))) (.lit (.str [116, 111]))) (.lit (.int 1)) (.lit (.int 0)))) .nil)))) (tg := .nm 3) (it := .ex (.slf (.var 0) (.lit (.int 1)))) (cs := .nil) (own := [3])
      (env := [some (.p (encF (.of a b))), some (.p (.int (deep : Int))), some (.p (.int (inner : Int))), none]) (s := []) (fun F => MV.p (encF F)) (fun F => MV.p (.bl (hangs deep inner F))) [a, b]
      (.snap [.p (encF a), .p (encF b)]) (by
        have := slf1 [sOf, encF a, encF b] []
        simp [evI, encF, this, sqOf, sqL, tupOf, tupSeq]) (by simp [sqAt]) (by simp) (by
        intro q hq
        simp at hq
        rcases hq with rfl | rfl <;> simp [turnE, wipeE, encF, sOf, h1, h2])
    have h4 := bi_any [hangs deep inner a, hangs deep inner b] []
    simp only [List.map_cons, List.map_nil, List.any_cons, List.any_nil, Bool.or_false, id] at h3 h4
    refine gives (d := ⟨4, 3, b18⟩) rfl rfl rfl ?_
    simp only [encF, sOf] at h3
    simp [b18, encF, sOf, h3, h4, hangs]
theorem law_outside_ok (deep : Nat) : ∀ (F : Fm) (inner k : Nat), fd F ≤ k → Gives P k 29 [.p (encF F), .p (.int (deep : Int)), .p (.int (inner : Int))] (.v (.p (.bl (hangs deep inner F)))) := by
  intro F
  induction F with
  | nm x =>
    intro inner k hk
    obtain ⟨k, rfl⟩ := ge1 (n := 0) (k := k) (by simp [fd] at hk; omega)
    refine gives (d := ⟨4, 3, b29⟩) rfl rfl rfl ?_
    simp [b29, encF, sNm, hangs]
  | up i =>
    intro inner k hk
    obtain ⟨k, rfl⟩ := ge1 (n := 0) (k := k) (by simp [fd] at hk; omega)
    refine gives (d := ⟨4, 3, b29⟩) rfl rfl rfl ?_
    have h1 := chnE (C := callM P k) [some (.p (encF (.up i))), some (.p (.int (deep : Int))), some (.p (.int (inner : Int))), none] [] deep inner i .non rfl rfl rfl
    show isoFin (evSs P (callM P k) b29 [some (.p (encF (.up i))), some (.p (.int (deep : Int))), some (.p (.int (inner : Int))), none] []) = _
    unfold b29
    rw [Ss_cons, S_iff]
    have h0 : evE P (callM P k) (.cmp .eq (.ix (.var 0) (.lit (.int 0))) (.lit (.str [117, 112]))) [some (.p (encF (.up i))), some (.p (.int (deep : Int))), some (.p (.int (inner : Int))), none] [] = .ok (.v (.p (.bl true))) [] := by simp [encF, sUp]
    rw [h0, tst_ok, truth_bl, optR_some, bindE_ok, if_pos rfl, Ss_cons, S_ret, h1]
    simp only [hangs]
    rfl
  | to b ih =>
    intro inner k hk
    simp only [fd] at hk
    obtain ⟨k, rfl⟩ := ge1 (n := fd b) (k := k) hk
    have h1 := ih (inner + 1) k (by omega) []
    have e : (((inner + 1 : Nat)) : Int) = (inner : Int) + 1 := rfl
    rw [e] at h1
    have h3 := ev_lcf (P := P) (C := callM P k) (elt := .var 3) (tg := .nm 3) (it := .ex (.slf (.var 0) (.lit (.int 1)))) (cs := .cons (.call 29 (.cons (.var 3) (.cons (.var 1) (.cons (.bin .add (.var 2) (.ite (.cmp .eq (.ix (.var 0) (.lit (.int 0))) (.lit (.str [116, 111]))) (.lit (.int 1)) (.lit (.int 0)))) .nil)))) .nil) (own := [3])
      (env := [some (.p (encF (.to b))), some (.p (.int (deep : Int))), some (.p (.int (inner : Int))), none]) (s := []) (fun F => MV.p (encF F)) (fun F => hangs deep (inner + 1) F) (fun F => MV.p (encF F)) [b]
      (.snap [.p (encF b)]) (by
        have := slf1 [sTo, encF b] []
        simp [evI, encF, this, sqOf, sqL, tupOf, tupSeq]) (by simp [sqAt]) (by simp) (by
        intro q hq
        simp at hq
        subst hq
        cases hq : hangs deep (inner + 1) q <;> rw [hq] at h1 <;> simp [turnE, wipeE, encF, sTo, h1])
    have h4 := cmp_ne_nil2 encF ([b].filter fun F => hangs deep (inner + 1) F) []
    rw [eq_nil_any] at h4
    simp only [List.any_cons, List.any_nil, Bool.or_false, Bool.not_not] at h4
    refine gives (d := ⟨4, 3, b29⟩) rfl rfl rfl ?_
    simp only [encF, sTo] at h3
    simp [b29, encF, sTo, h3, h4, hangs, lim]
  | of a b iha ihb =>
    intro inner k hk
    simp only [fd] at hk
    obtain ⟨k, rfl⟩ := ge1 (n := max (fd a) (fd b)) (k := k) hk
    have h1 := iha inner k (by omega) []
    have h2 := ihb inner k (by omega) []
    have h3 := ev_lcf (P := P) (C := callM P k) (elt := .var 3) (tg := .nm 3) (it := .ex (.slf (.var 0) (.lit (.int 1)))) (cs := .cons (.call 29 (.cons (.var 3) (.cons (.var 1) (.cons (.bin .add (.var 2) (.ite (.cmp .eq (.ix (.var 0) (.lit (.int 0))) (.lit (.str [116, 111]))) (.lit (.int 1)) (.lit (.int 0)))) .nil)))) .nil) (own := [3])
      (env := [some (.p (encF (.of a b))), some (.p (.int (deep : Int))), some (.p (.int (inner : Int))), none]) (s := []) (fun F => MV.p (encF F)) (fun F => hangs deep inner F) (fun F => MV.p (encF F)) [a, b]
      (.snap [.p (encF a), .p (encF b)]) (by
        have := slf1 [sOf, encF a, encF b] []
        simp [evI, encF, this, sqOf, sqL, tupOf, tupSeq]) (by simp [sqAt]) (by simp) (by
        intro q hq
        simp at hq
        rcases hq with rfl | rfl
        · cases hq : hangs deep inner q <;> rw [hq] at h1 <;> simp [turnE, wipeE, encF, sOf, h1]
        · cases hq : hangs deep inner q <;> rw [hq] at h2 <;> simp [turnE, wipeE, encF, sOf, h2])
    have h4 := cmp_ne_nil2 encF ([a, b].filter fun F => hangs deep inner F) []
    rw [eq_nil_any] at h4
    simp only [List.any_cons, List.any_nil, Bool.or_false, Bool.not_not] at h4
    refine gives (d := ⟨4, 3, b29⟩) rfl rfl rfl ?_
    simp only [encF, sOf] at h3
    simp [b29, encF, sOf, h3, h4, hangs, lim]
/-! names of forms, names put back -/
def fnm : Fm → List (List Nat)
  | .nm x => [x]
  | .up _ => []
  | .to b => fnm b
  | .of a b => fnm a ++ fnm b
theorem fnm_len (F : Fm) : (fnm F).length ≤ swF F := by
  induction F with
  | nm x => simp [fnm, swF]
  | up i => simp [fnm]
  | to b ih => simp only [fnm, swF]; omega
  | of a b iha ihb => simp only [fnm, swF, List.length_append]; omega
theorem mem_fnm (x : List Nat) (F : Fm) : x ∈ fnm F ↔ FrF x F := by
  induction F with
  | nm y => simp [fnm, FrF]
  | up i => simp [fnm, FrF]
  | to b ih => simp only [fnm, FrF, ih]
  | of a b iha ihb => simp only [fnm, FrF, List.mem_append, iha, ihb]
theorem bf_lc2 (k : Nat) (F : Fm) (l : List Fm) (e : evI P (callM P k) (.ex (.slf (.var 0) (.lit (.int 1)))) [some (.p (encF F)), none, none] [] = .ok (.sq (.snap (l.map fun G => .p (encF G)))) []) (hl : l.length ≤ 2) (hs : ∀ G, G ∈ l → (fnm G).length ≤ 1000) (h : ∀ G, G ∈ l → Gives P k 7 [.p (encF G)] (lstN (fnm G))) :
    evE P (callM P k) (.lc2 (.var 2) (.nm 1) (.ex (.slf (.var 0) (.lit (.int 1)))) .nil (.nm 2) (.ex (.call 7 (.cons (.var 1) .nil))) .nil [1, 2] [2]) [some (.p (encF F)), none, none] [] = .ok (lstN (l.flatMap fnm)) [] := by
  have hgo := lcGo_gen (f := turnE (wipeE [some (.p (encF F)), none, none] [1, 2]) (.nm 1) (fun e1 s1 => evC P (callM P k) .nil e1 s1) (fun e1 s1 => (evI P (callM P k) (.ex (.call 7 (.cons (.var 1) .nil))) e1 s1).bind fun src2 s2 =>
        lcGo src2 (turnE (wipeE e1 [2]) (.nm 2) (fun e2 s3 => evC P (callM P k) .nil e2 s3) (fun e2 s3 => (evE P (callM P k) (.var 2) e2 s3).bind fun r s4 => .ok [(hold r s4).1] (hold r s4).2)) wfuel 0 s2))
    (q := fun G => MV.p (encF G)) (g := fun G => (fnm G).map fun x => MV.p (.str x)) (s := []) (src := .sq (.snap (l.map fun G => .p (encF G)))) l (by
      intro i; simp [itm, sqAt]) (by
      intro q hq
      have hfn := h q hq []
      simp only [lstN] at hfn
      have hin := lcGo_snap (f := turnE (wipeE [some (.p (encF F)), some (.p (encF q)), none] [2]) (.nm 2) (fun e2 s3 => evC P (callM P k) .nil e2 s3) (fun e2 s3 => (evE P (callM P k) (.var 2) e2 s3).bind fun r s4 => .ok [(hold r s4).1] (hold r s4).2))
        (q := fun x => MV.p (.str x)) (g := fun x => [MV.p (.str x)]) (s := []) (sq := .snap ((fnm q).map fun x => MV.p (.str x))) (fnm q) rfl (by
          intro x hx
          simp [turnE, wipeE]) wfuel 0 (by have := hs q hq; simp only [wfuel]; omega)
      have e : ((fnm q).drop 0).flatMap (fun x => [MV.p (.str x)]) = (fnm q).map fun x => MV.p (.str x) := by
        rw [List.drop_zero]
        generalize fnm q = l
        induction l with
        | nil => rfl
        | cons a r ih => rw [List.flatMap_cons, ih]; rfl
      rw [e] at hin
      simp only [turnE, setT_nm, C_nil, Mev.noX_ok, Mev.bind_ok, wipeE]
      simp [evI, hfn, sqOf, sqL]
      simp [wipeE] at hin
      simp [hin]) wfuel 0 (by simp only [wfuel]; omega)
  have e2 : ((l.drop 0).flatMap fun G => (fnm G).map fun x => MV.p (.str x)) = (l.flatMap fnm).map fun x => MV.p (.str x) := by
    rw [List.drop_zero, List.map_flatMap]
  rw [e2] at hgo
  have hlen : (l.flatMap fnm).length ≤ 2000 := by
    match l, hl, hs with
    | [], _, _ => simp
    | [a], _, hs => have := hs a (by simp); simp; omega
    | [a, b], _, hs => have := hs a (by simp); have := hs b (by simp); simp; omega
    | a :: b :: c :: r, h, _ => simp at h
  rw [E_lc2, e]
  simp only [Mev.bind_ok]
  rw [hgo]
  simp only [Mev.noX_ok, Mev.bind_ok]
  exact if_pos (by simp only [List.length_map, lim]; omega)
theorem bare_free_ok : ∀ (F : Fm) (k : Nat), fd F ≤ k → swF F ≤ 1000 → Gives P k 7 [.p (encF F)] (lstN (fnm F)) := by
  intro F
  induction F with
  | nm x =>
    intro k hk _
    obtain ⟨k, rfl⟩ := ge1 (n := 0) (k := k) (by simp [fd] at hk; omega)
    refine gives (d := ⟨3, 1, b7⟩) rfl rfl rfl ?_
    simp [b7, encF, sNm, fnm, lstN, lim]
  | up i =>
    intro k hk _
    obtain ⟨k, rfl⟩ := ge1 (n := 0) (k := k) (by simp [fd] at hk; omega)
    refine gives (d := ⟨3, 1, b7⟩) rfl rfl rfl ?_
    simp [b7, encF, sUp, fnm, lstN, lim]
  | to b ih =>
    intro k hk hs
    simp only [fd, swF] at hk hs
    obtain ⟨k, rfl⟩ := ge1 (n := fd b) (k := k) hk
    have h3 := bf_lc2 k (.to b) [b] (by
        have := slf1 [sTo, encF b] []
        simp [evI, encF, this, sqOf, sqL, tupOf, tupSeq]) (by simp) (by
        intro G hG; simp at hG; subst hG; have := fnm_len G; omega) (by
        intro G hG; simp at hG; subst hG; exact ih k (by omega) (by omega))
    refine gives (d := ⟨3, 1, b7⟩) rfl rfl rfl ?_
    simp only [encF, sTo, List.flatMap_cons, List.flatMap_nil, List.append_nil, lstN] at h3
    simp [b7, encF, sTo, h3, fnm, lstN]
  | of a b iha ihb =>
    intro k hk hs
    simp only [fd, swF] at hk hs
    obtain ⟨k, rfl⟩ := ge1 (n := max (fd a) (fd b)) (k := k) hk
    have h3 := bf_lc2 k (.of a b) [a, b] (by
        have := slf1 [sOf, encF a, encF b] []
        simp [evI, encF, this, sqOf, sqL, tupOf, tupSeq]) (by simp) (by
        intro G hG; simp at hG; have := fnm_len G; rcases hG with rfl | rfl <;> omega) (by
        intro G hG; simp at hG
        rcases hG with rfl | rfl
        · exact iha k (by omega) (by omega)
        · exact ihb k (by omega) (by omega))
    refine gives (d := ⟨3, 1, b7⟩) rfl rfl rfl ?_
    simp only [encF, sOf, List.flatMap_cons, List.flatMap_nil, List.append_nil, lstN] at h3
    simp [b7, encF, sOf, h3, fnm, lstN]
def nw (fr : List (List Nat)) : Fm → List (List Nat) → Tm
  | .nm x, _ => .nm x
  | .up i, B => .nm (B.getD i [])
  | .to b, B => .to (first (fr ++ B)) (nw fr b (first (fr ++ B) :: B))
  | .of a b, B => .of (nw fr a B) (nw fr b B)
theorem named_within_ok (fr : List (List Nat)) : ∀ (F : Fm) (B : List (List Nat)) (k : Nat), fr.length + B.length + fd F ≤ 26 → Cl B.length F → fd F + 2 ≤ k → Gives P k 8 [.p (encF F), .p (encN B), .p (encN fr)] (.v (.p (enc (nw fr F B)))) := by
  intro F
  induction F with
  | nm x =>
    intro B k hl hc hk
    obtain ⟨k, rfl⟩ := ge1 (n := 0) (k := k) (by omega)
    refine gives (d := ⟨4, 3, b8⟩) rfl rfl rfl ?_
    simp [b8, encF, sNm, nw, enc]
  | up i =>
    intro B k hl hc hk
    obtain ⟨k, rfl⟩ := ge1 (n := 0) (k := k) (by omega)
    have h1 := ix_encN B i [] hc
    refine gives (d := ⟨4, 3, b8⟩) rfl rfl rfl ?_
    simp [b8, encF, sUp, nw, enc, sNm, h1, lim]
  | to b ih =>
    intro B k hl hc hk
    simp only [fd] at hl hk
    obtain ⟨k, rfl⟩ := ge1 (n := fd b + 2) (k := k) hk
    have hfd : 1 ≤ fd b := by cases b <;> simp [fd]
    have h1 := first_name_ok (fr ++ B) k (by rw [List.length_append]; omega) (by omega) []
    have h2 := ih (first (fr ++ B) :: B) k (by simp only [List.length_cons]; omega) hc (by omega) []
    have h3 := bin_tt (fr.map .str) (B.map .str) [] (by simp; omega)
    have h4 := bin_tt [.str (first (fr ++ B))] (B.map .str) [] (by simp; omega)
    refine gives (d := ⟨4, 3, b8⟩) rfl rfl rfl ?_
    simp only [encN, List.map_append, List.map_cons, List.cons_append, List.nil_append] at h1 h2 h3 h4
    simp [b8, encF, sTo, nw, enc, h1, h2, h3, h4, encN, lim]
  | of a b iha ihb =>
    intro B k hl hc hk
    simp only [fd] at hl hk
    obtain ⟨k, rfl⟩ := ge1 (n := max (fd a) (fd b) + 2) (k := k) hk
    have h1 := iha B k (by omega) hc.1 (by omega) []
    have h2 := ihb B k (by omega) hc.2 (by omega) []
    refine gives (d := ⟨4, 3, b8⟩) rfl rfl rfl ?_
    simp [b8, encF, sOf, nw, enc, h1, h2, lim]
def named (F : Fm) : Tm := nw (fnm F) F []
theorem named_ok (F : Fm) (k : Nat) (hs : swF F + fd F ≤ 26) (hc : Cl 0 F) (hk : fd F + 3 ≤ k) : Gives P k 9 [.p (encF F)] (.v (.p (enc (named F)))) := by
  obtain ⟨k, rfl⟩ := ge1 (n := fd F + 2) (k := k) hk
  have hl := fnm_len F
  have h1 := bare_free_ok F k (by omega) (by omega) []
  have h2 := named_within_ok (fnm F) F [] k (by simp; omega) hc (by omega) []
  refine gives (d := ⟨1, 1, b9⟩) rfl rfl rfl ?_
  simp only [lstN, encN, List.map_nil] at h1 h2
  simp [b9, h1, h2, named, lim]
theorem nw_bare (fr : List (List Nat)) : ∀ (F : Fm) (B : List (List Nat)), fr.length + B.length + fd F ≤ 26 → Cl B.length F → B.Nodup → (∀ u, FrF u F → u ∈ fr ∧ u ∉ B) → bareW (nw fr F B) B = F := by
  intro F
  induction F with
  | nm x =>
    intro B _ _ _ h
    simp only [nw]
    rw [bareW_nm]
    unfold leaf
    rw [ix_none.2 (h x rfl).2]
  | up i =>
    intro B _ hc hd _
    simp only [nw]
    rw [bareW_nm]
    unfold leaf
    rw [ix_nodup hd hc]
  | to b ih =>
    intro B hl hc hd hF
    simp only [fd] at hl
    have hfd : 1 ≤ fd b := by cases b <;> simp [fd]
    have hz := first_no (fr ++ B) (by rw [List.length_append]; omega)
    rw [List.mem_append, not_or] at hz
    simp only [nw, bareW]
    rw [ih (first (fr ++ B) :: B) (by simp only [List.length_cons]; omega) hc (List.nodup_cons.2 ⟨hz.2, hd⟩) (by
      intro u hu
      obtain ⟨h1, h2⟩ := hF u hu
      refine ⟨h1, ?_⟩
      rw [List.mem_cons, not_or]
      exact ⟨by rintro rfl; exact hz.1 h1, h2⟩)]
  | of a b iha ihb =>
    intro B hl hc hd hF
    simp only [fd] at hl
    simp only [nw, bareW]
    rw [iha B (by omega) hc.1 hd fun u hu => hF u (.inl hu), ihb B (by omega) hc.2 hd fun u hu => hF u (.inr hu)]
theorem named_bare (F : Fm) (hs : swF F + fd F ≤ 26) (hc : Cl 0 F) : bareW (named F) [] = F := by
  have hl := fnm_len F
  exact nw_bare (fnm F) F [] (by simp; omega) hc (by simp) fun u hu => ⟨(mem_fnm u F).2 hu, by simp⟩
end K36
end
section
set_option maxRecDepth 20000
namespace K36
open Mn Mev
def fmDec : (a b : Fm) → Decidable (a = b)
  | .nm x, .nm y => if h : x = y then isTrue (by rw [h]) else isFalse (fun e => h (by injection e))
  | .up i, .up j => if h : i = j then isTrue (by rw [h]) else isFalse (fun e => h (by injection e))
  | .to a, .to b => match fmDec a b with
    | isTrue h => isTrue (by rw [h])
    | isFalse h => isFalse (fun e => h (by injection e))
  | .of a b, .of c d => match fmDec a c with
    | isTrue h => match fmDec b d with
      | isTrue g => isTrue (by rw [h, g])
      | isFalse g => isFalse (fun e => g (by injection e))
    | isFalse h => isFalse (fun e => h (by injection e))
  | .nm _, .up _ => isFalse (fun e => by cases e)
  | .nm _, .to _ => isFalse (fun e => by cases e)
  | .nm _, .of _ _ => isFalse (fun e => by cases e)
  | .up _, .nm _ => isFalse (fun e => by cases e)
  | .up _, .to _ => isFalse (fun e => by cases e)
  | .up _, .of _ _ => isFalse (fun e => by cases e)
  | .to _, .nm _ => isFalse (fun e => by cases e)
  | .to _, .up _ => isFalse (fun e => by cases e)
  | .to _, .of _ _ => isFalse (fun e => by cases e)
  | .of _ _, .nm _ => isFalse (fun e => by cases e)
  | .of _ _, .up _ => isFalse (fun e => by cases e)
  | .of _ _, .to _ => isFalse (fun e => by cases e)
instance : DecidableEq Fm := fmDec
abbrev Kn := List (List Nat × Fm)
def encK (τ : Kn) : List Kv := τ.map fun q => (q.1, MV.p (encF q.2))
theorem dget_encK (x : List Nat) (σ : Kn) : dget x (encK σ) = (look x σ).map fun s => .p (encF s) := by
  induction σ with
  | nil => rfl
  | cons q r ih =>
    obtain ⟨y, s⟩ := q
    simp only [encK, List.map_cons, dget, look]
    split
    · rfl
    · exact ih
theorem encK_keys (σ : Kn) : (encK σ).map (·.1) = σ.map (·.1) := by simp [encK, Function.comp_def]
theorem encF_inj : ∀ (F G : Fm), encF F = encF G → F = G := by
  intro F
  induction F with
  | nm x => intro G h; cases G <;> simp [encF, sNm, sUp, sTo, sOf] at h ⊢; exact h
  | up x => intro G h; cases G <;> simp [encF, sNm, sUp, sTo, sOf] at h ⊢; omega
  | to b ih => intro G h; cases G <;> simp [encF, sNm, sUp, sTo, sOf] at h ⊢; exact ih _ h
  | of a b iha ihb => intro G h; cases G <;> simp [encF, sNm, sUp, sTo, sOf] at h ⊢; exact ⟨iha _ h.1, ihb _ h.2⟩
theorem cmp_encF (F G : Fm) (s : Sto) (h : fd F ≤ 60) : cmpop .eq (.v (.p (encF F))) (.v (.p (encF G))) s = some (decide (F = G)) :=
  cmp_eq_pp _ _ s (encF_noB F) (encF_noB G) (.inl (by have := encF_dep F; omega)) _ (by simp; exact ⟨fun h => by rw [h], encF_inj F G⟩)
theorem cmp_encFn (F G : Fm) (s : Sto) (h : fd F ≤ 60) : cmpop .ne (.v (.p (encF F))) (.v (.p (encF G))) s = some (!decide (F = G)) :=
  cmp_ne_pp _ _ s (encF_noB F) (encF_noB G) (.inl (by have := encF_dep F; omega)) _ (by simp; exact ⟨fun h => by rw [h], encF_inj F G⟩)
/-! law_filled -/
def tabT (τ : Kn) (d : Nat) (x : List Nat) : Fm := upF d 0 ((look x τ).getD (.nm x))
theorem law_filled_ok (τ : Kn) (m : Nat) (s : Sto) (hm : s[m]? = some (.dic (encK τ))) (hτ : ∀ q, q ∈ τ → fd q.2 ≤ 10) : ∀ (F : Fm) (deep k : Nat), fd F + 11 ≤ k → doCall (callM P k) 28 [.p (encF F), .r m, .p (.int (deep : Int))] s = .ok (.v (.p (encF (fill (tabT τ) deep F)))) s := by
  intro F
  induction F with
  | nm x =>
    intro deep k hk
    obtain ⟨k, rfl⟩ := ge1 (n := 11) (k := k) (by simp only [fd] at hk; omega)
    have h1 := dget_encK x τ
    refine runs_ref (d := ⟨3, 3, b28⟩) (e := [some (.p (encF (.nm x))), some (.r m), some (.p (.int (deep : Int)))]) rfl rfl rfl ?_
    cases hs : look x τ with
    | none => rw [hs] at h1; simp [b28, encF, sNm, dicOf, objOf, hm, kstr, h1, lim, fill, tabT, hs, upF]; rfl
    | some G =>
      rw [hs] at h1
      have hg : fd G ≤ 10 := hτ _ (look_mem hs)
      have h2 := law_up_ok deep G 0 k (by omega) s
      simp at h2
      simp [b28, encF, sNm, dicOf, objOf, hm, kstr, h1, lim, fill, tabT, hs, h2]
  | up i =>
    intro deep k hk
    obtain ⟨k, rfl⟩ := ge1 (n := 11) (k := k) (by simp only [fd] at hk; omega)
    refine runs_ref (d := ⟨3, 3, b28⟩) (e := [some (.p (encF (.up i))), some (.r m), some (.p (.int (deep : Int)))]) rfl rfl rfl ?_
    simp [b28, encF, sUp, fill, lim]; rfl
  | to b ih =>
    intro deep k hk
    simp only [fd] at hk
    obtain ⟨k, rfl⟩ := ge1 (n := fd b + 11) (k := k) (by omega)
    have h1 := ih (deep + 1) k (by omega)
    have e : (((deep + 1 : Nat)) : Int) = (deep : Int) + 1 := rfl
    rw [e] at h1
    refine runs_ref (d := ⟨3, 3, b28⟩) (e := [some (.p (encF (.to b))), some (.r m), some (.p (.int (deep : Int)))]) rfl rfl rfl ?_
    simp [b28, encF, sTo, fill, h1, lim]
  | of a b iha ihb =>
    intro deep k hk
    simp only [fd] at hk
    obtain ⟨k, rfl⟩ := ge1 (n := max (fd a) (fd b) + 11) (k := k) (by omega)
    have h1 := iha deep k (by omega)
    have h2 := ihb deep k (by omega)
    have h3 : cmpop .inn (.v (.p (.str [111, 102]))) (.o (.lst [.p (.str [110, 97, 109, 101]), .p (.str [117, 112])])) s = some false := rfl
    refine runs_ref (d := ⟨3, 3, b28⟩) (e := [some (.p (encF (.of a b))), some (.r m), some (.p (.int (deep : Int)))]) rfl rfl rfl ?_
    simp [b28, encF, sOf, fill, h1, h2, h3, lim]
/-! matching -/
def kput (x : List Nat) (F : Fm) : Kn → Kn
  | [] => [(x, F)]
  | (y, G) :: r => if y = x then (y, F) :: r else (y, G) :: kput x F r
theorem encK_put (x : List Nat) (F : Fm) (K : Kn) : dput x (.p (encF F)) (encK K) = encK (kput x F K) := by
  induction K with
  | nil => rfl
  | cons q r ih =>
    obtain ⟨y, G⟩ := q
    simp only [encK, List.map_cons, dput, kput] at ih ⊢
    split
    · rfl
    · rw [ih]; rfl
def mtch (N : List (List Nat)) : Fm → Fm → Nat → Kn → Option Kn
  | .nm x, F, deep, K => if x ∈ N then (if hangs deep 0 F = true ∨ (look x K).getD F ≠ F then none else some (kput x F K)) else (if F = .nm x then some K else none)
  | .up i, F, _, K => if F = .up i then some K else none
  | .to p, F, deep, K => match F with
    | .to f => mtch N p f (deep + 1) K
    | _ => none
  | .of p q, F, deep, K => match F with
    | .of f g => (mtch N p f deep K).bind fun K1 => mtch N q g deep K1
    | _ => none
theorem kput_len (x : List Nat) (F : Fm) (K : Kn) : (kput x F K).length ≤ K.length + 1 := by
  induction K with
  | nil => simp [kput]
  | cons q r ih => obtain ⟨y, G⟩ := q; simp only [kput]; split <;> simp <;> omega
theorem kput_keys (x : List Nat) (F : Fm) (K : Kn) : (kput x F K).map (·.1) = if x ∈ K.map (·.1) then K.map (·.1) else K.map (·.1) ++ [x] := by
  induction K with
  | nil => simp [kput]
  | cons q r ih =>
    obtain ⟨y, G⟩ := q
    simp only [kput, List.map_cons, List.mem_cons]
    by_cases e : y = x
    · subst e; simp
    · have e2 : ¬ x = y := fun h => e h.symm
      simp only [e, if_false, List.map_cons, ih, e2, false_or]
      split <;> simp
theorem kput_nodup (x : List Nat) (F : Fm) (K : Kn) (h : (K.map (·.1)).Nodup) : ((kput x F K).map (·.1)).Nodup := by
  rw [kput_keys]
  split
  · exact h
  · rename_i hx
    rw [List.nodup_append]
    refine ⟨h, by simp, ?_⟩
    intro a ha b hb
    rw [List.mem_singleton] at hb
    subst hb
    rintro rfl
    exact hx ha
theorem mtch_ok (N : List (List Nat)) : ∀ (p f : Fm) (deep : Nat) (K K' : Kn), mtch N p f deep K = some K' → K'.length ≤ K.length + swF p ∧ ((K.map (·.1)).Nodup → (K'.map (·.1)).Nodup) := by
  intro p
  induction p with
  | nm x =>
    intro f deep K K' h
    simp only [mtch] at h
    split at h
    · split at h
      · cases h
      · cases h; exact ⟨by have := kput_len x f K; simp only [swF]; omega, kput_nodup x f K⟩
    · split at h
      · cases h; exact ⟨by omega, id⟩
      · cases h
  | up i =>
    intro f deep K K' h
    simp only [mtch] at h
    split at h
    · cases h; exact ⟨by omega, id⟩
    · cases h
  | to p ih =>
    intro f deep K K' h
    cases f with
    | to f => have := ih f (deep + 1) K K' h; exact ⟨by simp only [swF]; omega, this.2⟩
    | _ => cases h
  | of p q ihp ihq =>
    intro f deep K K' h
    cases f with
    | of f g =>
      simp only [mtch] at h
      cases h1 : mtch N p f deep K with
      | none => rw [h1] at h; cases h
      | some K1 =>
        rw [h1] at h
        have a1 := ihp f deep K K1 h1
        have a2 := ihq g deep K1 K' h
        exact ⟨by simp only [swF]; omega, fun q => a2.2 (a1.2 q)⟩
    | _ => cases h
theorem foGo_step {src : Src} {tg : MT} {b : Env → Sto → RS} {n i : Nat} {e e1 : Env} {s : Sto} {x : MV} (h : itm src s i = some (some x)) (h2 : setT tg x e = some e1) : foGo src tg b (n + 1) i e s = (match b e1 s with
        | .ok .nx e2 s2 => foGo src tg b n (i + 1) e2 s2
        | .ok .ct e2 s2 => foGo src tg b n (i + 1) e2 s2
        | .ok .bk e2 s2 => .ok .nx e2 s2
        | r => r) := by
  rw [foGo, h]
  simp only [h2]
  try rfl
theorem foGo_end {src : Src} {tg : MT} {b : Env → Sto → RS} {n i : Nat} {e : Env} {s : Sto} (h : itm src s i = some none) : foGo src tg b (n + 1) i e s = .ok .nx e s := by
  rw [foGo, h]
theorem foGo_nx {src : Src} {tg : MT} {b : Env → Sto → RS} {n i : Nat} {e e1 e2 : Env} {s s2 : Sto} {x : MV} {r : RS} (h : itm src s i = some (some x)) (h2 : setT tg x e = some e1) (h3 : b e1 s = .ok .nx e2 s2) (h4 : foGo src tg b n (i + 1) e2 s2 = r) : foGo src tg b (n + 1) i e s = r := by
  rw [foGo_step h h2, h3]; exact h4
theorem foGo_rt {src : Src} {tg : MT} {b : Env → Sto → RS} {n i : Nat} {e e1 e2 : Env} {s s2 : Sto} {x : MV} {q : EV} (h : itm src s i = some (some x)) (h2 : setT tg x e = some e1) (h3 : b e1 s = .ok (.rt q) e2 s2) : foGo src tg b (n + 1) i e s = .ok (.rt q) e2 s2 := by
  rw [foGo_step h h2, h3]
theorem wfuel3 : ∃ n, wfuel = n + 1 + 1 + 1 := ⟨1099511627773, rfl⟩
theorem for_eq {C : Nat → List MV → Sto → Res EV} {t : MT} {it : MI} {b : MSs} {env : Env} {s s1 : Sto} {src : Src} {r : RS} (h : evI P C it env s = .ok src s1) (h2 : foGo src t (fun e s => evSs P C b e s) wfuel 0 env s1 = r) : evS P C (.forr t it b) env s = r := by
  rw [evS, h, bindE_ok]; exact h2
theorem zipE {C : Nat → List MV → Sto → Res EV} {a b : MX} {env : Env} {s : Sto} {l k : List PV} (ha : evE P C a env s = .ok (.v (.p (.tup l))) s) (hb : evE P C b env s = .ok (.v (.p (.tup k))) s) : evI P C (.zip a b) env s = .ok (.zt (l.map .p) (k.map .p)) s := by
  rw [evI, ha, Mev.bind_ok, hb, Mev.bind_ok]
  rfl
theorem slfE {C : Nat → List MV → Sto → Res EV} {i : Nat} {env : Env} {s : Sto} {a : PV} {l : List PV} (h : env[i]? = some (some (.p (.tup (a :: l))))) : evE P C (.slf (.var i) (.lit (.int 1))) env s = .ok (.v (.p (.tup l))) s := by
  have := slf1 (a :: l) s
  simp only [E_slf, E_var, h, E_lit, Mev.bind_ok, evP_eq, this, optR_some, List.drop_succ_cons, List.drop_zero]
theorem bi_dict_r (m : Nat) (l : List Kv) (s : Sto) (hm : s[m]? = some (.dic l)) : biF .dict [.v (.r m)] s = .ok (.o (.dic l)) s := by
  have h1 : pairsOf (.v (.r m)) s = none := by simp only [pairsOf, tupOf, tupSeq, objOf, hm]
  simp only [biF, h1, objOf, hm]
theorem mem_two (i j x : MV) : True := trivial
/-- what a match leaves -/
def MOut (r : Res EV) (s : Sto) (o : Option Kn) : Prop := match o with
  | none => ∃ x, r = .ok (.v (.p .non)) (s ++ x)
  | some K => ∃ x m, r = .ok (.v (.r m)) (s ++ x) ∧ (s ++ x)[m]? = some (.dic (encK K))
theorem kn1 (s : Sto) : cmpop .inn (.v (.p (.str [110, 97, 109, 101]))) (.v (.p (.tup [.str [110, 97, 109, 101], .str [117, 112]]))) s = some true := rfl
theorem kn2 (s : Sto) : cmpop .inn (.v (.p (.str [117, 112]))) (.v (.p (.tup [.str [110, 97, 109, 101], .str [117, 112]]))) s = some true := rfl
theorem kn3 (s : Sto) : cmpop .inn (.v (.p (.str [116, 111]))) (.v (.p (.tup [.str [110, 97, 109, 101], .str [117, 112]]))) s = some false := rfl
theorem kn4 (s : Sto) : cmpop .inn (.v (.p (.str [111, 102]))) (.v (.p (.tup [.str [110, 97, 109, 101], .str [117, 112]]))) s = some false := rfl
theorem len2 (a b : PV) (s : Sto) : biF .len [.v (.p (.tup [a, b]))] s = .ok (.v (.p (.int 2))) s := rfl
theorem len3 (a b c : PV) (s : Sto) : biF .len [.v (.p (.tup [a, b, c]))] s = .ok (.v (.p (.int 3))) s := rfl
@[simp] theorem cmp_ne_ii (i j : Int) (s : Sto) : cmpop .ne (.v (.p (.int i))) (.v (.p (.int j))) s = some (!decide (i = j)) := by
  have := cmp_eq_ii i j s
  simp only [cmpop] at this ⊢
  rw [this]; rfl
def mfor : MS := (.forr (.tp [7, 8]) (.zip (.slf (.var 0) (.lit (.int 1))) (.slf (.var 1) (.lit (.int 1)))) (.cons (.asg (.nm 4) (.call 17 (.cons (.var 7) (.cons (.var 8) (.cons (.var 2) (.cons (.var 5) (.cons (.var 4) .nil)))))))
  (.cons (.iff (.cmp .isn (.var 4) (.lit .non)) (.cons (.ret (.lit .non))
  .nil) .nil)
  .nil)))
theorem mbody (k : Nat) (a0 a1 a2 a3 a6 : Option MV) (p f : PV) (N : MV) (d : MV) (m : Nat) (s : Sto) (o : Option Kn) (ha2 : a2 = some N) (h : MOut (doCall (callM P k) 17 [.p p, .p f, N, d, .r m] s) s o) :
    match o with
    | none => ∃ x, evSs P (callM P k) (.cons (.asg (.nm 4) (.call 17 (.cons (.var 7) (.cons (.var 8) (.cons (.var 2) (.cons (.var 5) (.cons (.var 4) .nil)))))))
  (.cons (.iff (.cmp .isn (.var 4) (.lit .non)) (.cons (.ret (.lit .non))
  .nil) .nil)
  .nil)) [a0, a1, a2, a3, some (.r m), some d, a6, some (.p p), some (.p f)] s = .ok (.rt (.v (.p .non))) [a0, a1, a2, a3, some (.p .non), some d, a6, some (.p p), some (.p f)] (s ++ x)
    | some K => ∃ x m', evSs P (callM P k) (.cons (.asg (.nm 4) (.call 17 (.cons (.var 7) (.cons (.var 8) (.cons (.var 2) (.cons (.var 5) (.cons (.var 4) .nil)))))))
  (.cons (.iff (.cmp .isn (.var 4) (.lit .non)) (.cons (.ret (.lit .non))
  .nil) .nil)
  .nil)) [a0, a1, a2, a3, some (.r m), some d, a6, some (.p p), some (.p f)] s = .ok .nx [a0, a1, a2, a3, some (.r m'), some d, a6, some (.p p), some (.p f)] (s ++ x) ∧ (s ++ x)[m']? = some (.dic (encK K)) := by
  subst ha2
  cases o with
  | none =>
    obtain ⟨x, hx⟩ := h
    refine ⟨x, ?_⟩
    have h1 : cmpop .isn (.v (.p .non)) (.v (.p .non)) (s ++ x) = some true := rfl
    simp [hx, h1]
  | some K =>
    obtain ⟨x, m', hx, hm⟩ := h
    refine ⟨x, m', ?_, hm⟩
    have h1 : cmpop .isn (.v (.r m')) (.v (.p .non)) (s ++ x) = some false := rfl
    simp [hx, h1]
theorem ss_rt {C : Nat → List MV → Sto → Res EV} {a : MS} {r : MSs} {e e1 : Env} {s s1 : Sto} {q : EV} (h : evS P C a e s = .ok (.rt q) e1 s1) : evSs P C (.cons a r) e s = .ok (.rt q) e1 s1 := by
  rw [Ss_cons, h, seq_rt]
theorem iffT {C : Nat → List MV → Sto → Res EV} {c : MX} {a b : MSs} {env : Env} {s s1 : Sto} {r : RS} (hc : evE P C c env s = .ok (.v (.p (.bl true))) s1) (ha : evSs P C a env s1 = r) : evS P C (.iff c a b) env s = r := by
  rw [S_iff, hc, tst_ok, truth_bl, optR_some, bindE_ok, if_pos rfl]; exact ha
theorem iffF {C : Nat → List MV → Sto → Res EV} {c : MX} {a b : MSs} {env : Env} {s s1 : Sto} {r : RS} (hc : evE P C c env s = .ok (.v (.p (.bl false))) s1) (ha : evSs P C b env s1 = r) : evS P C (.iff c a b) env s = r := by
  rw [S_iff, hc, tst_ok, truth_bl, optR_some, bindE_ok, if_neg (by decide)]; exact ha
theorem match_ok (N : List (List Nat)) : ∀ (p f : Fm) (deep : Nat) (K : Kn) (k m : Nat) (s : Sto), fd p ≤ 50 → fd f ≤ 50 → fd p + fd f + 1 ≤ k → K.length + swF p ≤ 500 → s[m]? = some (.dic (encK K)) →
    MOut (doCall (callM P k) 17 [.p (encF p), .p (encF f), .p (encN N), .p (.int (deep : Int)), .r m] s) s (mtch N p f deep K) := by
  intro p
  induction p with
  | nm x =>
    intro f deep K k m s hp hf hk hl hm
    obtain ⟨k, rfl⟩ := ge1 (n := fd f + 1) (k := k) (by simp only [fd] at hk; omega)
    have hm1 := (List.getElem?_eq_some_iff.1 hm).1
    simp only [mtch]
    let env : Env := [some (.p (encF (.nm x))), some (.p (encF f)), some (.p (encN N)), some (.p (.int (deep : Int))), some (.r m), none, none, none, none]
    by_cases hx : x ∈ N
    · rw [if_pos hx]
      have h1 := hangs_on_ok deep f 0 k (by omega) s
      simp at h1
      have h2 := dget_encK x K
      have hdg : evE P (callM P k) (.dg2 (.var 4) (.ix (.var 0) (.lit (.int 1))) (.var 1)) env s = .ok (.v (.p (encF ((look x K).getD f)))) s := by
        cases hs : look x K <;> rw [hs] at h2 <;> simp [env, encF, sNm, dicOf, objOf, hm, kstr, h2]
      have h3 : cmpop .ne (.v (.p (encF ((look x K).getD f)))) (.v (.p (encF f))) s = some (!decide ((look x K).getD f = f)) :=
        cmp_ne_pp _ _ s (encF_noB _) (encF_noB f) (.inr (by have := encF_dep f; omega)) _ (by simp; exact ⟨fun h => by rw [h], encF_inj _ f⟩)
      have hc1 : evE P (callM P k) (.and (.cmp .eq (.ix (.var 0) (.lit (.int 0))) (.lit (.str [110, 97, 109, 101]))) (.cmp .inn (.ix (.var 0) (.lit (.int 1))) (.var 2))) env s = .ok (.v (.p (.bl true))) s := by
        simp [env, encF, sNm, encN, hx]
      have hc2 : evE P (callM P k) (.or (.call 18 (.cons (.var 1) (.cons (.var 3) (.cons (.lit (.int 0)) .nil)))) (.cmp .ne (.dg2 (.var 4) (.ix (.var 0) (.lit (.int 1))) (.var 1)) (.var 1))) env s = .ok (.v (.p (.bl (hangs deep 0 f || !decide ((look x K).getD f = f))))) s := by
        have hcall : evE P (callM P k) (.call 18 (.cons (.var 1) (.cons (.var 3) (.cons (.lit (.int 0)) .nil)))) env s = .ok (.v (.p (.bl (hangs deep 0 f)))) s := by simp [env, h1]
        rw [E_or, hcall]
        simp only [Mev.bind_ok, truth_bl]
        cases hh : hangs deep 0 f with
        | true => simp
        | false =>
          simp only [Bool.false_or]
          rw [E_cmp, hdg]
          simp only [Mev.bind_ok, E_var, env, List.getElem?_cons_succ, List.getElem?_cons_zero, h3, bl_eq]
      by_cases hc : hangs deep 0 f = true ∨ (look x K).getD f ≠ f
      · rw [if_pos hc]
        have hb : (hangs deep 0 f || !decide ((look x K).getD f = f)) = true := by
          rcases hc with h | h <;> simp [h]
        rw [hb] at hc2
        refine ⟨[], ?_⟩
        rw [List.append_nil]
        refine runs_ref (d := ⟨9, 5, b17⟩) (e := env) rfl rfl rfl ?_
        exact ss_rt (iffT hc1 (ss_rt (iffT hc2 (ss_rt (by simp [env])))))
      · rw [if_neg hc]
        have hb : (hangs deep 0 f || !decide ((look x K).getD f = f)) = false := by
          rw [not_or] at hc
          have h4 : hangs deep 0 f = false := by simpa using hc.1
          have h5 : (look x K).getD f = f := Classical.not_not.1 hc.2
          simp [h4, h5]
        rw [hb] at hc2
        have hdict := bi_dict_r m _ s hm
        have hput := encK_put x f K
        have hlen : (encK K).length < lim := by simp [encK, lim]; simp only [swF] at hl; omega
        refine ⟨[.dic (encK (kput x f K))], s.length, ?_, by simp⟩
        refine runs_ref (d := ⟨9, 5, b17⟩) (e := [some (.p (encF (.nm x))), some (.p (encF f)), some (.p (encN N)), some (.p (.int (deep : Int))), some (.r m), none, some (.r s.length), none, none]) rfl rfl rfl ?_
        refine ss_rt (iffT hc1 (ss_nx (iffF hc2 (Ss_nil ..)) ?_))
        refine ss_nx (e1 := [some (.p (encF (.nm x))), some (.p (encF f)), some (.p (encN N)), some (.p (.int (deep : Int))), some (.r m), none, some (.r s.length), none, none]) (s1 := s ++ [.dic (encK K)]) (by simp [env, hdict]) ?_
        refine ss_nx (e1 := [some (.p (encF (.nm x))), some (.p (encF f)), some (.p (encN N)), some (.p (.int (deep : Int))), some (.r m), none, some (.r s.length), none, none]) (s1 := s ++ [.dic (encK (kput x f K))]) ?_ (by simp)
        simp [encF, sNm, kstr]
        rw [if_pos hlen, hput]
    · rw [if_neg hx]
      have hc1 : evE P (callM P k) (.and (.cmp .eq (.ix (.var 0) (.lit (.int 0))) (.lit (.str [110, 97, 109, 101]))) (.cmp .inn (.ix (.var 0) (.lit (.int 1))) (.var 2))) env s = .ok (.v (.p (.bl false))) s := by
        simp [env, encF, sNm, encN, hx]
      have hst1 := iffF (a := (.cons (.iff (.or (.call 18 (.cons (.var 1) (.cons (.var 3) (.cons (.lit (.int 0)) .nil)))) (.cmp .ne (.dg2 (.var 4) (.ix (.var 0) (.lit (.int 1))) (.var 1)) (.var 1))) (.cons (.ret (.lit .non)) .nil) .nil)
          (.cons (.asg (.nm 6) (.bi .dict (.cons (.var 4) .nil))) (.cons (.dsub (.var 6) (.ix (.var 0) (.lit (.int 1))) (.var 1)) (.cons (.ret (.var 6)) .nil))))) hc1 (Ss_nil ..)
      have h5 := cmp_encF (.nm x) f s (by omega)
      have hx2 : ∀ r e, evSs P (callM P k) b17 env s = .ok (.rt r) e s → doCall (callM P (k + 1)) 17 [.p (encF (.nm x)), .p (encF f), .p (encN N), .p (.int (deep : Int)), .r m] s = .ok r s := fun r e h => runs_ref (d := ⟨9, 5, b17⟩) (e := e) rfl rfl rfl h
      have hgo : doCall (callM P (k + 1)) 17 [.p (encF (.nm x)), .p (encF f), .p (encN N), .p (.int (deep : Int)), .r m] s = .ok (if f = .nm x then .v (.r m) else .v (.p .non)) s := by
        refine hx2 _ env ?_
        refine ss_nx hst1 ?_
        have e5 : decide (Fm.nm x = f) = decide (f = Fm.nm x) := by simp only [decide_eq_decide]; exact ⟨fun h => h.symm, fun h => h.symm⟩
        rw [e5] at h5
        cases f with
        | nm y =>
          simp only [encF, sNm] at h5
          by_cases hq : Fm.nm y = Fm.nm x
          · rw [decide_eq_true hq] at h5; simp [env, encF, sNm, len2, kn1, h5, hq, lim]
          · rw [decide_eq_false hq] at h5; simp [env, encF, sNm, len2, kn1, h5, hq, lim]
        | up i => simp [env, encF, sNm, sUp]
        | to b => simp [env, encF, sNm, sTo]
        | of a b => simp [env, encF, sNm, sOf]
      by_cases hq : f = .nm x
      · rw [if_pos hq] at hgo ⊢
        exact ⟨[], m, by rw [List.append_nil]; exact hgo, by rw [List.append_nil]; exact hm⟩
      · rw [if_neg hq] at hgo ⊢
        exact ⟨[], by rw [List.append_nil]; exact hgo⟩
  | up i =>
    intro f deep K k m s hp hf hk hl hm
    obtain ⟨k, rfl⟩ := ge1 (n := fd f + 1) (k := k) (by simp only [fd] at hk; omega)
    simp only [mtch]
    let env : Env := [some (.p (encF (.up i))), some (.p (encF f)), some (.p (encN N)), some (.p (.int (deep : Int))), some (.r m), none, none, none, none]
    have h5 := cmp_encF (.up i) f s (by omega)
    have hgo : doCall (callM P (k + 1)) 17 [.p (encF (.up i)), .p (encF f), .p (encN N), .p (.int (deep : Int)), .r m] s = .ok (if f = .up i then .v (.r m) else .v (.p .non)) s := by
      refine runs_ref (d := ⟨9, 5, b17⟩) (e := env) rfl rfl rfl ?_
      refine ss_nx (e1 := env) (s1 := s) (by simp [env, encF, sUp]) ?_
      have e5 : decide (Fm.up i = f) = decide (f = Fm.up i) := by simp only [decide_eq_decide]; exact ⟨fun h => h.symm, fun h => h.symm⟩
      rw [e5] at h5
      cases f with
      | nm y => simp [env, encF, sNm, sUp]
      | up j =>
        simp only [encF, sUp] at h5
        by_cases hq : Fm.up j = Fm.up i
        · rw [decide_eq_true hq] at h5; simp [env, encF, sUp, len2, kn2, h5, hq, lim]
        · rw [decide_eq_false hq] at h5; simp [env, encF, sUp, len2, kn2, h5, hq, lim]
      | to b => simp [env, encF, sUp, sTo]
      | of a b => simp [env, encF, sUp, sOf]
    by_cases hq : f = .up i
    · rw [if_pos hq] at hgo ⊢
      exact ⟨[], m, by rw [List.append_nil]; exact hgo, by rw [List.append_nil]; exact hm⟩
    · rw [if_neg hq] at hgo ⊢
      exact ⟨[], by rw [List.append_nil]; exact hgo⟩
  | to p ih =>
    intro f deep K k m s hp hf hk hl hm
    obtain ⟨k, rfl⟩ := ge1 (n := fd p + fd f + 1) (k := k) (by simp only [fd] at hk; omega)
    simp only [fd, swF] at hp hk hl
    let env : Env := [some (.p (encF (.to p))), some (.p (encF f)), some (.p (encN N)), some (.p (.int (deep : Int))), some (.r m), none, none, none, none]
    have hno : ∀ g, (∀ h, g ≠ Fm.to h) → f = g → MOut (doCall (callM P (k + 1)) 17 [.p (encF (.to p)), .p (encF f), .p (encN N), .p (.int (deep : Int)), .r m] s) s none := by
      rintro g hg rfl
      refine ⟨[], ?_⟩
      rw [List.append_nil]
      refine runs_ref (d := ⟨9, 5, b17⟩) (e := env) rfl rfl rfl ?_
      refine ss_nx (e1 := env) (s1 := s) (by simp [env, encF, sTo]) ?_
      cases f with
      | to h => exact absurd rfl (hg h)
      | nm y => simp [env, encF, sNm, sTo]
      | up j => simp [env, encF, sUp, sTo]
      | of a b => simp [env, encF, sTo, sOf]
    cases f with
    | nm y => exact hno _ (by intro h; simp) rfl
    | up y => exact hno _ (by intro h; simp) rfl
    | of y z => exact hno _ (by intro h; simp) rfl
    | to f =>
      simp only [fd] at hf hk
      simp only [mtch]
      have h1 := ih f (deep + 1) K k m s (by omega) (by omega) (by omega) (by omega) hm
      have e : (((deep + 1 : Nat)) : Int) = (deep : Int) + 1 := rfl
      rw [e] at h1
      let env2 : Env := [some (.p (encF (.to p))), some (.p (encF (.to f))), some (.p (encN N)), some (.p (.int (deep : Int))), some (.r m), some (.p (.int ((deep : Int) + 1))), none, none, none]
      have hst : ∀ q, evSs P (callM P k) (.cons mfor (.cons (.ret (.var 4)) .nil)) env2 s = q → evSs P (callM P k) b17 env s = q := by
        intro q hq
        refine ss_nx (e1 := env) (s1 := s) (by simp [env, encF, sTo]) ?_
        refine ss_nx (e1 := env) (s1 := s) (by simp [env, encF, sTo, len2]) ?_
        refine ss_nx (e1 := env) (s1 := s) (by simp [env, encF, sTo, kn3, lim]) ?_
        refine ss_nx (e1 := env2) (s1 := s) (by simp [env, env2, encF, sTo]) ?_
        exact hq
      have hz : evI P (callM P k) (.zip (.slf (.var 0) (.lit (.int 1))) (.slf (.var 1) (.lit (.int 1)))) env2 s = .ok (.zt [.p (encF p)] [.p (encF f)]) s := zipE (l := [encF p]) (k := [encF f]) (slfE (a := sTo) rfl) (slfE (a := sTo) rfl)
      obtain ⟨n, hn⟩ := wfuel3
      cases ho : mtch N p f (deep + 1) K with
      | none =>
        rw [ho] at h1
        have hb := mbody k (some (.p (encF (.to p)))) (some (.p (encF (.to f)))) (some (.p (encN N))) (some (.p (.int (deep : Int)))) none (encF p) (encF f) (.p (encN N)) (.p (.int ((deep : Int) + 1))) m s _ rfl h1
        obtain ⟨x, hb⟩ := hb
        refine ⟨x, runs_ref (d := ⟨9, 5, b17⟩) (e := [some (.p (encF (.to p))), some (.p (encF (.to f))), some (.p (encN N)), some (.p (.int (deep : Int))), some (.p .non), some (.p (.int ((deep : Int) + 1))), none, some (.p (encF p)), some (.p (encF f))]) rfl rfl rfl (hst _ (ss_rt (for_eq hz ?_)))⟩
        rw [hn]
        exact foGo_rt (x := .p (.tup [encF p, encF f])) rfl rfl hb
      | some K' =>
        rw [ho] at h1
        have hb := mbody k (some (.p (encF (.to p)))) (some (.p (encF (.to f)))) (some (.p (encN N))) (some (.p (.int (deep : Int)))) none (encF p) (encF f) (.p (encN N)) (.p (.int ((deep : Int) + 1))) m s _ rfl h1
        obtain ⟨x, m', hb, hm'⟩ := hb
        refine ⟨x, m', runs_ref (d := ⟨9, 5, b17⟩) (e := [some (.p (encF (.to p))), some (.p (encF (.to f))), some (.p (encN N)), some (.p (.int (deep : Int))), some (.r m'), some (.p (.int ((deep : Int) + 1))), none, some (.p (encF p)), some (.p (encF f))]) rfl rfl rfl (hst _ (ss_nx (e1 := [some (.p (encF (.to p))), some (.p (encF (.to f))), some (.p (encN N)), some (.p (.int (deep : Int))), some (.r m'), some (.p (.int ((deep : Int) + 1))), none, some (.p (encF p)), some (.p (encF f))]) (s1 := s ++ x) (for_eq hz ?_) ?_)), hm'⟩
        · rw [hn]
          exact foGo_nx (x := .p (.tup [encF p, encF f])) rfl rfl hb (foGo_end rfl)
        · simp
  | of p q ihp ihq =>
    intro f deep K k m s hp hf hk hl hm
    obtain ⟨k, rfl⟩ := ge1 (n := max (fd p) (fd q) + fd f + 1) (k := k) (by simp only [fd] at hk; omega)
    simp only [fd, swF] at hp hk hl
    let env : Env := [some (.p (encF (.of p q))), some (.p (encF f)), some (.p (encN N)), some (.p (.int (deep : Int))), some (.r m), none, none, none, none]
    have hno : ∀ g, (∀ h i, g ≠ Fm.of h i) → f = g → MOut (doCall (callM P (k + 1)) 17 [.p (encF (.of p q)), .p (encF f), .p (encN N), .p (.int (deep : Int)), .r m] s) s none := by
      rintro g hg rfl
      refine ⟨[], ?_⟩
      rw [List.append_nil]
      refine runs_ref (d := ⟨9, 5, b17⟩) (e := env) rfl rfl rfl ?_
      refine ss_nx (e1 := env) (s1 := s) (by simp [env, encF, sOf]) ?_
      cases f with
      | of h i => exact absurd rfl (hg h i)
      | nm y => simp [env, encF, sNm, sOf]
      | up j => simp [env, encF, sUp, sOf]
      | to b => simp [env, encF, sTo, sOf]
    cases f with
    | nm y => exact hno _ (by intro h i; simp) rfl
    | up y => exact hno _ (by intro h i; simp) rfl
    | to y => exact hno _ (by intro h i; simp) rfl
    | of f g =>
      simp only [fd] at hf hk
      simp only [mtch]
      have h1 := ihp f deep K k m s (by omega) (by omega) (by omega) (by omega) hm
      let env2 : Env := [some (.p (encF (.of p q))), some (.p (encF (.of f g))), some (.p (encN N)), some (.p (.int (deep : Int))), some (.r m), some (.p (.int (deep : Int))), none, none, none]
      have hst : ∀ q, evSs P (callM P k) (.cons mfor (.cons (.ret (.var 4)) .nil)) env2 s = q → evSs P (callM P k) b17 env s = q := by
        intro q hq
        refine ss_nx (e1 := env) (s1 := s) (by simp [env, encF, sOf]) ?_
        refine ss_nx (e1 := env) (s1 := s) (by simp [env, encF, sOf, len3]) ?_
        refine ss_nx (e1 := env) (s1 := s) (by simp [env, encF, sOf, kn4, lim]) ?_
        refine ss_nx (e1 := env2) (s1 := s) (by simp [env, env2, encF, sOf]) ?_
        exact hq
      have hz : evI P (callM P k) (.zip (.slf (.var 0) (.lit (.int 1))) (.slf (.var 1) (.lit (.int 1)))) env2 s = .ok (.zt [.p (encF p), .p (encF q)] [.p (encF f), .p (encF g)]) s := zipE (l := [encF p, encF q]) (k := [encF f, encF g]) (slfE (a := sOf) rfl) (slfE (a := sOf) rfl)
      obtain ⟨n, hn⟩ := wfuel3
      cases ho : mtch N p f deep K with
      | none =>
        rw [ho] at h1
        have hb := mbody k (some (.p (encF (.of p q)))) (some (.p (encF (.of f g)))) (some (.p (encN N))) (some (.p (.int (deep : Int)))) none (encF p) (encF f) (.p (encN N)) (.p (.int (deep : Int))) m s _ rfl h1
        obtain ⟨x, hb⟩ := hb
        refine ⟨x, runs_ref (d := ⟨9, 5, b17⟩) (e := [some (.p (encF (.of p q))), some (.p (encF (.of f g))), some (.p (encN N)), some (.p (.int (deep : Int))), some (.p .non), some (.p (.int (deep : Int))), none, some (.p (encF p)), some (.p (encF f))]) rfl rfl rfl (hst _ (ss_rt (for_eq hz ?_)))⟩
        rw [hn]
        exact foGo_rt (x := .p (.tup [encF p, encF f])) rfl rfl hb
      | some K1 =>
        rw [ho] at h1
        have hb := mbody k (some (.p (encF (.of p q)))) (some (.p (encF (.of f g)))) (some (.p (encN N))) (some (.p (.int (deep : Int)))) none (encF p) (encF f) (.p (encN N)) (.p (.int (deep : Int))) m s _ rfl h1
        obtain ⟨x, m1, hb, hm'⟩ := hb
        have hK1 := (mtch_ok N p f deep K K1 ho).1
        have h2 := ihq g deep K1 k m1 (s ++ x) (by omega) (by omega) (by omega) (by omega) hm'
        simp only [Option.bind_some]
        cases ho2 : mtch N q g deep K1 with
        | none =>
          rw [ho2] at h2
          have hb2 := mbody k (some (.p (encF (.of p q)))) (some (.p (encF (.of f g)))) (some (.p (encN N))) (some (.p (.int (deep : Int)))) none (encF q) (encF g) (.p (encN N)) (.p (.int (deep : Int))) m1 (s ++ x) _ rfl h2
          obtain ⟨y, hb2⟩ := hb2
          refine ⟨x ++ y, runs_ref (d := ⟨9, 5, b17⟩) (e := [some (.p (encF (.of p q))), some (.p (encF (.of f g))), some (.p (encN N)), some (.p (.int (deep : Int))), some (.p .non), some (.p (.int (deep : Int))), none, some (.p (encF q)), some (.p (encF g))]) rfl rfl rfl (hst _ (ss_rt (for_eq hz ?_)))⟩
          rw [hn, ← List.append_assoc]
          exact foGo_nx (x := .p (.tup [encF p, encF f])) rfl rfl hb (foGo_rt (x := .p (.tup [encF q, encF g])) rfl rfl hb2)
        | some K' =>
          rw [ho2] at h2
          have hb2 := mbody k (some (.p (encF (.of p q)))) (some (.p (encF (.of f g)))) (some (.p (encN N))) (some (.p (.int (deep : Int)))) none (encF q) (encF g) (.p (encN N)) (.p (.int (deep : Int))) m1 (s ++ x) _ rfl h2
          obtain ⟨y, m', hb2, hm2⟩ := hb2
          refine ⟨x ++ y, m', ?_, by rw [← List.append_assoc]; exact hm2⟩
          rw [← List.append_assoc]
          refine runs_ref (d := ⟨9, 5, b17⟩) (e := [some (.p (encF (.of p q))), some (.p (encF (.of f g))), some (.p (encN N)), some (.p (.int (deep : Int))), some (.r m'), some (.p (.int (deep : Int))), none, some (.p (encF q)), some (.p (encF g))]) rfl rfl rfl (hst _ (ss_nx (e1 := [some (.p (encF (.of p q))), some (.p (encF (.of f g))), some (.p (encN N)), some (.p (.int (deep : Int))), some (.r m'), some (.p (.int (deep : Int))), none, some (.p (encF q)), some (.p (encF g))]) (s1 := s ++ x ++ y) (for_eq hz ?_) ?_))
          · rw [hn]
            exact foGo_nx (x := .p (.tup [encF p, encF f])) rfl rfl hb (foGo_nx (x := .p (.tup [encF q, encF g])) rfl rfl hb2 (foGo_end rfl))
          · simp
end K36
end
section
set_option maxRecDepth 20000
namespace K36
open Mn Mev
/-- what the law's own match leaves -/
def MOut2 (r : Res EV) (s : Sto) (o : Option Kn) : Prop := match o with
  | none => ∃ x, r = .ok (.v (.p .non)) (s ++ x)
  | some K => ∃ v s' x m, r = .ok v s' ∧ hold v s' = (.r m, s ++ x) ∧ (s ++ x)[m]? = some (.dic (encK K))
theorem cmp_in_r (m : Nat) (tk : List (List Nat)) (x : List Nat) (s : Sto) (hm : s[m]? = some (.lst (tk.map fun x => .p (.str x)))) : cmpop .inn (.v (.p (.str x))) (.v (.r m)) s = some (decide (x ∈ tk)) := by
  have hv : view (.v (.r m)) s = some (.lst (tk.map .str)) := by
    simp only [view, viewM, hm]
    have : mapO (viewM s 2) (tk.map fun x => MV.p (.str x)) = some (tk.map .str) := by
      clear hm
      induction tk with
      | nil => rfl
      | cons a r ih => simp only [List.map_cons, mapO, viewM, ih]
    rw [this]; rfl
  show inD (.v (.p (.str x))) (.v (.r m)) s = _
  unfold inD
  rw [hv]
  simp only [view, viewM, deps_str, any_str]
  rfl
theorem ko1 (s : Sto) : cmpop .inn (.v (.p (.str [110, 97, 109, 101]))) (.o (.lst [.p (.str [110, 97, 109, 101]), .p (.str [117, 112])])) s = some true := rfl
theorem ko2 (s : Sto) : cmpop .inn (.v (.p (.str [117, 112]))) (.o (.lst [.p (.str [110, 97, 109, 101]), .p (.str [117, 112])])) s = some true := rfl
theorem ko3 (s : Sto) : cmpop .inn (.v (.p (.str [116, 111]))) (.o (.lst [.p (.str [110, 97, 109, 101]), .p (.str [117, 112])])) s = some false := rfl
theorem ko4 (s : Sto) : cmpop .inn (.v (.p (.str [111, 102]))) (.o (.lst [.p (.str [110, 97, 109, 101]), .p (.str [117, 112])])) s = some false := rfl
def lmb : MSs := (.cons (.asg (.nm 4) (.ite (.cmp .notn (.var 4) (.lit .non)) (.call 30 (.cons (.var 5) (.cons (.var 6) (.cons (.var 2) (.cons (.bin .add (.var 3) (.ite (.cmp .eq (.ix (.var 0) (.lit (.int 0))) (.lit (.str [116, 111]))) (.lit (.int 1)) (.lit (.int 0)))) (.cons (.var 4) .nil)))))) (.lit .non)))
  .nil)
def lmfor : MS := (.forr (.tp [5, 6]) (.zip (.slf (.var 0) (.lit (.int 1))) (.slf (.var 1) (.lit (.int 1)))) lmb)
theorem lmb_non (k : Nat) (a0 a1 a2 a3 a5 a6 : Option MV) (s : Sto) : evSs P (callM P k) lmb [a0, a1, a2, a3, some (.p .non), a5, a6] s = .ok .nx [a0, a1, a2, a3, some (.p .non), a5, a6] s := by
  have h1 : cmpop .notn (.v (.p .non)) (.v (.p .non)) s = some false := rfl
  simp [lmb, h1]
theorem lmb_ok (k : Nat) (a1 : Option MV) (pt : PV) (p f : PV) (N : MV) (d d2 : Int) (m : Nat) (s : Sto) (o : Option Kn) (hd : evE P (callM P k) (.bin .add (.var 3) (.ite (.cmp .eq (.ix (.var 0) (.lit (.int 0))) (.lit (.str [116, 111]))) (.lit (.int 1)) (.lit (.int 0)))) [some (.p pt), a1, some N, some (.p (.int d)), some (.r m), some (.p p), some (.p f)] s = .ok (.v (.p (.int d2))) s)
    (h : MOut2 (doCall (callM P k) 30 [.p p, .p f, N, .p (.int d2), .r m] s) s o) :
    match o with
    | none => ∃ x, evSs P (callM P k) lmb [some (.p pt), a1, some N, some (.p (.int d)), some (.r m), some (.p p), some (.p f)] s = .ok .nx [some (.p pt), a1, some N, some (.p (.int d)), some (.p .non), some (.p p), some (.p f)] (s ++ x)
    | some K => ∃ x m', evSs P (callM P k) lmb [some (.p pt), a1, some N, some (.p (.int d)), some (.r m), some (.p p), some (.p f)] s = .ok .nx [some (.p pt), a1, some N, some (.p (.int d)), some (.r m'), some (.p p), some (.p f)] (s ++ x) ∧ (s ++ x)[m']? = some (.dic (encK K)) := by
  have hn : evE P (callM P k) (.cmp .notn (.var 4) (.lit .non)) [some (.p pt), a1, some N, some (.p (.int d)), some (.r m), some (.p p), some (.p f)] s = .ok (.v (.p (.bl true))) s := by
    have h1 : cmpop .notn (.v (.r m)) (.v (.p .non)) s = some true := rfl
    simp [h1]
  have hc : ∀ r, doCall (callM P k) 30 [.p p, .p f, N, .p (.int d2), .r m] s = r → evE P (callM P k) (.call 30 (.cons (.var 5) (.cons (.var 6) (.cons (.var 2) (.cons (.bin .add (.var 3) (.ite (.cmp .eq (.ix (.var 0) (.lit (.int 0))) (.lit (.str [116, 111]))) (.lit (.int 1)) (.lit (.int 0)))) (.cons (.var 4) .nil)))))) [some (.p pt), a1, some N, some (.p (.int d)), some (.r m), some (.p p), some (.p f)] s = r := by
    intro r hr
    rw [E_call]
    simp only [L_cons, L_nil, E_var, List.getElem?_cons_succ, List.getElem?_cons_zero, Mev.bind_ok]
    rw [hd]
    simp only [Mev.bind_ok, holdAll_cons, holdAll_nil, hold_v]
    exact hr
  cases o with
  | none =>
    obtain ⟨x, hx⟩ := h
    refine ⟨x, ?_⟩
    unfold lmb
    rw [Ss_cons, S_asg, iteT hn (hc _ hx)]
    simp
  | some K =>
    obtain ⟨v, s', x, m', hx, hh, hm⟩ := h
    refine ⟨x, m', ?_, hm⟩
    unfold lmb
    rw [Ss_cons, S_asg, iteT hn (hc _ hx)]
    simp [hh]
theorem dadd_fold (x : List Nat) (f : Fm) (K : Kn) (h : (K.map (·.1)).Nodup) : (encK K ++ [(x, MV.p (encF f))]).foldl (fun acc q => dput q.1 q.2 acc) [] = encK (kput x f K) := by
  rw [List.foldl_append, dput_fold (encK K) [] (by rw [List.nil_append, encK_keys]; exact h)]
  exact encK_put x f K
theorem law_match_ok (N : List (List Nat)) (nr : Nat) : ∀ (p f : Fm) (deep : Nat) (K : Kn) (k m : Nat) (s : Sto), fd p ≤ 50 → fd f ≤ 50 → fd p + fd f + 1 ≤ k → K.length + swF p ≤ 500 → (K.map (·.1)).Nodup → s[nr]? = some (.lst (N.map fun x => .p (.str x))) → s[m]? = some (.dic (encK K)) →
    MOut2 (doCall (callM P k) 30 [.p (encF p), .p (encF f), .r nr, .p (.int (deep : Int)), .r m] s) s (mtch N p f deep K) := by
  intro p
  induction p with
  | nm x =>
    intro f deep K k m s hp hf hk hl hnd hnr hm
    obtain ⟨k, rfl⟩ := ge1 (n := fd f + 1) (k := k) (by simp only [fd] at hk; omega)
    have hm1 := (List.getElem?_eq_some_iff.1 hm).1
    have hin := cmp_in_r nr N x s hnr
    simp only [mtch]
    let env : Env := [some (.p (encF (.nm x))), some (.p (encF f)), some (.r nr), some (.p (.int (deep : Int))), some (.r m), none, none]
    by_cases hx : x ∈ N
    · rw [if_pos hx]
      have h1 := law_outside_ok deep f 0 k (by omega) s
      simp at h1
      have h2 := dget_encK x K
      have hdg : evE P (callM P k) (.dg2 (.var 4) (.ix (.var 0) (.lit (.int 1))) (.var 1)) env s = .ok (.v (.p (encF ((look x K).getD f)))) s := by
        cases hs : look x K <;> rw [hs] at h2 <;> simp [env, encF, sNm, dicOf, objOf, hm, kstr, h2]
      have h3 : cmpop .ne (.v (.p (encF ((look x K).getD f)))) (.v (.p (encF f))) s = some (!decide ((look x K).getD f = f)) :=
        cmp_ne_pp _ _ s (encF_noB _) (encF_noB f) (.inr (by have := encF_dep f; omega)) _ (by simp; exact ⟨fun h => by rw [h], encF_inj _ f⟩)
      have hc1 : evE P (callM P k) (.and (.cmp .eq (.ix (.var 0) (.lit (.int 0))) (.lit (.str [110, 97, 109, 101]))) (.cmp .inn (.ix (.var 0) (.lit (.int 1))) (.var 2))) env s = .ok (.v (.p (.bl true))) s := by
        simp [env, encF, sNm, hin, hx]
      have hc2 : evE P (callM P k) (.or (.call 29 (.cons (.var 1) (.cons (.var 3) (.cons (.lit (.int 0)) .nil)))) (.cmp .ne (.dg2 (.var 4) (.ix (.var 0) (.lit (.int 1))) (.var 1)) (.var 1))) env s = .ok (.v (.p (.bl (hangs deep 0 f || !decide ((look x K).getD f = f))))) s := by
        have hcall : evE P (callM P k) (.call 29 (.cons (.var 1) (.cons (.var 3) (.cons (.lit (.int 0)) .nil)))) env s = .ok (.v (.p (.bl (hangs deep 0 f)))) s := by simp [env, h1]
        rw [E_or, hcall]
        simp only [Mev.bind_ok, truth_bl]
        cases hh : hangs deep 0 f with
        | true => simp
        | false =>
          simp only [Bool.false_or]
          rw [E_cmp, hdg]
          simp only [Mev.bind_ok, E_var, env, List.getElem?_cons_succ, List.getElem?_cons_zero, h3, bl_eq]
      by_cases hc : hangs deep 0 f = true ∨ (look x K).getD f ≠ f
      · rw [if_pos hc]
        have hb : (hangs deep 0 f || !decide ((look x K).getD f = f)) = true := by
          rcases hc with h | h <;> simp [h]
        rw [hb] at hc2
        refine ⟨[], ?_⟩
        rw [List.append_nil]
        refine runs_ref (d := ⟨7, 5, b30⟩) (e := env) rfl rfl rfl ?_
        exact ss_rt (iffT hc1 (ss_rt (iffT hc2 (ss_rt (by simp [env])))))
      · rw [if_neg hc]
        have hb : (hangs deep 0 f || !decide ((look x K).getD f = f)) = false := by
          rw [not_or] at hc
          have h4 : hangs deep 0 f = false := by simpa using hc.1
          have h5 : (look x K).getD f = f := Classical.not_not.1 hc.2
          simp [h4, h5]
        rw [hb] at hc2
        have hlen : (encK K).length < 1000 := by simp [encK]; simp only [swF] at hl; omega
        have hadd := dadd_fold x f K hnd
        refine ⟨.o (.dic (encK (kput x f K))), s, [.dic (encK (kput x f K))], s.length, ?_, rfl, by simp⟩
        have hv : evE P (callM P k) (.dadd (.var 4) (.ix (.var 0) (.lit (.int 1))) (.var 1)) env s = .ok (.o (.dic (encK (kput x f K)))) s := by
          rw [E_dadd]
          simp only [E_var, env, List.getElem?_cons_succ, List.getElem?_cons_zero, Mev.bind_ok, objOf, hm, E_ix, E_lit, evP_eq, encF, sNm, ix_21, optR_some, kstr, hold_v]
          rw [if_pos hlen]
          rw [hadd]
        refine runs_ref (d := ⟨7, 5, b30⟩) (e := env) rfl rfl rfl ?_
        refine ss_rt (iffT hc1 (ss_nx (iffF hc2 (Ss_nil ..)) (ss_rt ?_)))
        rw [S_ret]
        show RS.bindE (evE P (callM P k) (.dadd (.var 4) (.ix (.var 0) (.lit (.int 1))) (.var 1)) env s) env _ = _
        rw [hv]
        rfl
    · rw [if_neg hx]
      have hc1 : evE P (callM P k) (.and (.cmp .eq (.ix (.var 0) (.lit (.int 0))) (.lit (.str [110, 97, 109, 101]))) (.cmp .inn (.ix (.var 0) (.lit (.int 1))) (.var 2))) env s = .ok (.v (.p (.bl false))) s := by
        simp [env, encF, sNm, hin, hx]
      have h5 := cmp_encF (.nm x) f s (by omega)
      have hgo : doCall (callM P (k + 1)) 30 [.p (encF (.nm x)), .p (encF f), .r nr, .p (.int (deep : Int)), .r m] s = .ok (if f = .nm x then .v (.r m) else .v (.p .non)) s := by
        refine runs_ref (d := ⟨7, 5, b30⟩) (e := env) rfl rfl rfl ?_
        refine ss_nx (iffF hc1 (Ss_nil ..)) ?_
        have e5 : decide (Fm.nm x = f) = decide (f = Fm.nm x) := by simp only [decide_eq_decide]; exact ⟨fun h => h.symm, fun h => h.symm⟩
        rw [e5] at h5
        cases f with
        | nm y =>
          simp only [encF, sNm] at h5
          by_cases hq : Fm.nm y = Fm.nm x
          · rw [decide_eq_true hq] at h5; simp [env, encF, sNm, ko1, h5, hq, lim]
          · rw [decide_eq_false hq] at h5; simp [env, encF, sNm, ko1, h5, hq, lim]
        | up i => simp only [encF, sNm, sUp] at h5; simp at h5; simp [env, encF, sNm, sUp, h5]
        | to b => simp only [encF, sNm, sTo] at h5; simp at h5; simp [env, encF, sNm, sTo, h5]
        | of a b => simp only [encF, sNm, sOf] at h5; simp at h5; simp [env, encF, sNm, sOf, h5]
      by_cases hq : f = .nm x
      · rw [if_pos hq] at hgo ⊢
        exact ⟨_, _, [], m, hgo, by rw [List.append_nil]; rfl, by rw [List.append_nil]; exact hm⟩
      · rw [if_neg hq] at hgo ⊢
        exact ⟨[], by rw [List.append_nil]; exact hgo⟩
  | up i =>
    intro f deep K k m s hp hf hk hl hnd hnr hm
    obtain ⟨k, rfl⟩ := ge1 (n := fd f + 1) (k := k) (by simp only [fd] at hk; omega)
    simp only [mtch]
    let env : Env := [some (.p (encF (.up i))), some (.p (encF f)), some (.r nr), some (.p (.int (deep : Int))), some (.r m), none, none]
    have h5 := cmp_encF (.up i) f s (by omega)
    have hgo : doCall (callM P (k + 1)) 30 [.p (encF (.up i)), .p (encF f), .r nr, .p (.int (deep : Int)), .r m] s = .ok (if f = .up i then .v (.r m) else .v (.p .non)) s := by
      refine runs_ref (d := ⟨7, 5, b30⟩) (e := env) rfl rfl rfl ?_
      refine ss_nx (e1 := env) (s1 := s) (by simp [env, encF, sUp]) ?_
      have e5 : decide (Fm.up i = f) = decide (f = Fm.up i) := by simp only [decide_eq_decide]; exact ⟨fun h => h.symm, fun h => h.symm⟩
      rw [e5] at h5
      cases f with
      | nm y => simp only [encF, sNm, sUp] at h5; simp at h5; simp [env, encF, sNm, sUp, h5]
      | up j =>
        simp only [encF, sUp] at h5
        by_cases hq : Fm.up j = Fm.up i
        · rw [decide_eq_true hq] at h5; simp [env, encF, sUp, ko2, h5, hq, lim]
        · rw [decide_eq_false hq] at h5; simp [env, encF, sUp, ko2, h5, hq, lim]
      | to b => simp only [encF, sUp, sTo] at h5; simp at h5; simp [env, encF, sUp, sTo, h5]
      | of a b => simp only [encF, sUp, sOf] at h5; simp at h5; simp [env, encF, sUp, sOf, h5]
    by_cases hq : f = .up i
    · rw [if_pos hq] at hgo ⊢
      exact ⟨_, _, [], m, hgo, by rw [List.append_nil]; rfl, by rw [List.append_nil]; exact hm⟩
    · rw [if_neg hq] at hgo ⊢
      exact ⟨[], by rw [List.append_nil]; exact hgo⟩
  | to p ih =>
    intro f deep K k m s hp hf hk hl hnd hnr hm
    obtain ⟨k, rfl⟩ := ge1 (n := fd p + fd f + 1) (k := k) (by simp only [fd] at hk; omega)
    have hp0 := hp
    simp only [fd, swF] at hp hk hl
    let env : Env := [some (.p (encF (.to p))), some (.p (encF f)), some (.r nr), some (.p (.int (deep : Int))), some (.r m), none, none]
    have hno : ∀ g, (∀ h, g ≠ Fm.to h) → f = g → MOut2 (doCall (callM P (k + 1)) 30 [.p (encF (.to p)), .p (encF f), .r nr, .p (.int (deep : Int)), .r m] s) s none := by
      rintro g hg rfl
      have h5 := cmp_encF (.to p) f s (by omega)
      refine ⟨[], ?_⟩
      rw [List.append_nil]
      refine runs_ref (d := ⟨7, 5, b30⟩) (e := env) rfl rfl rfl ?_
      refine ss_nx (e1 := env) (s1 := s) (by simp [env, encF, sTo]) ?_
      cases f with
      | to h => exact absurd rfl (hg h)
      | nm y => simp only [encF, sNm, sTo] at h5; simp at h5; simp [env, encF, sNm, sTo, h5]
      | up j => simp only [encF, sUp, sTo] at h5; simp at h5; simp [env, encF, sUp, sTo, h5]
      | of a b => simp only [encF, sOf, sTo] at h5; simp at h5; simp [env, encF, sTo, sOf, h5]
    cases f with
    | nm y => exact hno _ (by intro h; simp) rfl
    | up y => exact hno _ (by intro h; simp) rfl
    | of y z => exact hno _ (by intro h; simp) rfl
    | to f =>
      simp only [fd] at hf hk
      simp only [mtch]
      have h1 := ih f (deep + 1) K k m s (by omega) (by omega) (by omega) (by omega) hnd hnr hm
      have e : (((deep + 1 : Nat)) : Int) = (deep : Int) + 1 := rfl
      rw [e] at h1
      have hst : ∀ q, evSs P (callM P k) (.cons lmfor (.cons (.ret (.var 4)) .nil)) env s = q → evSs P (callM P k) b30 env s = q := by
        intro q hq
        refine ss_nx (e1 := env) (s1 := s) (by simp [env, encF, sTo]) ?_
        refine ss_nx (e1 := env) (s1 := s) (by simp [env, encF, sTo, ko3, lim]) ?_
        exact hq
      have hz : evI P (callM P k) (.zip (.slf (.var 0) (.lit (.int 1))) (.slf (.var 1) (.lit (.int 1)))) env s = .ok (.zt [.p (encF p)] [.p (encF f)]) s := zipE (l := [encF p]) (k := [encF f]) (slfE (a := sTo) rfl) (slfE (a := sTo) rfl)
      obtain ⟨n, hn⟩ := wfuel3
      have hd : evE P (callM P k) (.bin .add (.var 3) (.ite (.cmp .eq (.ix (.var 0) (.lit (.int 0))) (.lit (.str [116, 111]))) (.lit (.int 1)) (.lit (.int 0)))) [some (.p (encF (.to p))), some (.p (encF (.to f))), some (.r nr), some (.p (.int (deep : Int))), some (.r m), some (.p (encF p)), some (.p (encF f))] s = .ok (.v (.p (.int ((deep : Int) + 1)))) s := by simp [encF, sTo]
      cases ho : mtch N p f (deep + 1) K with
      | none =>
        rw [ho] at h1
        obtain ⟨x, hb⟩ := lmb_ok k (some (.p (encF (.to f)))) (encF (.to p)) (encF p) (encF f) (.r nr) (deep : Int) ((deep : Int) + 1) m s none hd h1
        refine ⟨x, runs_ref (d := ⟨7, 5, b30⟩) (e := [some (.p (encF (.to p))), some (.p (encF (.to f))), some (.r nr), some (.p (.int (deep : Int))), some (.p .non), some (.p (encF p)), some (.p (encF f))]) rfl rfl rfl (hst _ (ss_nx (e1 := [some (.p (encF (.to p))), some (.p (encF (.to f))), some (.r nr), some (.p (.int (deep : Int))), some (.p .non), some (.p (encF p)), some (.p (encF f))]) (s1 := s ++ x) (for_eq hz ?_) (by simp)))⟩
        rw [hn]
        exact foGo_nx (x := .p (.tup [encF p, encF f])) rfl rfl hb (foGo_end rfl)
      | some K' =>
        rw [ho] at h1
        obtain ⟨x, m', hb, hm'⟩ := lmb_ok k (some (.p (encF (.to f)))) (encF (.to p)) (encF p) (encF f) (.r nr) (deep : Int) ((deep : Int) + 1) m s (some K') hd h1
        refine ⟨_, _, x, m', runs_ref (d := ⟨7, 5, b30⟩) (e := [some (.p (encF (.to p))), some (.p (encF (.to f))), some (.r nr), some (.p (.int (deep : Int))), some (.r m'), some (.p (encF p)), some (.p (encF f))]) (r := .v (.r m')) (s' := s ++ x) rfl rfl rfl (hst _ (ss_nx (e1 := [some (.p (encF (.to p))), some (.p (encF (.to f))), some (.r nr), some (.p (.int (deep : Int))), some (.r m'), some (.p (encF p)), some (.p (encF f))]) (s1 := s ++ x) (for_eq hz ?_) (by simp))), rfl, hm'⟩
        rw [hn]
        exact foGo_nx (x := .p (.tup [encF p, encF f])) rfl rfl hb (foGo_end rfl)
  | of p q ihp ihq =>
    intro f deep K k m s hp hf hk hl hnd hnr hm
    obtain ⟨k, rfl⟩ := ge1 (n := max (fd p) (fd q) + fd f + 1) (k := k) (by simp only [fd] at hk; omega)
    have hp0 := hp
    simp only [fd, swF] at hp hk hl
    let env : Env := [some (.p (encF (.of p q))), some (.p (encF f)), some (.r nr), some (.p (.int (deep : Int))), some (.r m), none, none]
    have hno : ∀ g, (∀ h i, g ≠ Fm.of h i) → f = g → MOut2 (doCall (callM P (k + 1)) 30 [.p (encF (.of p q)), .p (encF f), .r nr, .p (.int (deep : Int)), .r m] s) s none := by
      rintro g hg rfl
      have h5 := cmp_encF (.of p q) f s (by omega)
      refine ⟨[], ?_⟩
      rw [List.append_nil]
      refine runs_ref (d := ⟨7, 5, b30⟩) (e := env) rfl rfl rfl ?_
      refine ss_nx (e1 := env) (s1 := s) (by simp [env, encF, sOf]) ?_
      cases f with
      | of h i => exact absurd rfl (hg h i)
      | nm y => simp only [encF, sNm, sOf] at h5; simp at h5; simp [env, encF, sNm, sOf, h5]
      | up j => simp only [encF, sUp, sOf] at h5; simp at h5; simp [env, encF, sUp, sOf, h5]
      | to b => simp only [encF, sOf, sTo] at h5; simp at h5; simp [env, encF, sTo, sOf, h5]
    cases f with
    | nm y => exact hno _ (by intro h i; simp) rfl
    | up y => exact hno _ (by intro h i; simp) rfl
    | to y => exact hno _ (by intro h i; simp) rfl
    | of f g =>
      simp only [fd] at hf hk
      simp only [mtch]
      have h1 := ihp f deep K k m s (by omega) (by omega) (by omega) (by omega) hnd hnr hm
      have hst : ∀ q, evSs P (callM P k) (.cons lmfor (.cons (.ret (.var 4)) .nil)) env s = q → evSs P (callM P k) b30 env s = q := by
        intro q hq
        refine ss_nx (e1 := env) (s1 := s) (by simp [env, encF, sOf]) ?_
        refine ss_nx (e1 := env) (s1 := s) (by simp [env, encF, sOf, ko4, lim]) ?_
        exact hq
      have hz : evI P (callM P k) (.zip (.slf (.var 0) (.lit (.int 1))) (.slf (.var 1) (.lit (.int 1)))) env s = .ok (.zt [.p (encF p), .p (encF q)] [.p (encF f), .p (encF g)]) s := zipE (l := [encF p, encF q]) (k := [encF f, encF g]) (slfE (a := sOf) rfl) (slfE (a := sOf) rfl)
      obtain ⟨n, hn⟩ := wfuel3
      have hd : ∀ (m : Nat) (a b : PV) (s : Sto), evE P (callM P k) (.bin .add (.var 3) (.ite (.cmp .eq (.ix (.var 0) (.lit (.int 0))) (.lit (.str [116, 111]))) (.lit (.int 1)) (.lit (.int 0)))) [some (.p (encF (.of p q))), some (.p (encF (.of f g))), some (.r nr), some (.p (.int (deep : Int))), some (.r m), some (.p a), some (.p b)] s = .ok (.v (.p (.int (deep : Int)))) s := by intro m a b s; simp [encF, sOf]
      have hnon : ∀ (s : Sto) (x y : Option MV), foGo (.zt [.p (encF p), .p (encF q)] [.p (encF f), .p (encF g)]) (.tp [5, 6]) (fun e s => evSs P (callM P k) lmb e s) (n + 1 + 1) 1 [some (.p (encF (.of p q))), some (.p (encF (.of f g))), some (.r nr), some (.p (.int (deep : Int))), some (.p .non), x, y] s = .ok .nx [some (.p (encF (.of p q))), some (.p (encF (.of f g))), some (.r nr), some (.p (.int (deep : Int))), some (.p .non), some (.p (encF q)), some (.p (encF g))] s :=
        fun s x y => foGo_nx (x := .p (.tup [encF q, encF g])) rfl rfl (lmb_non ..) (foGo_end rfl)
      cases ho : mtch N p f deep K with
      | none =>
        rw [ho] at h1
        obtain ⟨x, hb⟩ := lmb_ok k (some (.p (encF (.of f g)))) (encF (.of p q)) (encF p) (encF f) (.r nr) (deep : Int) (deep : Int) m s none (hd ..) h1
        refine ⟨x, runs_ref (d := ⟨7, 5, b30⟩) (e := [some (.p (encF (.of p q))), some (.p (encF (.of f g))), some (.r nr), some (.p (.int (deep : Int))), some (.p .non), some (.p (encF q)), some (.p (encF g))]) rfl rfl rfl (hst _ (ss_nx (e1 := [some (.p (encF (.of p q))), some (.p (encF (.of f g))), some (.r nr), some (.p (.int (deep : Int))), some (.p .non), some (.p (encF q)), some (.p (encF g))]) (s1 := s ++ x) (for_eq hz ?_) (by simp)))⟩
        rw [hn]
        exact foGo_nx (x := .p (.tup [encF p, encF f])) rfl rfl hb (hnon ..)
      | some K1 =>
        rw [ho] at h1
        obtain ⟨x, m1, hb, hm'⟩ := lmb_ok k (some (.p (encF (.of f g)))) (encF (.of p q)) (encF p) (encF f) (.r nr) (deep : Int) (deep : Int) m s (some K1) (hd ..) h1
        have hK1 := mtch_ok N p f deep K K1 ho
        have hnr2 : (s ++ x)[nr]? = some (.lst (N.map fun x => .p (.str x))) := by
          rw [List.getElem?_append_left (List.getElem?_eq_some_iff.1 hnr).1]; exact hnr
        have h2 := ihq g deep K1 k m1 (s ++ x) (by omega) (by omega) (by omega) (by omega) (hK1.2 hnd) hnr2 hm'
        simp only [Option.bind_some]
        cases ho2 : mtch N q g deep K1 with
        | none =>
          rw [ho2] at h2
          obtain ⟨y, hb2⟩ := lmb_ok k (some (.p (encF (.of f g)))) (encF (.of p q)) (encF q) (encF g) (.r nr) (deep : Int) (deep : Int) m1 (s ++ x) none (hd ..) h2
          refine ⟨x ++ y, ?_⟩
          rw [← List.append_assoc]
          refine runs_ref (d := ⟨7, 5, b30⟩) (e := [some (.p (encF (.of p q))), some (.p (encF (.of f g))), some (.r nr), some (.p (.int (deep : Int))), some (.p .non), some (.p (encF q)), some (.p (encF g))]) rfl rfl rfl (hst _ (ss_nx (e1 := [some (.p (encF (.of p q))), some (.p (encF (.of f g))), some (.r nr), some (.p (.int (deep : Int))), some (.p .non), some (.p (encF q)), some (.p (encF g))]) (s1 := s ++ x ++ y) (for_eq hz ?_) (by simp)))
          rw [hn]
          exact foGo_nx (x := .p (.tup [encF p, encF f])) rfl rfl hb (foGo_nx (x := .p (.tup [encF q, encF g])) rfl rfl hb2 (foGo_end rfl))
        | some K' =>
          rw [ho2] at h2
          obtain ⟨y, m', hb2, hm2⟩ := lmb_ok k (some (.p (encF (.of f g)))) (encF (.of p q)) (encF q) (encF g) (.r nr) (deep : Int) (deep : Int) m1 (s ++ x) (some K') (hd ..) h2
          refine ⟨.v (.r m'), s ++ x ++ y, x ++ y, m', ?_, by rw [← List.append_assoc]; rfl, by rw [← List.append_assoc]; exact hm2⟩
          refine runs_ref (d := ⟨7, 5, b30⟩) (e := [some (.p (encF (.of p q))), some (.p (encF (.of f g))), some (.r nr), some (.p (.int (deep : Int))), some (.r m'), some (.p (encF q)), some (.p (encF g))]) rfl rfl rfl (hst _ (ss_nx (e1 := [some (.p (encF (.of p q))), some (.p (encF (.of f g))), some (.r nr), some (.p (.int (deep : Int))), some (.r m'), some (.p (encF q)), some (.p (encF g))]) (s1 := s ++ x ++ y) (for_eq hz ?_) (by simp)))
          rw [hn]
          exact foGo_nx (x := .p (.tup [encF p, encF f])) rfl rfl hb (foGo_nx (x := .p (.tup [encF q, encF g])) rfl rfl hb2 (foGo_end rfl))
end K36
end
section
set_option maxRecDepth 20000
namespace K36
open Mn Mev
theorem hangs_cl (deep : Nat) : ∀ (F : Fm) (inner : Nat), hangs deep inner F = false → Cl (inner + deep) F → Cl inner F := by
  intro F
  induction F with
  | nm x => intro inner _ _; trivial
  | up i =>
    intro inner h hc
    simp only [hangs, decide_eq_false_iff_not] at h
    simp only [Cl] at hc ⊢
    omega
  | to b ih =>
    intro inner h hc
    simp only [hangs, Cl] at h hc ⊢
    exact ih (inner + 1) h (by rw [show inner + 1 + deep = inner + deep + 1 by omega]; exact hc)
  | of a b iha ihb =>
    intro inner h hc
    simp only [hangs, Bool.or_eq_false_iff, Cl] at h hc ⊢
    exact ⟨iha inner h.1 hc.1, ihb inner h.2 hc.2⟩
theorem upF_cl (d : Nat) : ∀ (F : Fm) (c : Nat), Cl c F → upF d c F = F := by
  intro F
  induction F with
  | nm x => intro c _; rfl
  | up i => intro c h; simp only [upF, Cl] at h ⊢; rw [if_neg (by omega)]
  | to b ih => intro c h; simp only [upF]; rw [ih (c + 1) h]
  | of a b iha ihb => intro c h; simp only [upF]; rw [iha c h.1, ihb c h.2]
theorem look_kput (x y : List Nat) (F : Fm) (K : Kn) : look y (kput x F K) = if y = x then some F else look y K := by
  induction K with
  | nil =>
    simp only [kput, look]
    by_cases e : x = y
    · subst e; simp
    · have : ¬ y = x := fun h => e h.symm
      simp [e, this]
  | cons q r ih =>
    obtain ⟨z, G⟩ := q
    simp only [kput]
    by_cases e : z = x
    · subst e
      simp only [if_true, look]
      by_cases e2 : z = y
      · subst e2; simp
      · have : ¬ y = z := fun h => e2 h.symm
        simp [e2, this]
    · simp only [if_neg e, look]
      by_cases e2 : z = y
      · subst e2; simp [e]
      · simp only [if_neg e2, ih]
theorem look_none {β : Type} {x : List Nat} {K : List (List Nat × β)} (h : x ∉ K.map (·.1)) : look x K = none := by
  induction K with
  | nil => rfl
  | cons q r ih =>
    obtain ⟨y, s⟩ := q
    rw [List.map_cons, List.mem_cons, not_or] at h
    simp only [look]
    rw [if_neg fun e => h.1 e.symm]
    exact ih h.2
theorem look_some {β : Type} {x : List Nat} {K : List (List Nat × β)} (h : x ∈ K.map (·.1)) : ∃ s, look x K = some s ∧ (x, s) ∈ K := by
  induction K with
  | nil => simp at h
  | cons q r ih =>
    obtain ⟨y, s⟩ := q
    simp only [look]
    by_cases e : y = x
    · subst e; exact ⟨s, by simp, by simp⟩
    · rw [if_neg e]
      rw [List.map_cons, List.mem_cons] at h
      rcases h with h | h
      · exact absurd h.symm e
      · obtain ⟨t, h1, h2⟩ := ih h
        exact ⟨t, h1, List.mem_cons_of_mem _ h2⟩
theorem kput_mem {x : List Nat} {F : Fm} : ∀ {K : Kn} {q}, q ∈ kput x F K → q ∈ K ∨ q = (x, F) := by
  intro K
  induction K with
  | nil => intro q h; simp [kput] at h; exact .inr h
  | cons z r ih =>
    obtain ⟨y, G⟩ := z
    intro q h
    simp only [kput] at h
    split at h
    · rename_i e
      rcases List.mem_cons.1 h with h | h
      · subst e; exact .inr h
      · exact .inl (List.mem_cons_of_mem _ h)
    · rcases List.mem_cons.1 h with h | h
      · exact .inl (by rw [h]; exact List.mem_cons_self ..)
      · exact (ih h).imp_left (List.mem_cons_of_mem _)
def Good (B D : Nat) (F : Fm) : Prop := Cl 0 F ∧ swF F ≤ B ∧ fd F ≤ D
theorem swF_pos (F : Fm) : 1 ≤ swF F := by
  induction F with
  | nm x => simp [swF]
  | up i => simp [swF]
  | to b ih => simp only [swF]; omega
  | of a b iha ihb => simp only [swF]; omega
theorem mtch_sound (N : List (List Nat)) (B D : Nat) : ∀ (p f : Fm) (deep : Nat) (K K' : Kn), mtch N p f deep K = some K' → Cl deep f → swF f ≤ B → fd f ≤ D →
    (∀ x F, look x K = some F → look x K' = some F) ∧ (∀ x, x ∈ K'.map (·.1) ↔ x ∈ K.map (·.1) ∨ (x ∈ N ∧ FrF x p)) ∧ (∀ q, q ∈ K' → q ∈ K ∨ Good B D q.2) ∧
    (∀ K2 : Kn, (∀ x F, look x K' = some F → look x K2 = some F) → (∀ x, x ∈ K2.map (·.1) → x ∈ N) → fill (tabT K2) deep p = f) := by
  intro p
  induction p with
  | nm x =>
    intro f deep K K' h hcl hB hD
    simp only [mtch] at h
    by_cases hx : x ∈ N
    · rw [if_pos hx] at h
      split at h
      · cases h
      · rename_i hc
        rw [not_or] at hc
        have h1 : hangs deep 0 f = false := by simpa using hc.1
        have h2 : (look x K).getD f = f := Classical.not_not.1 hc.2
        have h3 : Cl 0 f := hangs_cl deep f 0 h1 (by rw [Nat.zero_add]; exact hcl)
        injection h with h
        subst h
        refine ⟨?_, ?_, ?_, ?_⟩
        · intro y F hy
          rw [look_kput]
          by_cases e : y = x
          · subst e; rw [hy] at h2; simp at h2; simp [h2]
          · rw [if_neg e]; exact hy
        · intro y
          rw [kput_keys]
          simp only [FrF]
          by_cases e : x ∈ K.map (·.1)
          · rw [if_pos e]
            constructor
            · exact fun h => .inl h
            · rintro (h | ⟨_, rfl⟩)
              · exact h
              · exact e
          · rw [if_neg e, List.mem_append, List.mem_singleton]
            constructor
            · rintro (h | rfl)
              · exact .inl h
              · exact .inr ⟨hx, rfl⟩
            · rintro (h | ⟨_, h⟩)
              · exact .inl h
              · exact .inr h
        · intro q hq
          rcases kput_mem hq with h | rfl
          · exact .inl h
          · exact .inr ⟨h3, hB, hD⟩
        · intro K2 hK2 _
          have := hK2 x f (by rw [look_kput]; simp)
          simp only [fill, tabT, this, Option.getD_some]
          exact upF_cl deep f 0 h3
    · rw [if_neg hx] at h
      split at h
      · rename_i e
        injection h with h
        subst h
        refine ⟨fun _ _ h => h, ?_, fun q h => .inl h, ?_⟩
        · intro y
          constructor
          · exact fun h => .inl h
          · rintro (h | ⟨h1, h2⟩)
            · exact h
            · simp only [FrF] at h2; subst h2; exact absurd h1 hx
        · intro K2 _ hN
          have := look_none (x := x) (K := K2) (fun h => hx (hN x h))
          simp only [fill, tabT, this, Option.getD_none, upF]
          exact e.symm
      · cases h
  | up i =>
    intro f deep K K' h _ _ _
    simp only [mtch] at h
    split at h
    · rename_i e
      injection h with h
      subst h
      exact ⟨fun _ _ h => h, fun y => ⟨fun h => .inl h, fun h => h.elim id fun h => h.2.elim⟩, fun q h => .inl h, fun K2 _ _ => by simp only [fill]; exact e.symm⟩
    · cases h
  | to p ih =>
    intro f deep K K' h hcl hB hD
    cases f with
    | to f =>
      simp only [swF, fd] at hB hD
      obtain ⟨h1, h2, h3, h4⟩ := ih f (deep + 1) K K' h hcl (by omega) (by omega)
      exact ⟨h1, h2, h3, fun K2 a b => by simp only [fill]; rw [h4 K2 a b]⟩
    | _ => cases h
  | of p q ihp ihq =>
    intro f deep K K' h hcl hB hD
    cases f with
    | of f g =>
      simp only [mtch] at h
      simp only [swF, fd] at hB hD
      cases ho : mtch N p f deep K with
      | none => rw [ho] at h; cases h
      | some K1 =>
        rw [ho] at h
        simp only [Option.bind_some] at h
        obtain ⟨a1, a2, a3, a4⟩ := ihp f deep K K1 ho hcl.1 (by omega) (by omega)
        obtain ⟨b1, b2, b3, b4⟩ := ihq g deep K1 K' h hcl.2 (by omega) (by omega)
        refine ⟨fun x F hx => b1 x F (a1 x F hx), ?_, ?_, ?_⟩
        · intro y
          rw [b2, a2]
          simp only [FrF]
          constructor
          · rintro ((h | ⟨h, h2⟩) | ⟨h, h2⟩)
            · exact .inl h
            · exact .inr ⟨h, .inl h2⟩
            · exact .inr ⟨h, .inr h2⟩
          · rintro (h | ⟨h, h2 | h2⟩)
            · exact .inl (.inl h)
            · exact .inl (.inr ⟨h, h2⟩)
            · exact .inr ⟨h, h2⟩
        · intro q hq
          rcases b3 q hq with h | h
          · exact a3 q h
          · exact .inr h
        · intro K2 hK hN
          simp only [fill]
          rw [a4 K2 (fun x F hx => hK x F (b1 x F hx)) hN, b4 K2 hK hN]
    | _ => cases h
/-! matches -/
def kget (K : Kn) (x : List Nat) : Fm := (look x K).getD (.nm x)
def toldL (K : Kn) : Tab := (sortS (K.map (·.1))).map fun x => (x, named (kget K x))
theorem bi_sorted_r (m : Nat) (K : Kn) (s : Sto) (hm : s[m]? = some (.dic (encK K))) (hl : K.length < 64) : biF .sorted [.v (.r m)] s = .ok (.o (.lst ((sortS (K.map (·.1))).map fun z => .p (.str z)))) s := by
  have h1 : (encK K).length < 64 := by simp [encK]; exact hl
  simp only [biF, objOf, hm]
  rw [if_pos h1, encK_keys]
theorem gives_exc {k f : Nat} {d : FD} {ms : List MV} {c : Nat} {x : Option Int} {e : Env} {s1 : Sto} (hd : P.fs[f]? = some d) (hl : ms.length = d.np) (hf : refFree ms = true) (h : evSs P (callM P k) d.body (ms.map some ++ List.replicate (d.n - ms.length) none) [] = .exc c x e s1) (s : Sto) : doCall (callM P (k + 1)) f ms s = .exc c x s := by
  unfold doCall isoCall
  rw [if_pos hf, callM_fin hd hl, h]
theorem matches_ok (N : List (List Nat)) (p t : Tm) (k : Nat) (hp : dp p ≤ 5) (ht : dp t ≤ 5) (hs : swF (bareW t []) ≤ 20) (hk : 30 ≤ k) :
    match mtch N (bareW p []) (bareW t []) 0 [] with
    | none => ∀ s, doCall (callM P k) 19 [.p (enc p), .p (enc t), .p (encN N)] s = .exc 1 none s
    | some K => Gives P k 19 [.p (enc p), .p (enc t), .p (encN N)] (.v (.p (encT (toldL K)))) := by
  obtain ⟨k, rfl⟩ := ge1 (n := 29) (k := k) hk
  have h1 := bare3_ok p k (by omega) (by omega)
  have h2 := bare3_ok t k (by omega) (by omega)
  have hfp := fd_bare p []
  have hft := fd_bare t []
  have hsp : swF (bareW p []) ≤ 16 := by
    rw [sw_bare]; have := sw_le p 5 hp; omega
  have h3 := match_ok N (bareW p []) (bareW t []) 0 [] k 0 [.dic []] (by omega) (by omega) (by omega) (by simp; omega) rfl
  have hev : evL P (callM P k) (.cons (.call 3 (.cons (.var 0) .nil)) (.cons (.call 3 (.cons (.var 1) .nil)) (.cons (.var 2) (.cons (.lit (.int 0)) (.cons (.dsp [] .nil) .nil))))) [some (.p (enc p)), some (.p (enc t)), some (.p (encN N)), none, none] [] = .ok [.v (.p (encF (bareW p []))), .v (.p (encF (bareW t []))), .v (.p (encN N)), .v (.p (.int 0)), .o (.dic [])] [] := by
    have g1 := h1 []
    have g2 := h2 []
    simp [g1, g2]
  have hcall : ∀ r, doCall (callM P k) 17 [.p (encF (bareW p [])), .p (encF (bareW t [])), .p (encN N), .p (.int 0), .r 0] [.dic []] = r → evE P (callM P k) (.call 17 (.cons (.call 3 (.cons (.var 0) .nil)) (.cons (.call 3 (.cons (.var 1) .nil)) (.cons (.var 2) (.cons (.lit (.int 0)) (.cons (.dsp [] .nil) .nil)))))) [some (.p (enc p)), some (.p (enc t)), some (.p (encN N)), none, none] [] = r := by
    intro r hr
    rw [E_call, hev]
    exact hr
  cases ho : mtch N (bareW p []) (bareW t []) 0 [] with
  | none =>
    rw [ho] at h3
    obtain ⟨x, hx⟩ := h3
    have hc := hcall _ hx
    intro s
    refine gives_exc (d := ⟨5, 3, b19⟩) (e := [some (.p (enc p)), some (.p (enc t)), some (.p (encN N)), some (.p .non), none]) (s1 := [.dic []] ++ x) rfl rfl rfl ?_ s
    refine ss_nx (e1 := [some (.p (enc p)), some (.p (enc t)), some (.p (encN N)), some (.p .non), none]) (s1 := [.dic []] ++ x) ?_ ?_
    · rw [S_asg]
      show RS.bindE (evE P (callM P k) _ [some (.p (enc p)), some (.p (enc t)), some (.p (encN N)), none, none] []) [some (.p (enc p)), some (.p (enc t)), some (.p (encN N)), none, none] _ = _
      rw [hc]
      rfl
    · have h4 : cmpop .isn (.v (.p .non)) (.v (.p .non)) ([.dic []] ++ x) = some true := rfl
      have h5 : evS P (callM P k) (.rse 1) [some (.p (enc p)), some (.p (enc t)), some (.p (encN N)), some (.p .non), none] ([.dic []] ++ x) = .exc 1 none [some (.p (enc p)), some (.p (enc t)), some (.p (encN N)), some (.p .non), none] ([.dic []] ++ x) := by
        rw [evS]; rfl
      rw [Ss_cons, iffT (s1 := [.dic []] ++ x) (by
        rw [E_cmp]
        simp only [E_var, E_lit, List.getElem?_cons_succ, List.getElem?_cons_zero, Mev.bind_ok, evP_eq, h4, bl_eq]) (by rw [Ss_cons, h5, seq_exc])]
      rfl
  | some K =>
    rw [ho] at h3
    obtain ⟨x, m, hx, hm⟩ := h3
    have hc := hcall _ hx
    obtain ⟨s1, s2, s3, s4⟩ := mtch_sound N 20 5 (bareW p []) (bareW t []) 0 [] K ho (bareW_cl t []) hs (by omega)
    have hKl := (mtch_ok N _ _ 0 [] K ho).1
    simp only [List.length_nil] at hKl
    let S : Sto := [.dic []] ++ x
    let env : Env := [some (.p (enc p)), some (.p (enc t)), some (.p (encN N)), some (.r m), none]
    have hsort := bi_sorted_r m K S hm (by omega)
    have hlen : (sortS (K.map (·.1))).length = K.length := by rw [sortS_len, List.length_map]
    have hlc := ev_lcm (P := P) (C := callM P k) (elt := .tup (.cons (.var 4) (.cons (.call 9 (.cons (.dix (.var 3) (.var 4)) .nil)) .nil))) (tg := .nm 4) (it := .ex (.bi .sorted (.cons (.var 3) .nil))) (cs := .nil) (own := [4])
      (env := env) (s := S) (fun x => MV.p (.str x)) (fun x => MV.p (.tup [.str x, enc (named (kget K x))])) (sortS (K.map (·.1)))
      (.snap ((sortS (K.map (·.1))).map fun z => .p (.str z))) (by simp [evI, env, hsort, sqOf, sqL]) rfl (by rw [hlen]; omega) (by
        intro y hy
        rw [mem_sortS] at hy
        obtain ⟨F, hl, hmem⟩ := look_some hy
        have hg : Good 20 5 F := by
          rcases s3 _ hmem with h | h
          · cases h
          · exact h
        have hk : kget K y = F := by unfold kget; rw [hl]; rfl
        have hn := named_ok F k (by have := hg.2.1; have := hg.2.2; omega) hg.1 (by have := hg.2.2; omega) S
        have hd := dget_encK y K
        rw [hl] at hd
        rw [hk]
        simp [turnE, wipeE, env, dicOf, objOf, hm, S, kstr, hd, hn, lim]
        simp [S] at hm hn
        simp [hm, hd, hn])
    have htup := bi_tup_o ((sortS (K.map (·.1))).map fun x => .tup [.str x, enc (named (kget K x))]) S
    rw [List.map_map] at htup
    have hout : encT (toldL K) = .tup ((sortS (K.map (·.1))).map fun x => .tup [.str x, enc (named (kget K x))]) := by
      simp only [encT, toldL, List.map_map]; rfl
    refine gives (d := ⟨5, 3, b19⟩) rfl rfl rfl ?_
    refine fin_nx (e1 := env) (s1 := S) ?_ ?_
    · rw [S_asg]
      show RS.bindE (evE P (callM P k) _ [some (.p (enc p)), some (.p (enc t)), some (.p (encN N)), none, none] []) [some (.p (enc p)), some (.p (enc t)), some (.p (encN N)), none, none] _ = _
      rw [hc]
      rfl
    · have h4 : cmpop .isn (.v (.r m)) (.v (.p .non)) S = some false := rfl
      refine fin_nx (e1 := env) (s1 := S) (iffF (s1 := S) (by
        rw [E_cmp]
        simp only [E_var, E_lit, env, List.getElem?_cons_succ, List.getElem?_cons_zero, Mev.bind_ok, evP_eq, h4, bl_eq]) (Ss_nil ..)) ?_
      rw [Ss_cons, S_ret, E_bi, L_cons, hlc]
      simp only [Mev.bind_ok, L_nil]
      rw [show (List.map (fun x => MV.p (PV.tup [PV.str x, enc (named (kget K x))])) (sortS (K.map (·.1)))) = (List.map (MV.p ∘ fun x => PV.tup [PV.str x, enc (named (kget K x))]) (sortS (K.map (·.1)))) from rfl, htup, hout]
      rfl
theorem told_ok (N : List (List Nat)) (p t : Tm) (k : Nat) (hp : dp p ≤ 5) (ht : dp t ≤ 5) (hs : swF (bareW t []) ≤ 20) (hk : 31 ≤ k) :
    Gives P k 31 [.p (enc p), .p (enc t), .p (encN N)] (.v (.p (match mtch N (bareW p []) (bareW t []) 0 [] with
    | none => .non
    | some K => encT (toldL K)))) := by
  obtain ⟨k, rfl⟩ := ge1 (n := 30) (k := k) hk
  have h := matches_ok N p t k hp ht hs (by omega)
  refine gives (d := ⟨3, 3, b31⟩) rfl rfl rfl ?_
  have hcall : ∀ r, doCall (callM P k) 19 [.p (enc p), .p (enc t), .p (encN N)] [] = r → evE P (callM P k) (.call 19 (.cons (.var 0) (.cons (.var 1) (.cons (.var 2) .nil)))) [some (.p (enc p)), some (.p (enc t)), some (.p (encN N))] [] = r := by
    intro r hr
    rw [E_call]
    simp only [L_cons, L_nil, E_var, List.getElem?_cons_succ, List.getElem?_cons_zero, Mev.bind_ok, holdAll_cons, holdAll_nil, hold_v]
    exact hr
  show isoFin (evSs P (callM P k) b31 [some (.p (enc p)), some (.p (enc t)), some (.p (encN N))] []) = _
  unfold b31
  cases ho : mtch N (bareW p []) (bareW t []) 0 [] with
  | none =>
    rw [ho] at h
    have hc := hcall _ (h [])
    rw [Ss_cons, evS, Ss_cons, S_ret, hc, bindE_exc, seq_exc]
    rfl
  | some K =>
    rw [ho] at h
    have hc := hcall _ (h [])
    rw [Ss_cons, evS, Ss_cons, S_ret, hc, bindE_ok, seq_rt]
    rfl
end K36
end
section
set_option maxRecDepth 20000
namespace K36
open Mn Mev
/-! sorted tables -/
def insT (q : List Nat × Tm) : Tab → Tab
  | [] => [q]
  | r :: l => if ltS r.1 q.1 then r :: insT q l else q :: r :: l
def sortT : Tab → Tab
  | [] => []
  | q :: l => insT q (sortT l)
def encPair (q : List Nat × Tm) : PV := .tup [.str q.1, enc q.2]
theorem keys_insT (q : List Nat × Tm) (l : Tab) : (insT q l).map (·.1) = insS q.1 (l.map (·.1)) := by
  induction l with
  | nil => rfl
  | cons r l ih =>
    simp only [insT, List.map_cons, insS]
    split
    · simp [ih]
    · simp
theorem keys_sortT (l : Tab) : (sortT l).map (·.1) = sortS (l.map (·.1)) := by
  induction l with
  | nil => rfl
  | cons q l ih => simp only [sortT, List.map_cons, sortS]; rw [keys_insT, ih]
theorem mem_insT (x q : List Nat × Tm) (l : Tab) : x ∈ insT q l ↔ x = q ∨ x ∈ l := by
  induction l with
  | nil => simp [insT]
  | cons r l ih =>
    simp only [insT]
    split
    · simp only [List.mem_cons, ih]
      constructor
      · rintro (h | h | h) <;> simp [h]
      · rintro (h | h | h) <;> simp [h]
    · simp [List.mem_cons]
theorem mem_sortT (x : List Nat × Tm) (l : Tab) : x ∈ sortT l ↔ x ∈ l := by
  induction l with
  | nil => simp [sortT]
  | cons q l ih => simp only [sortT, mem_insT, ih, List.mem_cons]
theorem len_insT (q : List Nat × Tm) (l : Tab) : (insT q l).length = l.length + 1 := by
  induction l with
  | nil => rfl
  | cons r l ih => simp only [insT]; split <;> simp [ih]
theorem len_sortT (l : Tab) : (sortT l).length = l.length := by
  induction l with
  | nil => rfl
  | cons q l ih => simp only [sortT, len_insT, ih, List.length_cons]
theorem look_insT (x : List Nat) (q : List Nat × Tm) (l : Tab) (h : q.1 ∉ l.map (·.1)) : look x (insT q l) = if q.1 = x then some q.2 else look x l := by
  induction l with
  | nil => rfl
  | cons r l ih =>
    obtain ⟨y, s⟩ := r
    rw [List.map_cons, List.mem_cons, not_or] at h
    simp only [insT]
    split
    · simp only [look, ih h.2]
      by_cases e : y = x
      · subst e
        simp [h.1]
      · simp [e]
    · simp only [look]
theorem look_sortT (x : List Nat) (l : Tab) (h : (l.map (·.1)).Nodup) : look x (sortT l) = look x l := by
  induction l with
  | nil => rfl
  | cons q l ih =>
    rw [List.map_cons, List.nodup_cons] at h
    simp only [sortT]
    rw [look_insT x q _ (by rw [keys_sortT, mem_sortS]; exact h.1), ih h.2]
    rfl
theorem nodup_sortT (l : Tab) (h : (l.map (·.1)).Nodup) : ((sortT l).map (·.1)).Nodup := by
  rw [keys_sortT]; exact nodup_sortS _ h
theorem lt_pair (q r : List Nat × Tm) (h : q.1 ≠ r.1) : PV.lt (encPair q) (encPair r) = some (ltS q.1 r.1) := by
  have : (PV.str q.1).eqv (.str r.1) = false := by simp [PV.eqv, h]
  simp only [encPair, PV.lt, PV.lts, this, Bool.false_eq_true, if_false]
theorem ins_pair (q : List Nat × Tm) (l : Tab) (h : q.1 ∉ l.map (·.1)) : PV.ins (encPair q) (l.map encPair) = (insT q l).map encPair := by
  induction l with
  | nil => rfl
  | cons r l ih =>
    rw [List.map_cons, List.mem_cons, not_or] at h
    simp only [List.map_cons, PV.ins, insT]
    rw [lt_pair r q fun e => h.1 e.symm]
    cases hl : ltS r.1 q.1 with
    | true => simp [ih h.2]
    | false => simp
theorem isort_pair (l : Tab) (h : (l.map (·.1)).Nodup) : PV.isort (l.map encPair) = (sortT l).map encPair := by
  induction l with
  | nil => rfl
  | cons q l ih =>
    rw [List.map_cons, List.nodup_cons] at h
    simp only [List.map_cons, PV.isort, sortT]
    rw [ih h.2, ins_pair q _ (by rw [keys_sortT, mem_sortS]; exact h.1)]
theorem lt_pair_self (q : List Nat × Tm) : PV.lt (encPair q) (encPair q) = some false := by
  have h1 : (PV.str q.1).eqv (.str q.1) = true := by simp [PV.eqv]
  have h2 : (enc q.2).eqv (enc q.2) = true := (eqv_eq _ _ (enc_noB _) (enc_noB _)).2 rfl
  simp only [encPair, PV.lt, PV.lts, h1, h2, if_true]
theorem chk_pair (l : Tab) (h : (l.map (·.1)).Nodup) (hs : (l.map (·.1)).Pairwise LeS) : PV.chk (l.map encPair) = true := by
  induction l with
  | nil => rfl
  | cons q l ih =>
    rw [List.map_cons, List.nodup_cons] at h
    rw [List.map_cons, List.pairwise_cons] at hs
    simp only [List.map_cons, PV.chk, ih h.2 hs.2, Bool.and_true, Bool.and_eq_true, lt_pair_self]
    refine ⟨by simp, ?_⟩
    rw [List.all_eq_true]
    intro x hx
    rw [List.mem_map] at hx
    obtain ⟨r, hr, rfl⟩ := hx
    have hm : r.1 ∈ l.map (·.1) := List.mem_map_of_mem hr
    have hne : q.1 ≠ r.1 := fun e => h.1 (by rw [e]; exact hm)
    have h1 : ltS r.1 q.1 = false := hs.1 _ hm
    have h2 : ltS q.1 r.1 = true := by
      cases e : ltS q.1 r.1 with
      | true => rfl
      | false => exact absurd (ltS_tri _ _ e h1) hne
    simp [PV.leq, lt_pair _ _ hne, lt_pair _ _ (fun e => hne e.symm), h1, h2]
theorem enc_pl : ∀ t : Tm, PV.pl (enc t) = true := by
  intro t
  induction t with
  | nm x => rfl
  | to x b ih => simp [enc, PV.pl, PV.pls, sTo, ih]
  | of a b iha ihb => simp [enc, PV.pl, PV.pls, sOf, iha, ihb]
theorem bi_sortT (l : Tab) (s : Sto) (hne : l ≠ []) (hd : (l.map (·.1)).Nodup) (hl : l.length < 64) (hdp : ∀ q, q ∈ l → dp q.2 ≤ 50) : biF .sorted [.o (.lst (l.map fun q => .p (encPair q)))] s = .ok (.o (.lst ((sortT l).map fun q => .p (encPair q)))) s := by
  have h1 : allStr (l.map fun q => MV.p (encPair q)) = none := by
    cases l with
    | nil => exact absurd rfl hne
    | cons q l => rfl
  have h2 : allP (l.map fun q => MV.p (encPair q)) = some (l.map encPair) := by
    have := Mev.allP_map (l.map encPair)
    rw [List.map_map] at this; exact this
  have h3 : sortP (l.map encPair) = some ((sortT l).map encPair) := by
    unfold sortP
    rw [isort_pair l hd]
    have c1 : (l.map encPair).all PV.fstS = true := by
      rw [List.all_eq_true]; intro x hx; rw [List.mem_map] at hx; obtain ⟨q, _, rfl⟩ := hx; rfl
    have c2 : PV.pls (l.map encPair) = true := by
      clear hd hl hdp hne h1 h2 c1
      induction l with
      | nil => rfl
      | cons q l ih => simp [PV.pls, encPair, PV.pl, enc_pl, ih]
    have c3 : PV.deps (l.map encPair) ≤ dlim := by
      refine deps_map encPair l 60 fun q hq => ?_
      have := hdp q hq
      have := enc_dep q.2
      simp [encPair, PV.dep, PV.deps]; omega
    have c4 : PV.chk ((sortT l).map encPair) = true := chk_pair _ (nodup_sortT l hd) (by rw [keys_sortT]; exact sortS_sorted _)
    have c5 : (l.map encPair).length < 64 := by simpa using hl
    rw [if_pos (by simp only [c1, c2, c4, decide_eq_true c3, decide_eq_true c5, Bool.true_or, Bool.and_true])]
  simp only [biF, objOf, h1, h2, h3]
  rw [List.map_map]
  rfl
theorem tkn_le (M : Nat) : ∀ (σ : Tab), (∀ q, q ∈ σ → sw q.2 ≤ M) → (tkn σ).length ≤ σ.length * M := by
  intro σ
  induction σ with
  | nil => intro _; simp [tkn]
  | cons q σ ih =>
    intro h
    have h1 := ih fun r hr => h r (List.mem_cons_of_mem _ hr)
    have h2 := h q (List.mem_cons_self ..)
    have h3 := freeN_len q.2
    unfold tkn at h1 ⊢
    rw [List.flatMap_cons, List.length_append, List.length_cons, Nat.add_mul]
    omega
/-- the size of what is put -/
theorem pk_sw (M : Nat) (hM : 1 ≤ M) : ∀ (n : Nat) (t : Tm) (σ : Tab), (∀ q, q ∈ σ → sw q.2 ≤ M) → sw (pk n t σ) ≤ sw t * M := by
  intro n
  induction n with
  | zero => intro t σ _; simp only [pk]; exact Nat.le_mul_of_pos_right _ hM
  | succ n ih =>
    intro t σ h
    cases t with
    | nm x =>
      simp only [pk, app, sw, Nat.one_mul]
      cases hl : look x σ with
      | none => simpa [sw] using hM
      | some s => exact h _ (look_mem hl)
    | of a b =>
      simp only [pk, sw]
      have := ih a σ h
      have := ih b σ h
      rw [Nat.add_mul]; omega
    | to y b =>
      have hless : ∀ q, q ∈ less σ y b → sw q.2 ≤ M := fun q hq => h q (less_mem hq)
      simp only [pk]
      split
      · simp only [sw]
        have := ih b (less σ y b ++ [(y, .nm (first (tkn (less σ y b) ++ freeN b)))]) (by
          intro q hq
          rw [List.mem_append, List.mem_singleton] at hq
          rcases hq with hq | rfl
          · exact hless q hq
          · simpa [sw] using hM)
        rw [Nat.add_mul]; omega
      · simp only [sw]
        have := ih b (less σ y b) hless
        rw [Nat.add_mul]; omega
theorem pk_dp (D : Nat) (hD : 1 ≤ D) : ∀ (n : Nat) (t : Tm) (σ : Tab), (∀ q, q ∈ σ → dp q.2 ≤ D) → dp (pk n t σ) ≤ dp t + D := by
  intro n
  induction n with
  | zero => intro t σ _; simp only [pk]; omega
  | succ n ih =>
    intro t σ h
    cases t with
    | nm x =>
      simp only [pk, app, dp]
      cases hl : look x σ with
      | none => simp [dp]
      | some s => have := h _ (look_mem hl); simp at this ⊢; omega
    | of a b =>
      simp only [pk, dp]
      have := ih a σ h
      have := ih b σ h
      omega
    | to y b =>
      have hless : ∀ q, q ∈ less σ y b → dp q.2 ≤ D := fun q hq => h q (less_mem hq)
      simp only [pk]
      split
      · simp only [dp]
        have := ih b (less σ y b ++ [(y, .nm (first (tkn (less σ y b) ++ freeN b)))]) (by
          intro q hq
          rw [List.mem_append, List.mem_singleton] at hq
          rcases hq with hq | rfl
          · exact hless q hq
          · simpa [dp] using hD)
        omega
      · simp only [dp]
        have := ih b (less σ y b) hless
        omega
/-! one table, then another -/
def putT (σ τ : Tab) : Tab := σ.map fun q => (q.1, pk (dp q.2) q.2 τ)
def resT (σ τ : Tab) : Tab := τ.filter fun q => !decide (q.1 ∈ σ.map (·.1))
def thenT (σ τ : Tab) : Tab := sortT (putT σ τ ++ resT σ τ)
theorem putT_keys (σ τ : Tab) : (putT σ τ).map (·.1) = σ.map (·.1) := by simp [putT, Function.comp_def]
theorem both_nodup (σ τ : Tab) (h1 : (σ.map (·.1)).Nodup) (h2 : (τ.map (·.1)).Nodup) : ((putT σ τ ++ resT σ τ).map (·.1)).Nodup := by
  rw [List.map_append, putT_keys, List.nodup_append]
  refine ⟨h1, h2.sublist ((List.filter_sublist).map _), ?_⟩
  intro a ha b hb
  rintro rfl
  rw [List.mem_map] at hb
  obtain ⟨q, hq, rfl⟩ := hb
  have := (List.mem_filter.1 hq).2
  simp at this
  rw [List.mem_map] at ha
  obtain ⟨r, hr, e⟩ := ha
  exact this r.2 (by rw [← e]; exact hr)
theorem cmp_nin_r (m : Nat) (tk : List (List Nat)) (x : List Nat) (s : Sto) (hm : s[m]? = some (.lst (tk.map fun x => .p (.str x)))) : cmpop .nin (.v (.p (.str x))) (.v (.r m)) s = some (!decide (x ∈ tk)) := by
  have := cmp_in_r m tk x s hm
  simp only [cmpop] at this ⊢
  rw [this]; rfl
theorem tabI (σ : Tab) (k : Nat) (i : Nat) (env : Env) (s : Sto) (h : env[i]? = some (some (.p (encT σ)))) : evI P (callM P k) (.ex (.var i)) env s = .ok (.sq (.snap (σ.map fun q => .p (encPair q)))) s := by
  rw [evI, E_var, h]
  simp [sqOf, sqL, encT, tupOf, tupSeq, Function.comp_def, encPair]
theorem then_put_ok (σ τ : Tab) (k : Nat) (hσ : σ ≠ []) (h1 : (σ.map (·.1)).Nodup) (h2 : (τ.map (·.1)).Nodup) (hl1 : σ.length ≤ 2) (hl2 : τ.length ≤ 2) (hd1 : ∀ q, q ∈ σ → dp q.2 ≤ 2) (hd2 : ∀ q, q ∈ τ → dp q.2 ≤ 2) (hk : 50 ≤ k) : Gives P k 16 [.p (encT σ), .p (encT τ)] (.v (.p (encT (thenT σ τ)))) := by
  obtain ⟨k, rfl⟩ := ge1 (n := 49) (k := k) hk
  have hsw2 : ∀ q, q ∈ τ → sw q.2 ≤ 2 := fun q hq => sw_le q.2 2 (hd2 q hq)
  have hsw1 : ∀ q, q ∈ σ → sw q.2 ≤ 2 := fun q hq => sw_le q.2 2 (hd1 q hq)
  have htk := tkn_le 2 τ hsw2
  let S1 : Sto := [.lst ((σ.map (·.1)).map fun x => .p (.str x))]
  let S2 : Sto := S1 ++ [.lst ((putT σ τ).map fun q => .p (encPair q))]
  have g0 : S2[0]? = some (.lst ((σ.map (·.1)).map fun x => .p (.str x))) := rfl
  have g1 : S2[1]? = some (.lst ((putT σ τ).map fun q => .p (encPair q))) := rfl
  let e0 : Env := [some (.p (encT σ)), some (.p (encT τ)), none, none, none, none, none]
  let e1 : Env := [some (.p (encT σ)), some (.p (encT τ)), some (.r 0), none, none, none, none]
  let e2 : Env := [some (.p (encT σ)), some (.p (encT τ)), some (.r 0), some (.r 1), none, none, none]
  have c1 := ev_lcm (P := P) (C := callM P k) (elt := .var 4) (tg := .tp [4, 5]) (it := .ex (.var 0)) (cs := .nil) (own := [4, 5]) (env := e0) (s := []) (fun q => MV.p (encPair q)) (fun q => MV.p (.str q.1)) σ
    (.snap (σ.map fun q => .p (encPair q))) (tabI σ k 0 e0 [] rfl) rfl (by omega) (by
      intro q hq
      simp [turnE, wipeE, e0, encPair])
  have c2 := ev_lcm (P := P) (C := callM P k) (elt := .tup (.cons (.var 4) (.cons (.call 14 (.cons (.var 6) (.cons (.var 1) .nil))) .nil))) (tg := .tp [4, 6]) (it := .ex (.var 0)) (cs := .nil) (own := [4, 6]) (env := e1) (s := S1) (fun q => MV.p (encPair q)) (fun q => MV.p (encPair (q.1, pk (dp q.2) q.2 τ))) σ
    (.snap (σ.map fun q => .p (encPair q))) (tabI σ k 0 e1 S1 rfl) rfl (by omega) (by
      intro q hq
      have a1 := hd1 q hq
      have a2 := hsw1 q hq
      have hp := put_all_ok q.2 τ k (by unfold Room; omega) h2 (by omega) (by omega) (fun r hr => ⟨by have := hsw2 r hr; omega, by have := hd2 r hr; omega⟩) S1
      simp [turnE, wipeE, e1, encPair, hp, lim])
  have c3 := ev_lcf (P := P) (C := callM P k) (elt := .tup (.cons (.var 4) (.cons (.var 6) .nil))) (tg := .tp [4, 6]) (it := .ex (.var 1)) (cs := .cons (.cmp .nin (.var 4) (.var 2)) .nil) (own := [4, 6]) (env := e2) (s := S2) (fun q => MV.p (encPair q)) (fun q => !decide (q.1 ∈ σ.map (·.1))) (fun q => MV.p (encPair q)) τ
    (.snap (τ.map fun q => .p (encPair q))) (tabI τ k 1 e2 S2 rfl) rfl (by omega) (by
      intro q hq
      have hn := cmp_nin_r 0 (σ.map (·.1)) q.1 S2 g0
      by_cases hq : q.1 ∈ σ.map (·.1)
      · rw [decide_eq_true hq] at hn
        simp only [turnE, wipeE, e2, encPair, setT_tp, List.map_cons, List.map_nil, setMany_cons, setMany_nil, List.set_cons_succ, List.set_cons_zero, C_one, E_cmp, E_var, List.getElem?_cons_succ, List.getElem?_cons_zero, Mev.bind_ok, hn, bl_eq, tst_ok, truth_bl, optR_some, Mev.noX_ok, Bool.not_true, Bool.false_eq_true, if_false, decide_eq_true hq]
      · rw [decide_eq_false hq] at hn
        simp only [turnE, wipeE, e2, encPair, setT_tp, List.map_cons, List.map_nil, setMany_cons, setMany_nil, List.set_cons_succ, List.set_cons_zero, C_one, E_cmp, E_var, List.getElem?_cons_succ, List.getElem?_cons_zero, Mev.bind_ok, hn, bl_eq, tst_ok, truth_bl, optR_some, Mev.noX_ok, Bool.not_false, if_true, decide_eq_false hq, E_tup, L_cons, L_nil, holdAll_cons, holdAll_nil, hold_v, List.length_cons, List.length_nil, lim, Nat.reduceAdd, Nat.reduceLeDiff, mkTup_2])
  have c4 := bin_rl 1 ((putT σ τ).map fun q => MV.p (encPair q)) ((resT σ τ).map fun q => MV.p (encPair q)) S2 g1 (by
    have : (resT σ τ).length ≤ τ.length := List.length_filter_le _ _
    simp [putT]; omega)
  rw [← List.map_append] at c4
  have hlen : (putT σ τ ++ resT σ τ).length ≤ 4 := by
    have : (resT σ τ).length ≤ τ.length := List.length_filter_le _ _
    rw [List.length_append]; simp only [putT, List.length_map]; omega
  have c5 := bi_sortT (putT σ τ ++ resT σ τ) S2 (by
    intro h
    have h := congrArg List.length h
    rw [List.length_append] at h
    simp only [putT, List.length_map, List.length_nil] at h
    exact hσ (List.length_eq_zero_iff.1 (by omega))) (both_nodup σ τ h1 h2) (by omega) (by
    intro q hq
    rw [List.mem_append] at hq
    rcases hq with hq | hq
    · simp only [putT, List.mem_map] at hq
      obtain ⟨r, hr, rfl⟩ := hq
      have a1 := hd1 r hr
      have := pk_dp 2 (by omega) (dp r.2) r.2 τ hd2
      show dp (pk (dp r.2) r.2 τ) ≤ 50
      omega
    · have := hd2 q (List.mem_filter.1 hq).1; omega)
  have c6 := bi_tup_o ((thenT σ τ).map encPair) S2
  rw [List.map_map] at c6
  refine gives (d := ⟨7, 2, b16⟩) rfl rfl rfl ?_
  refine fin_nx (e1 := e1) (s1 := S1) ?_ ?_
  · rw [S_asg]
    show RS.bindE (evE P (callM P k) _ e0 []) e0 _ = _
    rw [c1]
    simp [e0, e1, S1, Function.comp_def]
  refine fin_nx (e1 := e2) (s1 := S2) ?_ ?_
  · rw [S_asg, c2]
    simp [e1, e2, S2, S1, putT, Function.comp_def]
  · have hb : evE P (callM P k) (.bin .add (.var 3) (.lc (.tup (.cons (.var 4) (.cons (.var 6) .nil))) (.tp [4, 6]) (.ex (.var 1)) (.cons (.cmp .nin (.var 4) (.var 2)) .nil) [4, 6])) e2 S2 = .ok (.o (.lst ((putT σ τ ++ resT σ τ).map fun q => MV.p (encPair q)))) S2 := binE (varE rfl) c3 c4
    rw [Ss_cons, S_ret, E_bi, L_cons, E_bi, L_cons, hb]
    simp only [Mev.bind_ok, L_nil]
    rw [c5]
    simp only [Mev.bind_ok]
    rw [show (List.map (fun q => MV.p (encPair q)) (sortT (putT σ τ ++ resT σ τ))) = (List.map (MV.p ∘ encPair) (thenT σ τ)) from rfl, c6]
    rfl
end K36
end
section
set_option maxRecDepth 20000
namespace K36
open Mn Mev
theorem upF_up (d c' : Nat) : ∀ (H : Fm) (s c : Nat), s ≤ c → c ≤ s + c' → upF d c (upF c' s H) = upF (c' + d) s H := by
  intro H
  induction H with
  | nm x => intro s c _ _; rfl
  | up i =>
    intro s c h1 h2
    simp only [upF]
    by_cases h : s ≤ i
    · rw [if_pos h, if_pos h]
      simp only [upF]
      rw [if_pos (by omega), Nat.add_assoc]
    · rw [if_neg h, if_neg h]
      simp only [upF]
      rw [if_neg (by omega)]
  | to b ih => intro s c h1 h2; simp only [upF]; rw [ih (s + 1) (c + 1) (by omega) (by omega)]
  | of a b iha ihb => intro s c h1 h2; simp only [upF]; rw [iha s c h1 h2, ihb s c h1 h2]
theorem upF_zero : ∀ (F : Fm) (c : Nat), upF 0 c F = F := by
  intro F
  induction F with
  | nm x => intro c; rfl
  | up i => intro c; simp [upF]
  | to b ih => intro c; simp only [upF, ih]
  | of a b iha ihb => intro c; simp only [upF, iha, ihb]
theorem lift_up : ∀ (F : Fm) (c : Nat), lift c F = upF 1 c F := by
  intro F
  induction F with
  | nm x => intro c; rfl
  | up i => intro c; rfl
  | to b ih => intro c; simp only [lift, upF, ih]
  | of a b iha ihb => intro c; simp only [lift, upF, iha, ihb]
theorem tabT_lift (τ : Kn) (d : Nat) (x : List Nat) : lift 0 (tabT τ d x) = tabT τ (d + 1) x := by
  rw [lift_up]
  unfold tabT
  exact upF_up 1 d _ 0 0 (Nat.le_refl _) (by omega)
theorem fill_up (τ : Kn) (d : Nat) : ∀ (G : Fm) (c : Nat), fill (tabT τ) (c + d) (upF d c G) = upF d c (fill (tabT τ) c G) := by
  intro G
  induction G with
  | nm x =>
    intro c
    simp only [upF, fill, tabT]
    exact (upF_up d c _ 0 c (by omega) (by omega)).symm
  | up i =>
    intro c
    simp only [upF, fill]
    split <;> rfl
  | to b ih =>
    intro c
    simp only [upF, fill]
    rw [show c + d + 1 = c + 1 + d by omega, ih]
  | of a b iha ihb => intro c; simp only [upF, fill, iha, ihb]
theorem fill_fill (τ1 τ2 τ3 : Kn) (h : ∀ x, (look x τ3).getD (.nm x) = fill (tabT τ2) 0 ((look x τ1).getD (.nm x))) : ∀ (F : Fm) (d : Nat), fill (tabT τ2) d (fill (tabT τ1) d F) = fill (tabT τ3) d F := by
  intro F
  induction F with
  | nm x =>
    intro d
    simp only [fill, tabT]
    rw [h x]
    have := fill_up τ2 d ((look x τ1).getD (.nm x)) 0
    rw [Nat.zero_add] at this
    exact this
  | up i => intro d; rfl
  | to b ih => intro d; simp only [fill, ih]
  | of a b iha ihb => intro d; simp only [fill, iha, ihb]
def bareTab (σ : Tab) : Kn := σ.map fun q => (q.1, bareW q.2 [])
theorem bareTab_keys (σ : Tab) : (bareTab σ).map (·.1) = σ.map (·.1) := by simp [bareTab, Function.comp_def]
theorem app_bare (σ : Tab) (u : List Nat) : bareW (app σ u) [] = (look u (bareTab σ)).getD (.nm u) := by
  unfold app bareTab
  rw [look_map (fun s => bareW s []) u σ]
  cases look u σ <;> simp [bareW]
theorem put_bare (t : Tm) (σ : Tab) (hr : Room σ t) : bareW (pk (dp t) t σ) [] = fill (tabT (bareTab σ)) 0 (bareW t []) := by
  refine pk_bare (tabT (bareTab σ)) (fun d x => tabT_lift _ d x) (dp t) t σ [] [] (Nat.le_refl _) hr fun u _ => ?_
  rw [app_bare]
  simp only [leaf, ix, fill, List.length_nil, tabT, upF_zero]
theorem look_not {β : Type} {x : List Nat} {K : List (List Nat × β)} (h : look x K = none) : x ∉ K.map (·.1) := by
  intro hx
  obtain ⟨s, h1, _⟩ := look_some hx
  rw [h1] at h; cases h
theorem then_look (σ τ : Tab) (h1 : (σ.map (·.1)).Nodup) (h2 : (τ.map (·.1)).Nodup) (hr : ∀ q, q ∈ σ → Room τ q.2) (x : List Nat) :
    (look x (bareTab (thenT σ τ))).getD (.nm x) = fill (tabT (bareTab τ)) 0 ((look x (bareTab σ)).getD (.nm x)) := by
  have e1 : look x (bareTab (thenT σ τ)) = (look x (thenT σ τ)).map fun s => bareW s [] := look_map (fun s => bareW s []) x _
  have e2 : look x (bareTab σ) = (look x σ).map fun s => bareW s [] := look_map (fun s => bareW s []) x _
  have e3 : look x (bareTab τ) = (look x τ).map fun s => bareW s [] := look_map (fun s => bareW s []) x _
  have e4 : look x (putT σ τ) = (look x σ).map fun s => pk (dp s) s τ := look_map (fun s => pk (dp s) s τ) x _
  have e5 : look x (resT σ τ) = if !decide (x ∈ σ.map (·.1)) then look x τ else none := look_filter x (fun y => !decide (y ∈ σ.map (fun q : List Nat × Tm => q.1))) τ
  have e6 : look x (thenT σ τ) = look x (putT σ τ ++ resT σ τ) := look_sortT x _ (both_nodup σ τ h1 h2)
  rw [e1, e2, e6, look_app, e4]
  cases hs : look x σ with
  | some s =>
    simp only [Option.map_some, Option.getD_some]
    exact put_bare s τ (hr _ (look_mem hs))
  | none =>
    have hx := look_not hs
    rw [e5]
    simp only [Option.map_none, decide_eq_false hx, Bool.not_false, if_true, Option.getD_none, fill, tabT, upF_zero]
    rw [e3]
theorem then_alike (t : Tm) (σ τ : Tab) (h1 : (σ.map (·.1)).Nodup) (h2 : (τ.map (·.1)).Nodup) (hr : ∀ q, q ∈ σ → Room τ q.2) (hr1 : Room σ t) (hr2 : Room τ (pk (dp t) t σ)) (hr3 : Room (thenT σ τ) t) :
    bareW (pk (dp t) t (thenT σ τ)) [] = bareW (pk (dp (pk (dp t) t σ)) (pk (dp t) t σ) τ) [] := by
  rw [put_bare t _ hr3, put_bare _ τ hr2, put_bare t σ hr1]
  exact (fill_fill _ _ _ (then_look σ τ h1 h2 hr) _ 0).symm
/-! what was told -/
theorem look_keys {β : Type} (g : List Nat → β) (x : List Nat) : ∀ l : List (List Nat), look x (l.map fun y => (y, g y)) = if x ∈ l then some (g x) else none := by
  intro l
  induction l with
  | nil => simp [look]
  | cons y l ih =>
    simp only [List.map_cons, look, ih, List.mem_cons]
    by_cases e : y = x
    · subst e; simp
    · have : ¬ x = y := fun h => e h.symm
      simp [e, this]
structure Told (N : List (List Nat)) (p t : Tm) (K : Kn) : Prop where
  nd : (K.map (·.1)).Nodup
  keys : ∀ x, x ∈ K.map (·.1) ↔ x ∈ N ∧ Fr x p
  good : ∀ x, x ∈ K.map (·.1) → Good 8 5 (kget K x) ∧ look x K = some (kget K x)
  fill : ∀ K2 : Kn, (∀ x F, look x K = some F → look x K2 = some F) → (∀ x, x ∈ K2.map (·.1) → x ∈ N) → fill (tabT K2) 0 (bareW p []) = bareW t []
theorem told_of (N : List (List Nat)) (p t : Tm) (K : Kn) (ht : dp t ≤ 5) (hs : sw t ≤ 8) (h : mtch N (bareW p []) (bareW t []) 0 [] = some K) : Told N p t K := by
  obtain ⟨s1, s2, s3, s4⟩ := mtch_sound N 8 5 (bareW p []) (bareW t []) 0 [] K h (bareW_cl t []) (by rw [sw_bare]; exact hs) (by rw [fd_bare]; exact ht)
  refine ⟨(mtch_ok N _ _ 0 [] K h).2 (by simp), ?_, ?_, s4⟩
  · intro x
    rw [s2, bareW_frF]
    simp
  · intro x hx
    obtain ⟨F, h1, h2⟩ := look_some hx
    have hk : kget K x = F := by unfold kget; rw [h1]; rfl
    rw [hk]
    refine ⟨?_, h1⟩
    rcases s3 _ h2 with h | h
    · cases h
    · exact h
theorem toldL_keys (K : Kn) : (toldL K).map (·.1) = sortS (K.map (·.1)) := by simp [toldL, Function.comp_def]
theorem told_bareTab {N : List (List Nat)} {p t : Tm} {K : Kn} (h : Told N p t K) : fill (tabT (bareTab (toldL K))) 0 (bareW p []) = bareW t [] := by
  refine h.fill _ ?_ ?_
  · intro x F hx
    have hm : x ∈ K.map (·.1) := by
      by_cases hm : x ∈ K.map (·.1)
      · exact hm
      · rw [look_none hm] at hx; cases hx
    have hg := h.good x hm
    have e : look x (bareTab (toldL K)) = (look x (toldL K)).map fun s => bareW s [] := look_map (fun s => bareW s []) x _
    have e2 : look x (toldL K) = if x ∈ sortS (K.map (·.1)) then some (named (kget K x)) else none := look_keys (fun x => named (kget K x)) x _
    rw [e, e2, if_pos ((mem_sortS ..).2 hm), Option.map_some, named_bare _ (by have := hg.1.2.1; have := hg.1.2.2; omega) hg.1.1, ← hg.2, hx]
  · intro x hx
    rw [bareTab_keys, toldL_keys, mem_sortS] at hx
    exact ((h.keys x).1 hx).1
/-- two lists without repeats, with the same members, sort alike -/
theorem sortS_same {l k : List (List Nat)} (h1 : l.Nodup) (h2 : k.Nodup) (h : ∀ x, x ∈ l ↔ x ∈ k) : sortS l = sortS k := by
  have hp : l.Perm k := (List.perm_ext_iff_of_nodup h1 h2).2 h
  exact sortS_uniq ((sortS_perm l).trans hp) (sortS_sorted l)
end K36
end
section
set_option maxRecDepth 20000
namespace K36
open Mn Mev
def u1 : MS := (.asg (.nm 3) (.call 26 (.cons (.var 1) (.cons (.lit (.int 4)) .nil))))
def u2 : MS := (.asg (.nm 4) (.call 27 (.cons (.var 3) .nil)))
def u3 : MS := (.iff (.or (.cmp .ne (.call 12 (.cons (.var 3) .nil)) (.var 4)) (.cmp .ne (.call 13 (.cons (.var 4) .nil)) (.var 3))) (.cons (.ret (.lit (.bl false))) .nil) .nil)
def u4 : MS := (.asg (.nm 5) (.call 21 (.cons (.var 1) (.cons (.lit (.int 5000)) .nil))))
def u5 : MS := (.iff (.or (.cmp .ne (.call 12 (.cons (.call 13 (.cons (.var 5) .nil)) .nil)) (.var 5)) (.cmp .ne (.call 27 (.cons (.call 13 (.cons (.var 5) .nil)) .nil)) (.var 5))) (.cons (.ret (.lit (.bl false))) .nil) .nil)
def v1 : MS := (.asg (.nm 6) (.call 22 (.cons (.var 1) (.cons (.lit (.int 4)) (.cons (.tup .nil) (.cons (.tup (.cons (.lit (.str [120])) (.cons (.lit (.str [121])) (.cons (.lit (.str [97])) .nil)))) .nil))))))
def v2 : MS := (.asg (.nm 7) (.bi .tuple (.cons (.lc (.tup (.cons (.var 17) (.cons (.call 22 (.cons (.var 1) (.cons (.lit (.int 2)) (.cons (.tup .nil) (.cons (.tup (.cons (.lit (.str [120])) (.cons (.lit (.str [121])) (.cons (.lit (.str [97])) (.cons (.lit (.str [98])) .nil))))) .nil))))) .nil))) (.nm 17) (.ex (.ix (.lst (.cons (.tup (.cons (.lit (.str [120])) (.cons (.lit (.str [121])) .nil))) (.cons (.tup (.cons (.lit (.str [121])) .nil)) (.cons (.tup (.cons (.lit (.str [97])) (.cons (.lit (.str [120])) .nil))) .nil)))) (.call 21 (.cons (.var 1) (.cons (.lit (.int 3)) .nil))))) .nil [17]) .nil)))
def v3 : MS := (.asg (.nm 8) (.bi .tuple (.cons (.lc (.tup (.cons (.var 17) (.cons (.call 22 (.cons (.var 1) (.cons (.lit (.int 2)) (.cons (.tup .nil) (.cons (.tup (.cons (.lit (.str [120])) (.cons (.lit (.str [98])) .nil))) .nil))))) .nil))) (.nm 17) (.ex (.ix (.lst (.cons (.tup (.cons (.lit (.str [97])) (.cons (.lit (.str [98])) .nil))) (.cons (.tup (.cons (.lit (.str [120])) (.cons (.lit (.str [121])) .nil))) .nil))) (.call 21 (.cons (.var 1) (.cons (.lit (.int 2)) .nil))))) .nil [17]) .nil)))
def v4 : MS := (.asg (.nm 9) (.bi .dict (.cons (.lc (.tup (.cons (.var 17) (.cons (.call 23 (.cons (.var 18) (.cons (.tup .nil) .nil))) .nil))) (.tp [17, 18]) (.ex (.var 7)) .nil [17, 18]) .nil)))
def v5 : MS := (.iff (.or (.cmp .ne (.call 3 (.cons (.call 14 (.cons (.var 6) (.cons (.var 7) .nil))) .nil)) (.call 28 (.cons (.call 23 (.cons (.var 6) (.cons (.tup .nil) .nil))) (.cons (.var 9) (.cons (.lit (.int 0)) .nil))))) (.not (.isi (.call 14 (.cons (.var 6) (.cons (.var 7) .nil))) .tuple))) (.cons (.ret (.lit (.bl false))) .nil) .nil)
def v6 : MS := (.asg (.nm 10) (.call 16 (.cons (.var 7) (.cons (.var 8) .nil))))
def v7 : MS := (.iff (.or (.cmp .ne (.lc (.var 17) (.tp [17, 18]) (.ex (.var 10)) .nil [17, 18]) (.bi .sorted (.cons (.bi .set (.cons (.bin .add (.lc (.var 17) (.tp [17, 18]) (.ex (.var 7)) .nil [17, 18]) (.lc (.var 17) (.tp [17, 18]) (.ex (.var 8)) .nil [17, 18])) .nil)) .nil))) (.not (.call 4 (.cons (.call 14 (.cons (.var 6) (.cons (.var 10) .nil))) (.cons (.call 14 (.cons (.call 14 (.cons (.var 6) (.cons (.var 7) .nil))) (.cons (.var 8) .nil))) .nil))))) (.cons (.ret (.lit (.bl false))) .nil) .nil)
def v8 : MS := (.asg (.tp [15, 16]) (.tup (.cons (.call 22 (.cons (.var 1) (.cons (.lit (.int 3)) (.cons (.tup .nil) (.cons (.tup (.cons (.lit (.str [120])) (.cons (.lit (.str [121])) (.cons (.lit (.str [113])) .nil)))) .nil))))) (.cons (.slt (.lst (.cons (.lit (.str [120])) (.cons (.lit (.str [121])) .nil))) (.bin .add (.lit (.int 1)) (.call 21 (.cons (.var 1) (.cons (.lit (.int 2)) .nil))))) .nil))))
def v9 : MS := (.asg (.nm 11) (.ix (.lst (.cons (.call 14 (.cons (.var 15) (.cons (.var 7) .nil))) (.cons (.call 22 (.cons (.var 1) (.cons (.lit (.int 4)) (.cons (.tup .nil) (.cons (.tup (.cons (.lit (.str [120])) (.cons (.lit (.str [121])) .nil))) .nil))))) (.cons (.call 14 (.cons (.var 15) (.cons (.var 8) .nil))) .nil)))) (.call 21 (.cons (.var 1) (.cons (.lit (.int 3)) .nil)))))
def v10 : MS := (.asg (.nm 12) (.call 30 (.cons (.call 23 (.cons (.var 15) (.cons (.tup .nil) .nil))) (.cons (.call 23 (.cons (.var 11) (.cons (.tup .nil) .nil))) (.cons (.var 16) (.cons (.lit (.int 0)) (.cons (.dsp [] .nil) .nil)))))))
def v11 : MS := (.asg (.nm 13) (.call 31 (.cons (.var 15) (.cons (.var 11) (.cons (.bi .tuple (.cons (.var 16) .nil)) .nil)))))
def v12 : MS := (.asg (.nm 14) (.ite (.cmp .isn (.var 12) (.lit .non)) (.lit .non) (.lc (.tup (.cons (.var 17) (.cons (.dix (.var 12) (.var 17)) .nil))) (.nm 17) (.ex (.bi .sorted (.cons (.var 12) .nil))) .nil [17])))
def v13 : MS := (.iff (.cmp .ne (.cmp .isn (.var 13) (.lit .non)) (.cmp .isn (.var 14) (.lit .non))) (.cons (.ret (.lit (.bl false))) .nil) .nil)
def v14 : MS := (.iff (.and (.cmp .notn (.var 13) (.lit .non)) (.or (.cmp .ne (.lc (.tup (.cons (.var 17) (.cons (.call 3 (.cons (.var 18) .nil)) .nil))) (.tp [17, 18]) (.ex (.var 13)) .nil [17, 18]) (.var 14)) (.cmp .ne (.lc (.var 17) (.tp [17, 18]) (.ex (.var 13)) .nil [17, 18]) (.lc (.var 17) (.nm 17) (.ex (.bi .sorted (.cons (.var 16) .nil))) (.cons (.cmp .inn (.var 17) (.call 1 (.cons (.var 15) .nil))) .nil) [17])))) (.cons (.ret (.lit (.bl false))) .nil) .nil)
def v15 : MS := (.iff (.and (.cmp .notn (.var 13) (.lit .non)) (.cmp .ne (.lc (.var 18) (.tp [17, 18]) (.ex (.var 13)) (.cons (.cmp .ne (.var 18) (.call 9 (.cons (.call 3 (.cons (.var 18) .nil)) .nil))) .nil) [17, 18]) (.lst .nil))) (.cons (.ret (.lit (.bl false))) .nil) .nil)
def v16 : MS := (.iff (.and (.cmp .notn (.var 13) (.lit .non)) (.not (.call 4 (.cons (.call 14 (.cons (.var 15) (.cons (.var 13) .nil))) (.cons (.var 11) .nil))))) (.cons (.ret (.lit (.bl false))) .nil) .nil)
def lb1 : MSs := (.cons u1 (.cons u2 (.cons u3 (.cons u4 (.cons u5 .nil)))))
def lb2 : MSs := (.cons v1 (.cons v2 (.cons v3 (.cons v4 (.cons v5 (.cons v6 (.cons v7 (.cons v8 (.cons v9 (.cons v10 (.cons v11 (.cons v12 (.cons v13 (.cons v14 (.cons v15 (.cons v16 .nil))))))))))))))))
def w3 : MS := (.iff (.cmp .ne (.lc (.call 13 (.cons (.var 5) .nil)) (.nm 5) (.rng (.cons (.lit (.int 6)) .nil)) .nil [5]) (.lst (.cons (.tup (.cons (.lit (.str [117, 112])) (.cons (.lit (.int 0)) .nil))) (.cons (.tup (.cons (.lit (.str [116, 111])) (.cons (.tup (.cons (.lit (.str [117, 112])) (.cons (.lit (.int 0)) .nil))) .nil))) (.cons (.tup (.cons (.lit (.str [111, 102])) (.cons (.tup (.cons (.lit (.str [117, 112])) (.cons (.lit (.int 0)) .nil))) (.cons (.tup (.cons (.lit (.str [117, 112])) (.cons (.lit (.int 0)) .nil))) .nil)))) (.cons (.tup (.cons (.lit (.str [117, 112])) (.cons (.lit (.int 1)) .nil))) (.cons (.tup (.cons (.lit (.str [116, 111])) (.cons (.tup (.cons (.lit (.str [116, 111])) (.cons (.tup (.cons (.lit (.str [117, 112])) (.cons (.lit (.int 0)) .nil))) .nil))) .nil))) (.cons (.tup (.cons (.lit (.str [111, 102])) (.cons (.tup (.cons (.lit (.str [116, 111])) (.cons (.tup (.cons (.lit (.str [117, 112])) (.cons (.lit (.int 0)) .nil))) .nil))) (.cons (.tup (.cons (.lit (.str [117, 112])) (.cons (.lit (.int 0)) .nil))) .nil)))) .nil)))))))) (.cons (.ret (.lit (.bl false))) .nil) .nil)
def w2 : MS := .forr (.nm 2) (.rng (.cons (.lit (.int 3)) .nil)) lb1
def w4 : MS := .forr (.nm 2) (.rng (.cons (.lit (.int 2)) .nil)) lb2
theorem b32_eq : b32 = .cons (.asg (.nm 1) (.call 20 (.cons (.var 0) .nil))) (.cons w2 (.cons w3 (.cons w4 (.cons (.ret (.lit (.bl true))) .nil)))) := rfl
end K36
end
section
set_option maxRecDepth 20000
namespace K36
open Mn Mev
variable {C : Nat → List MV → Sto → Res EV}
theorem callE1 {f : Nat} {x : MX} {m : MV} {env : Env} {s : Sto} {r : Res EV} (hx : evE P C x env s = .ok (.v m) s) (h : doCall C f [m] s = r) : evE P C (.call f (.cons x .nil)) env s = r := by
  rw [E_call, L_cons, hx, Mev.bind_ok, L_nil, Mev.bind_ok, Mev.bind_ok]; exact h
theorem callE2 {f : Nat} {x y : MX} {m n : MV} {env : Env} {s : Sto} {r : Res EV} (hx : evE P C x env s = .ok (.v m) s) (hy : evE P C y env s = .ok (.v n) s) (h : doCall C f [m, n] s = r) : evE P C (.call f (.cons x (.cons y .nil))) env s = r := by
  rw [E_call, L_cons, hx, Mev.bind_ok, L_cons, hy, Mev.bind_ok, L_nil, Mev.bind_ok, Mev.bind_ok, Mev.bind_ok]; exact h
theorem callE3 {f : Nat} {x y z : MX} {m n o : MV} {env : Env} {s : Sto} {r : Res EV} (hx : evE P C x env s = .ok (.v m) s) (hy : evE P C y env s = .ok (.v n) s) (hz : evE P C z env s = .ok (.v o) s) (h : doCall C f [m, n, o] s = r) : evE P C (.call f (.cons x (.cons y (.cons z .nil)))) env s = r := by
  rw [E_call, L_cons, hx, Mev.bind_ok, L_cons, hy, Mev.bind_ok, L_cons, hz, Mev.bind_ok, L_nil, Mev.bind_ok, Mev.bind_ok, Mev.bind_ok, Mev.bind_ok]; exact h
theorem callE4 {f : Nat} {x y z w : MX} {m n o p : MV} {env : Env} {s : Sto} {r : Res EV} (hx : evE P C x env s = .ok (.v m) s) (hy : evE P C y env s = .ok (.v n) s) (hz : evE P C z env s = .ok (.v o) s) (hw : evE P C w env s = .ok (.v p) s) (h : doCall C f [m, n, o, p] s = r) : evE P C (.call f (.cons x (.cons y (.cons z (.cons w .nil))))) env s = r := by
  rw [E_call, L_cons, hx, Mev.bind_ok, L_cons, hy, Mev.bind_ok, L_cons, hz, Mev.bind_ok, L_cons, hw, Mev.bind_ok, L_nil, Mev.bind_ok, Mev.bind_ok, Mev.bind_ok, Mev.bind_ok, Mev.bind_ok]; exact h
theorem cmpE {op : COp} {x y : MX} {u v : EV} {b : Bool} {env : Env} {s s1 s2 : Sto} (hx : evE P C x env s = .ok u s1) (hy : evE P C y env s1 = .ok v s2) (h : cmpop op u v s2 = some b) : evE P C (.cmp op x y) env s = .ok (.v (.p (.bl b))) s2 := by
  rw [E_cmp, hx, Mev.bind_ok, hy, Mev.bind_ok, h]; rfl
theorem orF {a b : MX} {env : Env} {s s1 : Sto} {r : Res EV} (ha : evE P C a env s = .ok (.v (.p (.bl false))) s1) (hb : evE P C b env s1 = r) : evE P C (.or a b) env s = r := by
  rw [E_or, ha, Mev.bind_ok, truth_bl]; exact hb
theorem andT {a b : MX} {env : Env} {s s1 : Sto} {r : Res EV} (ha : evE P C a env s = .ok (.v (.p (.bl true))) s1) (hb : evE P C b env s1 = r) : evE P C (.and a b) env s = r := by
  rw [E_and, ha, Mev.bind_ok, truth_bl]; exact hb
theorem andF {a b : MX} {env : Env} {s s1 : Sto} (ha : evE P C a env s = .ok (.v (.p (.bl false))) s1) : evE P C (.and a b) env s = .ok (.v (.p (.bl false))) s1 := by
  rw [E_and, ha, Mev.bind_ok, truth_bl]
theorem notE {a : MX} {b : Bool} {env : Env} {s s1 : Sto} (ha : evE P C a env s = .ok (.v (.p (.bl b))) s1) : evE P C (.not a) env s = .ok (.v (.p (.bl (!b)))) s1 := by
  rw [E_not, ha, Mev.bind_ok, truth_bl]; rfl
theorem biE1 {b : BI} {x : MX} {u v : EV} {env : Env} {s s1 s2 : Sto} (hx : evE P C x env s = .ok u s1) (h : biF b [u] s1 = .ok v s2) : evE P C (.bi b (.cons x .nil)) env s = .ok v s2 := by
  rw [E_bi, L_cons, hx, Mev.bind_ok, L_nil, Mev.bind_ok, Mev.bind_ok]; exact h
theorem asgV {i : Nat} {x : MX} {m : MV} {env : Env} {s s1 : Sto} (hx : evE P C x env s = .ok (.v m) s1) : evS P C (.asg (.nm i) x) env s = .ok .nx (env.set i (some m)) s1 := by
  rw [S_asg, hx, bindE_ok]; rfl
theorem asgO {i : Nat} {x : MX} {o : MO} {env : Env} {s s1 : Sto} (hx : evE P C x env s = .ok (.o o) s1) : evS P C (.asg (.nm i) x) env s = .ok .nx (env.set i (some (.r s1.length))) (s1 ++ [o]) := by
  rw [S_asg, hx, bindE_ok]; rfl
theorem iffN {c : MX} {a : MSs} {env : Env} {s s1 : Sto} (hc : evE P C c env s = .ok (.v (.p (.bl false))) s1) : evS P C (.iff c a .nil) env s = .ok .nx env s1 := iffF hc (Ss_nil ..)
theorem tup0 {env : Env} {s : Sto} : evE P C (.tup .nil) env s = .ok (.v (.p (.tup []))) s := by simp [lim]
theorem cmp_ne_view (u v : EV) (x : PV) (s : Sto) (hu : view u s = some x) (hv : view v s = some x) (h1 : noB x = true) (h2 : x.dep ≤ 60) : cmpop .ne u v s = some false := by
  have h3 : min x.dep x.dep ≤ dlim := by unfold dlim; omega
  have h4 : eqD u v s = some true := by
    unfold eqD
    rw [hu, hv]
    simp only [h3, if_true]
    rw [(eqv_eq x x h1 h1).2 rfl]
  simp only [cmpop, h4]; rfl
theorem view_rl {α : Type} (f : α → PV) (l : List α) (n : Nat) (s : Sto) (hn : s[n]? = some (.lst (l.map fun x => .p (f x)))) : view (.v (.r n)) s = some (.lst (l.map f)) := by
  simp only [view, viewM, hn]
  have : mapO (viewM s 2) (l.map fun x => MV.p (f x)) = some (l.map f) := by
    clear hn
    induction l with
    | nil => rfl
    | cons a r ih => simp only [List.map_cons, mapO, viewM, ih]
  rw [this]; rfl
theorem cB_succ (n : Nat) : cB (n + 3) = 3 * pc (cB (n + 2)) (cB (n + 1)) + 2 := rfl
theorem pc_def (m n : Nat) : pc m n = tri (m + n) + n := rfl
theorem cB4 : cB 4 ≤ 400000000000 := by
  have h2 : cB 2 = 542 := rfl
  have h1 : cB 1 = 9 := rfl
  have h3 : cB 3 = 3 * pc (cB 2) (cB 1) + 2 := cB_succ 0
  have h4 := cB_succ 1
  simp only [Nat.reduceAdd] at h4
  have t1 : tri 551 = 152076 := by have := tri_eq 551; omega
  obtain ⟨q, hq⟩ : ∃ q, q = 456799 := ⟨_, rfl⟩
  have h5 : q * (q + 1) = 208665783200 := by rw [hq]
  have t2 : tri q = 104332891600 := by have := tri_eq2 q; rw [h5] at this; omega
  rw [h2, h1, pc_def, t1] at h3
  have h3' : cB 3 = 456257 := h3
  rw [h3', h2, pc_def, show 456257 + 542 = q from hq.symm, t2] at h4
  rw [h4]
  omega
theorem ne_ii (i : Int) (s : Sto) : cmpop .ne (.v (.p (.int i))) (.v (.p (.int i))) s = some false := by rw [cmp_ne_ii]; simp
theorem turn1 (k : Nat) (hk : 60 ≤ k) (sc : MV) (i : Nat) (s : Sto) (a3 a4 a5 a6 a7 a8 a9 a10 a11 a12 a13 a14 a15 a16 a17 a18 : Option MV) (hd : Dr s 0 1) : ∃ e2 s2, evSs P (callM P k) lb1 [some sc, some (.r 1), some (.p (.int (i : Nat))), a3, a4, a5, a6, a7, a8, a9, a10, a11, a12, a13, a14, a15, a16, a17, a18] s = .ok .nx e2 s2 ∧ (∃ b2 b3 b4 b5 b6 b7 b8 b9 b10 b11 b12 b13 b14 b15 b16 b17 b18, e2 = [some sc, some (.r 1), b2, b3, b4, b5, b6, b7, b8, b9, b10, b11, b12, b13, b14, b15, b16, b17, b18]) ∧ Dr s2 0 1 := by
  obtain ⟨F, s1, hNf, hcd, hfd, hcall, hd1, hk1⟩ := law_form_ok 4 s 0 1 k hd (by decide) (by omega)
  have hcb := cB4
  have p25 : 3 ^ 25 = 847288609443 := by decide
  have hcall' : doCall (callM P k) 26 [.r 1, .p (.int 4)] s = .ok (.v (.p (encF F))) s1 := by rw [doCall_ref rfl]; exact hcall
  have hlc := law_code_ok F k hNf (by omega) (by omega) s1
  have hco := code_of_ok F k hNf (by omega) (by omega) s1
  obtain ⟨G, g1, g2, g3, g4⟩ := form_of_ok 25 (codeF F) k (by rw [p25]; omega) (by omega) (by omega)
  have hGF := codeF_inj G F g1 hNf g2
  subst hGF
  have hfo := g4 s1
  obtain ⟨k', rfl⟩ := ge1 (n := 59) (k := k) hk
  obtain ⟨r, s2, hr, htk0, hd2, hk2⟩ := take_ok (P := P) (f := 21) rfl hd1 5000 k' (by decide) (by decide)
  have htk : doCall (callM P (k' + 1)) 21 [.r 1, .p (.int 5000)] s1 = .ok (.v (.p (.int (r : Int)))) s2 := by rw [doCall_ref rfl]; exact htk0
  have p8 : 3 ^ 8 = 6561 := by decide
  obtain ⟨H, h1, h2, h3, h4⟩ := form_of_ok 8 r (k' + 1) (by rw [p8]; omega) (by omega) (by omega)
  have hfo2 := h4 s2
  have hco2 := code_of_ok H (k' + 1) h1 (by omega) (by omega) s2
  have hlc2 := law_code_ok H (k' + 1) h1 (by omega) (by omega) s2
  rw [h2] at hco2 hlc2
  refine ⟨[some sc, some (.r 1), some (.p (.int (i : Nat))), some (.p (encF G)), some (.p (.int ((codeF G : Nat) : Int))), some (.p (.int (r : Int))), a6, a7, a8, a9, a10, a11, a12, a13, a14, a15, a16, a17, a18], s2, ?_, ⟨_, _, _, _, _, _, _, _, _, _, _, _, _, _, _, _, _, rfl⟩, hd2⟩
  refine ss_nx (asgV (callE2 (varE rfl) (litE ..) hcall')) ?_
  refine ss_nx (asgV (callE1 (varE rfl) hlc)) ?_
  refine ss_nx (iffN (orF (cmpE (callE1 (varE rfl) hco) (varE rfl) (ne_ii ..)) (cmpE (callE1 (varE rfl) hfo) (varE rfl) (by rw [cmp_encFn G G s1 (by omega)]; simp)))) ?_
  refine ss_nx (asgV (callE2 (varE rfl) (litE ..) htk)) ?_
  refine ss_nx (iffN (orF (cmpE (callE1 (callE1 (varE rfl) hfo2) hco2) (varE rfl) (ne_ii ..)) (cmpE (callE1 (callE1 (varE rfl) hfo2) hlc2) (varE rfl) (ne_ii ..)))) ?_
  exact Ss_nil ..
def L6 : List Fm := [.up 0, .to (.up 0), .of (.up 0) (.up 0), .up 1, .to (.to (.up 0)), .of (.to (.up 0)) (.up 0)]
theorem L6_code : ∀ i, i < 6 → Nf (L6.getD i (.up 0)) ∧ codeF (L6.getD i (.up 0)) = i := by
  intro i hi
  match i, hi with
  | 0, _ => exact ⟨trivial, rfl⟩
  | 1, _ => exact ⟨trivial, rfl⟩
  | 2, _ => exact ⟨⟨trivial, trivial⟩, rfl⟩
  | 3, _ => exact ⟨trivial, rfl⟩
  | 4, _ => exact ⟨trivial, rfl⟩
  | 5, _ => exact ⟨⟨trivial, trivial⟩, rfl⟩
  | n + 6, h => omega
theorem w3_ok (k : Nat) (hk : 60 ≤ k) (e : Env) (he : e.length = 19) (s : Sto) : evS P (callM P k) w3 e s = .ok .nx e s := by
  have hgo := lcGo_gen (f := turnE (wipeE e [5]) (.nm 5) (fun e1 s1 => evC P (callM P k) .nil e1 s1) (fun e1 s1 => (evE P (callM P k) (.call 13 (.cons (.var 5) .nil)) e1 s1).bind fun r s2 => .ok [(hold r s2).1] (hold r s2).2)) (q := fun i : Nat => MV.p (.int i)) (g := fun i => [MV.p (encF (L6.getD i (.up 0)))]) (s := s) (src := .rg 0 1 6) (List.range 6) (by
      intro i
      simp only [itm]
      by_cases hi : i < 6
      · rw [if_pos hi, List.getElem?_range hi]; simp
      · rw [if_neg hi, List.getElem?_eq_none (by simp; omega)]; rfl) (by
      intro i hi
      rw [List.mem_range] at hi
      obtain ⟨F, f1, f2, f3, f4⟩ := form_of_ok 2 i k (by omega) (by omega) (by omega)
      have hl := L6_code i hi
      have hF : F = L6.getD i (.up 0) := codeF_inj _ _ f1 hl.1 (by rw [f2, hl.2])
      have h5 := f4 s
      rw [hF] at h5
      have h6 : ((wipeE e [5]).set 5 (some (.p (.int (i : Int)))))[5]? = some (some (.p (.int (i : Int)))) := by simp [wipeE, he]
      simp only [turnE, setT_nm, C_nil, Mev.noX_ok, Mev.bind_ok]
      rw [callE1 (varE h6) h5]
      rfl) wfuel 0 (by simp only [wfuel]; simp)
  have e3 : ((List.range 6).drop 0).flatMap (fun i : Nat => [MV.p (encF (L6.getD i (.up 0)))]) = L6.map fun F => MV.p (encF F) := rfl
  rw [e3] at hgo
  have hI : evI P (callM P k) (.rng (.cons (.lit (.int 6)) .nil)) e s = .ok (.rg 0 1 6) s := by simp [evI, rngOf]
  have hlc : evE P (callM P k) (.lc (.call 13 (.cons (.var 5) .nil)) (.nm 5) (.rng (.cons (.lit (.int 6)) .nil)) .nil [5]) e s = .ok (.o (.lst (L6.map fun F => MV.p (encF F)))) s := by
    rw [E_lc, hI, Mev.bind_ok, hgo, Mev.noX_ok, Mev.bind_ok]
    exact if_pos (by simp [L6, lim])
  refine iffN (cmpE hlc (v := .o (.lst (L6.map fun F => MV.p (encF F)))) (s2 := s) ?_ ?_)
  · simp [lim, L6, encF, sUp, sTo, sOf]
  · refine cmp_ne_view _ _ (.lst (L6.map encF)) s (view_l encF L6 s) (view_l encF L6 s) ?_ ?_
    · simp only [noB]; exact noBs_map _ _ fun F _ => encF_noB F
    · have := deps_map encF L6 10 (by
        intro F hF
        have h1 := encF_dep F
        have : fd F ≤ 10 := by
          simp only [L6, List.mem_cons, List.not_mem_nil, or_false] at hF
          rcases hF with rfl | rfl | rfl | rfl | rfl | rfl <;> decide
        omega)
      simp only [PV.dep]; omega
end K36
end
section
set_option maxRecDepth 20000
namespace K36
open Mn Mev
variable {C : Nat → List MV → Sto → Res EV}
theorem tupE2 {x y : MX} {a b : PV} {env : Env} {s s1 s2 : Sto} (hx : evE P C x env s = .ok (.v (.p a)) s1) (hy : evE P C y env s1 = .ok (.v (.p b)) s2) : evE P C (.tup (.cons x (.cons y .nil))) env s = .ok (.v (.p (.tup [a, b]))) s2 := by
  rw [E_tup, L_cons, hx, Mev.bind_ok, L_cons, hy, Mev.bind_ok, L_nil, Mev.bind_ok, Mev.bind_ok, Mev.bind_ok]
  simp [lim]
theorem isiE {x : MX} {t : TyN} {u : EV} {b : Bool} {env : Env} {s s1 : Sto} (hx : evE P C x env s = .ok u s1) (h : typeIs t u s1 = some b) : evE P C (.isi x t) env s = .ok (.v (.p (.bl b))) s1 := by
  rw [E_isi, hx, Mev.bind_ok, h]; rfl
theorem zipT : ∀ (l : List (List Nat)) (ms : List MV), ms.length = l.length → (∀ p, p ∈ l.zip ms → ∃ t, dp t ≤ 2 ∧ p.2 = .p (encPair (p.1, t))) → ∃ σ : Tab, σ.map (·.1) = l ∧ ms = σ.map (fun q => .p (encPair q)) ∧ ∀ q, q ∈ σ → dp q.2 ≤ 2 := by
  intro l
  induction l with
  | nil =>
    intro ms h _
    have : ms = [] := List.length_eq_zero_iff.1 h
    subst this
    exact ⟨[], rfl, rfl, by simp⟩
  | cons x l ih =>
    intro ms h hp
    cases ms with
    | nil => simp at h
    | cons m ms =>
      simp only [List.length_cons, Nat.add_right_cancel_iff] at h
      rw [List.zip_cons_cons] at hp
      obtain ⟨t, h1, h2⟩ := hp (x, m) (List.mem_cons_self ..)
      obtain ⟨σ, g1, g2, g3⟩ := ih ms h fun p hp' => hp p (List.mem_cons_of_mem _ hp')
      refine ⟨(x, t) :: σ, by simp [g1], by simp only [List.map_cons, ← g2]; rw [show m = MV.p (encPair (x, t)) from h2], ?_⟩
      intro q hq
      rcases List.mem_cons.1 hq with rfl | hq
      · exact h1
      · exact g3 q hq
theorem bi_tupT (σ : Tab) (s : Sto) : biF .tuple [.o (.lst (σ.map fun q => .p (encPair q)))] s = .ok (.v (.p (encT σ))) s := by
  have := bi_tup_o (σ.map encPair) s
  rw [List.map_map] at this
  exact this
theorem tabE (k : Nat) (hk : 60 ≤ k) (FR : MX) (fr : List (List Nat)) (hfr : fr.length ≤ 100) (hFR : ∀ env s, evE P (callM P k) FR env s = .ok (.v (.p (encN fr))) s) (it : MI) (ks : List (List Nat)) (env : Env) (he : env.length = 19) (h1 : env[1]? = some (some (.r 1))) (s s0 : Sto) (hi : evI P (callM P k) it env s = .ok (.sq (.snap (ks.map fun x => .p (.str x)))) s0) (hd : Dr s0 0 1) (hl : ks.length < 100) :
    ∃ σ s', evE P (callM P k) (.bi .tuple (.cons (.lc (.tup (.cons (.var 17) (.cons (.call 22 (.cons (.var 1) (.cons (.lit (.int 2)) (.cons (.tup .nil) (.cons FR .nil))))) .nil))) (.nm 17) it .nil [17]) .nil)) env s = .ok (.v (.p (encT σ))) s' ∧ σ.map (·.1) = ks ∧ (∀ q, q ∈ σ → dp q.2 ≤ 2) ∧ Dr s' 0 1 := by
  obtain ⟨ms, s', g1, g2, g3, g4⟩ := ev_lc_inv (P := P) (C := callM P k) (elt := .tup (.cons (.var 17) (.cons (.call 22 (.cons (.var 1) (.cons (.lit (.int 2)) (.cons (.tup .nil) (.cons FR .nil))))) .nil))) (tg := .nm 17) (it := it) (cs := .nil) (own := [17]) (env := env) (s := s) (s0 := s0) (fun x => MV.p (.str x)) ks (.snap (ks.map fun x => .p (.str x))) (fun x m => ∃ t, dp t ≤ 2 ∧ m = .p (encPair (x, t))) (fun s => Dr s 0 1) hi hd (fun _ _ => rfl) (by omega) (by
    intro x hx s2 hd2
    obtain ⟨t, s3, ht, hc, hd3, _⟩ := law_term_ok 2 [] fr s2 0 1 k hd2 (by decide) (by decide) hfr (by omega)
    have hc' : doCall (callM P k) 22 [.r 1, .p (.int 2), .p (.tup []), .p (encN fr)] s2 = .ok (.v (.p (enc t))) s3 := by rw [doCall_ref rfl]; exact hc
    refine ⟨.p (encPair (x, t)), s3, ?_, ⟨t, ht, rfl⟩, hd3⟩
    have e1 : ((wipeE env [17]).set 17 (some (.p (.str x))))[1]? = some (some (.r 1)) := by
      simp [wipeE]; exact h1
    have e17 : ((wipeE env [17]).set 17 (some (.p (.str x))))[17]? = some (some (.p (.str x))) := by simp [wipeE, he]
    simp only [turnE, setT_nm, C_nil, Mev.noX_ok, Mev.bind_ok]
    rw [tupE2 (varE e17) (callE4 (varE e1) (litE ..) tup0 (hFR ..) hc')]
    rfl)
  obtain ⟨σ, f1, f2, f3⟩ := zipT ks ms g3 g4
  refine ⟨σ, s', biE1 g1 ?_, f1, f3, g2⟩
  rw [f2]
  exact bi_tupT σ s'
theorem ixcall {L : MXs} {l : List MV} {n : Int} {r : Nat} {m : MV} {env : Env} {s s1 : Sto} (hL : evE P C (.lst L) env s = .ok (.o (.lst l)) s) (h1 : env[1]? = some (some (.r 1))) (hc : doCall C 21 [.r 1, .p (.int n)] s = .ok (.v (.p (.int (r : Int)))) s1) (hi : l[r]? = some m) : evE P C (.ix (.lst L) (.call 21 (.cons (.var 1) (.cons (.lit (.int n)) .nil)))) env s = .ok (.v m) s1 := by
  rw [E_ix, hL, Mev.bind_ok, callE2 (varE h1) (litE ..) hc, Mev.bind_ok, ix_lit s1 hi]
  rfl
theorem exN {x : MX} {ks : List (List Nat)} {env : Env} {s s1 : Sto} (h : evE P C x env s = .ok (.v (.p (encN ks))) s1) : evI P C (.ex x) env s = .ok (.sq (.snap (ks.map fun x => .p (.str x)))) s1 := by
  rw [evI, h, Mev.bind_ok]
  simp [sqOf, sqL, encN, tupOf, tupSeq, Function.comp_def]
theorem keysE (k : Nat) (σ : Tab) (i : Nat) (env : Env) (s : Sto) (he : env.length = 19) (h : env[i]? = some (some (.p (encT σ)))) (hl : σ.length < 1000) : evE P (callM P k) (.lc (.var 17) (.tp [17, 18]) (.ex (.var i)) .nil [17, 18]) env s = .ok (.o (.lst ((σ.map (·.1)).map fun x => .p (.str x)))) s := by
  have := ev_lcm (P := P) (C := callM P k) (elt := .var 17) (tg := .tp [17, 18]) (it := .ex (.var i)) (cs := .nil) (own := [17, 18]) (env := env) (s := s) (fun q => MV.p (encPair q)) (fun q => MV.p (.str q.1)) σ
    (.snap (σ.map fun q => .p (encPair q))) (tabI σ k i env s h) rfl (by omega) (by
      intro q hq
      simp [turnE, wipeE, encPair, he])
  rw [this, List.map_map]
  rfl
theorem typ_enc (t : Tm) (s : Sto) : typeIs .tuple (.v (.p (enc t))) s = some true := by cases t <;> rfl
theorem are_alike_ok (a b : Tm) (k : Nat) (ha : dp a ≤ 50) (hb : dp b ≤ 50) (hk : 52 ≤ k) (h : bareW a [] = bareW b []) : Gives P k 4 [.p (enc a), .p (enc b)] (.v (.p (.bl true))) := by
  obtain ⟨k, rfl⟩ := ge1 (n := 51) (k := k) hk
  have h1 := bare3_ok a k (by omega) (by omega) []
  have h2 := bare3_ok b k (by omega) (by omega) []
  have h3 := cmp_encF (bareW a []) (bareW b []) [] (by rw [fd_bare]; omega)
  rw [decide_eq_true h] at h3
  refine gives (d := ⟨2, 2, b4⟩) rfl rfl rfl ?_
  have : evE P (callM P k) (.cmp .eq (.call 3 (.cons (.var 0) .nil)) (.call 3 (.cons (.var 1) .nil))) [some (.p (enc a)), some (.p (enc b))] [] = .ok (.v (.p (.bl true))) [] := cmpE (callE1 (varE rfl) h1) (callE1 (varE rfl) h2) h3
  show isoFin (evSs P (callM P k) b4 [some (.p (enc a)), some (.p (enc b))] []) = _
  unfold b4
  rw [Ss_cons, S_ret, this]
  rfl
theorem bi_dict_o (l : List Kv) (ps : List PV) (s : Sto) (hp : ps.map MV.p = l.map fun q => mkTup [.p (.str q.1), q.2]) (hd : (l.map (·.1)).Nodup) (hl : l.length ≤ 1000) : biF .dict [.o (.lst (ps.map .p))] s = .ok (.o (.dic l)) s := by
  have h1 : pairsOf (.o (.lst (ps.map .p))) s = some l := by
    show mapO pairOf (ps.map MV.p) = some l
    rw [hp, mapO_pairs]
  have h2 : l.length ≤ lim := by simp [lim]; omega
  have h3 := dput_fold l [] (by rw [List.nil_append]; exact hd)
  simp only [biF, h1]
  rw [if_pos h2, h3]
  rfl
/-- what is drawn for a turn -/
structure DataA (t : Tm) (σ τ : Tab) : Prop where
  dt : dp t ≤ 4
  ne : σ ≠ []
  n1 : (σ.map (·.1)).Nodup
  n2 : (τ.map (·.1)).Nodup
  l1 : σ.length ≤ 2
  l2 : τ.length ≤ 2
  d1 : ∀ q, q ∈ σ → dp q.2 ≤ 2
  d2 : ∀ q, q ∈ τ → dp q.2 ≤ 2
theorem tab_put_ok {σ : Tab} (h1 : (σ.map (·.1)).Nodup) (hl : σ.length ≤ 4) (hd : ∀ q, q ∈ σ → dp q.2 ≤ 5 ∧ sw q.2 ≤ 8) (t : Tm) (ht : dp t ≤ 10) (hr : Room σ t) (k : Nat) (hk : 55 ≤ k) : Gives P k 14 [.p (enc t), .p (encT σ)] (.v (.p (enc (pk (dp t) t σ)))) :=
  put_all_ok t σ k hr h1 (by omega) (by omega) fun q hq => by have := hd q hq; omega
theorem partA (k : Nat) (hk : 60 ≤ k) (sc : MV) (i : Nat) (s : Sto) (a3 a4 a5 a6 a7 a8 a9 a10 a11 a12 a13 a14 a15 a16 a17 a18 : Option MV) (hd : Dr s 0 1) :
    ∃ t σ τ s4 n9, DataA t σ τ ∧ Dr s4 0 1 ∧ ∀ rest, evSs P (callM P k) (.cons v1 (.cons v2 (.cons v3 (.cons v4 (.cons v5 (.cons v6 (.cons v7 rest))))))) [some sc, some (.r 1), some (.p (.int (i : Nat))), a3, a4, a5, a6, a7, a8, a9, a10, a11, a12, a13, a14, a15, a16, a17, a18] s
      = evSs P (callM P k) rest [some sc, some (.r 1), some (.p (.int (i : Nat))), a3, a4, a5, some (.p (enc t)), some (.p (encT σ)), some (.p (encT τ)), some (.r n9), some (.p (encT (thenT σ τ))), a11, a12, a13, a14, a15, a16, a17, a18] s4 := by
  obtain ⟨t, s1, ht, hc1, hd1, _⟩ := law_term_ok 4 [] [[120], [121], [97]] s 0 1 k hd (by decide) (by decide) (by decide) (by omega)
  have hc1' : doCall (callM P k) 22 [.r 1, .p (.int 4), .p (.tup []), .p (.tup [.str [120], .str [121], .str [97]])] s = .ok (.v (.p (enc t))) s1 := by rw [doCall_ref rfl]; exact hc1
  obtain ⟨k', rfl⟩ := ge1 (n := 59) (k := k) hk
  -- one
  obtain ⟨r, s2, hr, htk0, hd2, _⟩ := take_ok (P := P) (f := 21) rfl hd1 3 k' (by decide) (by decide)
  have htk : doCall (callM P (k' + 1)) 21 [.r 1, .p (.int 3)] s1 = .ok (.v (.p (.int (r : Int)))) s2 := by rw [doCall_ref rfl]; exact htk0
  obtain ⟨ks, hks, hix⟩ : ∃ ks : List (List Nat), (ks ≠ [] ∧ ks.length ≤ 2 ∧ ks.Nodup) ∧ ([MV.p (.tup [.str [120], .str [121]]), .p (.tup [.str [121]]), .p (.tup [.str [97], .str [120]])])[r]? = some (.p (encN ks)) := by
    match r, hr with
    | 0, _ => exact ⟨[[120], [121]], by decide, rfl⟩
    | 1, _ => exact ⟨[[121]], by decide, rfl⟩
    | 2, _ => exact ⟨[[97], [120]], by decide, rfl⟩
    | n + 3, h => omega
  obtain ⟨σ, s3, hσ, hσk, hσd, hd3⟩ := tabE (k' + 1) hk (.tup (.cons (.lit (.str [120])) (.cons (.lit (.str [121])) (.cons (.lit (.str [97])) (.cons (.lit (.str [98])) .nil))))) [[120], [121], [97], [98]] (by decide) (fun env s => by simp [lim, encN, mkTup, allP])
    (.ex (.ix (.lst (.cons (.tup (.cons (.lit (.str [120])) (.cons (.lit (.str [121])) .nil))) (.cons (.tup (.cons (.lit (.str [121])) .nil)) (.cons (.tup (.cons (.lit (.str [97])) (.cons (.lit (.str [120])) .nil))) .nil)))) (.call 21 (.cons (.var 1) (.cons (.lit (.int 3)) .nil))))) ks
    [some sc, some (.r 1), some (.p (.int (i : Nat))), a3, a4, a5, some (.p (enc t)), a7, a8, a9, a10, a11, a12, a13, a14, a15, a16, a17, a18] rfl rfl s1 s2 (exN (ixcall (by simp [lim]) rfl htk hix)) hd2 (by omega)
  -- two
  obtain ⟨r2, s2b, hr2, htk0b, hd2b, _⟩ := take_ok (P := P) (f := 21) rfl hd3 2 k' (by decide) (by decide)
  have htkb : doCall (callM P (k' + 1)) 21 [.r 1, .p (.int 2)] s3 = .ok (.v (.p (.int (r2 : Int)))) s2b := by rw [doCall_ref rfl]; exact htk0b
  obtain ⟨js, hjs, hixb⟩ : ∃ ks : List (List Nat), (ks ≠ [] ∧ ks.length ≤ 2 ∧ ks.Nodup) ∧ ([MV.p (.tup [.str [97], .str [98]]), .p (.tup [.str [120], .str [121]])])[r2]? = some (.p (encN ks)) := by
    match r2, hr2 with
    | 0, _ => exact ⟨[[97], [98]], by decide, rfl⟩
    | 1, _ => exact ⟨[[120], [121]], by decide, rfl⟩
    | n + 2, h => omega
  obtain ⟨τ, s5, hτ, hτk, hτd, hd5⟩ := tabE (k' + 1) hk (.tup (.cons (.lit (.str [120])) (.cons (.lit (.str [98])) .nil))) [[120], [98]] (by decide) (fun env s => by simp [lim, encN, mkTup, allP])
    (.ex (.ix (.lst (.cons (.tup (.cons (.lit (.str [97])) (.cons (.lit (.str [98])) .nil))) (.cons (.tup (.cons (.lit (.str [120])) (.cons (.lit (.str [121])) .nil))) .nil))) (.call 21 (.cons (.var 1) (.cons (.lit (.int 2)) .nil))))) js
    [some sc, some (.r 1), some (.p (.int (i : Nat))), a3, a4, a5, some (.p (enc t)), some (.p (encT σ)), a8, a9, a10, a11, a12, a13, a14, a15, a16, a17, a18] rfl rfl s3 s2b (exN (ixcall (by simp [lim]) rfl htkb hixb)) hd2b (by omega)
  have hlσ : σ.length ≤ 2 := by have := congrArg List.length hσk; rw [List.length_map] at this; omega
  have hlτ : τ.length ≤ 2 := by have := congrArg List.length hτk; rw [List.length_map] at this; omega
  have D : DataA t σ τ := ⟨ht, by rintro rfl; exact hks.1 hσk.symm, by rw [hσk]; exact hks.2.2, by rw [hτk]; exact hjs.2.2, hlσ, hlτ, hσd, hτd⟩
  have hswt := sw_le t 4 ht
  have hswσ : ∀ q, q ∈ σ → sw q.2 ≤ 2 := fun q hq => sw_le q.2 2 (hσd q hq)
  have hswτ : ∀ q, q ∈ τ → sw q.2 ≤ 2 := fun q hq => sw_le q.2 2 (hτd q hq)
  have htkσ := tkn_le 2 σ hswσ
  have htkτ := tkn_le 2 τ hswτ
  have e8 : 2 ^ (4 - 1) = 8 := rfl
  have hr1 : Room σ t := by unfold Room; omega
  have hpsw := pk_sw 2 (by omega) (dp t) t σ hswσ
  have hpdp := pk_dp 2 (by omega) (dp t) t σ hσd
  have hr2' : Room τ (pk (dp t) t σ) := by unfold Room; omega
  have hbd : ∀ q, q ∈ thenT σ τ → dp q.2 ≤ 4 ∧ sw q.2 ≤ 4 := by
    intro q hq
    unfold thenT at hq
    rw [mem_sortT, List.mem_append] at hq
    rcases hq with hq | hq
    · simp only [putT, List.mem_map] at hq
      obtain ⟨u, hu, rfl⟩ := hq
      have a1 := hσd u hu
      have a2 := hswσ u hu
      have b1 := pk_dp 2 (by omega) (dp u.2) u.2 τ hτd
      have b2 := pk_sw 2 (by omega) (dp u.2) u.2 τ hswτ
      show dp (pk (dp u.2) u.2 τ) ≤ 4 ∧ sw (pk (dp u.2) u.2 τ) ≤ 4
      omega
    · have hm := (List.mem_filter.1 hq).1
      have := hτd q hm
      have := hswτ q hm
      omega
  have hbl : (thenT σ τ).length ≤ 4 := by
    unfold thenT
    rw [len_sortT, List.length_append]
    have : (resT σ τ).length ≤ τ.length := List.length_filter_le _ _
    simp only [putT, List.length_map]; omega
  have htkb2 := tkn_le 4 (thenT σ τ) fun q hq => (hbd q hq).2
  have hr3 : Room (thenT σ τ) t := by unfold Room; omega
  have hbn : ((thenT σ τ).map (·.1)).Nodup := nodup_sortT _ (both_nodup σ τ D.n1 D.n2)
  let s6 : Sto := s5 ++ [.dic (encK (bareTab σ))]
  have hd6 : Dr s6 0 1 := hd5.app _
  have hm6 : s6[s5.length]? = some (.dic (encK (bareTab σ))) := by simp [s6]
  let e7 : Env := [some sc, some (.r 1), some (.p (.int (i : Nat))), a3, a4, a5, some (.p (enc t)), some (.p (encT σ)), some (.p (encT τ)), a9, a10, a11, a12, a13, a14, a15, a16, a17, a18]
  -- forms
  have hlc := ev_lcm (P := P) (C := callM P (k' + 1)) (elt := .tup (.cons (.var 17) (.cons (.call 23 (.cons (.var 18) (.cons (.tup .nil) .nil))) .nil))) (tg := .tp [17, 18]) (it := .ex (.var 7)) (cs := .nil) (own := [17, 18]) (env := e7) (s := s5) (fun q => MV.p (encPair q)) (fun q => MV.p (.tup [.str q.1, encF (bareW q.2 [])])) σ
    (.snap (σ.map fun q => .p (encPair q))) (tabI σ (k' + 1) 7 e7 s5 rfl) rfl (by omega) (by
      intro q hq
      have h1 := bare_ok 23 (.inr rfl) q.2 [] (k' + 1) (by have := hσd q hq; simp; omega) (by have := hσd q hq; omega) s5
      simp only [encN, List.map_nil] at h1
      simp [turnE, wipeE, e7, encPair, h1, lim])
  have hdict := bi_dict_o (encK (bareTab σ)) (σ.map fun q => .tup [.str q.1, encF (bareW q.2 [])]) s5 (by simp [encK, bareTab, Function.comp_def]) (by rw [encK_keys, bareTab_keys]; exact D.n1) (by simp [encK, bareTab]; omega)
  rw [List.map_map] at hdict
  have hput1 := tab_put_ok D.n1 (by omega) (fun q hq => ⟨by have := hσd q hq; omega, by have := hswσ q hq; omega⟩) t (by omega) hr1 (k' + 1) (by omega)
  have hput2 := tab_put_ok D.n2 (by omega) (fun q hq => ⟨by have := hτd q hq; omega, by have := hswτ q hq; omega⟩) (pk (dp t) t σ) (by omega) hr2' (k' + 1) (by omega)
  have hput3 := tab_put_ok hbn hbl (fun q hq => ⟨by have := hbd q hq; omega, by have := hbd q hq; omega⟩) t (by omega) hr3 (k' + 1) (by omega)
  have hbr := bare3_ok (pk (dp t) t σ) (k' + 1) (by omega) (by omega) s6
  have hb23 := bare_ok 23 (.inr rfl) t [] (k' + 1) (by simp; omega) (by omega) s6
  simp only [encN, List.map_nil] at hb23
  have hfil := law_filled_ok (bareTab σ) s5.length s6 hm6 (by
    intro q hq
    simp only [bareTab, List.mem_map] at hq
    obtain ⟨u, hu, rfl⟩ := hq
    have := hσd u hu
    show fd (bareW u.2 []) ≤ 10
    rw [fd_bare]; omega) (bareW t []) 0 (k' + 1) (by rw [fd_bare]; omega)
  have hpb := put_bare t σ hr1
  rw [← hpb] at hfil
  have hthen := then_put_ok σ τ (k' + 1) D.ne D.n1 D.n2 D.l1 D.l2 D.d1 D.d2 (by omega) s6
  have halike := are_alike_ok (pk (dp t) t (thenT σ τ)) (pk (dp (pk (dp t) t σ)) (pk (dp t) t σ) τ) (k' + 1) (by
      have := pk_dp 4 (by omega) (dp t) t (thenT σ τ) fun q hq => (hbd q hq).1
      omega) (by
      have := pk_dp 2 (by omega) (dp (pk (dp t) t σ)) (pk (dp t) t σ) τ hτd
      omega) (by omega) (then_alike t σ τ D.n1 D.n2 (fun q hq => by have := hswσ q hq; unfold Room; omega) hr1 hr2' hr3) s6
  have hkeys : (thenT σ τ).map (·.1) = sortS (ddS [] (σ.map (·.1) ++ τ.map (·.1))) := by
    unfold thenT
    rw [keys_sortT]
    refine sortS_same (both_nodup σ τ D.n1 D.n2) (nodup_ddS _ _ (by simp)) fun x => ?_
    rw [mem_ddS, List.map_append, putT_keys, List.mem_append, List.mem_append]
    simp only [List.not_mem_nil, false_or]
    constructor
    · rintro (h | h)
      · exact .inl h
      · rw [List.mem_map] at h
        obtain ⟨q, hq, rfl⟩ := h
        exact .inr (List.mem_map_of_mem (List.mem_filter.1 hq).1)
    · rintro (h | h)
      · exact .inl h
      · by_cases hx : x ∈ σ.map (·.1)
        · exact .inl hx
        · refine .inr ?_
          rw [List.mem_map] at h ⊢
          obtain ⟨q, hq, rfl⟩ := h
          refine ⟨q, ?_, rfl⟩
          unfold resT
          rw [List.mem_filter]
          exact ⟨hq, by rw [decide_eq_false hx]; rfl⟩
  let e10 : Env := [some sc, some (.r 1), some (.p (.int (i : Nat))), a3, a4, a5, some (.p (enc t)), some (.p (encT σ)), some (.p (encT τ)), some (.r s5.length), some (.p (encT (thenT σ τ))), a11, a12, a13, a14, a15, a16, a17, a18]
  have hk1 := keysE (k' + 1) (thenT σ τ) 10 e10 s6 rfl rfl (by omega)
  have hk2 := keysE (k' + 1) σ 7 e10 s6 rfl rfl (by omega)
  have hk3 := keysE (k' + 1) τ 8 e10 s6 rfl rfl (by omega)
  have hadd := bin_ll ((σ.map (·.1)).map fun x => .p (.str x)) ((τ.map (·.1)).map fun x => .p (.str x)) s6 (by simp; omega)
  rw [← List.map_append] at hadd
  have hset := bi_set (σ.map (·.1) ++ τ.map (·.1)) s6 (by simp; omega)
  have hsort := bi_sort (ddS [] (σ.map (·.1) ++ τ.map (·.1))) s6 (by
    have := ddS_len (σ.map (·.1) ++ τ.map (·.1)) []
    simp at this; omega)
  rw [← hkeys] at hsort
  refine ⟨t, σ, τ, s6, s5.length, D, hd6, fun rest => ?_⟩
  refine ss_nx (asgV (callE4 (varE rfl) (litE ..) tup0 (by simp [lim, mkTup, allP]) hc1')) ?_
  refine ss_nx (asgV hσ) ?_
  refine ss_nx (asgV hτ) ?_
  refine ss_nx (asgO (biE1 hlc hdict)) ?_
  refine ss_nx (iffN (orF (cmpE (callE1 (callE2 (varE rfl) (varE rfl) (hput1 s6)) hbr) (callE3 (callE2 (varE rfl) tup0 hb23) (varE rfl) (litE ..) hfil) (by rw [cmp_encFn _ _ s6 (by rw [fd_bare]; omega)]; simp)) (notE (isiE (callE2 (varE rfl) (varE rfl) (hput1 s6)) (typ_enc ..))))) ?_
  refine ss_nx (asgV (callE2 (varE rfl) (varE rfl) hthen)) ?_
  refine ss_nx (iffN (orF (cmpE hk1 (biE1 (biE1 (binE hk2 hk3 hadd) hset) hsort) (cmp_ne_view _ _ _ s6 (view_l PV.str _ s6) (view_l PV.str _ s6) (by simp only [noB]; exact noBs_map _ _ fun _ _ => rfl) (by simp only [PV.dep, deps_str]; omega))) (notE (callE2 (callE2 (varE rfl) (varE rfl) (hput3 s6)) (callE2 (callE2 (varE rfl) (varE rfl) (hput1 s6)) (varE rfl) (hput2 s6)) halike)))) ?_
  rfl
end K36
end
section
set_option maxRecDepth 20000
namespace K36
open Mn Mev
variable {C : Nat → List MV → Sto → Res EV}
theorem ixcall2 {L : MXs} {l : List MV} {n : Int} {r : Nat} {m : MV} {env : Env} {s s0 s1 : Sto} (hL : evE P C (.lst L) env s = .ok (.o (.lst l)) s0) (h1 : env[1]? = some (some (.r 1))) (hc : doCall C 21 [.r 1, .p (.int n)] s0 = .ok (.v (.p (.int (r : Int)))) s1) (hi : l[r]? = some m) : evE P C (.ix (.lst L) (.call 21 (.cons (.var 1) (.cons (.lit (.int n)) .nil)))) env s = .ok (.v m) s1 := by
  rw [E_ix, hL, Mev.bind_ok, callE2 (varE h1) (litE ..) hc, Mev.bind_ok, ix_lit s1 hi]
  rfl
theorem dspE {env : Env} {s : Sto} : evE P C (.dsp [] .nil) env s = .ok (.o (.dic [])) s := by simp
theorem asgH {i : Nat} {x : MX} {v : EV} {m : MV} {env : Env} {s s1 s2 : Sto} (hx : evE P C x env s = .ok v s1) (hh : hold v s1 = (m, s2)) : evS P C (.asg (.nm i) x) env s = .ok .nx (env.set i (some m)) s2 := by
  rw [S_asg, hx, bindE_ok]
  simp only [hh, setT_nm]
theorem bi_tup_r (n : Nat) (N : List (List Nat)) (s : Sto) (hn : s[n]? = some (.lst (N.map fun x => .p (.str x)))) : biF .tuple [.v (.r n)] s = .ok (.v (.p (encN N))) s := by
  have : mkTup (N.map fun x => MV.p (.str x)) = .p (.tup (N.map .str)) := by
    have := mkTup_map (N.map PV.str)
    rwa [List.map_map] at this
  simp only [biF, tupOf, tupSeq, lstOf, objOf, hn, this, encN]
theorem lst3 {a b c : MX} {x y z : PV} {env : Env} {s s1 s2 s3 : Sto} (ha : evE P C a env s = .ok (.v (.p x)) s1) (hb : evE P C b env s1 = .ok (.v (.p y)) s2) (hc : evE P C c env s2 = .ok (.v (.p z)) s3) : evE P C (.lst (.cons a (.cons b (.cons c .nil)))) env s = .ok (.o (.lst [.p x, .p y, .p z])) s3 := by
  rw [E_lst, L_cons, ha, Mev.bind_ok, L_cons, hb, Mev.bind_ok, L_cons, hc, Mev.bind_ok, L_nil, Mev.bind_ok, Mev.bind_ok, Mev.bind_ok, Mev.bind_ok]
  simp [lim]
theorem dr_two {s : Sto} (h : Dr s 0 1) : 2 ≤ s.length := by
  obtain ⟨cells, p, q, sd, h⟩ := h
  have := (List.getElem?_eq_some_iff.1 h.hd).1
  omega
/-- what stands for the law's match -/
def X12 (s : Sto) (x : MV) : Option Kn → Prop
  | none => x = .p .non
  | some K => ∃ m, x = .r m ∧ s[m]? = some (.dic (encK K))
def toldV : Option Kn → PV
  | none => .non
  | some K => encT (toldL K)
theorem partB (k : Nat) (hk : 60 ≤ k) (sc : MV) (i : Nat) (s : Sto) (a3 a4 a5 b10 a11 a12 a13 a14 a15 a16 a17 a18 : Option MV) (t : Tm) (σ τ : Tab) (n9 : Nat) (D : DataA t σ τ) (hd : Dr s 0 1) :
    ∃ p g N s4 nr x12, dp p ≤ 3 ∧ dp g ≤ 5 ∧ sw g ≤ 8 ∧ (N = [[120]] ∨ N = [[120], [121]]) ∧ Dr s4 0 1 ∧ s4[nr]? = some (.lst (N.map fun x => .p (.str x))) ∧ X12 s4 x12 (mtch N (bareW p []) (bareW g []) 0 []) ∧ ∀ rest, evSs P (callM P k) (.cons v8 (.cons v9 (.cons v10 (.cons v11 rest)))) [some sc, some (.r 1), some (.p (.int (i : Nat))), a3, a4, a5, some (.p (enc t)), some (.p (encT σ)), some (.p (encT τ)), some (.r n9), b10, a11, a12, a13, a14, a15, a16, a17, a18] s
      = evSs P (callM P k) rest [some sc, some (.r 1), some (.p (.int (i : Nat))), a3, a4, a5, some (.p (enc t)), some (.p (encT σ)), some (.p (encT τ)), some (.r n9), b10, some (.p (enc g)), some x12, some (.p (toldV (mtch N (bareW p []) (bareW g []) 0 []))), a14, some (.p (enc p)), some (.r nr), a17, a18] s4 := by
  obtain ⟨p, s1, hp, hc1, hd1, _⟩ := law_term_ok 3 [] [[120], [121], [113]] s 0 1 k hd (by decide) (by decide) (by decide) (by omega)
  have hc1' : doCall (callM P k) 22 [.r 1, .p (.int 3), .p (.tup []), .p (.tup [.str [120], .str [121], .str [113]])] s = .ok (.v (.p (enc p))) s1 := by rw [doCall_ref rfl]; exact hc1
  obtain ⟨k', rfl⟩ := ge1 (n := 59) (k := k) hk
  obtain ⟨r, s2, hr, htk0, hd2, _⟩ := take_ok (P := P) (f := 21) rfl hd1 2 k' (by decide) (by decide)
  have htk : doCall (callM P (k' + 1)) 21 [.r 1, .p (.int 2)] s1 = .ok (.v (.p (.int (r : Int)))) s2 := by rw [doCall_ref rfl]; exact htk0
  obtain ⟨N, hN, hsl⟩ : ∃ N : List (List Nat), (N = [[120]] ∨ N = [[120], [121]]) ∧ slice (.o (.lst [.p (.str [120]), .p (.str [121])])) none (some (1 + (r : Int))) s2 = some (.o (.lst (N.map fun x => .p (.str x)))) := by
    match r, hr with
    | 0, _ => exact ⟨_, .inl rfl, rfl⟩
    | 1, _ => exact ⟨_, .inr rfl, rfl⟩
    | n + 2, h => omega
  let s3 : Sto := s2 ++ [.lst (N.map fun x => .p (.str x))]
  have hd3 : Dr s3 0 1 := hd2.app _
  have hnr3 : s3[s2.length]? = some (.lst (N.map fun x => .p (.str x))) := by simp [s3]
  have h2l := dr_two hd2
  -- the goal
  have hswp := sw_le p 3 hp
  have e4 : 2 ^ (3 - 1) = 4 := rfl
  have hswσ : ∀ q, q ∈ σ → sw q.2 ≤ 2 := fun q hq => sw_le q.2 2 (D.d1 q hq)
  have hswτ : ∀ q, q ∈ τ → sw q.2 ≤ 2 := fun q hq => sw_le q.2 2 (D.d2 q hq)
  have htkσ := tkn_le 2 σ hswσ
  have htkτ := tkn_le 2 τ hswτ
  have hl1 := D.l1
  have hl2 := D.l2
  have hrσ : Room σ p := by unfold Room; omega
  have hrτ : Room τ p := by unfold Room; omega
  have hput1 := tab_put_ok D.n1 (by omega) (fun q hq => ⟨by have := D.d1 q hq; omega, by have := hswσ q hq; omega⟩) p (by omega) hrσ (k' + 1) (by omega)
  have hput2 := tab_put_ok D.n2 (by omega) (fun q hq => ⟨by have := D.d2 q hq; omega, by have := hswτ q hq; omega⟩) p (by omega) hrτ (k' + 1) (by omega)
  obtain ⟨u, s4, hu, hc2, hd4, hk4⟩ := law_term_ok 4 [] [[120], [121]] s3 0 1 (k' + 1) hd3 (by decide) (by decide) (by decide) (by omega)
  have hc2' : doCall (callM P (k' + 1)) 22 [.r 1, .p (.int 4), .p (.tup []), .p (.tup [.str [120], .str [121]])] s3 = .ok (.v (.p (enc u))) s4 := by rw [doCall_ref rfl]; exact hc2
  obtain ⟨r3, s5, hr3, htk30, hd5, hk5⟩ := take_ok (P := P) (f := 21) rfl hd4 3 k' (by decide) (by decide)
  have htk3 : doCall (callM P (k' + 1)) 21 [.r 1, .p (.int 3)] s4 = .ok (.v (.p (.int (r3 : Int)))) s5 := by rw [doCall_ref rfl]; exact htk30
  obtain ⟨g, hgd, hgs, hgi⟩ : ∃ g, dp g ≤ 5 ∧ sw g ≤ 8 ∧ ([MV.p (enc (pk (dp p) p σ)), .p (enc u), .p (enc (pk (dp p) p τ))])[r3]? = some (.p (enc g)) := by
    match r3, hr3 with
    | 0, _ =>
      refine ⟨_, ?_, ?_, rfl⟩
      · have := pk_dp 2 (by omega) (dp p) p σ D.d1; omega
      · have := pk_sw 2 (by omega) (dp p) p σ hswσ; omega
    | 1, _ =>
      refine ⟨_, ?_, ?_, rfl⟩
      · omega
      · exact sw_le u 4 hu
    | 2, _ =>
      refine ⟨_, ?_, ?_, rfl⟩
      · have := pk_dp 2 (by omega) (dp p) p τ D.d2; omega
      · have := pk_sw 2 (by omega) (dp p) p τ hswτ; omega
    | n + 3, h => omega
  have hnr5 : s5[s2.length]? = some (.lst (N.map fun x => .p (.str x))) := by
    rw [hk5.ne _ (by omega), hk4.ne _ (by omega)]; exact hnr3
  let s6 : Sto := s5 ++ [.dic []]
  have hnr6 : s6[s2.length]? = some (.lst (N.map fun x => .p (.str x))) := by
    simp only [s6]; rw [List.getElem?_append_left (List.getElem?_eq_some_iff.1 hnr5).1]; exact hnr5
  have hm6 : s6[s5.length]? = some (.dic (encK [])) := by simp [s6]; rfl
  have hbp := bare_ok 23 (.inr rfl) p [] (k' + 1) (by simp; omega) (by omega) s5
  have hbg := bare_ok 23 (.inr rfl) g [] (k' + 1) (by simp; omega) (by omega) s5
  simp only [encN, List.map_nil] at hbp hbg
  have hmt := law_match_ok N s2.length (bareW p []) (bareW g []) 0 [] (k' + 1) s5.length s6 (by rw [fd_bare]; omega) (by rw [fd_bare]; omega) (by rw [fd_bare, fd_bare]; omega) (by rw [sw_bare]; simp; omega) (by simp) hnr6 hm6
  have htold := told_ok N p g (k' + 1) (by omega) hgd (by rw [sw_bare]; omega) (by omega)
  let e10 : Env := [some sc, some (.r 1), some (.p (.int (i : Nat))), a3, a4, a5, some (.p (enc t)), some (.p (encT σ)), some (.p (encT τ)), some (.r n9), b10, some (.p (enc g)), a12, a13, a14, some (.p (enc p)), some (.r s2.length), a17, a18]
  have hcall : ∀ r, doCall (callM P (k' + 1)) 30 [.p (encF (bareW p [])), .p (encF (bareW g [])), .r s2.length, .p (.int 0), .r s5.length] s6 = r → evE P (callM P (k' + 1)) (.call 30 (.cons (.call 23 (.cons (.var 15) (.cons (.tup .nil) .nil))) (.cons (.call 23 (.cons (.var 11) (.cons (.tup .nil) .nil))) (.cons (.var 16) (.cons (.lit (.int 0)) (.cons (.dsp [] .nil) .nil)))))) e10 s5 = r := by
    intro r hr
    rw [E_call, L_cons, callE2 (varE rfl) tup0 hbp, Mev.bind_ok, L_cons, callE2 (varE rfl) tup0 hbg, Mev.bind_ok, L_cons, varE rfl, Mev.bind_ok, L_cons, litE, Mev.bind_ok, L_cons, dspE, Mev.bind_ok, L_nil, Mev.bind_ok, Mev.bind_ok, Mev.bind_ok, Mev.bind_ok, Mev.bind_ok, Mev.bind_ok]
    exact hr
  have hv8 : evS P (callM P (k' + 1)) v8 [some sc, some (.r 1), some (.p (.int (i : Nat))), a3, a4, a5, some (.p (enc t)), some (.p (encT σ)), some (.p (encT τ)), some (.r n9), b10, a11, a12, a13, a14, a15, a16, a17, a18] s = .ok .nx [some sc, some (.r 1), some (.p (.int (i : Nat))), a3, a4, a5, some (.p (enc t)), some (.p (encT σ)), some (.p (encT τ)), some (.r n9), b10, a11, a12, a13, a14, some (.p (enc p)), some (.r s2.length), a17, a18] s3 := by
    have h1 : evE P (callM P (k' + 1)) (.call 22 (.cons (.var 1) (.cons (.lit (.int 3)) (.cons (.tup .nil) (.cons (.tup (.cons (.lit (.str [120])) (.cons (.lit (.str [121])) (.cons (.lit (.str [113])) .nil)))) .nil))))) [some sc, some (.r 1), some (.p (.int (i : Nat))), a3, a4, a5, some (.p (enc t)), some (.p (encT σ)), some (.p (encT τ)), some (.r n9), b10, a11, a12, a13, a14, a15, a16, a17, a18] s = .ok (.v (.p (enc p))) s1 := callE4 (varE rfl) (litE ..) tup0 (by simp [lim, mkTup, allP]) hc1'
    have h2 : evE P (callM P (k' + 1)) (.bin .add (.lit (.int 1)) (.call 21 (.cons (.var 1) (.cons (.lit (.int 2)) .nil)))) [some sc, some (.r 1), some (.p (.int (i : Nat))), a3, a4, a5, some (.p (enc t)), some (.p (encT σ)), some (.p (encT τ)), some (.r n9), b10, a11, a12, a13, a14, a15, a16, a17, a18] s1 = .ok (.v (.p (.int (1 + (r : Int))))) s2 := by
      rw [E_bin, litE, Mev.bind_ok, callE2 (varE rfl) (litE ..) htk, Mev.bind_ok]; rfl
    have h3 : evE P (callM P (k' + 1)) (.slt (.lst (.cons (.lit (.str [120])) (.cons (.lit (.str [121])) .nil))) (.bin .add (.lit (.int 1)) (.call 21 (.cons (.var 1) (.cons (.lit (.int 2)) .nil))))) [some sc, some (.r 1), some (.p (.int (i : Nat))), a3, a4, a5, some (.p (enc t)), some (.p (encT σ)), some (.p (encT τ)), some (.r n9), b10, a11, a12, a13, a14, a15, a16, a17, a18] s1 = .ok (.o (.lst (N.map fun x => .p (.str x)))) s2 := by
      have hl : evE P (callM P (k' + 1)) (.lst (.cons (.lit (.str [120])) (.cons (.lit (.str [121])) .nil))) [some sc, some (.r 1), some (.p (.int (i : Nat))), a3, a4, a5, some (.p (enc t)), some (.p (encT σ)), some (.p (encT τ)), some (.r n9), b10, a11, a12, a13, a14, a15, a16, a17, a18] s1 = .ok (.o (.lst [.p (.str [120]), .p (.str [121])])) s1 := by simp [lim]
      rw [E_slt, hl, Mev.bind_ok, h2, Mev.bind_ok]
      simp only [hsl, optR_some]
    unfold v8
    rw [S_asg, E_tup, L_cons, h1, Mev.bind_ok, L_cons, h3, Mev.bind_ok, L_nil, Mev.bind_ok, Mev.bind_ok, Mev.bind_ok]
    simp [lim, mkTup, allP, s3]
  have hlst : evE P (callM P (k' + 1)) (.lst (.cons (.call 14 (.cons (.var 15) (.cons (.var 7) .nil))) (.cons (.call 22 (.cons (.var 1) (.cons (.lit (.int 4)) (.cons (.tup .nil) (.cons (.tup (.cons (.lit (.str [120])) (.cons (.lit (.str [121])) .nil))) .nil))))) (.cons (.call 14 (.cons (.var 15) (.cons (.var 8) .nil))) .nil)))) [some sc, some (.r 1), some (.p (.int (i : Nat))), a3, a4, a5, some (.p (enc t)), some (.p (encT σ)), some (.p (encT τ)), some (.r n9), b10, a11, a12, a13, a14, some (.p (enc p)), some (.r s2.length), a17, a18] s3 = .ok (.o (.lst [.p (enc (pk (dp p) p σ)), .p (enc u), .p (enc (pk (dp p) p τ))])) s4 :=
    lst3 (callE2 (varE rfl) (varE rfl) (hput1 s3)) (callE4 (varE rfl) (litE ..) tup0 (by simp [lim, mkTup, allP]) hc2') (callE2 (varE rfl) (varE rfl) (hput2 s4))
  have hv9 : evS P (callM P (k' + 1)) v9 [some sc, some (.r 1), some (.p (.int (i : Nat))), a3, a4, a5, some (.p (enc t)), some (.p (encT σ)), some (.p (encT τ)), some (.r n9), b10, a11, a12, a13, a14, some (.p (enc p)), some (.r s2.length), a17, a18] s3 = .ok .nx e10 s5 := asgV (ixcall2 hlst rfl htk3 hgi)
  cases ho : mtch N (bareW p []) (bareW g []) 0 [] with
  | none =>
    rw [ho] at hmt htold
    obtain ⟨x, hx⟩ := hmt
    have hnrE : (s6 ++ x)[s2.length]? = some (.lst (N.map fun x => .p (.str x))) := by
      rw [List.getElem?_append_left (List.getElem?_eq_some_iff.1 hnr6).1]; exact hnr6
    refine ⟨p, g, N, s6 ++ x, s2.length, .p .non, hp, hgd, hgs, hN, (hd5.app _).app _, hnrE, by rw [ho]; rfl, fun rest => ?_⟩
    rw [ho]
    refine ss_nx hv8 (ss_nx hv9 (ss_nx (asgV (hcall _ hx)) (ss_nx (asgV (callE3 (varE rfl) (varE rfl) (biE1 (varE rfl) (bi_tup_r _ _ _ hnrE)) (htold _))) ?_)))
    rfl
  | some K =>
    rw [ho] at hmt htold
    obtain ⟨v, s', x, m, hx, hh, hm⟩ := hmt
    have hnrE : (s6 ++ x)[s2.length]? = some (.lst (N.map fun x => .p (.str x))) := by
      rw [List.getElem?_append_left (List.getElem?_eq_some_iff.1 hnr6).1]; exact hnr6
    refine ⟨p, g, N, s6 ++ x, s2.length, .r m, hp, hgd, hgs, hN, (hd5.app _).app _, hnrE, by rw [ho]; exact ⟨m, rfl, hm⟩, fun rest => ?_⟩
    rw [ho]
    refine ss_nx hv8 (ss_nx hv9 (ss_nx (asgH (hcall _ hx) hh) (ss_nx (asgV (callE3 (varE rfl) (varE rfl) (biE1 (varE rfl) (bi_tup_r _ _ _ hnrE)) (htold _))) ?_)))
    rfl
end K36
end
section
set_option maxRecDepth 20000
namespace K36
open Mn Mev
variable {C : Nat → List MV → Sto → Res EV}
theorem isn_t (s : Sto) : cmpop .isn (.v (.p .non)) (.v (.p .non)) s = some true := rfl
theorem notn_t (s : Sto) : cmpop .notn (.v (.p .non)) (.v (.p .non)) s = some false := rfl
theorem isn_r (m : Nat) (s : Sto) : cmpop .isn (.v (.r m)) (.v (.p .non)) s = some false := rfl
theorem isn_T (σ : Tab) (s : Sto) : cmpop .isn (.v (.p (encT σ))) (.v (.p .non)) s = some false := rfl
theorem notn_T (σ : Tab) (s : Sto) : cmpop .notn (.v (.p (encT σ))) (.v (.p .non)) s = some true := rfl
theorem partC (k : Nat) (hk : 60 ≤ k) (sc : MV) (i : Nat) (s : Sto) (a3 a4 a5 a6 a7 a8 a9 a10 a14 a17 a18 : Option MV) (p g : Tm) (N : List (List Nat)) (nr : Nat) (x12 : MV) (hp : dp p ≤ 3) (hgd : dp g ≤ 5) (hgs : sw g ≤ 8) (hN : N = [[120]] ∨ N = [[120], [121]]) (hd : Dr s 0 1) (hnr : s[nr]? = some (.lst (N.map fun x => .p (.str x)))) (hx : X12 s x12 (mtch N (bareW p []) (bareW g []) 0 [])) :
    ∃ b14 s2, evSs P (callM P k) (.cons v12 (.cons v13 (.cons v14 (.cons v15 (.cons v16 .nil))))) [some sc, some (.r 1), some (.p (.int (i : Nat))), a3, a4, a5, a6, a7, a8, a9, a10, some (.p (enc g)), some x12, some (.p (toldV (mtch N (bareW p []) (bareW g []) 0 []))), a14, some (.p (enc p)), some (.r nr), a17, a18] s
      = .ok .nx [some sc, some (.r 1), some (.p (.int (i : Nat))), a3, a4, a5, a6, a7, a8, a9, a10, some (.p (enc g)), some x12, some (.p (toldV (mtch N (bareW p []) (bareW g []) 0 []))), b14, some (.p (enc p)), some (.r nr), a17, a18] s2 ∧ Dr s2 0 1 := by
  cases ho : mtch N (bareW p []) (bareW g []) 0 [] with
  | none =>
    rw [ho] at hx
    have hx : x12 = .p .non := hx
    subst hx
    refine ⟨some (.p .non), s, ?_, hd⟩
    have hnn : ∀ (a14 : Option MV), evE P (callM P k) (.cmp .notn (.var 13) (.lit .non)) [some sc, some (.r 1), some (.p (.int (i : Nat))), a3, a4, a5, a6, a7, a8, a9, a10, some (.p (enc g)), some (.p .non), some (.p (toldV none)), a14, some (.p (enc p)), some (.r nr), a17, a18] s = .ok (.v (.p (.bl false))) s := fun a14 => cmpE (varE rfl) (litE ..) (notn_t s)
    refine ss_nx (asgV (iteT (cmpE (varE rfl) (litE ..) (isn_t s)) (litE ..))) ?_
    refine ss_nx (iffN (cmpE (cmpE (varE rfl) (litE ..) (isn_t s)) (cmpE (varE rfl) (litE ..) (isn_t s)) (by rw [cmp_ne_bb]; rfl))) ?_
    refine ss_nx (iffN (andF (hnn _))) ?_
    refine ss_nx (iffN (andF (hnn _))) ?_
    refine ss_nx (iffN (andF (hnn _))) ?_
    exact Ss_nil ..
  | some K =>
    rw [ho] at hx
    obtain ⟨m, hx, hm⟩ := hx
    subst hx
    have T := told_of N p g K hgd hgs ho
    have hNd : N.Nodup := by rcases hN with rfl | rfl <;> decide
    have hNl : N.length ≤ 2 := by rcases hN with rfl | rfl <;> decide
    have hKl : K.length ≤ 2 := by
      have h1 := T.nd.length_le_of_subset (l₂ := N) fun x hx => ((T.keys x).1 hx).1
      rw [List.length_map] at h1; omega
    have hfd : ∀ x, x ∈ K.map (·.1) → fd (kget K x) ≤ 5 := fun x hx => (T.good x hx).1.2.2
    have hnamed : ∀ x, x ∈ K.map (·.1) → bareW (named (kget K x)) [] = kget K x := fun x hx => named_bare _ (by have := (T.good x hx).1; unfold Good at this; omega) (T.good x hx).1.1
    have hndp : ∀ x, x ∈ K.map (·.1) → dp (named (kget K x)) ≤ 5 ∧ sw (named (kget K x)) ≤ 8 := by
      intro x hx
      have h1 := hnamed x hx
      have h2 := (T.good x hx).1
      unfold Good at h2
      rw [← fd_bare (named (kget K x)) [], ← sw_bare (named (kget K x)) [], h1]
      omega
    have hsl : (sortS (K.map (·.1))).length = K.length := by rw [sortS_len, List.length_map]
    let S2 : Sto := s ++ [.lst ((sortS (K.map (·.1))).map fun x => .p (.tup [.str x, encF (kget K x)]))]
    have hS2 : S2[s.length]? = some (.lst ((sortS (K.map (·.1))).map fun x => .p (.tup [.str x, encF (kget K x)]))) := by simp [S2]
    have hnr2 : S2[nr]? = some (.lst (N.map fun x => .p (.str x))) := by
      simp only [S2]; rw [List.getElem?_append_left (List.getElem?_eq_some_iff.1 hnr).1]; exact hnr
    let e0 : Env := [some sc, some (.r 1), some (.p (.int (i : Nat))), a3, a4, a5, a6, a7, a8, a9, a10, some (.p (enc g)), some (.r m), some (.p (encT (toldL K))), a14, some (.p (enc p)), some (.r nr), a17, a18]
    let e1 : Env := [some sc, some (.r 1), some (.p (.int (i : Nat))), a3, a4, a5, a6, a7, a8, a9, a10, some (.p (enc g)), some (.r m), some (.p (encT (toldL K))), some (.r s.length), some (.p (enc p)), some (.r nr), a17, a18]
    have hsort := bi_sorted_r m K s hm (by omega)
    -- due
    have hdue := ev_lcm (P := P) (C := callM P k) (elt := .tup (.cons (.var 17) (.cons (.dix (.var 12) (.var 17)) .nil))) (tg := .nm 17) (it := .ex (.bi .sorted (.cons (.var 12) .nil))) (cs := .nil) (own := [17])
      (env := e0) (s := s) (fun x => MV.p (.str x)) (fun x => MV.p (.tup [.str x, encF (kget K x)])) (sortS (K.map (·.1)))
      (.snap ((sortS (K.map (·.1))).map fun z => .p (.str z))) (by simp [evI, e0, hsort, sqOf, sqL]) rfl (by rw [hsl]; omega) (by
        intro y hy
        rw [mem_sortS] at hy
        have hg := (T.good y hy).2
        have hd := dget_encK y K
        rw [hg] at hd
        simp [turnE, wipeE, e0, dicOf, objOf, hm, kstr, hd, lim])
    -- the told ones, bare
    have htl : (toldL K).length ≤ 2 := by simp only [toldL, List.length_map, hsl]; exact hKl
    have hmem : ∀ q, q ∈ toldL K → ∃ x, x ∈ K.map (·.1) ∧ q = (x, named (kget K x)) := by
      intro q hq
      simp only [toldL, List.mem_map] at hq
      obtain ⟨x, hx, rfl⟩ := hq
      have := (mem_sortS _ _).1 hx
      exact ⟨x, this, rfl⟩
    have hb3 : ∀ q, q ∈ toldL K → ∀ s, doCall (callM P k) 3 [.p (enc q.2)] s = .ok (.v (.p (encF (bareW q.2 [])))) s := by
      intro q hq s
      obtain ⟨x, hx, rfl⟩ := hmem q hq
      have := hndp x hx
      exact bare3_ok _ k (by show dp (named (kget K x)) < 900; omega) (by show dp (named (kget K x)) + 1 ≤ k; omega) s
    have hbl := ev_lcm (P := P) (C := callM P k) (elt := .tup (.cons (.var 17) (.cons (.call 3 (.cons (.var 18) .nil)) .nil))) (tg := .tp [17, 18]) (it := .ex (.var 13)) (cs := .nil) (own := [17, 18]) (env := e1) (s := S2) (fun q => MV.p (encPair q)) (fun q => MV.p (.tup [.str q.1, encF (bareW q.2 [])])) (toldL K)
      (.snap ((toldL K).map fun q => .p (encPair q))) (tabI (toldL K) k 13 e1 S2 rfl) rfl (by omega) (by
        intro q hq
        have h1 := hb3 q hq S2
        simp [turnE, wipeE, e1, encPair, h1, lim])
    have hsame : (toldL K).map (fun q => MV.p (.tup [.str q.1, encF (bareW q.2 [])])) = (sortS (K.map (·.1))).map fun x => MV.p (.tup [.str x, encF (kget K x)]) := by
      simp only [toldL, List.map_map]
      refine List.map_congr_left fun x hx => ?_
      have h1 := hnamed x ((mem_sortS _ _).1 hx)
      simp only [Function.comp, h1]
    rw [hsame] at hbl
    -- keys
    have hkt := keysE k (toldL K) 13 e1 S2 rfl rfl (by omega)
    rw [toldL_keys] at hkt
    have hNs : biF .sorted [.v (.r nr)] S2 = .ok (.o (.lst ((sortS N).map fun z => .p (.str z)))) S2 := by
      simp only [biF, objOf, hnr2, allStr_map]
      exact if_pos (by omega)
    have hswp := sw_le p 3 hp
    have e4 : 2 ^ (3 - 1) = 4 := rfl
    have hfn := free_names_ok p k (by omega) (by omega) (by have := freeIn_len p []; omega) S2
    simp only [encN] at hfn
    have hfl := ev_lcf (P := P) (C := callM P k) (elt := .var 17) (tg := .nm 17) (it := .ex (.bi .sorted (.cons (.var 16) .nil))) (cs := .cons (.cmp .inn (.var 17) (.call 1 (.cons (.var 15) .nil))) .nil) (own := [17]) (env := e1) (s := S2) (fun x => MV.p (.str x)) (fun x => decide (x ∈ freeN p)) (fun x => MV.p (.str x)) (sortS N)
      (.snap ((sortS N).map fun z => .p (.str z))) (by simp [evI, e1, hNs, sqOf, sqL]) rfl (by rw [sortS_len]; omega) (by
        intro x hx
        by_cases hq : x ∈ freeN p <;> simp [turnE, wipeE, e1, hfn, hq])
    have hkeq : (sortS N).filter (fun x => decide (x ∈ freeN p)) = sortS (K.map (·.1)) := by
      refine sortS_uniq ?_ ((sortS_sorted N).sublist List.filter_sublist)
      refine (List.perm_ext_iff_of_nodup ((nodup_sortS N hNd).sublist List.filter_sublist) T.nd).2 fun x => ?_
      rw [List.mem_filter, mem_sortS, T.keys, decide_eq_true_eq, mem_freeN]
    rw [hkeq] at hfl
    -- named again
    have hnm : ∀ q, q ∈ toldL K → ∀ s, evE P (callM P k) (.call 9 (.cons (.call 3 (.cons (.var 18) .nil)) .nil)) ((e1.set 17 (some (.p (.str q.1)))).set 18 (some (.p (enc q.2)))) s = .ok (.v (.p (enc q.2))) s := by
      intro q hq s
      have h1 := hb3 q hq s
      obtain ⟨x, hx, rfl⟩ := hmem q hq
      have h2 := hnamed x hx
      have h3 := (T.good x hx).1
      unfold Good at h3
      have h4 := named_ok (kget K x) k (by omega) h3.1 (by omega) s
      simp only [h2] at h1
      exact callE1 (callE1 (varE rfl) h1) h4
    have hno := ev_lcf (P := P) (C := callM P k) (elt := .var 18) (tg := .tp [17, 18]) (it := .ex (.var 13)) (cs := .cons (.cmp .ne (.var 18) (.call 9 (.cons (.call 3 (.cons (.var 18) .nil)) .nil))) .nil) (own := [17, 18]) (env := e1) (s := S2) (fun q => MV.p (encPair q)) (fun _ => false) (fun q => MV.p (enc q.2)) (toldL K)
      (.snap ((toldL K).map fun q => .p (encPair q))) (tabI (toldL K) k 13 e1 S2 rfl) rfl (by omega) (by
        intro q hq
        have h1 := hnm q hq S2
        obtain ⟨x, hx, hqe⟩ := hmem q hq
        have hdq : dp q.2 ≤ 5 := by rw [hqe]; exact (hndp x hx).1
        have hne := ne_same (enc q.2) S2 (enc_noB _) (by have := enc_dep q.2; omega)
        have hc : evE P (callM P k) (.cmp .ne (.var 18) (.call 9 (.cons (.call 3 (.cons (.var 18) .nil)) .nil))) ((e1.set 17 (some (.p (.str q.1)))).set 18 (some (.p (enc q.2)))) S2 = .ok (.v (.p (.bl false))) S2 := cmpE (varE rfl) h1 hne
        have hs : setT (.tp [17, 18]) (.p (encPair q)) (wipeE e1 [17, 18]) = some ((e1.set 17 (some (.p (.str q.1)))).set 18 (some (.p (enc q.2)))) := rfl
        simp only [turnE, hs, C_one]
        rw [hc]
        simp)
    have hcn := cmp_ne_nil2 (fun q : List Nat × Tm => enc q.2) ((toldL K).filter fun _ => false) S2
    have hemp : (toldL K).filter (fun _ => false) = [] := by simp
    rw [hemp] at hcn hno
    -- put back
    have htk := tkn_le 8 (toldL K) (by
      intro q hq
      obtain ⟨x, hx, rfl⟩ := hmem q hq
      exact (hndp x hx).2)
    have hroom : Room (toldL K) p := by unfold Room; omega
    have hput := tab_put_ok (σ := toldL K) (by rw [toldL_keys]; exact nodup_sortS _ T.nd) (by omega) (by
      intro q hq
      obtain ⟨x, hx, rfl⟩ := hmem q hq
      exact hndp x hx) p (by omega) hroom k (by omega)
    have hal := are_alike_ok (pk (dp p) p (toldL K)) g k (by
      have := pk_dp 5 (by omega) (dp p) p (toldL K) fun q hq => by
        obtain ⟨x, hx, rfl⟩ := hmem q hq
        exact (hndp x hx).1
      omega) (by omega) (by omega) (by rw [put_bare p _ hroom]; exact told_bareTab T) S2
    have hvd : view (.o (.lst ((sortS (K.map (·.1))).map fun x => MV.p (.tup [.str x, encF (kget K x)])))) S2 = some (.lst ((sortS (K.map (·.1))).map fun x => .tup [.str x, encF (kget K x)])) := view_l (fun x => .tup [.str x, encF (kget K x)]) _ S2
    have hvr : view (.v (.r s.length)) S2 = some (.lst ((sortS (K.map (·.1))).map fun x => .tup [.str x, encF (kget K x)])) := view_rl (fun x => .tup [.str x, encF (kget K x)]) _ _ S2 hS2
    have hnt : evE P (callM P k) (.cmp .notn (.var 13) (.lit .non)) e1 S2 = .ok (.v (.p (.bl true))) S2 := cmpE (varE rfl) (litE ..) (notn_T _ S2)
    refine ⟨some (.r s.length), S2, ?_, hd.app _⟩
    refine ss_nx (e1 := e1) (s1 := S2) (asgO (iteF (cmpE (varE rfl) (litE ..) (isn_r m s)) hdue)) ?_
    refine ss_nx (iffN (cmpE (cmpE (varE rfl) (litE ..) (isn_T _ S2)) (cmpE (varE rfl) (litE ..) (isn_r _ S2)) (by rw [cmp_ne_bb]; rfl))) ?_
    refine ss_nx (iffN (andT hnt (orF (cmpE hbl (varE rfl) (cmp_ne_view _ _ _ S2 hvd hvr (by
        simp only [noB]; exact noBs_map _ _ fun x _ => by simp [noB, noBs, encF_noB]) (by
        have := deps_map (fun x => PV.tup [.str x, encF (kget K x)]) (sortS (K.map (·.1))) 10 (by
          intro x hx
          have h1 := encF_dep (kget K x)
          have h2 := hfd x ((mem_sortS _ _).1 hx)
          simp [PV.dep, PV.deps]; omega)
        simp only [PV.dep]; omega))) (cmpE hkt hfl (cmp_ne_view _ _ _ S2 (view_l PV.str _ S2) (view_l PV.str _ S2) (by simp only [noB]; exact noBs_map _ _ fun _ _ => rfl) (by simp only [PV.dep, deps_str]; omega)))))) ?_
    refine ss_nx (iffN (andT hnt (cmpE hno (v := .o (.lst [])) (s2 := S2) (by simp [lim]) hcn))) ?_
    refine ss_nx (iffN (andT hnt (notE (callE2 (callE2 (varE rfl) (varE rfl) (hput S2)) (varE rfl) hal)))) ?_
    exact Ss_nil ..
end K36
end
section
set_option maxRecDepth 20000
namespace K36
open Mn Mev
theorem turn2 (k : Nat) (hk : 60 ≤ k) (sc : MV) (i : Nat) (s : Sto) (a3 a4 a5 a6 a7 a8 a9 a10 a11 a12 a13 a14 a15 a16 a17 a18 : Option MV) (hd : Dr s 0 1) : ∃ e2 s2, evSs P (callM P k) lb2 [some sc, some (.r 1), some (.p (.int (i : Nat))), a3, a4, a5, a6, a7, a8, a9, a10, a11, a12, a13, a14, a15, a16, a17, a18] s = .ok .nx e2 s2 ∧ (∃ b2 b3 b4 b5 b6 b7 b8 b9 b10 b11 b12 b13 b14 b15 b16 b17 b18, e2 = [some sc, some (.r 1), b2, b3, b4, b5, b6, b7, b8, b9, b10, b11, b12, b13, b14, b15, b16, b17, b18]) ∧ Dr s2 0 1 := by
  obtain ⟨t, σ, τ, s4, n9, D, hd4, hA⟩ := partA k hk sc i s a3 a4 a5 a6 a7 a8 a9 a10 a11 a12 a13 a14 a15 a16 a17 a18 hd
  obtain ⟨p, g, N, s5, nr, x12, hp, hg, hgs, hN, hd5, hnr, hx, hB⟩ := partB k hk sc i s4 a3 a4 a5 (some (.p (encT (thenT σ τ)))) a11 a12 a13 a14 a15 a16 a17 a18 t σ τ n9 D hd4
  obtain ⟨b14, s6, hC, hd6⟩ := partC k hk sc i s5 a3 a4 a5 (some (.p (enc t))) (some (.p (encT σ))) (some (.p (encT τ))) (some (.r n9)) (some (.p (encT (thenT σ τ)))) a14 a17 a18 p g N nr x12 hp hg hgs hN hd5 hnr hx
  exact ⟨_, s6, (hA _).trans ((hB _).trans hC), ⟨_, _, _, _, _, _, _, _, _, _, _, _, _, _, _, _, _, rfl⟩, hd6⟩
theorem math (ns : List Int) (h : ns.length ≤ 63) : Says P 115 lawF ns := by
  obtain ⟨cells, sd, hdr, hd⟩ := draw_ok (P := P) (f := 20) rfl ns h 113
  let sc : MV := .w (ns.map fun i => .p (.int i))
  let s0 : Sto := [.lst cells, .lst [.r 0, .p (.int (-1)), .p (.int 0), .p (.int sd)]]
  have h1 : doCall (callM P 114) 20 [sc] [] = .ok (.o (.lst [.r 0, .p (.int (-1)), .p (.int 0), .p (.int sd)])) [.lst cells] := by rw [doCall_ref rfl]; exact hdr
  let I : Nat → Env → Sto → Prop := fun _ e s => (∃ a2 a3 a4 a5 a6 a7 a8 a9 a10 a11 a12 a13 a14 a15 a16 a17 a18, e = [some sc, some (.r 1), a2, a3, a4, a5, a6, a7, a8, a9, a10, a11, a12, a13, a14, a15, a16, a17, a18]) ∧ Dr s 0 1
  obtain ⟨e2, s2, hf, ⟨a2, a3, a4, a5, a6, a7, a8, a9, a10, a11, a12, a13, a14, a15, a16, a17, a18, rfl⟩, hd2⟩ := ev_for_rg (P := P) (C := callM P 114) (tg := .nm 2) (it := .rng (.cons (.lit (.int 3)) .nil)) (b := lb1)
    (env := [some sc, some (.r 1), none, none, none, none, none, none, none, none, none, none, none, none, none, none, none, none, none]) (s := s0) (s1 := s0) 3 I (by simp [evI, rngOf]) ⟨⟨_, _, _, _, _, _, _, _, _, _, _, _, _, _, _, _, _, rfl⟩, hd⟩ (by decide) (by
      rintro i hi e s ⟨⟨a2, a3, a4, a5, a6, a7, a8, a9, a10, a11, a12, a13, a14, a15, a16, a17, a18, rfl⟩, hds⟩
      obtain ⟨e2, s2, hb, he, hd2⟩ := turn1 114 (by decide) sc i s a3 a4 a5 a6 a7 a8 a9 a10 a11 a12 a13 a14 a15 a16 a17 a18 hds
      exact ⟨_, e2, s2, rfl, hb, he, hd2⟩)
  obtain ⟨e3, s3, hf2, ⟨b2, b3, b4, b5, b6, b7, b8, b9, b10, b11, b12, b13, b14, b15, b16, b17, b18, rfl⟩, hd3⟩ := ev_for_rg (P := P) (C := callM P 114) (tg := .nm 2) (it := .rng (.cons (.lit (.int 2)) .nil)) (b := lb2)
    (env := [some sc, some (.r 1), a2, a3, a4, a5, a6, a7, a8, a9, a10, a11, a12, a13, a14, a15, a16, a17, a18]) (s := s2) (s1 := s2) 2 I (by simp [evI, rngOf]) ⟨⟨_, _, _, _, _, _, _, _, _, _, _, _, _, _, _, _, _, rfl⟩, hd2⟩ (by decide) (by
      rintro i hi e s ⟨⟨a2, a3, a4, a5, a6, a7, a8, a9, a10, a11, a12, a13, a14, a15, a16, a17, a18, rfl⟩, hds⟩
      obtain ⟨e2, s2, hb, he, hd2⟩ := turn2 114 (by decide) sc i s a3 a4 a5 a6 a7 a8 a9 a10 a11 a12 a13 a14 a15 a16 a17 a18 hds
      exact ⟨_, e2, s2, rfl, hb, he, hd2⟩)
  refine ⟨s3, runs (d := ⟨19, 1, b32⟩) (e := [some sc, some (.r 1), b2, b3, b4, b5, b6, b7, b8, b9, b10, b11, b12, b13, b14, b15, b16, b17, b18]) rfl rfl ?_⟩
  show evSs P (callM P 114) b32 _ _ = _
  rw [b32_eq]
  refine ss_nx (e1 := [some sc, some (.r 1), none, none, none, none, none, none, none, none, none, none, none, none, none, none, none, none, none]) (s1 := s0) (by simp [sc] at h1; simp [h1, s0, sc]) ?_
  refine ss_nx hf ?_
  refine ss_nx (w3_ok 114 (by decide) _ rfl s2) ?_
  refine ss_nx hf2 ?_
  simp
end K36
end
set_option maxRecDepth 100000
set_option maxHeartbeats 0
namespace K36
open PySem PySem.Spec PyProof.Rows L2 Mn
theorem facts {prog : Program} {w : PySem.World} {K : PySem.W.Frag} {h : Heap} {mg : Str → Option Value} {f : Addr} (X : K.In h) (G : h.Ns mainGlobals mg) (hfa : mg ("law" : Str) = some (.ref f)) (c : He.SaysD fa fnL K) :
    ∃ fd : FuncData, (∀ (s : Shared) (v : Value), BindsTo s fd ⟨[v], []⟩ [("script", v)]) ∧ ∀ base : Heap, K.In base → base.Ns mainGlobals mg → FnOk prog w K mg base (L2.CX prog w) (2 * 115) f fd ["script"] (spM (g w K) (callM P 115) lawF) := by
  have Wd := world (w := w) X G c
  obtain ⟨fd, F⟩ := funs c lawF i32 rfl
  have e : He.fAd K (atF lawF) = f := by
    have h1 := hfa.symm.trans (Wd.fnm lawF "law" rfl).1
    cases h1; rfl
  refine ⟨fd, fun s v => FunD.bindsA F ag32.bd s [v] rfl, fun base _ _ => law_fn (g := g w K) (f := lawF) (d := i32) Wd rfl F e (by decide) base⟩
end K36
open PySem PySem.W PySem.Calls PyProof.Rows
theorem PySem.Challenge.cw_namesbound_k36_codes_tables_and_patterns_holds : PySem.Challenge.rw_namesbound_k36_codes_tables_and_patterns.Holds := by
  w_on; o_law
  refine HandSHeadRun.head_any (r := OpenLaw.row PySem.Challenge.rw_namesbound_k36_codes_tables_and_patterns) (q := K36.qv) (H := K36.hk) (ob := K36.ob) (M := 4000) (loose := K36.names)
    (d := HandSHeadRun.topDef (OpenLaw.row PySem.Challenge.rw_namesbound_k36_codes_tables_and_patterns).prog 39) (kwd := []) K36.ob_eq
    (by kernel_rfl) (fun s => by kernel_rfl) K36.run (by kernel_rfl) (by kernel_rfl) (by kernel_rfl) (by rfl) (by first | assumption | decide +kernel) (by decide +kernel) ⟨rfl, rfl, rfl, rfl, rfl, by decide +kernel⟩ ?hw ?hc
  case hw => w_witness2
  case hc =>
    refine Mn.walk_w (l := PySem.Challenge.rw_namesbound_k36_codes_tables_and_patterns) (n := 63) (k := 2 * 115) (x := "script") (CX := fun w => L2.CX (PySem.Challenge.rw_namesbound_k36_codes_tables_and_patterns).prog w) rfl (by decide) (by kernel_rfl) ⟨rfl, by decide, by decide⟩ ?F (fun _ _ _ _ _ z => Mn.cx_no z)
    intro w mg fa h Y G hmg0
    obtain ⟨K, KX, c⟩ := Y
    have hmg : mg ("law" : PySem.Str) = some (.ref fa) := by
      have e : (HandSHeadRun.topDef (OpenLaw.row PySem.Challenge.rw_namesbound_k36_codes_tables_and_patterns).prog 39).name = ("law" : PySem.Str) := by kernel_rfl
      rw [← e]
      exact hmg0
    obtain ⟨fd, hb, hF⟩ := K36.facts (prog := (PySem.Challenge.rw_namesbound_k36_codes_tables_and_patterns).prog) (w := w) KX G hmg c
    exact ⟨K, fd, Mn.spM (K36.g w K) (Mn.callM K36.P 115) K36.lawF, KX, hb, fun H a ns hl hO hS => Mn.sp_law hO hS (K36.math ns hl), hF⟩
