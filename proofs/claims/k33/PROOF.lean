import PyProof.Rows.All
import Wide.All
import OpenK.AllK
import Wide.FinOn
import HandS.ForMost
import HandS.TupSets
import HandS.SortOrd
import HandS.SortRule
import HandS.Sort
import HandS.Strs
import HandS.Zip
import PyProof.EnumMake
import KE.GoesEnum
import HandS.Iter
import PyProof.SumWalk
import PyProof.SumAny
import PyProof.ListOps
import HandS.Deep
import HandS.Evl
import HandS.IsInst
import HandS.Wide
import HandS.Walk
import HandS.TupAny
import HandS.Words
import HandS.WordsExc
import HandS.Defaults
import HandS.HeadHook1
import HandS.Style
import PySem.Challenge.RW_parkedrows_k33_whole_complements_meets_a
import HandS.SortInts
import HandS.Conv
import HandS.ReCall
import HandS.WordsDict
import HandS.ExcOwn
import HandS.TupMul
import HandS.TryMany
import HandS.Lambda
import KE.KStateDown
import Lean
import HandS.Ends
import HandS.More
import HandS.Head0
import HandS.Head1
import HandS.Head2
import HandS.HeadEnd
import HandS.HeadHook2
import HandS.HeadHook3
import HandS.HeadHook4
import HandS.HeadWalk
import HandS.NestedK
set_option Elab.async false
set_option linter.all false
set_option maxRecDepth 100000
set_option maxHeartbeats 4000000
/-! sorted of lists and of sets of int tuples of any lengths; sorted of nested tuples -/
namespace PR
open PySem PySem.Spec PyProof.Rows L2
theorem lexLt_asym : ∀ x y : List Int, HT.lexLt x y = true → HT.lexLt y x = false
  | [], [], h => by cases h
  | [], _ :: _, _ => rfl
  | _ :: _, [], h => by cases h
  | a :: x, b :: y, h => by
    show (if b = a then HT.lexLt y x else decide (b < a)) = false
    have h : (if a = b then HT.lexLt x y else decide (a < b)) = true := h
    by_cases e : a = b
    · rw [if_pos e] at h
      rw [if_pos e.symm]
      exact lexLt_asym x y h
    · rw [if_neg e] at h
      rw [if_neg (Ne.symm e)]
      have := of_decide_eq_true h
      exact decide_eq_false (by omega)
theorem lexLt_tr : ∀ x y z : List Int, HT.lexLt y x = false → HT.lexLt z y = false → HT.lexLt z x = false
  | [], _, [], _, _ => rfl
  | [], _, _ :: _, _, _ => rfl
  | _ :: _, [], _, h, _ => by cases h
  | _ :: _, _ :: _, [], _, h => by cases h
  | a :: x, b :: y, c :: z, h1, h2 => by
    show (if c = a then HT.lexLt z x else decide (c < a)) = false
    have h1 : (if b = a then HT.lexLt y x else decide (b < a)) = false := h1
    have h2 : (if c = b then HT.lexLt z y else decide (c < b)) = false := h2
    by_cases e1 : b = a
    · rw [if_pos e1] at h1
      by_cases e2 : c = b
      · rw [if_pos e2] at h2
        rw [if_pos (e2.trans e1)]
        exact lexLt_tr x y z h1 h2
      · rw [if_neg e2] at h2
        have q := of_decide_eq_false h2
        rw [if_neg (by omega)]
        exact decide_eq_false (by omega)
    · rw [if_neg e1] at h1
      have q1 := of_decide_eq_false h1
      by_cases e2 : c = b
      · rw [if_neg (by omega)]
        exact decide_eq_false (by omega)
      · rw [if_neg e2] at h2
        have q2 := of_decide_eq_false h2
        rw [if_neg (by omega)]
        exact decide_eq_false (by omega)
theorem swo_lexL {α : Type} (k : α → List Int) : SrtO.Swo fun v u => HT.lexLt (k v) (k u) :=
  ⟨fun x y h => lexLt_asym _ _ h, fun x y z h1 h2 => lexLt_tr _ _ _ h1 h2⟩
section
variable {prog : Program} {w : World} {A : Around} {E : Value → Shared → Prop} {s : Shared}
theorem lex_any {b fin : Bool} {Q : Bool → Shared → Prop} {xs ys : List Value} {ns ms : List Int} (i : Nat) (hx : IntsAre xs ns) (hy : IntsAre ys ms) (hf : fin = decide (xs.length < ys.length)) (h : Q (HT.lexLt ns ms) s) :
    PySem.W.KatLex prog w A b fin Q (xs.zip ys) i s := by
  induction hx generalizing ys ms i with
  | nil =>
    cases hy with
    | nil =>
      rw [hf]
      exact PySem.W.kat_nil h
    | cons q u hy =>
      rw [hf]
      refine PySem.W.kat_nil ?_
      rw [decide_eq_true (by simp)]
      exact h
  | @cons p t xs ns hx ih =>
    cases hy with
    | nil =>
      rw [hf]
      refine PySem.W.kat_nil ?_
      rw [decide_eq_false (by simp)]
      exact h
    | @cons q u ys ms hy =>
      show PySem.W.KatLex prog w A b fin Q ((Value.int p t, Value.int q u) :: xs.zip ys) i s
      refine PySem.W.kat_cons (wpAny_eqBool_int ?_)
      have h : Q (if p = q then HT.lexLt ns ms else decide (p < q)) s := h
      by_cases e : p = q
      · subst e
        rw [beq_self_eq_true]
        rw [if_pos rfl] at h
        refine PySem.W.kat_yes ?_
        have hf2 : fin = decide (xs.length < ys.length) := by
          rw [hf]
          congr 1
          simp
        first
          | exact ih (i + 1) hy hf2 h
          | exact ih _ _ (i + 1) hy hf2 h
      · rw [show (p == q) = false from beq_eq_false_iff_ne.mpr e]
        rw [if_neg e] at h
        exact PySem.W.kat_no (TS.oneLt_ints _ h)
/-- tuples of ints, not empty -/
def TupsNe (h : Heap) (vs : List Value) : Prop := ∀ v, v ∈ vs → ∃ ns, TS.TupInts h v ns ∧ ns ≠ []
theorem TupsNe.keeps {h h' : Heap} {vs : List Value} (x : TupsNe h vs) (k : ∀ b o, h.get? b = some o → o.cls = .type "tuple" → h'.get? b = some o) : TupsNe h' vs := fun v hv =>
  let ⟨ns, t, r⟩ := x v hv; ⟨ns, t.keeps k, r⟩
theorem firsts_ne {h : Heap} : ∀ vs : List Value, TupsNe h vs → ∃ fs, PySem.W.KatTups h vs fs ∧ fs.length = vs.length ∧ ∀ f, f ∈ fs → ∃ n t, f = Value.int n t
  | [], _ => ⟨[], PySem.W.KatTups.nil, rfl, fun f hf => by simp at hf⟩
  | v :: vs, x => by
    obtain ⟨fs, k, hl, hi⟩ := firsts_ne vs fun u hu => x u (List.mem_cons_of_mem _ hu)
    obtain ⟨ns, ⟨a, xs, rfl, ⟨o, ho, hc, n, hdt⟩, i⟩, hn⟩ := x v (List.mem_cons_self ..)
    obtain ⟨y, ys, e⟩ : ∃ y ys, xs.toList = y :: ys := by
      cases q : xs.toList with
      | nil =>
        rw [q] at i
        cases i
        exact absurd rfl hn
      | cons y ys => exact ⟨y, ys, rfl⟩
    obtain ⟨m, t, hy⟩ := i.all y (by rw [e]; exact List.mem_cons_self ..)
    refine ⟨y :: fs, PySem.W.KatTups.cons ho hc hdt ?_ k, by simp [hl], ?_⟩
    · have z := congrArg (fun l : List Value => l[0]?) e
      simpa using z
    · intro f hf
      rcases List.mem_cons.mp hf with rfl | hf
      · exact ⟨m, t, hy⟩
      · exact hi f hf
theorem tups_cmp {vs : List Value} {k : Value → List Int} (hp : ∀ v ∈ vs, TS.TupInts s.heap v (k v)) : SrtO.Cmp prog w A s (tuples' true) (fun p => p.1 ∈ vs) (SrtO.lt2 fun v u => HT.lexLt (k v) (k u)) := by
  intro p q hm hm'
  have h1 := hp _ hm
  have h2 := hp _ hm'
  show wpAny (model prog w) A (keyLt' (tuples' true) p.1 q.1) (fun r s' => s' = s ∧ r = HT.lexLt (k p.1) (k q.1)) (fun _ _ => False) s
  generalize k p.1 = ns at h1 ⊢
  generalize k q.1 = ms at h2 ⊢
  obtain ⟨a, xs, e1, ⟨o, ho, hc, n, hd⟩, i1⟩ := h1
  obtain ⟨a', ys, e2, ⟨o', ho', hc', n', hd'⟩, i2⟩ := h2
  rw [e1, e2]
  refine PySem.W.kat_lt ho hd ho' hd' ?_
  exact lex_any 0 i1 i2 (by simp) ⟨rfl, rfl⟩
theorem tups_sortableO {a : Addr} {vs : List Value} {k : Value → List Int} (h0 : 0 < vs.length) (hp : ∀ v ∈ vs, TS.TupInts s.heap v (k v) ∧ k v ≠ []) (ha : ∀ o, s.heap.get? a = some o → o.cls ≠ .type "tuple") :
    SrtO.SortableO prog w A s a vs fun v u => HT.lexLt (k v) (k u) := by
  intro h' keep
  have kk : ∀ b o, s.heap.get? b = some o → o.cls = .type "tuple" → h'.get? b = some o := fun b o e c => keep b o (fun z => by subst z; exact ha o e c) e
  have hp' : ∀ v ∈ vs, TS.TupInts h' v (k v) := fun v hm => (hp v hm).1.keeps kk
  obtain ⟨fs, h1, h2, h3⟩ := firsts_ne (h := h') vs fun v hm => ⟨_, hp' v hm, (hp v hm).2⟩
  refine ⟨tuples' true, fun Q E hq => ?_, tups_cmp hp'⟩
  refine PySem.W.kat_kind (T := .type "int") h1 (by omega) (fun f hm => ?_) (by rfl) ?_
  · obtain ⟨x, t, rfl⟩ := h3 f hm
    exact PySem.W.Looks.now
  · have e : (Value.type "int" != Value.type "tuple") = true := by first | decide +kernel | rfl | decide
    rw [e]
    exact hq
end
theorem perm_map {α β : Type} {f : α → β} : ∀ {out m : List β}, out.Perm m → ∀ ks : List α, m = ks.map f → ∃ L : List α, L.Perm ks ∧ out = L.map f := by
  intro out m h
  induction h with
  | nil =>
    intro ks e
    have : ks = [] := by
      cases ks with
      | nil => rfl
      | cons => cases e
    subst this
    exact ⟨[], List.Perm.refl _, rfl⟩
  | cons x p ih =>
    intro ks e
    cases ks with
    | nil => cases e
    | cons k ks =>
      injection e with e1 e2
      obtain ⟨L, h1, h2⟩ := ih ks e2
      exact ⟨k :: L, h1.cons k, by rw [List.map_cons, ← h2, e1]⟩
  | swap x y l =>
    intro ks e
    cases ks with
    | nil => cases e
    | cons k ks =>
      cases ks with
      | nil => cases e
      | cons k2 ks =>
        injection e with e1 e2
        injection e2 with e2 e3
        exact ⟨k2 :: k :: ks, List.Perm.swap k k2 ks, by rw [List.map_cons, List.map_cons, e1, e2, e3]⟩
  | trans p1 p2 ih1 ih2 =>
    intro ks e
    obtain ⟨L2, h1, h2⟩ := ih2 ks e
    obtain ⟨L1, h3, h4⟩ := ih1 L2 h2
    exact ⟨L1, h3.trans h1, h4⟩
section
variable {X : Cx}
/-- sorted(xs), xs a list of int tuples, none empty -/
def rSortedL (K : PySem.W.Frag) : List V → Hp → VK → Prop := fun vs H Q => ∃ (a : Addr) (ks : List (Addr × List Int)), vs = [V.ref a] ∧ SqL K H a (ks.map fun p => V.ref p.1) ∧ (∀ p ∈ ks, SqT K H p.1 (p.2.map V.int) ∧ p.2 ≠ []) ∧
  ∀ (L : List (Addr × List Int)) (p : Addr), L.Perm ks → L.Pairwise (fun q r => HT.lexLt r.2 q.2 = false) → H p = none → Q (.ref p) (upd H p (.lst (L.map fun q => V.ref q.1)))
theorem tupRaw {pins : List (Addr × Obj)} {σ : L2.St} {H : Hp} {s : Shared} {b : Addr} {k : List Int} (I : Inv X pins σ H s) (h : SqT X.K H b (k.map V.int)) : TS.TupInts s.heap (.ref b) k := tupInts_of (P := X.prog) (w := X.w) (I.isT h)
theorem cr_sortedL : CallR X (.builtin "sorted") (rSortedL X.K) := by
  intro pins s σ H vs us Q I r h
  obtain ⟨a, ks, rfl, hs, hx, q⟩ := h
  obtain ⟨its, rv, hl, hz⟩ := I.list hs
  rw [Vals.ref1 r]
  have e1 := refs_of_vals rv
  have hk : ∀ v ∈ its, TS.TupInts s.heap v (TS.intsOf s.heap v) ∧ TS.intsOf s.heap v ≠ [] := fun v hv => by
    rw [e1] at hv
    obtain ⟨p, hp, rfl⟩ := List.mem_map.mp hv
    have t := tupRaw I (hx p hp).1
    rw [t.ints]
    exact ⟨t, (hx p hp).2⟩
  refine SrtO.sorted_ord (swo_lexL (TS.intsOf s.heap)) hl.isList (by rw [← rv.length]; exact hz) (fun h2 h₁ a₁ ha₁ kk => ?_) fun out hsrt hstb => ?_
  · refine tups_sortableO (s := { s with heap := h₁ }) (by omega) (fun v hv => ⟨(hk v hv).1.keeps fun b o e _ => (kk b o e).2, (hk v hv).2⟩) fun o e => ?_
    have e' : some o = some (seqObj "list" its.toArray 0) := e.symm.trans ha₁
    cases e'
    intro c
    exact absurd (Value.type.inj c) (by decide)
  · obtain ⟨L, hp, eo⟩ := perm_map (f := fun p : Addr × List Int => Value.ref p.1) hstb.perm ks e1
    obtain ⟨n, hn⟩ := sortedAll_at s.heap its out.toArray
    have hlen : (L.map fun q => V.ref q.1).length ≤ sizeLine := by
      rw [List.length_map, hp.length_eq]
      rw [List.length_map] at hz
      exact hz
    have hv : Vals (L.map fun q => V.ref q.1) out := by rw [eo]; exact vals_of_refs L
    refine ⟨.ref _, upd H (s.heap.objs.size + 1) (.lst (L.map fun q => V.ref q.1)), I.laid (t' := s.toks) (fun b o e => sortedAll_old e) (Nat.le_succ _) ⟨hlen, out, n, hv, hn⟩, rfl, q L _ hp ?_ (I.hok.fresh (Nat.le_succ _))⟩
    rw [eo] at hsrt
    refine List.Pairwise.imp_of_mem (fun {x y} hx' hy' hle => ?_) (List.pairwise_map.mp hsrt)
    have f1 := (tupRaw I (hx x (hp.mem_iff.mp hx')).1).ints
    have f2 := (tupRaw I (hx y (hp.mem_iff.mp hy')).1).ints
    rw [← f1, ← f2]
    exact hle
end
end PR
set_option maxHeartbeats 4000000
namespace PR
open PySem PySem.Spec PyProof.Rows L2
section
variable {P : Program} {w : World} {A : Around} {E : Value → Shared → Prop} {s : Shared}
theorem sorted_setL {a : Addr} {L : List (Addr × List Int)} {es : Array (Int × Value)} {ep : Nat} {t : SetTable} {Q : Value → Shared → Prop} (R : SetTR P w s.heap a L es ep t) (hh : A.handled = none)
    (hB : ∀ p ∈ L, p.2 ≠ [])
    (hQ : ∀ s' p (out : Array Value) (c : Nat) (L' : List (Addr × List Int)), (∀ b o, s.heap.get? b = some o → s'.heap.get? b = some o) → s'.gens = s.gens → s'.os = s.os → s.heap.objs.size ≤ p →
      s'.heap.get? p = some (seqObj "list" out c) → out.toList = L'.map (fun q => Value.ref q.1) → L'.Perm L → L'.Pairwise (fun q r => HT.lexLt r.2 q.2 = false) → Q (.ref p) s') :
    wpAny (model P w) A (call (.builtin "sorted") [.ref a]) Q E s := by
  obtain ⟨o, ho, hex, hd⟩ := R.ob
  have hsz := R.size
  have hfew := R.few
  refine Calls.call_function_entry kind_sorted plain_sorted entry_sorted (args_sorted1 _) ?_
  unfold Builtin.«sorted»
  refine wpAny_bind (m := checkCount "sorted" 1 1 _) (wpAny_pure ?_)
  refine wpAny_bind (collect_set (A := A.in1) hh ⟨o, ho, hex.1, hd⟩ R.fits (by unfold scanBound; omega) R.tab.ris R.led fun s1 vs k1 hz g1 o1 pm => ?_)
  have hes : es.toList.map (·.2) = L.map fun q => Value.ref q.1 := by
    rw [R.rows]
    unfold rowsOf
    rw [List.map_map] <;> rfl
  rw [hes] at pm
  have hvl : vs.length < 64 := by rw [pm.length_eq, List.length_map]; exact hfew
  have hz2 : vs.length ≤ sizeLine := by rw [sizeLine_eq]; omega
  refine wpAny_bind (wpAny_newList ?_ hz2)
  have hoL : (s1.heap.push (seqObj "list" vs.toArray 0)).get? s1.heap.objs.size = some (seqObj "list" vs.toArray 0) := Heap.get?_push_size _ rfl
  have tk : ∀ q ∈ L, TS.TupInts (s1.heap.push (seqObj "list" vs.toArray 0)) (.ref q.1) q.2 := fun q hq => tupInts_of (P := P) (w := w) (isT_keep (R.tup q hq) fun b u e => Heap.get?_push_of_some _ (k1 b u e))
  have hk : ∀ v ∈ vs, TS.TupInts (s1.heap.push (seqObj "list" vs.toArray 0)) v (TS.intsOf (s1.heap.push (seqObj "list" vs.toArray 0)) v) ∧ TS.intsOf (s1.heap.push (seqObj "list" vs.toArray 0)) v ≠ [] := fun v hv => by
    obtain ⟨q, hq, e⟩ := List.mem_map.mp (pm.mem_iff.mp hv)
    rw [← e, (tk q hq).ints]
    exact ⟨tk q hq, hB q hq⟩
  refine wpAny_bind (wpAny_holding (wpAny_call_entry slot_list_sort ⟨_, hoL, rfl⟩ entry_list_sort (SrtO.list_sort_ord (s := { s1 with heap := s1.heap.push (seqObj "list" vs.toArray 0) }) (swo_lexL (TS.intsOf (s1.heap.push (seqObj "list" vs.toArray 0)))) hoL hz2 (fun h2 => ?_) fun out hsrt hstb => ⟨_, rfl, ?_⟩) (args_list_sort _)))
  · refine tups_sortableO (s := { s1 with heap := s1.heap.push (seqObj "list" vs.toArray 0) }) (by omega) hk fun o e => ?_
    have e' : some o = some (seqObj "list" vs.toArray 0) := e.symm.trans hoL
    cases e'
    intro c
    exact absurd (Value.type.inj c) (by decide)
  · obtain ⟨c, hc⟩ := sortedHeap_at (vs := vs) (out := out.toArray) hoL
    obtain ⟨L', hp, eo⟩ := perm_map (f := fun p : Addr × List Int => Value.ref p.1) (hstb.perm.trans pm) L rfl
    have pw : L'.Pairwise (fun q r => HT.lexLt r.2 q.2 = false) := by
      rw [eo] at hsrt
      refine List.Pairwise.imp_of_mem (fun {x y} hx' hy' hle => ?_) (List.pairwise_map.mp hsrt)
      have f1 := (tk x (hp.mem_iff.mp hx')).ints
      have f2 := (tk y (hp.mem_iff.mp hy')).ints
      rw [← f1, ← f2]
      exact hle
    refine wpAny_pure ⟨_, rfl, hQ _ s1.heap.objs.size out.toArray c L' (fun b u e => ?_) g1 o1 hz hc (by simpa using eo) hp pw⟩
    have q := k1 b u e
    have hlt := Heap.lt_size q
    show (sortedHeap (s1.heap.push (seqObj "list" vs.toArray 0)) s1.heap.objs.size vs out.toArray).get? b = some u
    rw [sortedHeap_old (Nat.ne_of_lt hlt) (by rw [size_push']; exact Nat.lt_succ_of_lt hlt)]
    exact Heap.get?_push_of_some _ q
end
section
variable {X : Cx}
/-- sorted(s), s a set of int tuples, none empty -/
def rSortedS (K : PySem.W.Frag) (P : Program) (w : World) : List V → Hp → VK → Prop := fun vs H Q => ∃ (a : Addr) (L : List (Addr × List Int)), vs = [V.ref a] ∧ H a = some (SetTO P w a L) ∧ (∀ p ∈ L, SqT K H p.1 (p.2.map V.int) ∧ p.2 ≠ []) ∧
  ∀ (L' : List (Addr × List Int)) (p : Addr), L'.Perm L → (L'.map (·.2)).Nodup → L'.Pairwise (fun q r => HT.lexLt r.2 q.2 = false) → H p = none → Q (.ref p) (upd H p (.lst (L'.map fun q => V.ref q.1)))
theorem cr_sortedSet (hc : X.calm = true) : CallR X (.builtin "sorted") (rSortedS X.K X.prog X.w) := by
  intro pins s σ H vs us Q I r h
  obtain ⟨a, L, rfl, ha, hk, q⟩ := h
  have R0 : SetT0 X.prog X.w s.heap a L := (I.hok a _ ha).1
  obtain ⟨es, ep, t, R⟩ := R0.full fun p hp => I.isT (hk p hp).1
  rw [Vals.ref1 r]
  refine sorted_setL R (I.ok.hd hc) (fun p hp => (hk p hp).2) fun s' p out c L' k g o hp hg hout pm pw => ?_
  have hfew : L'.length < 64 := by rw [pm.length_eq]; exact R.few
  have hlen : (L'.map fun q => V.ref q.1).length ≤ sizeLine := by rw [List.length_map, sizeLine_eq]; omega
  have hn : H p = none := I.hok.fresh hp
  have hv : Vals (L'.map fun q => V.ref q.1) out.toList := by rw [hout]; exact vals_of_refs L'
  have J : Inv X pins σ (upd H p (.lst (L'.map fun q => V.ref q.1))) { s with heap := s'.heap, gens := s'.gens, drawn := s'.drawn, toks := s'.toks } :=
    I.call (ch := []) (Un.laid k hp hn) (I.hok.laid k hp ⟨hlen, out.toList, c, hv, hg⟩) (by rw [g]; exact I.bare) (fun _ z => nomatch z)
  have e : s' = { s with heap := s'.heap, gens := s'.gens, drawn := s'.drawn, toks := s'.toks } := by
    cases s'
    cases s
    cases o
    rfl
  rw [e]
  exact ⟨.ref p, _, J, rfl, q L' p pm ((pm.map (·.2)).nodup_iff.mpr R.nd) pw hn⟩
end
/-! ### len(set(ints)) -/
section
variable {X : Cx}
/-- how many different ones -/
def diffN (ns : List Int) : Nat := (firstMet (fun i => ns.getD i 0) ns.length).length
def tLenSetN (K : PySem.W.Frag) (ta : TE) : TE := fun σ H Q => ta σ H fun x H1 => ∃ (l : Addr) (ns : List Int), x = V.ref l ∧ SqL K H1 l (ns.map V.int) ∧ ns.length < 64 ∧ Q (.int (diffN ns)) H1
theorem pe_lenSetN {a : Expr} {ta : TE} {p p2 q pos : Pos} (hc : X.calm = true) (hg : Gl X "len") (hm : X.mg "len" = none) (hg2 : Gl X "set") (hm2 : X.mg "set" = none) (ha : PE X a ta)
    (na : starEach [a] X.env = (false, eval a X.env) :: starEach [] X.env := by rfl) : PE X (.Call (.Name "len" p) [.Call (.Name "set" p2) [a] [] q] [] pos) (tLenSetN X.K ta) := by
  refine ⟨fun pins s σ H Q I h => ?_⟩
  refine Call_ (ld_blt I hg hm PySem.boot_len ?_)
  refine PyProof.Rows.callWith_builtin1 (PyProof.Rows.args_cons ?_ rfl) rfl rfl
  refine Call_ (ld_blt I hg2 hm2 PyProof.Rows.boot_set ?_)
  refine PyProof.Rows.callWith_type1 (PyProof.Rows.args_cons (thn (ha.run pins s σ H _ I h) fun v s1 ⟨x, H1, I1, r1, q1⟩ => PyProof.Rows.args_nil ?_) na) na rfl
  obtain ⟨l, ns, rfl, hq, h1, q1⟩ := q1
  cases r1
  obtain ⟨its, r, pl, hz⟩ := I1.list hq
  have hl : its.toArray.size = ns.length := by rw [List.size_toArray, ← r.length, List.length_map]
  refine call_set_list (I1.ok.hd hc) pl.isList (ns := ns) (by simpa using r.ints) (by unfold scanBound; omega) fun h' tk hS hk => ?_
  rw [hl] at hS
  refine PyProof.Rows.args_nil ?_
  obtain ⟨o, es, ep, t, ho, hex, hd, _, _, _, hf, hn⟩ := hS
  have I2 : Inv X pins σ H1 { s1 with heap := h', toks := tk } := I1.kept fun b o e => hk b o (Heap.lt_size e) e
  have hle : (firstMet (fun i => ns.getD i 0) ns.length).length ≤ ns.length := firstMet_length_le _ _
  refine call_len_set ho hex hd hf (by rw [hn] <;> omega) ⟨.int (diffN ns), H1, I2.tok _, ⟨_, by rw [hn]; rfl⟩, q1⟩
end
theorem mem_dedup {σ : List Int} {k x : Int} : x ∈ step_dedup σ k ↔ x ∈ σ ∨ x = k := by
  unfold step_dedup
  by_cases h : σ.any (· == k) = true
  · rw [if_pos h]
    constructor
    · exact Or.inl
    · rintro (h1 | h1)
      · exact h1
      · obtain ⟨y, hy, e⟩ := List.any_eq_true.mp h
        rw [h1, ← beq_iff_eq.mp e]
        exact hy
  · rw [if_neg h, List.mem_append, List.mem_singleton]
theorem mem_firstMet (val : Nat → Int) (x : Int) : ∀ i, x ∈ firstMet val i ↔ ∃ j, j < i ∧ val j = x
  | 0 => by
    rw [firstMet_zero]
    constructor
    · intro h; cases h
    · rintro ⟨j, hj, _⟩; omega
  | i + 1 => by
    rw [firstMet_succ, mem_dedup, mem_firstMet val x i]
    constructor
    · rintro (⟨j, hj, e⟩ | e)
      · exact ⟨j, by omega, e⟩
      · exact ⟨i, by omega, e.symm⟩
    · rintro ⟨j, hj, e⟩
      by_cases h : j = i
      · subst h; exact .inr e.symm
      · exact .inl ⟨j, by omega, e⟩
theorem nodup_firstMet (val : Nat → Int) : ∀ i, (firstMet val i).Nodup
  | 0 => by rw [firstMet_zero]; exact List.nodup_nil
  | i + 1 => by
    rw [firstMet_succ]
    unfold step_dedup
    by_cases h : (firstMet val i).any (· == val i) = true
    · rw [if_pos h]; exact nodup_firstMet val i
    · rw [if_neg h, List.nodup_append]
      refine ⟨nodup_firstMet val i, by simp, fun a ha b hb e => h ?_⟩
      rw [List.mem_singleton] at hb
      rw [e, hb] at ha
      exact List.any_eq_true.mpr ⟨_, ha, by simp⟩
theorem diffN_gt (ns : List Int) : 1 < diffN ns ↔ ∃ x ∈ ns, ∃ y ∈ ns, x ≠ y := by
  have hm : ∀ x, x ∈ firstMet (fun i => ns.getD i 0) ns.length ↔ x ∈ ns := fun x => by
    rw [mem_firstMet]
    constructor
    · rintro ⟨j, hj, e⟩
      rw [← e, List.getD_eq_getElem?_getD, List.getElem?_eq_getElem hj]
      exact List.getElem_mem hj
    · intro h
      obtain ⟨j, hj, e⟩ := List.getElem_of_mem h
      refine ⟨j, hj, ?_⟩
      show ns.getD j 0 = x
      rw [List.getD_eq_getElem?_getD, List.getElem?_eq_getElem hj]
      exact e
  have nd := nodup_firstMet (fun i => ns.getD i 0) ns.length
  unfold diffN
  generalize firstMet (fun i => ns.getD i 0) ns.length = l at hm nd
  constructor
  · intro h
    match l, h, nd with
    | a :: b :: r, _, nd =>
      refine ⟨a, (hm a).mp (by simp), b, (hm b).mp (by simp), fun e => ?_⟩
      subst e
      exact (List.nodup_cons.mp nd).1 (by simp)
  · rintro ⟨x, hx, y, hy, ne⟩
    have hx' := (hm x).mpr hx
    have hy' := (hm y).mpr hy
    match l, hx', hy' with
    | [a], hx', hy' =>
      rw [List.mem_singleton] at hx' hy'
      exact absurd (hx'.trans hy'.symm) ne
    | a :: b :: r, _, _ => simp
/-! ### t.index(n) -/
section
variable {X : Cx}
theorem flat_ints : ∀ ns : List Int, (ns.map V.int).all flatV = true
  | [] => rfl
  | _ :: r => by
    rw [List.map_cons, List.all_cons, flat_ints r]
    rfl
theorem mt_tup_indexI : MtR X "tuple.index" (fun x xs H Q => ∃ p, ∃ ys : List Int, ∃ z j, x = .ref p ∧ xs = [.int z] ∧ SqT X.K H p (ys.map V.int) ∧ ys[j]? = some z ∧ (∀ m, m < j → ys[m]? ≠ some z) ∧ Q (.int (j : Nat)) H) := by
  intro pins s σ H x xs v us Q I rx rs h
  obtain ⟨p, ys, z, j, rfl, rfl, hq, hy, hno, q⟩ := h
  cases rx
  obtain ⟨u, rfl, t, rfl⟩ := vals1 rs
  obtain ⟨its, r, pl, hz⟩ := I.tuple hq
  obtain ⟨⟨cls, dd, dt, sl⟩, ho, hc, n, hd⟩ := pl
  simp only at hc hd
  subst hc
  subst hd
  have hl : its.toArray.size = ys.length := by rw [List.size_toArray, ← r.length, List.length_map]
  have hj : j < its.toArray.size := by rw [hl]; exact (List.getElem?_eq_some_iff.mp hy).1
  have at' : ∀ (m : Nat) (hm : m < its.toArray.size), ∃ y t', ys[m]? = some y ∧ its.toArray[m] = Value.int y t' := fun m hm => by
    have hm' : m < ys.length := by rw [← hl]; exact hm
    obtain ⟨w, hw, t', hw'⟩ := r.get (i := m) (x := .int ys[m]) (by simp [hm'])
    refine ⟨ys[m], t', List.getElem?_eq_getElem hm', ?_⟩
    have e := (List.getElem?_eq_some_iff.mp hw).2
    rw [← hw', ← e]
    simp
  refine call_meets PySem.F.slot_tuple_index ⟨_, ho, rfl⟩ PySem.F.entry_tuple_index (PySem.F.args_tuple_index_2 _ _) (TI.tuple_indexAt p its.toArray n dd sl (.int z t) (eqU (.int z)) j hj ?_ ?_)
    ⟨ho, fun w hw => mem_eqAt (x := .int z) ⟨t, rfl⟩ rfl r (flat_ints ys) w (by simpa using hw), ⟨.int (j : Nat), H, I.tok _, ⟨_, rfl⟩, q⟩⟩
  · obtain ⟨y, t', h1, h2⟩ := at' j hj
    rw [hy] at h1
    cases h1
    rw [h2]
    show (z == z) = true
    exact beq_self_eq_true z
  · intro m hm hmj
    obtain ⟨y, t', h1, h2⟩ := at' m hm
    rw [h2]
    show (y == z) = false
    exact beq_eq_false_iff_ne.mpr fun e => hno m hmj (e ▸ h1)
end
end PR
set_option maxHeartbeats 4000000
namespace PR
open PySem
/-- a tuple's enumeration begins: what wp_walk finds, given how iter of it goes -/
theorem enum_new {v : Value} {o : Obj} {Z : Heap → Prop} (B : Begins v o Z) :
    Meets (Builtin.«enumerate.__new__» ⟨[.type "enumerate", v], []⟩) (fun _ R s => Z s.heap ∧ R (.ok (.ret (.ref (s.heap.push o).objs.size)))
      { s with heap := (s.heap.push o).push { cls := .type "enumerate", data := .fields #[.none, .bool false, .ref s.heap.objs.size, rawInt 0, .none, .none] } }) :=
  .of_wp fun prog w A R s hz => by
    cases s with
    | mk hp g d tk os =>
      have hsub := sub_enumerate
      have go : ∀ {A' : Around} {E : Value → Shared → Prop} {Q : Value → Shared → Prop}, Q (.ref hp.objs.size) ⟨hp.push o, g, d, tk, os⟩ → wpAny (model prog w) A' (pyIter v) Q E ⟨hp, g, d, tk, os⟩ :=
        fun {A' E Q} q => B.iter prog w A' E ⟨hp, g, d, tk, os⟩ Q hz.1 q
      have fin := hz.2
      wp_walk using go
      refine wpAny_stack_any fun st => wpAny_pure ?_
      split
      · rename_i c _ _ _ _ _
        by_cases hcc : (c == Value.type "enumerate") = true <;> (try rw [hcc]) <;> (try rw [Bool.eq_false_iff.mpr hcc]) <;> (wp_walk using go; exact ⟨_, rfl, fin⟩)
      · wp_walk using go
        exact ⟨_, rfl, fin⟩
theorem enum_call {prog : Program} {w : World} {A : Around} {E : Value → Shared → Prop} {s : Shared} {v : Value} {o : Obj} {Z : Heap → Prop} {Q : Value → Shared → Prop} (B : Begins v o Z) (hz : Z s.heap)
    (h : ∀ h', IsEnum h' (s.heap.objs.size + 1) s.heap.objs.size 0 .none → h'.get? s.heap.objs.size = some o → (∀ b u, s.heap.get? b = some u → h'.get? b = some u) → Q (.ref (s.heap.objs.size + 1)) { s with heap := h' }) :
    wpAny (model prog w) A (call (.type "enumerate") [v]) Q E s := by
  have sz : (s.heap.push o).objs.size = s.heap.objs.size + 1 := Heap.size_push ..
  refine callType_new F.called_enumerate (by decide) (F.typeCall_enumerate_1 _) (F.newCall_enumerate_1 _) (fun obj => F.args_object_init_2 obj _) F.entry_enumerate_new (enum_new B) ?_
  have top := Heap.get?_push_size (s.heap.push o) (o := { cls := .type "enumerate", data := .fields #[.none, .bool false, .ref s.heap.objs.size, rawInt 0, .none, .none] }) rfl
  rw [sz] at top
  rw [sz]
  exact ⟨hz, ⟨_, top, rfl⟩, h _ top (Heap.get?_push_of_some _ (Heap.get?_push_size _ B.free)) fun b u q => Heap.get?_push_of_some _ (Heap.get?_push_of_some _ q)⟩
end PR
namespace PR
open PySem PySem.Spec PyProof.Rows L2
/-- a tuple enumerated: the turn's pair is new -/
def IteT (K : PySem.W.Frag) (a : Addr) : It where
  go i H := ∃ (xs : List V) (x : V), SqT K H a xs ∧ xs[i]? = some x
  yld i H v H' := ∃ T x, v = .ref T ∧ H T = none ∧ H' = upd H T (.tup [.int (i : Nat), x]) ∧ ∀ xs, SqT K H a xs → xs[i]? = some x
  stop i H := ∃ xs : List V, SqT K H a xs ∧ i = xs.length
/-- the iterator's own two objects -/
def EnT (a e it : Addr) (i : Nat) (h : Heap) : Prop := (∃ old, IsEnum h e it (i : Int) old) ∧ h.IsTupleIter it a i ∧ e ≠ it
theorem turnT {P : Program} {w : World} {K : PySem.W.Frag} {elts : List Expr} {kk : Nat} {tpos : Pos} (a e it : Addr) : Turn P w K (.Tuple elts kk tpos) (IteT K a) [e, it] e (EnT a e it) where
  mem := List.mem_cons_self
  obj i h st b hb := by
    rcases List.mem_cons.mp hb with z | z
    · obtain ⟨old, q⟩ := st.1
      exact ⟨_, z ▸ q, fun v c => by cases c⟩
    · obtain ⟨o, q, _, d⟩ := st.2.1
      exact ⟨o, (List.mem_singleton.mp z) ▸ q, fun v c => by rw [d] at c; cases c⟩
  keep i h h' st k := by
    obtain ⟨⟨old, q⟩, r, n⟩ := st
    exact ⟨⟨old, k e List.mem_cons_self _ q⟩, r.at fun o z => k it (List.mem_cons_of_mem _ List.mem_cons_self) o z, n⟩
  self A i s Q E st h := st.1.elim fun _ q => wpAny_pyIter_enum q h
  item := by
    intro X e1 e2 e3 hc i pins s σ H E I ff st gg
    cases e1; cases e2; cases e3
    obtain ⟨⟨old, qe⟩, qi, ne⟩ := st
    obtain ⟨xs, x, qx, gx⟩ := gg
    obtain ⟨its, rel, tp, _⟩ := I.tuple qx
    obtain ⟨u, gu, ru⟩ := rel.get gx
    have nt : ∀ b ∈ [e, it], a ≠ b := fun b hb z => by
      obtain ⟨o, qo, co, n, dn⟩ := tp
      rcases List.mem_cons.mp hb with y | y
      · rw [z, y, qe] at qo
        cases qo
        exact absurd (Value.type.inj co) (by decide)
      · obtain ⟨o2, q2, c2, _⟩ := qi
        rw [z, List.mem_singleton.mp y, q2] at qo
        cases qo
        rw [c2] at co
        exact absurd (Value.type.inj co) (by decide)
    have lt : i < its.toArray.size := by
      have := (List.getElem?_eq_some_iff.mp gu).1
      simpa using this
    have ea : e ∉ [it, a] := fun z => by
      rcases List.mem_cons.mp z with y | y
      · exact ne y
      · exact nt e List.mem_cons_self (List.mem_singleton.mp y).symm
    have big : ∀ b ∈ [e, it], b < s.heap.objs.size := fun b hb => by
      rcases List.mem_cons.mp hb with y | y
      · exact y ▸ Heap.lt_size qe
      · obtain ⟨o2, q2, _⟩ := qi
        exact (List.mem_singleton.mp y) ▸ Heap.lt_size q2
    refine wpAny_pyNext_enum_itemD (Draws.tuple (show X.A.in1.handled = none from I.ok.hd hc) it a (nt it (List.mem_cons_of_mem _ List.mem_cons_self)) its.toArray) qe ⟨qi, (show s.heap.IsTuple a its.toArray from tp)⟩ lt ne ea fun y h' tk gy qo st2 qT _ old' => ?_
    have ey : u = y := Option.some.inj (gu.symm.trans (by simpa using gy))
    cases ey
    refine ⟨_, rfl, wpAny_letOwnedTupleGo_enum (s := { s with heap := h', toks := tk + 1 }) qo fun h2 qe2 sb => ?_⟩
    have e0 : e < s.heap.objs.size := big e List.mem_cons_self
    have atT := (sb.2 s.heap.objs.size (Nat.ne_of_gt e0)).trans qT
    have J := I.turnedNew (t' := tk + 1) (h' := h2) (ob := .tup [.int (i : Nat), x]) (ch := [e, it]) (fun b ob nb q => (sb.2 b fun z => nb (z ▸ List.mem_cons_self)).trans (old' b ob (fun z => nb (z ▸ List.mem_cons_self)) (fun z => nb (z ▸ List.mem_cons_of_mem _ List.mem_cons_self)) q)) ff
      (Nat.le_refl s.heap.objs.size) ⟨(by show 2 ≤ sizeLine; decide), [.int i tk, u], .cons ⟨tk, rfl⟩ (.cons ru .nil), ⟨_, atT, rfl, 0, rfl⟩⟩
    refine ⟨.ref s.heap.objs.size, _, J, rfl, ⟨_, x, rfl, I.hok.fresh (Nat.le_refl _), rfl, fun ys qy => (I.tuple_inj qy qx) ▸ gx⟩, ⟨⟨u, ?_⟩, st2.1.at fun o z => (sb.2 it (Ne.symm ne)).trans z, ne⟩, fun b hb => ?_⟩
    · rw [Int.natCast_succ]
      exact qe2
    · rw [upd_ne (Nat.ne_of_lt (big b hb))]
      exact (ff b hb).1
  done := by
    intro X e1 e2 e3 hc i pins s σ H E I ff st gg
    cases e1; cases e2; cases e3
    obtain ⟨⟨old, qe⟩, qi, ne⟩ := st
    obtain ⟨xs, qx, hx⟩ := gg
    obtain ⟨its, rel, tp, _⟩ := I.tuple qx
    have fi := ff it (List.mem_cons_of_mem _ List.mem_cons_self)
    have en : i = its.toArray.size := by
      rw [List.size_toArray, ← rel.length]
      exact hx
    have na : a ≠ it := fun z => by
      obtain ⟨o, qo, co, n, dn⟩ := tp
      obtain ⟨o2, q2, c2, _⟩ := qi
      rw [z, q2] at qo
      cases qo
      rw [c2] at co
      exact absurd (Value.type.inj co) (by decide)
    refine wpAny_pyNext_enum_endD (Draws.tuple (show X.A.in1.handled = none from I.ok.hd hc) it a na its.toArray) qe ⟨en ▸ qi, (show s.heap.IsTuple a its.toArray from tp)⟩ fun h' ke => ?_
    exact ⟨rfl, I.turned (t' := s.toks) (fun b ob nb q => ke b ob nb q) fi.1 fi.2.1 fi.2.2.2.1 fi.2.2.2.2.1 fi.2.2.2.2.2⟩
def iEnumT (K : PySem.W.Frag) (ta : TA) : TI := fun σ H R => ta σ H fun vs H1 => ∃ a xs, vs = [.ref a] ∧ SqT K H1 a xs ∧ R (IteT K a) H1
theorem pi_enumT {X : Cx} {e : Expr} {ta : TA} {p pos tpos : Pos} {elts : List Expr} {kk : Nat} (hg : Gl X "enumerate") (hm : X.mg "enumerate" = none) (ha : PA X [e] ta) (hs : starEach [e] X.env = [(false, eval e X.env)] := by rfl) :
    PI X (.Tuple elts kk tpos) (.Call (.Name "enumerate" p) [e] [] pos) (iEnumT X.K ta) := by
  constructor
  intro pins s σ H R I hw
  refine Call_ (ld_blt I hg hm boot_enumerate (PyProof.Rows.callWith_type1 ?_ hs rfl))
  refine thn (ha.run pos pins s σ H _ I hw) ?_
  rintro us s1 ⟨vs, H1, I1, r1, a, xs, rfl, hq, hR⟩
  rw [Vals.ref1 r1]
  obtain ⟨its, rel, tp, _⟩ := I1.tuple hq
  refine enum_call (begins_tuple a its.toArray) tp fun h' qe qi old => wpAny_pyIter_enum qe ?_
  have I2 : Inv X pins σ H1 { s1 with heap := h' } := I1.kept (t' := s1.toks) old
  have two : ∀ b ∈ [s1.heap.objs.size + 1, s1.heap.objs.size], s1.heap.objs.size ≤ b := fun b hb => by
    rcases List.mem_cons.mp hb with z | z
    · omega
    · have := List.mem_singleton.mp z
      omega
  exact ⟨_, [s1.heap.objs.size + 1, s1.heap.objs.size], _, _, H1, rfl, I2, turnT a _ _, ⟨⟨_, qe⟩, ⟨_, qi, rfl, rfl⟩, Nat.succ_ne_self _⟩, fun b hb => I1.fpOk (two b hb) (I1.hok.fresh (two b hb)), hR⟩
/-- two readings of one walked thing -/
theorem pi_or {X : Cx} {tg it : Expr} {w1 w2 : TI} (h1 : PI X tg it w1) (h2 : PI X tg it w2) : PI X tg it (fun σ H R => w1 σ H R ∨ w2 σ H R) :=
  ⟨fun pins s σ H R I h => h.elim (h1.run pins s σ H R I) (h2.run pins s σ H R I)⟩
theorem pe_or2 {X : Cx} {e : Expr} {t1 t2 : TE} (h1 : PE X e t1) (h2 : PE X e t2) : PE X e (fun σ H Q => t1 σ H Q ∨ t2 σ H Q) :=
  ⟨fun pins s σ H Q I h => h.elim (h1.run pins s σ H Q I) (h2.run pins s σ H Q I)⟩
theorem op_or2 {X : Cx} {f : Value → Value → Sem Value} {r1 r2 : R2} (h1 : OpR X f r1) (h2 : OpR X f r2) : OpR X f (fun x y H Q => r1 x y H Q ∨ r2 x y H Q) :=
  fun pins s σ H x y v u Q I rx ry h => h.elim (h1 pins s σ H x y v u Q I rx ry) (h2 pins s σ H x y v u Q I rx ry)
theorem call_or2 {X : Cx} {f : Value} {r1 r2 : List V → Hp → VK → Prop} (h1 : CallR X f r1) (h2 : CallR X f r2) : CallR X f (fun xs H Q => r1 xs H Q ∨ r2 xs H Q) :=
  fun pins s σ H xs us Q I r h => h.elim (h1 pins s σ H xs us Q I r) (h2 pins s σ H xs us Q I r)
end PR
set_option maxHeartbeats 4000000
namespace PR
open PySem PySem.Spec PyProof.Rows
/-! sum of lists, begun with a list -/
theorem args_sum_two (a b : Value) : argsOk "sum" ⟨[a, b], []⟩ := by
  unfold argsOk
  kernel_rfl
theorem sub_list_str : isSubtype (.type "list") (.type "str") = pure false := by rw [isSubtype_type]; kernel_rfl
theorem sub_list_bytes : isSubtype (.type "list") (.type "bytes") = pure false := by rw [isSubtype_type]; kernel_rfl
theorem sub_list_bytearray : isSubtype (.type "list") (.type "bytearray") = pure false := by rw [isSubtype_type]; kernel_rfl
/-- a list object without frills -/
abbrev Lo (h : Heap) (a : Addr) (its : Array Value) (n : Nat) : Prop := h.get? a = some { cls := .type "list", data := .seq its n }
/-- the lists added up so far -/
def accA (b0 : Array Value) (ls : Nat → Array Value) : Nat → Array Value
  | 0 => b0
  | i + 1 => accA b0 ls i ++ ls i
section
variable {prog : Program} {w : World} {A : Around} {R : Result → Shared → Prop} {I l : Addr} {items : Array Value}
theorem sum_turns (hh : A.handled = none) (ne : l ≠ I) (b0 : Array Value) (ls : Nat → Array Value) (S : Addr) (nSI : S ≠ I) (nSl : S ≠ l) (hz : ∀ i, i ≤ items.size → (accA b0 ls i).size ≤ sizeLine) :
    ∀ (k i : Nat) (s : Shared) (t : Addr) (c n : Nat), items.size - i = k → i ≤ items.size → (s.heap.IsListIter I l i ∧ s.heap.IsList l items) → Lo s.heap S #[.ref t] c → Lo s.heap t (accA b0 ls i) n → t ≠ S → t ≠ I →
    (∀ j v, items[j]? = some v → ∃ a m, v = .ref a ∧ a ≠ S ∧ a ≠ I ∧ Lo s.heap a (ls j) m) →
    (∀ h' tk t' n', (∀ b o, b ≠ I → b ≠ S → s.heap.get? b = some o → h'.get? b = some o) → Lo h' t' (accA b0 ls items.size) n' → ((t' = t ∧ i = items.size) ∨ (s.heap.objs.size ≤ t' ∧ i < items.size)) → R (.ok (.ret (.ref t'))) { s with heap := h', toks := tk }) →
    codeAny (model prog w) A (.builtin "sum.loop" ⟨[.ref I, .ref S, rawInt 2, rawInt 0], []⟩) R s := by
  intro k
  induction k with
  | zero =>
    intro i s t c n hk hi st hS ht nts nti hls hR
    have ei : i = items.size := by omega
    refine codeAny_builtin F.entry_sum_loop ?_
    rw [Around.under_plainId F.plain_sum_loop _]
    refine wpAny_bind (wpAny_seqItems hS rfl ?_)
    refine wpAny_bind (wpAny_tryCatch (wpAny_pyNext_list_end (show A.in1.handled = none from hh) st.1 st.2 (by simp [ei]) fun h' kp => ?_))
    refine wpAny_pure (hR h' s.toks t n (fun b o nb _ q => kp b o nb q) ?_ (.inl ⟨rfl, ei⟩))
    rw [← ei]
    exact kp t _ nti ht
  | succ k ih =>
    intro i s t c n hk hi st hS ht nts nti hls hR
    have lt : i < items.size := by omega
    refine codeAny_builtin F.entry_sum_loop ?_
    rw [Around.under_plainId F.plain_sum_loop _]
    refine wpAny_bind (wpAny_seqItems hS rfl ?_)
    obtain ⟨a, m, ev, naS, naI, ha⟩ := hls i items[i] (by simp [lt])
    refine wpAny_bind (wpAny_tryCatch (wpAny_pyNext_list_item st.1 st.2 (x := .ref a) (by rw [← ev]; simp [lt]) fun h' it' sb => ?_))
    have kp' : ∀ b o, b ≠ I → s.heap.get? b = some o → h'.get? b = some o := fun b o nb q => (sb.2 b nb).trans q
    have st' : h'.IsListIter I l (i + 1) ∧ h'.IsList l items := ⟨it', st.2.extBut sb.extBut ne⟩
    have hS1 := kp' S _ nSI hS
    have ht1 := kp' t _ nti ht
    have ha1 := kp' a _ naI ha
    have zz := hz (i + 1) lt
    have z2 : (accA b0 ls i).size + (ls i).size ≤ sizeLine := by
      have : accA b0 ls (i + 1) = accA b0 ls i ++ ls i := rfl
      rw [this, Array.size_append] at zz
      exact zz
    show wpAny _ A.in1 ((holding [Value.ref a] (binaryOp .Add (.ref t) (.ref a))).attempt >>= _) _ _ _
    refine wpAny_bind (wpAny_attempt (wpAny_holding (PySem.P.add_list ht1 ha1 ?_ z2)))
    have hS2 : Lo (h'.push { cls := .type "list", data := .seq (accA b0 ls i ++ ls i) }) S #[.ref t] c := Heap.get?_push_of_some _ hS1
    show wpAny _ A.in1 (updateSeq S (fun _ => #[.ref h'.objs.size]) >>= _) _ _ _
    refine wpAny_bind (wpAny_updateSeq hS2 rfl ?_)
    refine wpAny_bind (wpAny_letGo ?_)
    have hS3 := Heap.get?_update_self (Obj.mapSeq fun _ => #[Value.ref h'.objs.size]) hS2 rfl
    have ltS : S < h'.objs.size := Heap.lt_size hS1
    have ltI : I < h'.objs.size := by
      obtain ⟨o, q, _⟩ := st'.1
      exact Heap.lt_size q
    have up : ∀ b o, b ≠ S → h'.get? b = some o → (((h'.push { cls := .type "list", data := .seq (accA b0 ls i ++ ls i) }).update S (Obj.mapSeq fun _ => #[Value.ref h'.objs.size])).update S (Obj.mapSeq fun _ => #[Value.ref h'.objs.size])).get? b = some o := fun b o nb q =>
      (Heap.get?_update_other _ _ (Ne.symm nb)).trans ((Heap.get?_update_other _ _ (Ne.symm nb)).trans (Heap.get?_push_of_some _ q))
    have new : Lo (((h'.push { cls := .type "list", data := .seq (accA b0 ls i ++ ls i) }).update S (Obj.mapSeq fun _ => #[Value.ref h'.objs.size])).update S (Obj.mapSeq fun _ => #[Value.ref h'.objs.size])) h'.objs.size (accA b0 ls (i + 1)) 0 :=
      (Heap.get?_update_other _ _ (Nat.ne_of_lt ltS)).trans ((Heap.get?_update_other _ _ (Nat.ne_of_lt ltS)).trans (Heap.get?_push_size _ rfl))
    refine wpAny_bind (wpAny_updateSeq hS3 rfl (wpAny_pure ⟨plainId_quiet F.plain_sum_loop _, ih (i + 1) _ h'.objs.size _ 0 (by omega) lt
      ⟨st'.1.at fun o q => up I o (Ne.symm nSI) q, st'.2.at fun o q => up l o (Ne.symm nSl) q⟩ (Heap.get?_update_self _ hS3 rfl) new (Ne.symm (Nat.ne_of_lt ltS)) (Ne.symm (Nat.ne_of_lt ltI)) (fun j v hv => ?_) fun h'' tk'' t'' n'' k'' ht'' hc'' => ?_⟩))
    · obtain ⟨a2, m2, e2, n1, n2, q2⟩ := hls j v hv
      exact ⟨a2, m2, e2, n1, n2, up a2 _ n1 (kp' a2 _ n2 q2)⟩
    · refine hR h'' tk'' t'' n'' (fun b o nI nS q => k'' b o nI nS (up b o nS (kp' b o nI q))) ht'' (.inr ⟨?_, lt⟩)
      have e1 : h'.objs.size = s.heap.objs.size := sb.1
      rcases hc'' with ⟨z, _⟩ | ⟨z, _⟩
      · rw [z, e1]
        exact Nat.le_refl _
      · rw [Heap.size_update, Heap.size_update, Heap.size_push, e1] at z
        omega
end
section
variable {prog : Program} {w : World} {A : Around} {E : Value → Shared → Prop} {s : Shared}
theorem sum_lists {l t : Addr} {items : Array Value} {n : Nat} {Q : Value → Shared → Prop} (hh : A.handled = none) (b0 : Array Value) (ls : Nat → Array Value) (hl : s.heap.IsList l items) (ht : Lo s.heap t b0 n)
    (hz : ∀ i, i ≤ items.size → (accA b0 ls i).size ≤ sizeLine) (hls : ∀ j v, items[j]? = some v → ∃ a m, v = .ref a ∧ Lo s.heap a (ls j) m)
    (hQ : ∀ h' tk t' n', (∀ b o, s.heap.get? b = some o → h'.get? b = some o) → Lo h' t' (accA b0 ls items.size) n' → ((t' = t ∧ items.size = 0) ∨ s.heap.objs.size ≤ t') → Q (.ref t') { s with heap := h', toks := tk }) :
    wpAny (model prog w) A (call (.builtin "sum") [.ref l, .ref t]) Q E s := by
  refine call_function_tree F.kind_sum F.plain_sum F.entry_sum (args_sum_two _ _) ?_
  unfold Builtin.«sum»
  simp only [List.length_cons, List.length_nil]
  rw [if_neg (by decide)]
  refine wpAny_bind (wpAny_of_eq (show Builtin.Builtins.bindParams "sum" ["start"] 0 ⟨[Value.ref t], []⟩ = pure [some (.ref t)] from rfl) ?_)
  refine wpAny_bind (wpAny_pyIter_list hl ?_)
  refine wpAny_bind (wpAny_pure ?_)
  have ht1 : Lo (s.heap.push { cls := .type "list_iterator", data := .fields #[.ref l, .int 0 0] }) t b0 n := Heap.get?_push_of_some _ ht
  simp only [List.forIn_cons, List.forIn_nil]
  refine wpAny_bind (wpAny_bind (wpAny_bind (wpAny_isInstance (T := "list") (b := false) ⟨_, ht1, rfl⟩ sub_list_str ?_)))
  simp only [Bool.false_eq_true, if_false]
  refine wpAny_pure (wpAny_bind (wpAny_bind (wpAny_isInstance (T := "list") (b := false) ⟨_, ht1, rfl⟩ sub_list_bytes ?_)))
  simp only [Bool.false_eq_true, if_false]
  refine wpAny_pure (wpAny_bind (wpAny_bind (wpAny_isInstance (T := "list") (b := false) ⟨_, ht1, rfl⟩ sub_list_bytearray ?_)))
  simp only [Bool.false_eq_true, if_false]
  refine wpAny_pure (wpAny_pure ?_)
  refine wpAny_bind (wpAny_newObj_type ?_)
  have s1 : (s.heap.push { cls := .type "list_iterator", data := .fields #[.ref l, .int 0 0] }).objs.size = s.heap.objs.size + 1 := Heap.size_push ..
  have old : ∀ b o, s.heap.get? b = some o → ((s.heap.push { cls := .type "list_iterator", data := .fields #[.ref l, .int 0 0] }).push { cls := .type "list", data := .seq #[.ref t] }).get? b = some o := fun b o q => Heap.get?_push_of_some _ (Heap.get?_push_of_some _ q)
  have lt : ∀ b o, s.heap.get? b = some o → b < s.heap.objs.size := fun b o q => Heap.lt_size q
  have nl : l < s.heap.objs.size := by
    obtain ⟨o, q, _⟩ := hl
    exact lt _ _ q
  have nt := lt _ _ ht
  have far : ∀ b, b < s.heap.objs.size → b ≠ (s.heap.push { cls := .type "list_iterator", data := .fields #[.ref l, .int 0 0] }).objs.size := fun b hb z => by
    rw [s1] at z
    exact absurd (z ▸ hb) (by omega)
  refine wpAny_pure ⟨plainId_quiet F.plain_sum_loop _, sum_turns hh (Nat.ne_of_lt nl) b0 ls (s.heap.push { cls := .type "list_iterator", data := .fields #[.ref l, .int 0 0] }).objs.size (by rw [s1]; exact Nat.succ_ne_self _) (Ne.symm (far l nl)) hz items.size 0 _ t 0 n rfl (Nat.zero_le _)
    ⟨⟨_, Heap.get?_push_of_some _ (Heap.get?_push_size _ rfl), rfl, rfl⟩, (hl.push _).push _⟩ (Heap.get?_push_size _ rfl) (old _ _ ht) (far t nt) (Nat.ne_of_lt nt) (fun j v hv => ?_) fun h' tk t' n' kp hn hc => ?_⟩
  · obtain ⟨a, m, e, q⟩ := hls j v hv
    exact ⟨a, m, e, far a (lt _ _ q), Nat.ne_of_lt (lt _ _ q), old _ _ q⟩
  · refine hQ h' tk t' n' (fun b o q => kp b o ?_ ?_ (old b o q)) hn ?_
    · exact Nat.ne_of_lt (lt _ _ q)
    · exact far b (lt _ _ q)
    · rcases hc with ⟨z, z2⟩ | ⟨z, _⟩
      · exact .inl ⟨z, z2.symm⟩
      · rw [Heap.size_push, s1] at z
        exact .inr (by omega)
end
end PR
namespace PR
open PySem PySem.Spec PyProof.Rows L2
/-- sum(xs, b), xs a list of lists, b a list: all that they hold -/
def rSumL (K : PySem.W.Frag) : List V → Hp → VK → Prop := fun vs H Q => ∃ (a b : Addr) (ps : List (Addr × List V)) (b0 : List V), vs = [V.ref a, V.ref b] ∧ SqL K H a (ps.map fun p => V.ref p.1) ∧ (∀ p ∈ ps, H p.1 = some (.lst p.2)) ∧ H b = some (.lst b0) ∧
  (b0 ++ (ps.map (·.2)).flatten).length ≤ sizeLine ∧ (ps = [] → Q (.ref b) H) ∧ ∀ p, H p = none → Q (.ref p) (upd H p (.lst (b0 ++ (ps.map (·.2)).flatten)))
theorem vals_flat : ∀ {xss : List (List V)} {uss : List (List Value)}, Paired Vals xss uss → Vals xss.flatten uss.flatten
  | _, _, .nil => .nil
  | _, _, .cons r t => by
    rw [List.flatten_cons, List.flatten_cons]
    exact r.append (vals_flat t)
theorem accA_list (b0 : List Value) (uss : List (List Value)) : ∀ i, i ≤ uss.length → (accA b0.toArray (fun j => (uss.getD j []).toArray) i) = (b0 ++ (uss.take i).flatten).toArray
  | 0, _ => by simp [accA]
  | i + 1, h => by
    show accA _ _ i ++ (uss.getD i []).toArray = _
    have hi : i < uss.length := by omega
    have e : uss.take (i + 1) = uss.take i ++ [uss[i]] := by
      rw [List.take_add_one, List.getElem?_eq_getElem hi]
      rfl
    have e2 : uss.getD i [] = uss[i] := by
      rw [List.getD_eq_getElem?_getD, List.getElem?_eq_getElem hi]
      rfl
    rw [accA_list b0 uss i (by omega), e, e2, List.flatten_append, ← List.append_assoc]
    simp only [List.flatten_cons, List.flatten_nil, List.append_nil]
    simp only [List.append_toArray]
section
variable {X : Cx}
theorem cr_sumL (hc : X.calm = true) : CallR X (.builtin "sum") (rSumL X.K) := by
  intro pins s σ H vs us Q I r h
  obtain ⟨a, b, ps, b0, rfl, hs, hp, hb, hz, q0, q1⟩ := h
  obtain ⟨u1, u2, rfl, r1, r2⟩ := vals2 r
  cases r1
  cases r2
  obtain ⟨its, rel, pl, _⟩ := I.list hs
  obtain ⟨z2, bs, nb, rb, hb2⟩ := I.hok b _ hb
  -- the items' own lists, one by one
  have look : ∀ ps : List (Addr × List V), (∀ p ∈ ps, H p.1 = some (.lst p.2)) → ∃ uss : List (List Value), Paired Vals (ps.map (·.2)) uss ∧ ∀ (j : Nat) p, ps[j]? = some p → ∃ n, Lo s.heap p.1 (uss.getD j []).toArray n := by
    intro ps
    induction ps with
    | nil => exact fun _ => ⟨[], .nil, fun j p e => by simp at e⟩
    | cons p ps ih =>
      intro hh
      obtain ⟨uss, h1, h2⟩ := ih fun p' m => hh p' (List.mem_cons_of_mem _ m)
      obtain ⟨_, ws, n, rw', hw⟩ := I.hok p.1 _ (hh p List.mem_cons_self)
      refine ⟨ws :: uss, .cons rw' h1, fun j p' e => ?_⟩
      cases j with
      | zero =>
        cases e
        exact ⟨n, hw⟩
      | succ j => exact h2 j p' (by simpa using e)
  obtain ⟨uss, pu, lu⟩ := look ps hp
  have lenU : uss.length = ps.length := by
    have := Paired.length pu
    rw [List.length_map] at this
    exact this.symm
  have lenI : its.length = ps.length := by
    have := rel.length
    rw [List.length_map] at this
    exact this.symm
  have vf := vals_flat pu
  have tot : Vals (b0 ++ (ps.map (·.2)).flatten) (bs ++ uss.flatten) := rb.append vf
  have acc : ∀ i, i ≤ its.toArray.size → accA bs.toArray (fun j => (uss.getD j []).toArray) i = (bs ++ (uss.take i).flatten).toArray := fun i hi => accA_list bs uss i (by rw [lenU, ← lenI]; simpa using hi)
  have lz : (bs ++ uss.flatten).length ≤ sizeLine := by rw [← tot.length]; exact hz
  refine sum_lists (I.ok.hd hc) bs.toArray (fun j => (uss.getD j []).toArray) pl.isList hb2 (fun i hi => ?_) (fun j v hv => ?_) fun h' tk t' n' kp hn hcase => ?_
  · rw [acc i hi, List.size_toArray, List.length_append]
    rw [List.length_append] at lz
    have : ((uss.take i).flatten).length ≤ uss.flatten.length := by
      conv => rhs; rw [← List.take_append_drop i uss, List.flatten_append, List.length_append]
      omega
    omega
  · have hv' : its[j]? = some v := by simpa using hv
    have hj : j < ps.length := by
      have := (List.getElem?_eq_some_iff.mp hv').1
      omega
    obtain ⟨u, hu, ru⟩ := rel.get (i := j) (x := .ref ps[j].1) (by simp [hj])
    rw [hv'] at hu
    cases hu
    cases ru
    obtain ⟨n, q⟩ := lu j ps[j] (List.getElem?_eq_getElem hj)
    exact ⟨_, n, rfl, q⟩
  · have full : accA bs.toArray (fun j => (uss.getD j []).toArray) its.toArray.size = (bs ++ uss.flatten).toArray := by
      rw [acc _ (Nat.le_refl _), List.take_of_length_le (by rw [lenU, ← lenI]; simp)]
    rw [full] at hn
    rcases hcase with ⟨z, zn⟩ | hge
    · have e0 : ps = [] := by
        have : its.length = 0 := by simpa using zn
        exact List.eq_nil_of_length_eq_zero (by omega)
      rw [z]
      exact ⟨.ref b, H, I.kept (t' := tk) kp, rfl, q0 e0⟩
    · exact ⟨.ref t', _, I.laid (t' := tk) (h' := h') (o := .lst (b0 ++ (ps.map (·.2)).flatten)) kp hge ⟨hz, _, n', tot, hn⟩, rfl, q1 t' (I.hok.fresh hge)⟩
end
end PR
set_option maxHeartbeats 4000000
namespace PR
open PySem PySem.Spec PyProof.Rows L2
/-! data of ints -/
def iD (n : Int) : PyData := .int n
theorem lay_ints : ∀ ns : List Int, PyData.canLayAll0 (ns.map iD) = true
  | [] => rfl
  | n :: r => by
    show (PyData.canLay0 (.int n) && PyData.canLayAll0 (r.map iD)) = true
    rw [lay_ints r]
    rfl
theorem reads_ints {h : Heap} : ∀ {us : List Value} {ns : List Int}, IntsAre us ns → ∃ as, ReadsAll h us (ns.map iD) as
  | _, _, .nil => ⟨[], .nil⟩
  | _, _, .cons n t r => by
    obtain ⟨as, q⟩ := reads_ints (h := h) r
    exact ⟨_, .cons (.int n t) q⟩
theorem depth_ints (ns : List Int) : (PyData.tuple (ns.map iD)).depth ≤ 8 := by
  have : ∀ ns : List Int, PyData.depth (.tuple (ns.map iD)) ≤ 8 := by
    intro ns
    induction ns with
    | nil => decide
    | cons n r ih =>
      simp only [List.map_cons, iD, PyData.depth, PyData.depthAll] at ih ⊢
      omega
  exact this ns
/-- a tuple of int tuples, in the heap -/
def NestT (h : Heap) (v : Value) : Prop := ∃ a xs, v = .ref a ∧ IsTup h a xs ∧ xs.toList ≠ [] ∧ ∀ x ∈ xs.toList, ∃ ns, TS.TupInts h x ns
theorem NestT.keeps {h h' : Heap} {v : Value} (x : NestT h v) (k : ∀ b o, h.get? b = some o → o.cls = .type "tuple" → h'.get? b = some o) : NestT h' v := by
  obtain ⟨a, xs, e, ⟨o, ho, hc, hd⟩, ne, hx⟩ := x
  exact ⟨a, xs, e, ⟨o, k _ _ ho hc, hc, hd⟩, ne, fun y hy => let ⟨ns, t⟩ := hx y hy; ⟨ns, t.keeps k⟩⟩
section
variable {prog : Program} {w : World} {A : Around} {E : Value → Shared → Prop} {s : Shared}
theorem nest_lex {fin : Bool} (hu : A.units + 16 < cLine) : ∀ (xs ys : List Value) (i : Nat), (∀ x ∈ xs, ∃ ns, TS.TupInts s.heap x ns) → (∀ y ∈ ys, ∃ ns, TS.TupInts s.heap y ns) →
    ∃ b : Bool, PySem.W.KatLex prog w A false fin (fun r s' => s' = s ∧ r = b) (xs.zip ys) i s
  | [], _, i, _, _ => ⟨fin, PySem.W.kat_nil ⟨rfl, rfl⟩⟩
  | _ :: _, [], i, _, _ => ⟨fin, PySem.W.kat_nil ⟨rfl, rfl⟩⟩
  | x :: xs, y :: ys, i, hx, hy => by
    obtain ⟨ns, a1, v1, e1, t1, i1⟩ := hx x List.mem_cons_self
    obtain ⟨ms, a2, v2, e2, t2, i2⟩ := hy y List.mem_cons_self
    obtain ⟨b, hb⟩ := nest_lex (fin := fin) hu xs ys (i + 1) (fun z hz => hx z (List.mem_cons_of_mem _ hz)) fun z hz => hy z (List.mem_cons_of_mem _ hz)
    obtain ⟨as, r1⟩ := reads_ints (h := s.heap) i1
    obtain ⟨bs, r2⟩ := reads_ints (h := s.heap) i2
    obtain ⟨o1, q1, c1, n1, d1⟩ := id t1
    obtain ⟨o2, q2, c2, n2, d2⟩ := id t2
    have dz := depth_ints ns
    have eqb : ∀ Q : Bool → Shared → Prop, Q (PyData.eqv (.tuple (ns.map iD)) (.tuple (ms.map iD))) s → wpAny (model prog w) A (eqBool x y) Q (fun _ _ => False) s := fun Q hq => by
      rw [e1, e2]
      refine SeqAt.eqBoolOverData prog w A _ s _ _ _ _ _ _ Q (.tuple q1 c1 d1 r1) (.tuple q2 c2 d2 r2) (lay_ints ns) (lay_ints ms) ?_ hq
      omega
    cases ee : PyData.eqv (.tuple (ns.map iD)) (.tuple (ms.map iD)) with
    | true => exact ⟨b, PySem.W.kat_cons (eqb _ (by rw [ee]; exact PySem.W.kat_yes hb))⟩
    | false =>
      refine ⟨HT.lexLt ns ms, PySem.W.kat_cons (eqb _ ?_)⟩
      rw [ee]
      refine PySem.W.kat_no ?_
      show wpAny (model prog w) A (oneLt' false x y) _ _ s
      rw [e1, e2]
      exact PySem.W.kat_one _ _ (HT.lt_tupInts t1 t2 i1 i2 (by omega) ⟨rfl, rfl⟩)
theorem nest_tot {vs : List Value} (hp : ∀ v ∈ vs, NestT s.heap v) (hu : A.units + 16 < cLine) : Srt.Tot prog w A s (tuples' false) (fun p => p.1 ∈ vs) := by
  intro p q hm hm'
  obtain ⟨a, xs, e1, ⟨o, ho, hc, n, hd⟩, _, h1⟩ := hp _ hm
  obtain ⟨a', ys, e2, ⟨o', ho', hc', n', hd'⟩, _, h2⟩ := hp _ hm'
  obtain ⟨b, hb⟩ := nest_lex (prog := prog) (w := w) (fin := decide (xs.size < ys.size)) hu xs.toList ys.toList 0 h1 h2
  refine ⟨b, ?_⟩
  rw [e1, e2]
  exact PySem.W.kat_lt ho hd ho' hd' hb
theorem nest_firsts {h : Heap} : ∀ vs : List Value, (∀ v ∈ vs, NestT h v) → ∃ fs, PySem.W.KatTups h vs fs ∧ fs.length = vs.length ∧ ∀ f ∈ fs, ∃ ns, TS.TupInts h f ns
  | [], _ => ⟨[], PySem.W.KatTups.nil, rfl, fun f hf => by cases hf⟩
  | v :: vs, x => by
    obtain ⟨fs, k, hl, hi⟩ := nest_firsts vs fun u hu => x u (List.mem_cons_of_mem _ hu)
    obtain ⟨a, xs, e, ⟨o, ho, hc, n, hd⟩, ne, hx⟩ := x v List.mem_cons_self
    obtain ⟨y, ys, ey⟩ := List.exists_cons_of_ne_nil ne
    have at0 : xs[0]? = some y := by
      have z := congrArg (fun l : List Value => l[0]?) ey
      simpa using z
    refine ⟨y :: fs, e ▸ PySem.W.KatTups.cons ho hc hd at0 k, by simp [hl], fun f hf => ?_⟩
    rcases List.mem_cons.mp hf with z | z
    · exact z ▸ hx y (by rw [ey]; exact List.mem_cons_self)
    · exact hi f z
theorem nest_sortable {a : Addr} {vs : List Value} (h0 : 0 < vs.length) (hp : ∀ v ∈ vs, NestT s.heap v) (hu : A.units + 16 < cLine) (ha : ∀ o, s.heap.get? a = some o → o.cls ≠ .type "tuple") : Srt.Sortable prog w A s a vs := by
  intro h' keep
  have hp' : ∀ v ∈ vs, NestT h' v := fun v hm => (hp v hm).keeps fun b o e c => keep b o (fun z => ha o (z ▸ e) c) e
  obtain ⟨fs, h1, h2, h3⟩ := nest_firsts vs hp'
  refine ⟨tuples' false, fun Q E hq => ?_, nest_tot hp' hu⟩
  refine PySem.W.kat_kind (T := .type "tuple") h1 (by omega) (fun f hm => ?_) (by rfl) ?_
  · obtain ⟨ns, b, xs, e, ⟨o, ho, hc, n, hd⟩, _⟩ := h3 f hm
    rw [e]
    exact fun A' Q' E' s' k q => wpAny_typeOf_ref (k _ _ ho) (by rw [hc]; exact q)
  · have e : (Value.type "tuple" != Value.type "tuple") = false := by first | decide +kernel | rfl | decide
    rw [e]
    exact hq
end
section
variable {X : Cx}
/-- sorted(xs), xs a list of tuples of int tuples: these in some order -/
def rSortedN (K : PySem.W.Frag) : List V → Hp → VK → Prop := fun vs H Q => ∃ (a : Addr) (bs : List Addr), vs = [V.ref a] ∧ SqL K H a (bs.map V.ref) ∧ (∀ b ∈ bs, ∃ ks : List (Addr × List Int), ks ≠ [] ∧ SqT K H b (ks.map fun p => V.ref p.1) ∧ ∀ p ∈ ks, SqT K H p.1 (p.2.map V.int)) ∧
  ∀ (cs : List Addr) (p : Addr), cs.Perm bs → H p = none → Q (.ref p) (upd H p (.lst (cs.map V.ref)))
theorem refs_only : ∀ {bs : List Addr} {us : List Value}, Vals (bs.map V.ref) us → us = bs.map Value.ref
  | [], _, .nil => rfl
  | b :: bs, _, .cons r t => by
    cases r
    rw [refs_only t]
    rfl
theorem vals_only : ∀ bs : List Addr, Vals (bs.map V.ref) (bs.map Value.ref)
  | [] => .nil
  | b :: bs => .cons rfl (vals_only bs)
theorem cr_sortedN (hu : X.A.units + 64 < cLine) : CallR X (.builtin "sorted") (rSortedN X.K) := by
  intro pins s σ H vs us Q I r h
  obtain ⟨a, bs, rfl, hs, hb, q⟩ := h
  obtain ⟨its, rv, hl, hz⟩ := I.list hs
  rw [Vals.ref1 r]
  have e1 := refs_only rv
  have hn : ∀ v ∈ its, NestT s.heap v := fun v hv => by
    rw [e1] at hv
    obtain ⟨b, hbm, rfl⟩ := List.mem_map.mp hv
    obtain ⟨ks, ne, hk, hks⟩ := hb b hbm
    obtain ⟨ws, rw', tp, _⟩ := I.tuple hk
    have ew := refs_of_vals rw'
    refine ⟨b, ws.toArray, rfl, tp, ?_, fun y hy => ?_⟩
    · rw [ew]
      simpa using ne
    · rw [ew, List.toList_toArray] at hy
      obtain ⟨p, hp, rfl⟩ := List.mem_map.mp hy
      exact ⟨p.2, tupRaw I (hks p hp)⟩
  refine Srt.sorted_any hl.isList (by rw [← rv.length]; exact hz) (fun h2 h₁ a₁ ha₁ kk => ?_) fun out hp => ?_
  · refine nest_sortable (s := { s with heap := h₁ }) (by omega) (fun v hv => (hn v hv).keeps fun b o e _ => (kk b o e).2) ?_ fun o e => ?_
    · show X.A.units + 1 + 1 + 16 < cLine
      omega
    · have e' : some o = some (seqObj "list" its.toArray 0) := e.symm.trans ha₁
      cases e'
      exact fun c => absurd (Value.type.inj c) (by decide)
  · obtain ⟨cs, pm, eo⟩ := perm_map (f := Value.ref) hp bs e1
    obtain ⟨n, at1⟩ := sortedAll_at s.heap its out.toArray
    have hlen : (cs.map V.ref).length ≤ sizeLine := by
      rw [List.length_map, pm.length_eq]
      rw [List.length_map] at hz
      exact hz
    have hv : Vals (cs.map V.ref) out := by rw [eo]; exact vals_only cs
    exact ⟨.ref _, _, I.laid (t' := s.toks) (o := .lst (cs.map V.ref)) (fun b o e => sortedAll_old e) (Nat.le_succ _) ⟨hlen, out, n, hv, at1⟩, rfl, q cs _ pm (I.hok.fresh (Nat.le_succ _))⟩
end
end PR
set_option maxHeartbeats 400000
namespace PR
open PySem PySem.Spec PyProof.Rows L2
open Evl (Ex EvT)
/-! data, over growing heaps -/
end PR
namespace L2
open PySem PySem.Spec PyProof.Rows
open Evl (Ex EvT)
section
variable {K : PySem.W.Frag} {H H' : Hp}
mutual
theorem Dp.ex (e : Ex H H') : ∀ {v : V} {d : PyData}, Dp K H v d → Dp K H' v d
  | _, _, .non => .non
  | _, _, .bl b => .bl b
  | _, _, .int i => .int i
  | _, _, .str x => .str x
  | _, _, .lst s a => .lst (Evl.ex_l e s) (DpAll.ex e a)
  | _, _, .tup s a => .tup (Evl.ex_t e s) (DpAll.ex e a)
theorem DpAll.ex (e : Ex H H') : ∀ {vs : List V} {ds : List PyData}, DpAll K H vs ds → DpAll K H' vs ds
  | _, _, .nil => .nil
  | _, _, .cons h t => .cons (Dp.ex e h) (DpAll.ex e t)
end
theorem DpAll.len : ∀ {vs : List V} {ds : List PyData}, DpAll K H vs ds → vs.length = ds.length
  | _, _, .nil => rfl
  | _, _, .cons _ t => by rw [List.length_cons, List.length_cons, DpAll.len t]
theorem DpAll.get : ∀ {vs : List V} {ds : List PyData} {i : Nat} {d : PyData}, DpAll K H vs ds → ds[i]? = some d → ∃ v, vs[i]? = some v ∧ Dp K H v d
  | _, _, _, _, .nil, e => by simp at e
  | _, _, 0, _, .cons h _, e => by
    have e := Option.some.inj e
    subst e
    exact ⟨_, rfl, h⟩
  | _, _, i + 1, d, .cons _ t, e => by
    obtain ⟨v, h1, h2⟩ := DpAll.get (i := i) (d := d) t (by simpa using e)
    exact ⟨v, by simpa using h1, h2⟩
theorem DpAll.at_ : ∀ {vs : List V} {ds : List PyData} {i : Nat} {v : V}, DpAll K H vs ds → vs[i]? = some v → ∃ d, ds[i]? = some d ∧ Dp K H v d
  | _, _, _, _, .nil, e => by simp at e
  | _, _, 0, _, .cons h _, e => by
    have e := Option.some.inj e
    subst e
    exact ⟨_, rfl, h⟩
  | _, _, i + 1, v, .cons _ t, e => by
    obtain ⟨d, h1, h2⟩ := DpAll.at_ (i := i) (v := v) t (by simpa using e)
    exact ⟨d, by simpa using h1, h2⟩
theorem DpAll.app : ∀ {xs ys : List V} {ds es : List PyData}, DpAll K H xs ds → DpAll K H ys es → DpAll K H (xs ++ ys) (ds ++ es)
  | _, _, _, _, .nil, h => h
  | _, _, _, _, .cons a t, h => .cons a (DpAll.app t h)
theorem DpAll.drop : ∀ (n : Nat) {xs : List V} {ds : List PyData}, DpAll K H xs ds → DpAll K H (xs.drop n) (ds.drop n)
  | 0, _, _, h => h
  | _ + 1, _, _, .nil => .nil
  | n + 1, _, _, .cons _ t => DpAll.drop n t
theorem DpAll.take : ∀ (n : Nat) {xs : List V} {ds : List PyData}, DpAll K H xs ds → DpAll K H (xs.take n) (ds.take n)
  | 0, _, _, _ => .nil
  | _ + 1, _, _, .nil => .nil
  | n + 1, _, _, .cons a t => .cons a (DpAll.take n t)
theorem Dp.int_eq {v : V} {n : Int} (h : Dp K H v (.int n)) : v = .int n := by
  cases h
  rfl
theorem Dp.bl_eq {v : V} {b : Bool} (h : Dp K H v (.bool b)) : v = .bl b := by
  cases h
  rfl
theorem Dp.str_eq {v : V} {x : Str} (h : Dp K H v (.str x)) : v = .str x := by
  cases h
  rfl
theorem Dp.tup_at {v : V} {ds : List PyData} (h : Dp K H v (.tuple ds)) : ∃ a xs, v = .ref a ∧ SqT K H a xs ∧ DpAll K H xs ds := by
  cases h with
  | tup s a => exact ⟨_, _, rfl, s, a⟩
theorem Dp.lst_at {v : V} {ds : List PyData} (h : Dp K H v (.list ds)) : ∃ a xs, v = .ref a ∧ SqL K H a xs ∧ DpAll K H xs ds := by
  cases h with
  | lst s a => exact ⟨_, _, rfl, s, a⟩
theorem DpAll.ints_eq : ∀ {vs : List V} {ns : List Int}, DpAll K H vs (ns.map PyData.int) → vs = ns.map V.int
  | [], [], _ => rfl
  | _ :: _, [], h => by cases h
  | [], _ :: _, h => by cases h
  | v :: vs, n :: ns, h => by
    cases h with
    | cons a t =>
      rw [Dp.int_eq a, DpAll.ints_eq t]
      rfl
theorem DpAll.bls_eq : ∀ {vs : List V} {bs : List Bool}, DpAll K H vs (bs.map PyData.bool) → vs = bs.map V.bl
  | [], [], _ => rfl
  | _ :: _, [], h => by cases h
  | [], _ :: _, h => by cases h
  | v :: vs, n :: ns, h => by
    cases h with
    | cons a t =>
      rw [Dp.bl_eq a, DpAll.bls_eq t]
      rfl
theorem dpAll_ints (K : PySem.W.Frag) (H : Hp) : ∀ ns : List Int, DpAll K H (ns.map V.int) (ns.map PyData.int)
  | [] => .nil
  | n :: ns => .cons (.int n) (dpAll_ints K H ns)
end
end L2
namespace PR
open PySem PySem.Spec PyProof.Rows L2
open Evl (Ex EvT)
section
variable {K : PySem.W.Frag} {H H' : Hp}
/-! tuples alone -/
mutual
def tupO : PyData → Bool
  | .none => true
  | .bool _ => true
  | .int _ => true
  | .str _ => true
  | .tuple ds => tupOs ds
  | .list _ => false
  | .dict _ => false
def tupOs : List PyData → Bool
  | [] => true
  | d :: ds => tupO d && tupOs ds
end
/-- the tuples stand -/
def TEx (H H' : Hp) : Prop := ∀ b xs, Rd H b (.tup xs) → Rd H' b (.tup xs)
theorem TEx.refl (H : Hp) : TEx H H := fun _ _ h => h
theorem TEx.trans {H1 H2 H3 : Hp} (a : TEx H1 H2) (b : TEx H2 H3) : TEx H1 H3 := fun c xs h => b c xs (a c xs h)
theorem Ex.t (e : Ex H H') : TEx H H' := fun b xs h => Evl.ex_rd e h
theorem TEx.lst {a : Addr} {xs ys : List V} (h : H a = some (.lst xs)) : TEx H (upd H a (.lst ys)) := fun b zs r => by
  have n : b ≠ a := fun e => by
    subst e
    rcases r with r | ⟨o, r⟩ <;> (rw [h] at r; cases r)
  rcases r with r | ⟨o, r⟩
  · exact .inl (by rw [upd_ne n]; exact r)
  · exact .inr ⟨o, by rw [upd_ne n]; exact r⟩
theorem TEx.dct {a : Addr} {xs ys : List (Key × V)} (h : H a = some (.dK xs)) : TEx H (upd H a (.dK ys)) := fun b zs r => by
  have n : b ≠ a := fun e => by
    subst e
    rcases r with r | ⟨o, r⟩ <;> (rw [h] at r; cases r)
  rcases r with r | ⟨o, r⟩
  · exact .inl (by rw [upd_ne n]; exact r)
  · exact .inr ⟨o, by rw [upd_ne n]; exact r⟩
theorem TEx.sqt {a : Addr} {xs : List V} (e : TEx H H') (h : SqT K H a xs) : SqT K H' a xs := by
  rcases h with h | h
  · exact .inl (e a xs h)
  · exact .inr h
mutual
theorem _root_.L2.Dp.tex (e : TEx H H') : ∀ (d : PyData) {v : V}, tupO d = true → Dp K H v d → Dp K H' v d
  | .none, v, t, h => by cases h; exact .non
  | .bool b, v, t, h => by cases h; exact .bl b
  | .int n, v, t, h => by cases h; exact .int n
  | .str x, v, t, h => by cases h; exact .str x
  | .tuple ds, v, t, h => by
    have t' : tupOs ds = true := t
    cases h with
    | tup s a => exact .tup (e.sqt s) (L2.DpAll.tex e ds t' a)
  | .list ds, v, t, h => by exact absurd t (by simp [tupO])
  | .dict ds, v, t, h => by exact absurd t (by simp [tupO])
theorem _root_.L2.DpAll.tex (e : TEx H H') : ∀ (ds : List PyData) {vs : List V}, tupOs ds = true → DpAll K H vs ds → DpAll K H' vs ds
  | [], vs, t, h => by cases h; exact .nil
  | d :: ds, vs, t, h => by
    have t' : (tupO d && tupOs ds) = true := t
    rw [Bool.and_eq_true] at t'
    cases h with
    | cons a b => exact .cons (L2.Dp.tex e d t'.1 a) (L2.DpAll.tex e ds t'.2 b)
end
theorem tupOs_all : ∀ {ds : List PyData}, tupOs ds = true ↔ ∀ d ∈ ds, tupO d = true
  | [] => by simp [tupOs]
  | d :: ds => by
    show (tupO d && tupOs ds) = true ↔ _
    rw [Bool.and_eq_true, tupOs_all (ds := ds)]
    simp
/-! what evaluates to what data -/
variable {σ : L2.St} {te ta tb : TE} {tt : TT} {d e : PyData} {ds es : List PyData}
def EvD (K : PySem.W.Frag) (te : TE) (σ : L2.St) (H : Hp) (d : PyData) : Prop := ∀ H1, Ex H H1 → ∀ Q : VK, (∀ v H2, Ex H1 H2 → Dp K H2 v d → Q v H2) → te σ H1 Q
/-- a new list of data -/
def EvN (K : PySem.W.Frag) (te : TE) (σ : L2.St) (H : Hp) (ds : List PyData) : Prop := ∀ H1, Ex H H1 → ∀ Q : VK, (∀ p xs H2, H1 p = none → Ex H1 H2 → H2 p = some (.lst xs) → DpAll K H2 xs ds → Q (.ref p) H2) → te σ H1 Q
def EvDA (K : PySem.W.Frag) (ta : TA) (σ : L2.St) (H : Hp) (ds : List PyData) : Prop := ∀ H1, Ex H H1 → ∀ Q : List V → Hp → Prop, (∀ vs H2, Ex H1 H2 → DpAll K H2 vs ds → Q vs H2) → ta σ H1 Q
theorem EvD.mono (x : Ex H H') (h : EvD K te σ H d) : EvD K te σ H' d := fun H1 a Q q => h H1 (x.trans a) Q q
theorem EvN.mono (x : Ex H H') (h : EvN K te σ H ds) : EvN K te σ H' ds := fun H1 a Q q => h H1 (x.trans a) Q q
theorem EvN.dat (h : EvN K te σ H ds) : EvD K te σ H (.list ds) := fun H1 a Q q => h H1 a Q fun p xs H2 _ e2 hp hd => q _ H2 e2 (.lst (Evl.sq_of hp) hd)
theorem evd_is (h : EvD K te σ H d) (x : d = e) : EvD K te σ H e := x ▸ h
theorem evn_is (h : EvN K te σ H ds) (x : ds = es) : EvN K te σ H es := x ▸ h
theorem evd_var {i : Nat} {v : V} (h : σ[i]? = some (some v)) (hd : Dp K H v d) : EvD K (tVar i) σ H d := fun H1 x Q q => ⟨v, h, q v H1 (Ex.refl _) (hd.ex x)⟩
theorem evd_c {v : V} (hd : ∀ H, Dp K H v d) : EvD K (tC v) σ H d := fun H1 x Q q => q v H1 (Ex.refl _) (hd H1)
theorem evd_int {n : Int} : EvD K (tC (.int n)) σ H (.int n) := evd_c fun _ => .int n
theorem evd_bl {b : Bool} : EvD K (tC (.bl b)) σ H (.bool b) := evd_c fun _ => .bl b
theorem evd_non : EvD K (tC .non) σ H .none := evd_c fun _ => .non
theorem evd_str {x : Str} : EvD K (tC (.str x)) σ H (.str x) := evd_c fun _ => .str x
theorem evd_op {r : R2} {da db : PyData} (ha : EvD K ta σ H da) (hb : EvD K tb σ H db)
    (hr : ∀ H1 x y, Ex H H1 → Dp K H1 x da → Dp K H1 y db → ∀ Q : VK, (∀ v H2, Ex H1 H2 → Dp K H2 v d → Q v H2) → r x y H1 Q) : EvD K (tOp r ta tb) σ H d := fun H1 x Q q =>
  ha H1 x _ fun u H2 e2 hu => hb H2 (x.trans e2) _ fun w H3 e3 hw => hr H3 u w ((x.trans e2).trans e3) (hu.ex e3) hw Q fun v H4 e4 hv => q v H4 ((e2.trans e3).trans e4) hv
theorem evd_I0 {g : Int → Int → V} {i j : Int} (ha : EvD K ta σ H (.int i)) (hb : EvD K tb σ H (.int j)) (hg : ∀ H, Dp K H (g i j) d) : EvD K (tOp (rI0 g) ta tb) σ H d :=
  evd_op ha hb fun H1 x y _ hx hy Q q => ⟨i, j, hx.int_eq, hy.int_eq, q _ H1 (Ex.refl _) (hg H1)⟩
theorem evd_I {C : Int → Int → Prop} {g : Int → Int → V} {i j : Int} (ha : EvD K ta σ H (.int i)) (hb : EvD K tb σ H (.int j)) (hc : C i j) (hg : ∀ H, Dp K H (g i j) d) : EvD K (tOp (rI C g) ta tb) σ H d :=
  evd_op ha hb fun H1 x y _ hx hy Q q => ⟨i, j, hx.int_eq, hy.int_eq, hc, q _ H1 (Ex.refl _) (hg H1)⟩
theorem evd_eq {da db : PyData} (ha : EvD K ta σ H da) (hb : EvD K tb σ H db) (h1 : SeqAt.shaped da = true) (h2 : SeqAt.shaped db = true) : EvD K (tOp (rEqD K) ta tb) σ H (.bool (PyData.eqv da db)) :=
  evd_op ha hb fun H1 x y _ hx hy Q q => ⟨da, db, hx, hy, h1, h2, q _ H1 (Ex.refl _) (.bl _)⟩
theorem evd_ne {da db : PyData} (ha : EvD K ta σ H da) (hb : EvD K tb σ H db) (h1 : SeqAt.shaped da = true) (h2 : SeqAt.shaped db = true) : EvD K (tOp (rNeD K) ta tb) σ H (.bool (!PyData.eqv da db)) :=
  evd_op ha hb fun H1 x y _ hx hy Q q => ⟨da, db, hx, hy, h1, h2, q _ H1 (Ex.refl _) (.bl _)⟩
theorem evd_ixT {j : Nat} (ha : EvD K ta σ H (.tuple ds)) (hb : EvD K tb σ H (.int j)) (hj : ds[j]? = some d) : EvD K (tOp (rIxT K) ta tb) σ H d :=
  evd_op ha hb fun H1 x y _ hx hy Q q => by
    obtain ⟨a, xs, rfl, hs, hd⟩ := hx.tup_at
    obtain ⟨v, hv, hd2⟩ := hd.get hj
    exact ⟨a, xs, j, v, rfl, hy.int_eq, hs, atI_nat hv, q v H1 (Ex.refl _) hd2⟩
theorem evd_ixL {j : Nat} (ha : EvD K ta σ H (.list ds)) (hb : EvD K tb σ H (.int j)) (hj : ds[j]? = some d) : EvD K (tOp (rIxL K) ta tb) σ H d :=
  evd_op ha hb fun H1 x y _ hx hy Q q => by
    obtain ⟨a, xs, rfl, hs, hd⟩ := hx.lst_at
    obtain ⟨v, hv, hd2⟩ := hd.get hj
    exact ⟨a, xs, j, v, rfl, hy.int_eq, hs, atI_nat hv, q v H1 (Ex.refl _) hd2⟩
theorem flat_ints' (ns : List Int) : (ns.map V.int).all flatV = true := flat_ints ns
theorem inV_ints (n : Int) : ∀ ns : List Int, inV (.int n) (ns.map V.int) = decide (n ∈ ns)
  | [] => by simp [inV]
  | m :: ns => by
    have ih := inV_ints n ns
    unfold inV at ih ⊢
    rw [List.map_cons, List.any_cons, ih]
    have : eqV (.int m) (.int n) = decide (m = n) := by
      show (m == n) = decide (m = n)
      exact Bool.beq_eq_decide_eq m n
    rw [this]
    by_cases h : m = n
    · simp [h]
    · have h' : ¬ n = m := fun z => h z.symm
      simp [h, h']
/-- n in t, n not in t (t a tuple of ints) -/
theorem evd_in {neg : Bool} {n : Int} {ns : List Int} (ha : EvD K ta σ H (.int n)) (hb : EvD K tb σ H (.tuple (ns.map PyData.int))) : EvD K (tOp (rIn K neg) ta tb) σ H (.bool (if neg then !decide (n ∈ ns) else decide (n ∈ ns))) :=
  evd_op ha hb fun H1 x y _ hx hy Q q => by
    obtain ⟨a, xs, rfl, hs, hd⟩ := hy.tup_at
    have e1 := hd.ints_eq
    subst e1
    refine ⟨a, _, rfl, .inr hs, by rw [hx.int_eq]; rfl, flat_ints ns, ?_⟩
    rw [hx.int_eq, inV_ints]
    exact q _ H1 (Ex.refl _) (.bl _)
theorem evd_andV {a b : Bool} (h1 : EvD K ta σ H (.bool a)) (h2 : a = true → EvD K tb σ H (.bool b)) : EvD K (tAndV ta tb) σ H (.bool (a && b)) := fun H1 x Q q => h1 H1 x _ fun v H2 e2 hv => ⟨a, hv.bl_eq, by
  cases a with
  | true =>
    refine iteT ?_
    exact h2 rfl H2 (x.trans e2) Q fun v H3 e3 hd => q v H3 (e2.trans e3) hd
  | false =>
    refine iteF ?_
    exact q _ H2 e2 (.bl false)⟩
theorem evd_orV {a b : Bool} (h1 : EvD K ta σ H (.bool a)) (h2 : a = false → EvD K tb σ H (.bool b)) : EvD K (tOrV ta tb) σ H (.bool (a || b)) := fun H1 x Q q => h1 H1 x _ fun v H2 e2 hv => ⟨a, hv.bl_eq, by
  cases a with
  | true =>
    refine iteT ?_
    exact q _ H2 e2 (.bl true)
  | false =>
    refine iteF ?_
    exact h2 rfl H2 (x.trans e2) Q fun v H3 e3 hd => q v H3 (e2.trans e3) hd⟩
theorem evd_notV {a : Bool} (h1 : EvD K ta σ H (.bool a)) : EvD K (tNotV ta) σ H (.bool (!a)) := fun H1 x Q q => h1 H1 x _ fun v H2 e2 hv => ⟨a, hv.bl_eq, q _ H2 e2 (.bl _)⟩
theorem evt_test {b : Bool} (h : EvD K te σ H (.bool b)) : EvT (tTest te) σ H b := fun H1 x Q q => h H1 x _ fun v H2 e2 hv => ⟨b, hv.bl_eq, q H2 e2⟩
theorem evt_B {b : Bool} (h : EvD K te σ H (.bool b)) : EvT (tB te) σ H b := fun H1 x Q q => h H1 x _ fun v H2 e2 hv => ⟨b, hv.bl_eq, q H2 e2⟩
theorem evd_if {b : Bool} (h : EvT tt σ H b) (h1 : b = true → EvD K ta σ H d) (h2 : b = false → EvD K tb σ H d) : EvD K (tIf tt ta tb) σ H d := fun H1 x Q q => h H1 x _ fun H2 e2 => by
  cases b with
  | true => exact iteT (h1 rfl H2 (x.trans e2) Q fun v H3 e3 hd => q v H3 (e2.trans e3) hd)
  | false => exact iteF (h2 rfl H2 (x.trans e2) Q fun v H3 e3 hd => q v H3 (e2.trans e3) hd)
theorem evn_if {b : Bool} (h : EvT tt σ H b) (h1 : b = true → EvN K ta σ H ds) (h2 : b = false → EvN K tb σ H ds) : EvN K (tIf tt ta tb) σ H ds := fun H1 x Q q => h H1 x _ fun H2 e2 => by
  cases b with
  | true => exact iteT (h1 rfl H2 (x.trans e2) Q fun p xs H3 hp e3 a b => q p xs H3 (Evl.fresh_back e2 hp) (e2.trans e3) a b)
  | false => exact iteF (h2 rfl H2 (x.trans e2) Q fun p xs H3 hp e3 a b => q p xs H3 (Evl.fresh_back e2 hp) (e2.trans e3) a b)
theorem eda_nil : EvDA K tNil σ H [] := fun H1 _ Q q => q [] H1 (Ex.refl _) .nil
theorem eda_cons {tr : TA} (h : EvD K ta σ H d) (hr : EvDA K tr σ H ds) : EvDA K (tCons ta tr) σ H (d :: ds) := fun H1 x Q q =>
  h H1 x _ fun v H2 e2 hv => hr H2 (x.trans e2) _ fun vs H3 e3 hs => q _ H3 (e2.trans e3) (.cons (hv.ex e3) hs)
theorem eda_one (h : EvD K ta σ H d) : EvDA K (tCons ta tNil) σ H [d] := eda_cons h eda_nil
theorem evd_tup {t : TA} (h : EvDA K t σ H ds) (hl : ds.length ≤ 100000) : EvD K (tTup t) σ H (.tuple ds) := fun H1 x Q q =>
  h H1 x _ fun vs H2 e2 hs => ⟨Evl.sz_of (by rw [hs.len]; exact hl), fun p hp => q _ _ (e2.trans (Ex.new hp)) (.tup (Evl.st_of upd_same) (hs.ex (Ex.new hp)))⟩
theorem evn_lst {t : TA} (h : EvDA K t σ H ds) (hl : ds.length ≤ 100000) : EvN K (tLst t) σ H ds := fun H1 x Q q =>
  h H1 x _ fun vs H2 e2 hs => ⟨Evl.sz_of (by rw [hs.len]; exact hl), fun p hp => q p vs _ (Evl.fresh_back e2 hp) (e2.trans (Ex.new hp)) upd_same (hs.ex (Ex.new hp))⟩
theorem evd_cb {r : List V → Hp → VK → Prop} {t : TA} (h : EvDA K t σ H ds)
    (hr : ∀ H1 vs, Ex H H1 → DpAll K H1 vs ds → ∀ Q : VK, (∀ v H2, Ex H1 H2 → Dp K H2 v d → Q v H2) → r vs H1 Q) : EvD K (tCB r t) σ H d := fun H1 x Q q =>
  h H1 x _ fun vs H2 e2 hs => hr H2 vs (x.trans e2) hs Q fun v H3 e3 hv => q v H3 (e2.trans e3) hv
theorem evn_cb {r : List V → Hp → VK → Prop} {t : TA} (h : EvDA K t σ H ds)
    (hr : ∀ H1 vs, Ex H H1 → DpAll K H1 vs ds → ∀ Q : VK, (∀ p xs H2, H1 p = none → Ex H1 H2 → H2 p = some (.lst xs) → DpAll K H2 xs es → Q (.ref p) H2) → r vs H1 Q) : EvN K (tCB r t) σ H es := fun H1 x Q q =>
  h H1 x _ fun vs H2 e2 hs => hr H2 vs (x.trans e2) hs Q fun p xs H3 hp e3 a b => q p xs H3 (Evl.fresh_back e2 hp) (e2.trans e3) a b
theorem one_arg {vs : List V} (h : DpAll K H vs [d]) : ∃ v, vs = [v] ∧ Dp K H v d := by
  cases h with
  | cons a t =>
    cases t
    exact ⟨_, rfl, a⟩
theorem evd_lenT (h : EvD K ta σ H (.tuple ds)) : EvD K (tCB (Evl.rLenS K) (tCons ta tNil)) σ H (.int ds.length) := evd_cb (eda_one h) fun H1 vs _ hs Q q => by
  obtain ⟨v, rfl, hv⟩ := one_arg hs
  obtain ⟨a, xs, rfl, s, hd⟩ := hv.tup_at
  exact ⟨a, xs, rfl, .inr s, q _ H1 (Ex.refl _) (by rw [hd.len]; exact .int _)⟩
theorem evd_lenL (h : EvD K ta σ H (.list ds)) : EvD K (tCB (Evl.rLenS K) (tCons ta tNil)) σ H (.int ds.length) := evd_cb (eda_one h) fun H1 vs _ hs Q q => by
  obtain ⟨v, rfl, hv⟩ := one_arg hs
  obtain ⟨a, xs, rfl, s, hd⟩ := hv.lst_at
  exact ⟨a, xs, rfl, .inl s, q _ H1 (Ex.refl _) (by rw [hd.len]; exact .int _)⟩
/-- list(t), list(xs) -/
theorem evn_listT (h : EvD K ta σ H (.tuple ds)) : EvN K (tCB (Evl.rListS K) (tCons ta tNil)) σ H ds := evn_cb (eda_one h) fun H1 vs _ hs Q q => by
  obtain ⟨v, rfl, hv⟩ := one_arg hs
  obtain ⟨a, xs, rfl, s, hd⟩ := hv.tup_at
  exact ⟨a, xs, rfl, .inr s, fun l hl => q l xs _ hl (Ex.new hl) upd_same (hd.ex (Ex.new hl))⟩
theorem evn_listL (h : EvD K ta σ H (.list ds)) : EvN K (tCB (Evl.rListS K) (tCons ta tNil)) σ H ds := evn_cb (eda_one h) fun H1 vs _ hs Q q => by
  obtain ⟨v, rfl, hv⟩ := one_arg hs
  obtain ⟨a, xs, rfl, s, hd⟩ := hv.lst_at
  exact ⟨a, xs, rfl, .inl s, fun l hl => q l xs _ hl (Ex.new hl) upd_same (hd.ex (Ex.new hl))⟩
/-- tuple(xs), xs a list -/
def rTupS (K : PySem.W.Frag) : List V → Hp → VK → Prop := fun xs H Q => ∃ p ys, xs = [.ref p] ∧ ((SqL K H p ys ∧ ∀ l, H l = none → Q (.ref l) (upd H l (.tup ys))) ∨ (SqT K H p ys ∧ Q (.ref p) H))
theorem evd_tupL (h : EvD K ta σ H (.list ds)) : EvD K (tCB (rTupS K) (tCons ta tNil)) σ H (.tuple ds) := evd_cb (eda_one h) fun H1 vs _ hs Q q => by
  obtain ⟨v, rfl, hv⟩ := one_arg hs
  obtain ⟨a, xs, rfl, s, hd⟩ := hv.lst_at
  exact ⟨a, xs, rfl, .inl ⟨s, fun l hl => q _ _ (Ex.new hl) (.tup (Evl.st_of upd_same) (hd.ex (Ex.new hl)))⟩⟩
theorem evd_all {bs : List Bool} (h : EvD K ta σ H (.list (bs.map PyData.bool))) : EvD K (tCB (rAll K) (tCons ta tNil)) σ H (.bool (bs.all id)) := evd_cb (eda_one h) fun H1 vs _ hs Q q => by
  obtain ⟨v, rfl, hv⟩ := one_arg hs
  obtain ⟨a, xs, rfl, s, hd⟩ := hv.lst_at
  have e1 := hd.bls_eq
  subst e1
  exact ⟨a, bs, rfl, s, q _ H1 (Ex.refl _) (.bl _)⟩
theorem evd_any {bs : List Bool} (h : EvD K ta σ H (.list (bs.map PyData.bool))) : EvD K (tCB (rAny K) (tCons ta tNil)) σ H (.bool (bs.any id)) := evd_cb (eda_one h) fun H1 vs _ hs Q q => by
  obtain ⟨v, rfl, hv⟩ := one_arg hs
  obtain ⟨a, xs, rfl, s, hd⟩ := hv.lst_at
  have e1 := hd.bls_eq
  subst e1
  exact ⟨a, bs, rfl, s, q _ H1 (Ex.refl _) (.bl _)⟩
theorem evd_sum {ns : List Int} (h : EvD K ta σ H (.list (ns.map PyData.int))) : EvD K (tCB (rSum K) (tCons ta tNil)) σ H (.int ns.sum) := evd_cb (eda_one h) fun H1 vs _ hs Q q => by
  obtain ⟨v, rfl, hv⟩ := one_arg hs
  obtain ⟨a, xs, rfl, s, hd⟩ := hv.lst_at
  have e1 := hd.ints_eq
  subst e1
  exact ⟨a, ns, rfl, s, q _ H1 (Ex.refl _) (.int _)⟩
/-- a def whose value is a function of its arguments' data, up to res -/
def spF (K : PySem.W.Frag) (pre : List PyData → Prop) (res : List PyData → PyData → Prop) : Sp := fun vs H Q _ => ∃ ds, DpAll K H vs ds ∧ pre ds ∧ ∀ v H' d, Ex H H' → Dp K H' v d → res ds d → Q v H'
theorem evd_call {pre : List PyData → Prop} {res : List PyData → PyData → Prop} {E : XK} {t : TA} (h : EvDA K t σ H ds) (hp : pre ds) (hr : ∀ d', res ds d' → d' = d) : EvD K (tCall (spF K pre res) [] E t) σ H d := fun H1 x Q q =>
  h H1 x _ fun vs H2 e2 hs => ⟨ds, by rw [List.append_nil]; exact hs, hp, fun v H3 d' e3 hv r => q v H3 (e2.trans e3) (hr d' r ▸ hv)⟩
end
end PR
set_option maxHeartbeats 400000
namespace PR
open PySem PySem.Spec PyProof.Rows L2
open Evl (Ex EvT)
section
variable {K : PySem.W.Frag} {H H' B : Hp} {σ : L2.St} {te ta tb : TE} {tt : TT} {d e : PyData} {ds es : List PyData}
/-! lists that live: their object is at hand -/
def EvV (K : PySem.W.Frag) (te : TE) (σ : L2.St) (H : Hp) (ds : List PyData) : Prop := ∀ H1, Ex H H1 → ∀ Q : VK, (∀ p xs H2, Ex H1 H2 → H2 p = some (.lst xs) → DpAll K H2 xs ds → Q (.ref p) H2) → te σ H1 Q
theorem EvN.liv (h : EvN K te σ H ds) : EvV K te σ H ds := fun H1 a Q q => h H1 a Q fun p xs H2 _ e2 hp hd => q p xs H2 e2 hp hd
theorem EvV.dat (h : EvV K te σ H ds) : EvD K te σ H (.list ds) := fun H1 a Q q => h H1 a Q fun p xs H2 e2 hp hd => q _ H2 e2 (.lst (Evl.sq_of hp) hd)
theorem EvV.mono (x : Ex H H') (h : EvV K te σ H ds) : EvV K te σ H' ds := fun H1 a Q q => h H1 (x.trans a) Q q
theorem evv_is (h : EvV K te σ H ds) (x : ds = es) : EvV K te σ H es := x ▸ h
theorem evv_var {i : Nat} {p : Addr} {xs : List V} (h : σ[i]? = some (some (.ref p))) (hp : H p = some (.lst xs)) (hd : DpAll K H xs ds) : EvV K (tVar i) σ H ds := fun H1 x Q q =>
  ⟨.ref p, h, q p xs H1 (Ex.refl _) (x p _ hp) (hd.ex x)⟩
theorem evv_if {b : Bool} (h : EvT tt σ H b) (h1 : b = true → EvV K ta σ H ds) (h2 : b = false → EvV K tb σ H ds) : EvV K (tIf tt ta tb) σ H ds := fun H1 x Q q => h H1 x _ fun H2 e2 => by
  cases b with
  | true => exact iteT (h1 rfl H2 (x.trans e2) Q fun p xs H3 e3 a b => q p xs H3 (e2.trans e3) a b)
  | false => exact iteF (h2 rfl H2 (x.trans e2) Q fun p xs H3 e3 a b => q p xs H3 (e2.trans e3) a b)
/-- xs + ys -/
theorem evn_cat (ha : EvV K ta σ H ds) (hb : EvV K tb σ H es) (hz : ds.length + es.length ≤ 100000) : EvN K (tOp rCat ta tb) σ H (ds ++ es) := fun H1 x Q q =>
  ha H1 x _ fun p xs H2 e2 hp hd => hb H2 (x.trans e2) _ fun r ys H3 e3 hr he =>
    ⟨p, r, xs, ys, rfl, rfl, e3 p _ hp, hr, Evl.sz_of (by rw [hd.len, he.len]; exact hz), fun l hl =>
      q l _ _ (Evl.fresh_back (e2.trans e3) hl) ((e2.trans e3).trans (Ex.new hl)) upd_same (((hd.ex e3).app he).ex (Ex.new hl))⟩
theorem dpAll_rep {u : V} (h : Dp K H u d) : ∀ n : Nat, DpAll K H (List.replicate n u) (List.replicate n d)
  | 0 => .nil
  | n + 1 => .cons h (dpAll_rep h n)
/-- [x] * n -/
theorem evn_rep {n : Nat} (ha : EvV K ta σ H [d]) (hb : EvD K tb σ H (.int n)) (hz : n ≤ 100000) : EvN K (tOp rRep ta tb) σ H (List.replicate n d) := fun H1 x Q q =>
  ha H1 x _ fun p xs H2 e2 hp hd => hb H2 (x.trans e2) _ fun v H3 e3 hv => by
    obtain ⟨u, rfl, hu⟩ := one_arg hd
    refine ⟨p, n, [u], rfl, hv.int_eq, e3 p _ hp, by omega, by omega, Evl.sz_of (by simpa using hz), fun l hl => ?_⟩
    have e5 : (List.replicate (n : Int).toNat [u]).flatten = List.replicate n u := by simp
    rw [e5]
    refine q l _ _ (Evl.fresh_back (e2.trans e3) hl) ((e2.trans e3).trans (Ex.new hl)) upd_same ?_
    have e6 := (e3.trans (Ex.new (o := .lst (List.replicate n u)) hl))
    have hu' := hu.ex e6
    generalize (upd H3 l (.lst (List.replicate n u))) = H4 at hu'
    exact dpAll_rep hu' n
/-- t + u -/
theorem evd_catT (ha : EvD K ta σ H (.tuple ds)) (hb : EvD K tb σ H (.tuple es)) (hz : ds.length + es.length ≤ 100000) : EvD K (tOp (rCatA K) ta tb) σ H (.tuple (ds ++ es)) :=
  evd_op ha hb fun H1 x y e1 hx hy Q q => by
    obtain ⟨a, xs, rfl, s, hd⟩ := hx.tup_at
    obtain ⟨b, ys, rfl, s2, hd2⟩ := hy.tup_at
    refine ⟨a, b, xs, ys, rfl, rfl, s, s2, Evl.sz_of (by rw [hd.len, hd2.len]; exact hz), fun z => ?_, fun _ z => ?_, fun _ _ p hp => ?_⟩
    · subst z
      cases hd
      exact q _ H1 (Ex.refl _) (.tup s2 hd2)
    · subst z
      cases hd2
      exact q _ H1 (Ex.refl _) (.tup s (by rw [List.append_nil]; exact hd))
    · exact q _ _ (Ex.new hp) (.tup (Evl.st_of upd_same) ((hd.app hd2).ex (Ex.new hp)))
/-! slices -/
def cutG {α : Type} (xs : List α) (lo hi : Option Int) : List α := (xs.drop (HT.sIx xs.length 0 lo)).take (HT.sIx xs.length xs.length hi - HT.sIx xs.length 0 lo)
theorem cut_dp {xs : List V} (h : DpAll K H xs ds) (lo hi : Option Int) : DpAll K H (cutV xs lo hi) (cutG ds lo hi) := by
  unfold cutV cutG
  rw [h.len]
  exact (h.drop _).take _
theorem cutG_from {α : Type} (xs : List α) (k : Nat) : cutG xs (some (k : Int)) none = xs.drop k := by
  unfold cutG
  rw [HT.sIx_nat, HT.sIx_none]
  by_cases h : k ≤ xs.length
  · rw [Nat.min_eq_left h]
    exact List.take_of_length_le (by simp)
  · rw [Nat.min_eq_right (by omega), List.drop_of_length_le (Nat.le_refl _), List.drop_of_length_le (by omega)]
    simp
theorem cutG_to {α : Type} (xs : List α) (k : Nat) : cutG xs none (some (k : Int)) = xs.take k := by
  unfold cutG
  rw [HT.sIx_nat, HT.sIx_none]
  show ((xs.drop 0).take (min k xs.length - 0)) = xs.take k
  rw [List.drop_zero, Nat.sub_zero]
  by_cases h : k ≤ xs.length
  · rw [Nat.min_eq_left h]
  · rw [Nat.min_eq_right (by omega), List.take_of_length_le (Nat.le_refl _), List.take_of_length_le (by omega)]
theorem evo_some {i : Int} (h : EvD K te σ H (.int i)) : Evl.EvO (tPart te) σ H (some i) := fun H1 x Q q => h H1 x _ fun v H2 e2 hv => ⟨i, hv.int_eq, q H2 e2⟩
theorem evd_slT {tl th : TO} {lo hi : Option Int} (h : EvD K te σ H (.tuple ds)) (h1 : Evl.EvO tl σ H lo) (h2 : Evl.EvO th σ H hi) : EvD K (tSl (rSlA K) te tl th) σ H (.tuple (cutG ds lo hi)) := fun H1 x Q q =>
  h H1 x _ fun v H2 e2 hv => h1 H2 (x.trans e2) _ fun H3 e3 => h2 H3 ((x.trans e2).trans e3) _ fun H4 e4 => by
    obtain ⟨a, xs, rfl, s, hd⟩ := (hv.ex (e3.trans e4)).tup_at
    refine ⟨a, xs, rfl, s, fun w => ?_, fun _ p hp => q _ _ (((e2.trans e3).trans e4).trans (Ex.new hp)) (.tup (Evl.st_of upd_same) ((cut_dp hd lo hi).ex (Ex.new hp)))⟩
    refine q _ H4 ((e2.trans e3).trans e4) (.tup s ?_)
    have e5 : cutG ds lo hi = ds := by
      unfold cutG
      rw [← hd.len, w.1, w.2, List.drop_zero, Nat.sub_zero, hd.len]
      exact List.take_of_length_le (Nat.le_refl _)
    rw [e5]
    exact hd
theorem evn_slL {tl th : TO} {lo hi : Option Int} (h : EvD K te σ H (.list ds)) (h1 : Evl.EvO tl σ H lo) (h2 : Evl.EvO th σ H hi) : EvN K (tSl (rSlL K) te tl th) σ H (cutG ds lo hi) := fun H1 x Q q =>
  h H1 x _ fun v H2 e2 hv => h1 H2 (x.trans e2) _ fun H3 e3 => h2 H3 ((x.trans e2).trans e3) _ fun H4 e4 => by
    obtain ⟨a, xs, rfl, s, hd⟩ := (hv.ex (e3.trans e4)).lst_at
    exact ⟨a, xs, rfl, s, fun p hp => q p _ _ (Evl.fresh_back ((e2.trans e3).trans e4) hp) (((e2.trans e3).trans e4).trans (Ex.new hp)) upd_same ((cut_dp hd lo hi).ex (Ex.new hp))⟩
/-! what is walked over -/
def YD (K : PySem.W.Frag) (ds : List PyData) : Nat → Hp → V → Hp → Prop := fun i H' x H'' => Ex H' H'' ∧ ∃ d, ds[i]? = some d ∧ Dp K H'' x d
def SrcD (K : PySem.W.Frag) (J : It) (H : Hp) (ds : List PyData) : Prop := Walk J ds.length (Ex H) (YD K ds)
theorem SrcD.mono {J : It} (x : Ex H H') (h : SrcD K J H ds) : SrcD K J H' ds := Walk.mono h (fun H1 e => x.trans e) (fun _ _ _ _ _ _ y => y)
/-- the iterator, told from the base B | from where it is made -/
def EvI (K : PySem.W.Frag) (wi : TI) (σ : L2.St) (B : Hp) (ds : List PyData) : Prop := ∀ H1, Ex B H1 → ∀ Q : It → Hp → Prop, (∀ J H2, Ex H1 H2 → SrcD K J B ds → Q J H2) → wi σ H1 Q
def EvJ (K : PySem.W.Frag) (wi : TI) (σ : L2.St) (B : Hp) (ds : List PyData) : Prop := ∀ H1, Ex B H1 → ∀ Q : It → Hp → Prop, (∀ J H2, Ex H1 H2 → SrcD K J H2 ds → Q J H2) → wi σ H1 Q
variable {wi : TI}
theorem EvI.j (h : EvI K wi σ B ds) : EvJ K wi σ B ds := fun H1 x Q q => h H1 x Q fun J H2 e2 s => q J H2 e2 (s.mono (x.trans e2))
theorem EvJ.mono (x : Ex H H') (h : EvJ K wi σ H ds) : EvJ K wi σ H' ds := fun H1 a Q q => h H1 (x.trans a) Q q
theorem src_list {a : Addr} {xs : List V} (h : SqL K H a xs) (hd : DpAll K H xs ds) : SrcD K (Itl K a) H ds := by
  unfold SrcD
  rw [← hd.len]
  refine Walk.mono walk_list (fun H1 e => Evl.ex_l e h) fun i H1 x H2 _ e y => ?_
  obtain ⟨rfl, y⟩ := y
  obtain ⟨d, h1, h2⟩ := (hd.ex e).at_ y
  exact ⟨Ex.refl _, d, h1, h2⟩
theorem src_tup {a : Addr} {xs : List V} (h : SqT K H a xs) (hd : DpAll K H xs ds) : SrcD K (Itt K a) H ds := by
  unfold SrcD
  rw [← hd.len]
  refine Walk.mono walk_tup (fun H1 e => Evl.ex_t e h) fun i H1 x H2 _ e y => ?_
  obtain ⟨rfl, y⟩ := y
  obtain ⟨d, h1, h2⟩ := (hd.ex e).at_ y
  exact ⟨Ex.refl _, d, h1, h2⟩
def rngD (lo : Int) (n : Nat) : List PyData := (List.range n).map fun (i : Nat) => .int (lo + (i : Int))
theorem src_range {lo : Int} {n : Nat} : SrcD K (Itr lo n) H (rngD lo n) := by
  unfold SrcD
  rw [show (rngD lo n).length = n by simp [rngD]]
  refine Walk.mono walk_range (fun _ _ => trivial) fun i H1 x H2 hi _ y => ?_
  obtain ⟨rfl, rfl⟩ := y
  exact ⟨Ex.refl _, .int (lo + (i : Int)), by simp [rngD, hi], .int _⟩
/-- the pairs of an enumeration -/
def enD (ds : List PyData) : List PyData := ds.zipIdx.map fun p => .tuple [.int (p.2 : Int), p.1]
theorem enD_len (ds : List PyData) : (enD ds).length = ds.length := by simp [enD]
theorem enD_get {i : Nat} {d : PyData} (h : ds[i]? = some d) : (enD ds)[i]? = some (.tuple [.int (i : Int), d]) := by simp [enD, h]
theorem pair_dp {T : Addr} {x y : V} {d e : PyData} (hT : H' T = some (.tup [x, y])) (hx : Dp K H' x d) (hy : Dp K H' y e) : Dp K H' (.ref T) (.tuple [d, e]) := .tup (Evl.st_of hT) (.cons hx (.cons hy .nil))
theorem src_enum {a : Addr} {xs : List V} (h : SqL K H a xs) (hd : DpAll K H xs ds) : SrcD K (Ite K a) H (enD ds) := by
  unfold SrcD
  rw [enD_len, ← hd.len]
  refine Walk.mono walk_enum (fun H1 e => Evl.ex_l e h) fun i H1 x H2 _ e y => ?_
  obtain ⟨T, x', y', rfl, hn, rfl, e1, e2⟩ := y
  cases Option.some.inj e1
  obtain ⟨d, h1, h2⟩ := (hd.ex e).at_ e2
  exact ⟨Ex.new hn, _, enD_get h1, pair_dp upd_same (.int _) (h2.ex (Ex.new hn))⟩
theorem walk_enumT {a : Addr} {xs : List V} : Walk (IteT K a) xs.length (fun H => SqT K H a xs) (YPair (fun i => some (.int (i : Nat))) (fun i => xs[i]?)) := by
  refine ⟨fun i _ hi q => ⟨xs, xs[i], q, by simp [hi]⟩, fun _ q => ⟨xs, q, rfl⟩, fun i H v H' _ q y => ?_⟩
  obtain ⟨T, x, h1, h2, h3, h4⟩ := y
  exact ⟨T, .int (i : Nat), x, h1, h2, h3, rfl, h4 xs q⟩
theorem src_enumT {a : Addr} {xs : List V} (h : SqT K H a xs) (hd : DpAll K H xs ds) : SrcD K (IteT K a) H (enD ds) := by
  unfold SrcD
  rw [enD_len, ← hd.len]
  refine Walk.mono walk_enumT (fun H1 e => Evl.ex_t e h) fun i H1 x H2 _ e y => ?_
  obtain ⟨T, x', y', rfl, hn, rfl, e1, e2⟩ := y
  cases Option.some.inj e1
  obtain ⟨d, h1, h2⟩ := (hd.ex e).at_ e2
  exact ⟨Ex.new hn, _, enD_get h1, pair_dp upd_same (.int _) (h2.ex (Ex.new hn))⟩
def zpD (ds es : List PyData) : List PyData := (ds.zip es).map fun p => .tuple [p.1, p.2]
theorem zpD_len (ds es : List PyData) : (zpD ds es).length = min ds.length es.length := by simp [zpD]
theorem walk_zipT {a b : Addr} {xs ys : List V} {n : Nat} (hn : n = min xs.length ys.length) : Walk (RZ.ItzT K a b) n (fun H => SqT K H a xs ∧ SqT K H b ys) (YPair (fun i => xs[i]?) (fun i => ys[i]?)) := by
  subst hn
  refine ⟨fun i _ hi q => ?_, fun _ q => ⟨xs, ys, q.1, q.2, by omega⟩, fun i H v H' _ q y => ?_⟩
  · have h1 : i < xs.length := by omega
    have h2 : i < ys.length := by omega
    exact ⟨xs, ys, xs[i], ys[i], q.1, q.2, by simp [h1], by simp [h2]⟩
  · obtain ⟨T, x, z, h1, h2, h3, h4, h5⟩ := y
    exact ⟨T, x, z, h1, h2, h3, h4 xs q.1, h5 ys q.2⟩
theorem src_zipT {a b : Addr} {xs ys : List V} (h : SqT K H a xs) (h' : SqT K H b ys) (hd : DpAll K H xs ds) (he : DpAll K H ys es) : SrcD K (RZ.ItzT K a b) H (zpD ds es) := by
  unfold SrcD
  rw [zpD_len, ← hd.len, ← he.len]
  refine Walk.mono (walk_zipT rfl) (fun H1 e => ⟨Evl.ex_t e h, Evl.ex_t e h'⟩) fun i H1 x H2 _ e y => ?_
  obtain ⟨T, x', y', rfl, hn, rfl, e1, e2⟩ := y
  obtain ⟨d, h1, h2⟩ := (hd.ex e).at_ e1
  obtain ⟨d', h1', h2'⟩ := (he.ex e).at_ e2
  refine ⟨Ex.new hn, .tuple [d, d'], ?_, pair_dp upd_same (h2.ex (Ex.new hn)) (h2'.ex (Ex.new hn))⟩
  unfold zpD
  rw [List.getElem?_map, show (ds.zip es)[i]? = some (d, d') from List.getElem?_zip_eq_some.mpr ⟨h1, h1'⟩]
  rfl
/-! iterators of expressions -/
theorem evj_list (h : EvD K te σ H (.list ds)) : EvJ K (iList K te) σ H ds := fun H1 x Q q => h H1 x _ fun v H2 e2 hv => by
  obtain ⟨a, xs, rfl, s, hd⟩ := hv.lst_at
  exact ⟨a, rfl, ⟨xs, s⟩, q _ H2 e2 (src_list s hd)⟩
theorem evj_tup (h : EvD K te σ H (.tuple ds)) : EvJ K (iTup K te) σ H ds := fun H1 x Q q => h H1 x _ fun v H2 e2 hv => by
  obtain ⟨a, xs, rfl, s, hd⟩ := hv.tup_at
  exact ⟨a, rfl, ⟨xs, s⟩, q _ H2 e2 (src_tup s hd)⟩
theorem evi_listV {i : Nat} {v : V} (h : σ[i]? = some (some v)) (hv : Dp K B v (.list ds)) : EvI K (iList K (tVar i)) σ B ds := fun H1 x Q q => by
  obtain ⟨a, xs, rfl, s, hd⟩ := hv.lst_at
  exact ⟨_, h, a, rfl, ⟨xs, Evl.ex_l x s⟩, q _ H1 (Ex.refl _) (src_list s hd)⟩
theorem evi_tupV {i : Nat} {v : V} (h : σ[i]? = some (some v)) (hv : Dp K B v (.tuple ds)) : EvI K (iTup K (tVar i)) σ B ds := fun H1 x Q q => by
  obtain ⟨a, xs, rfl, s, hd⟩ := hv.tup_at
  exact ⟨_, h, a, rfl, ⟨xs, Evl.ex_t x s⟩, q _ H1 (Ex.refl _) (src_tup s hd)⟩
theorem evi_rng1 {t : TA} {n : Nat} (h : EvDA K t σ H [.int n]) (hn : n ≤ 100000) : EvI K (iRng1 t) σ H (rngD 0 n) := fun H1 x Q q => h H1 x _ fun vs H2 e2 hs => by
  obtain ⟨v, rfl, hv⟩ := one_arg hs
  refine ⟨n, by rw [hv.int_eq], by omega, by omega, ?_⟩
  rw [show ((n : Int)).toNat = n by omega]
  exact q _ H2 e2 src_range
theorem evi_rng2 {t : TA} {m n : Nat} (h : EvDA K t σ H [.int m, .int n]) (hm : m ≤ 100000) (hn : n ≤ 100000) : EvI K (iRng2 t) σ H (rngD m (n - m)) := fun H1 x Q q => h H1 x _ fun vs H2 e2 hs => by
  cases hs with
  | cons a t =>
    obtain ⟨v, rfl, hv⟩ := one_arg t
    refine ⟨m, n, by rw [a.int_eq, hv.int_eq], by omega, ?_⟩
    rw [show ((n : Int) - (m : Int)).toNat = n - m by omega]
    exact q _ H2 e2 src_range
theorem evj_enumL (h : EvD K te σ H (.list ds)) : EvJ K (iEnum K (tCons te tNil)) σ H (enD ds) := fun H1 x Q q => h H1 x _ fun v H2 e2 hv => by
  obtain ⟨a, xs, rfl, s, hd⟩ := hv.lst_at
  exact ⟨a, xs, rfl, s, q _ H2 e2 (src_enum s hd)⟩
theorem evj_enumT (h : EvD K te σ H (.tuple ds)) : EvJ K (iEnumT K (tCons te tNil)) σ H (enD ds) := fun H1 x Q q => h H1 x _ fun v H2 e2 hv => by
  obtain ⟨a, xs, rfl, s, hd⟩ := hv.tup_at
  exact ⟨a, xs, rfl, s, q _ H2 e2 (src_enumT s hd)⟩
theorem evi_enumLV {i : Nat} {v : V} (h : σ[i]? = some (some v)) (hv : Dp K B v (.list ds)) : EvI K (iEnum K (tCons (tVar i) tNil)) σ B (enD ds) := fun H1 x Q q => by
  obtain ⟨a, xs, rfl, s, hd⟩ := hv.lst_at
  exact ⟨_, h, a, xs, rfl, Evl.ex_l x s, q _ H1 (Ex.refl _) (src_enum s hd)⟩
theorem evi_enumTV {i : Nat} {v : V} (h : σ[i]? = some (some v)) (hv : Dp K B v (.tuple ds)) : EvI K (iEnumT K (tCons (tVar i) tNil)) σ B (enD ds) := fun H1 x Q q => by
  obtain ⟨a, xs, rfl, s, hd⟩ := hv.tup_at
  exact ⟨_, h, a, xs, rfl, Evl.ex_t x s, q _ H1 (Ex.refl _) (src_enumT s hd)⟩
theorem evj_zipT (h : EvD K ta σ H (.tuple ds)) (h' : EvD K tb σ H (.tuple es)) : EvJ K (RZ.iZipA K (tCons ta (tCons tb tNil))) σ H (zpD ds es) := fun H1 x Q q => h H1 x _ fun v H2 e2 hv => h' H2 (x.trans e2) _ fun u H3 e3 hu => by
  obtain ⟨a, xs, rfl, s, hd⟩ := (hv.ex e3).tup_at
  obtain ⟨b, ys, rfl, s', hd'⟩ := hu.tup_at
  exact ⟨a, b, xs, ys, rfl, .inr ⟨s, s', q _ H3 (e2.trans e3) (src_zipT s s' hd hd')⟩⟩
/-! targets -/
/-- a target takes x : whatever is left holds P -/
def TgR (g : TG) (x : V) (σ : L2.St) (H : Hp) (P : L2.St → Hp → Prop) : Prop := ∀ Q : L2.St → Hp → Prop, (∀ σ2, P σ2 H → Q σ2 H) → g x σ H Q
theorem tg_name {j : Nat} {x : V} {P : L2.St → Hp → Prop} (h : P (σ.set j (some x)) H) : TgR (gName j) x σ H P := fun Q q => q _ h
theorem tg_pair {i j : Nat} {x : V} {P : L2.St → Hp → Prop} (hx : Dp K H x (.tuple [d, e])) (h : ∀ y z, Dp K H y d → Dp K H z e → P ((σ.set i (some y)).set j (some z)) H) : TgR (gTup K 2 (gCons (gName i) (gCons (gName j) gNil))) x σ H P := fun Q q => by
  obtain ⟨a, xs, rfl, s, hd⟩ := hx.tup_at
  cases hd with
  | cons h1 t =>
    cases t with
    | cons h2 t =>
      cases t
      exact ⟨a, _, rfl, s, rfl, _, _, rfl, _, _, rfl, rfl, q _ (h _ _ h1 h2)⟩
/-! comprehensions -/
variable {g : TG} {vs : List Nat}
theorem evn_lc {F : PyData → Option PyData} (hI : EvJ K wi σ H ds) (hz : ds.length ≤ 50000) (hF : ∀ d ∈ ds, ∀ e, F d = some e → tupO e = true)
    (hg : ∀ d ∈ ds, ∀ x H1, Ex H H1 → Dp K H1 x d → TgR g x (wipe σ vs) H1 fun σ2 H2 => wipe σ2 vs = wipe σ vs ∧ EvT tt σ2 H2 (F d).isSome ∧ ∀ e, F d = some e → EvD K te σ2 H2 e) :
    EvN K (tLc wi g tt te vs) σ H (ds.filterMap F) := fun H0 x Q q => hI H0 x _ fun J H1 e1 src D hD =>
  lc_it (n := ds.length) (G := Ex H1) (Y := YD K ds) src (fun i H' => Ex H1 H' ∧ ∃ acc, H' D = some (.lst acc) ∧ DpAll K H' acc ((ds.take i).filterMap F)) ⟨Ex.new hD, [], upd_same, .nil⟩ (fun i H' _ p => p.1)
    (fun i y H2 H3 hi p hy => by
      obtain ⟨p1, acc, p2, p3⟩ := p
      obtain ⟨y1, d, y2, y3⟩ := hy
      refine hg d (List.mem_of_getElem? y2) y H3 ((x.trans e1).trans (p1.trans y1)) y3 _ fun σ2 ⟨w, ht, he⟩ => ⟨w, ?_⟩
      have tk : ds.take (i + 1) = ds.take i ++ [d] := by
        rw [List.take_add_one, y2]
        rfl
      cases hf : F d with
      | none =>
        rw [hf] at ht
        refine ht H3 (Ex.refl _) _ fun H4 e4 => iteF ?_
        refine ⟨(p1.trans y1).trans e4, acc, e4 D _ (y1 D _ p2), ?_⟩
        rw [tk, List.filterMap_append, List.filterMap_cons, hf]
        show DpAll K H4 acc (_ ++ [])
        rw [List.append_nil]
        exact p3.ex (y1.trans e4)
      | some e =>
        rw [hf] at ht
        refine ht H3 (Ex.refl _) _ fun H4 e4 => iteT ?_
        refine he e hf H4 e4 _ fun v H5 e5 hv => ⟨acc, e5 D _ (e4 D _ (y1 D _ p2)), ?_, Ex.mut (((p1.trans y1).trans e4).trans e5) hD, _, upd_same, ?_⟩
        · refine Evl.sz_lt ?_
          rw [p3.len]
          have h1 := List.length_filterMap_le F (ds.take i)
          have h2 : (ds.take i).length ≤ ds.length := by
            rw [List.length_take]
            exact Nat.min_le_right _ _
          omega
        · rw [tk, List.filterMap_append, List.filterMap_cons, hf]
          have t := TEx.lst (ys := acc ++ [v]) (e5 D _ (e4 D _ (y1 D _ p2)))
          refine DpAll.app (DpAll.tex t _ ?_ (p3.ex ((y1.trans e4).trans e5))) (.cons (Dp.tex t _ (hF d (List.mem_of_getElem? y2) e hf) hv) .nil)
          refine tupOs_all.mpr fun z hz => ?_
          obtain ⟨w, hw, hw2⟩ := List.mem_filterMap.mp hz
          exact hF w (List.mem_of_mem_take hw) z hw2)
    (fun H' p => by
      obtain ⟨p1, acc, p2, p3⟩ := p
      rw [List.take_length] at p3
      exact q D acc H' (Evl.fresh_back e1 hD) (e1.trans p1) p2 p3)
/-- target a name, no test -/
theorem evn_map {j : Nat} {F : PyData → PyData} (hI : EvJ K wi σ H ds) (hz : ds.length ≤ 50000) (hF : ∀ d ∈ ds, tupO (F d) = true) (hw : ∀ x, wipe ((wipe σ vs).set j (some x)) vs = wipe σ vs)
    (he : ∀ d ∈ ds, ∀ x H1, Ex H H1 → Dp K H1 x d → EvD K te ((wipe σ vs).set j (some x)) H1 (F d)) : EvN K (tLc wi (gName j) tYes te vs) σ H (ds.map F) := by
  refine evn_is (evn_lc (F := fun d => some (F d)) hI hz (fun d hd e h => by cases h; exact hF d hd) fun d hd x H1 e1 hx => tg_name ⟨hw x, fun H2 e2 Q q => q H2 (Ex.refl _), fun e h => by cases h; exact he d hd x H1 e1 hx⟩) ?_
  exact (List.filterMap_eq_map' (f := F)) ▸ rfl
/-- target a name, a test -/
theorem evn_filter {j : Nat} {p : PyData → Bool} (hI : EvJ K wi σ H ds) (hz : ds.length ≤ 50000) (hF : ∀ d ∈ ds, p d = true → tupO d = true) (hw : ∀ x, wipe ((wipe σ vs).set j (some x)) vs = wipe σ vs)
    (ht : ∀ d ∈ ds, ∀ x H1, Ex H H1 → Dp K H1 x d → EvT tt ((wipe σ vs).set j (some x)) H1 (p d)) (he : ∀ d ∈ ds, ∀ x H1, Ex H H1 → Dp K H1 x d → EvD K te ((wipe σ vs).set j (some x)) H1 d) : EvN K (tLc wi (gName j) tt te vs) σ H (ds.filter p) := by
  refine evn_is (evn_lc (F := fun d => if p d then some d else none) hI hz (fun d hd e h => ?_) fun d hd x H1 e1 hx => tg_name ⟨hw x, ?_, fun e h => ?_⟩) ?_
  · by_cases hp : p d = true
    · rw [if_pos hp] at h; cases h; exact hF d hd hp
    · rw [if_neg hp] at h; cases h
  · have : (if p d then some d else none).isSome = p d := by cases p d <;> rfl
    rw [this]
    exact ht d hd x H1 e1 hx
  · by_cases hp : p d = true
    · rw [if_pos hp] at h; cases h; exact he d hd x H1 e1 hx
    · rw [if_neg hp] at h; cases h
  · exact (List.filterMap_eq_filter ▸ rfl)
/-! loops -/
variable {D : Ends} {tu tz : TS}
/-- told from the base -/
theorem s_forI (hI : EvI K wi σ B ds) (x : Ex B H) (Pv : Nat → L2.St → Hp → Prop) (h0 : ∀ H1, Ex H H1 → Pv 0 σ H1) (hG : ∀ i σ' H', i ≤ ds.length → Pv i σ' H' → Ex B H')
    (hs : ∀ i d x σ' H1 H', ds[i]? = some d → Pv i σ' H1 → Ex H1 H' → Dp K H' x d → g x σ' H' fun σ2 H2 => tu { D with nx := Pv (i + 1), ct := Pv (i + 1), bk := D.nx } σ2 H2) (hd : ∀ σ' H', Pv ds.length σ' H' → D.nx σ' H') : tFor wi g tu D σ H :=
  hI H x _ fun J H1 e1 src =>
    for_it (n := ds.length) (G := Ex B) (Y := YD K ds) src Pv (h0 H1 e1) hG
      (fun i x σ' H2 H3 hi p hy => by
        obtain ⟨y1, d, y2, y3⟩ := hy
        exact hs i d x σ' H2 H3 y2 p y1 y3) hd
theorem s_forJ (hI : EvJ K wi σ H ds) (Pv : Hp → Nat → L2.St → Hp → Prop) (h0 : ∀ H1, Ex H H1 → Pv H1 0 σ H1) (hG : ∀ H1 i σ' H', i ≤ ds.length → Pv H1 i σ' H' → Ex H1 H')
    (hs : ∀ B, Ex H B → ∀ i d x σ' H1 H', ds[i]? = some d → Pv B i σ' H1 → Ex H1 H' → Dp K H' x d → g x σ' H' fun σ2 H2 => tu { D with nx := Pv B (i + 1), ct := Pv B (i + 1), bk := D.nx } σ2 H2) (hd : ∀ H1, Ex H H1 → ∀ σ' H', Pv H1 ds.length σ' H' → D.nx σ' H') : tFor wi g tu D σ H :=
  hI H (Ex.refl _) _ fun J H1 e1 src =>
    for_it (n := ds.length) (G := Ex H1) (Y := YD K ds) src (Pv H1) (h0 H1 e1) (hG H1)
      (fun i x σ' H2 H3 hi p hy => by
        obtain ⟨y1, d, y2, y3⟩ := hy
        exact hs H1 e1 i d x σ' H2 H3 y2 p y1 y3) (hd H1 e1)
theorem q_forI (hI : EvI K wi σ B ds) (x : Ex B H) (Pv : Nat → L2.St → Hp → Prop) (h0 : ∀ H1, Ex H H1 → Pv 0 σ H1) (hG : ∀ i σ' H', i ≤ ds.length → Pv i σ' H' → Ex B H')
    (hs : ∀ i d x σ' H1 H', ds[i]? = some d → Pv i σ' H1 → Ex H1 H' → Dp K H' x d → g x σ' H' fun σ2 H2 => tu { D with nx := Pv (i + 1), ct := Pv (i + 1), bk := tz D } σ2 H2) (hd : ∀ σ' H', Pv ds.length σ' H' → tz D σ' H') : tSeq (tFor wi g tu) tz D σ H :=
  s_forI (D := { D with nx := tz D }) hI x Pv h0 hG hs hd
theorem q_forJ (hI : EvJ K wi σ H ds) (Pv : Hp → Nat → L2.St → Hp → Prop) (h0 : ∀ H1, Ex H H1 → Pv H1 0 σ H1) (hG : ∀ H1 i σ' H', i ≤ ds.length → Pv H1 i σ' H' → Ex H1 H')
    (hs : ∀ B, Ex H B → ∀ i d x σ' H1 H', ds[i]? = some d → Pv B i σ' H1 → Ex H1 H' → Dp K H' x d → g x σ' H' fun σ2 H2 => tu { D with nx := Pv B (i + 1), ct := Pv B (i + 1), bk := tz D } σ2 H2) (hd : ∀ H1, Ex H H1 → ∀ σ' H', Pv H1 ds.length σ' H' → tz D σ' H') : tSeq (tFor wi g tu) tz D σ H :=
  s_forJ (D := { D with nx := tz D }) hI Pv h0 hG hs hd
/-! statements -/
theorem q_asgD {i : Nat} (h : EvD K te σ H d) (k : ∀ v H1, Ex H H1 → Dp K H1 v d → tz D (σ.set i (some v)) H1) : tSeq (tAsg te (gName i)) tz D σ H := h H (Ex.refl H) _ k
theorem q_asgN {i : Nat} (h : EvN K te σ H ds) (k : ∀ p xs H1, H p = none → Ex H H1 → H1 p = some (.lst xs) → DpAll K H1 xs ds → tz D (σ.set i (some (.ref p))) H1) : tSeq (tAsg te (gName i)) tz D σ H := h H (Ex.refl H) _ k
theorem q_asgV {i : Nat} (h : EvV K te σ H ds) (k : ∀ p xs H1, Ex H H1 → H1 p = some (.lst xs) → DpAll K H1 xs ds → tz D (σ.set i (some (.ref p))) H1) : tSeq (tAsg te (gName i)) tz D σ H := h H (Ex.refl H) _ k
theorem s_asgD {i : Nat} (h : EvD K te σ H d) (k : ∀ v H1, Ex H H1 → Dp K H1 v d → D.nx (σ.set i (some v)) H1) : tAsg te (gName i) D σ H := h H (Ex.refl H) _ k
theorem s_asgN {i : Nat} (h : EvN K te σ H ds) (k : ∀ p xs H1, H p = none → Ex H H1 → H1 p = some (.lst xs) → DpAll K H1 xs ds → D.nx (σ.set i (some (.ref p))) H1) : tAsg te (gName i) D σ H := h H (Ex.refl H) _ k
theorem s_asgV {i : Nat} (h : EvV K te σ H ds) (k : ∀ p xs H1, Ex H H1 → H1 p = some (.lst xs) → DpAll K H1 xs ds → D.nx (σ.set i (some (.ref p))) H1) : tAsg te (gName i) D σ H := h H (Ex.refl H) _ k
theorem s_retD (h : EvD K te σ H d) (k : ∀ v H1, Ex H H1 → Dp K H1 v d → D.rt v H1) : tRet te D σ H := h H (Ex.refl H) _ k
theorem s_retN (h : EvN K te σ H ds) (k : ∀ p xs H1, H p = none → Ex H H1 → H1 p = some (.lst xs) → DpAll K H1 xs ds → D.rt (.ref p) H1) : tRet te D σ H := h H (Ex.refl H) _ k
theorem s_retV (h : EvV K te σ H ds) (k : ∀ p xs H1, Ex H H1 → H1 p = some (.lst xs) → DpAll K H1 xs ds → D.rt (.ref p) H1) : tRet te D σ H := h H (Ex.refl H) _ k
/-- l.append(x) -/
theorem s_appD {l : Addr} {xs : List V} (hl : H l = some (.lst xs)) (ha : Evl.Ev ta σ H (.ref l)) (h : EvD K te σ H d) (hz : xs.length < 100000) (k : ∀ v H1, Ex H H1 → Dp K H1 v d → D.nx σ (upd H1 l (.lst (xs ++ [v])))) :
    tDrop (tBM K "list" rAppend ta (tCons te tNil)) D σ H := ha H (Ex.refl H) _ fun H1 e1 =>
  ⟨Or.inl ⟨rfl, xs, Evl.sq_of (e1 l _ hl)⟩, h H1 e1 _ fun v H2 e2 hv => ⟨l, xs, v, rfl, rfl, e2 l _ (e1 l _ hl), Evl.sz_lt hz, k v H2 (e1.trans e2) hv⟩⟩
theorem q_appD {l : Addr} {xs : List V} (hl : H l = some (.lst xs)) (ha : Evl.Ev ta σ H (.ref l)) (h : EvD K te σ H d) (hz : xs.length < 100000) (k : ∀ v H1, Ex H H1 → Dp K H1 v d → tz D σ (upd H1 l (.lst (xs ++ [v])))) :
    tSeq (tDrop (tBM K "list" rAppend ta (tCons te tNil))) tz D σ H := s_appD (D := { D with nx := tz D }) hl ha h hz k
end
end PR
set_option maxHeartbeats 400000
namespace PR
open PySem PySem.Spec PyProof.Rows L2
open Evl (Ex EvT)
def top (i : Nat) : Stmt := PySem.Challenge.pw_parkedrows_k33_whole_complements_meets_a.main.body.getD i (.Pass ⟨0, 0, 0, 0⟩)
abbrev FnP (K : PySem.W.Frag) (x : Str) (st : Stmt) (f : Addr) (fd : FuncData) : Prop := FunD K x x (defArgs st) (defBody st) (defScope st) [] [] f fd
/-- x is the def at top i -/
def IsD (K : PySem.W.Frag) (mg : Str → Option Value) (x : Str) (i : Nat) : Prop := ∃ f fd, FnP K x (top i) f fd ∧ mg x = some (.ref f)
/-- x keeps a promise -/
def Has (P : Program) (w : World) (K : PySem.W.Frag) (mg : Str → Option Value) (base : Heap) (CX : CXT) (k : Nat) (x : Str) (ps : List Str) (sp : Sp) : Prop :=
  ∃ f fd, FnOk P w K mg base CX k f fd ps sp ∧ mg x = some (.ref f) ∧ PySem.W.keepIn K (.ref f) = true ∧ Binds K fd ps []
/-- the builtins are as they were -/
structure Fr (mg : Str → Option Value) : Prop where
  f_isinstance : mg "isinstance" = none
  f_int : mg "int" = none
  f_bool : mg "bool" = none
  f_tuple : mg "tuple" = none
  f_list : mg "list" = none
  f_len : mg "len" = none
  f_all : mg "all" = none
  f_any : mg "any" = none
  f_set : mg "set" = none
  f_sorted : mg "sorted" = none
  f_sum : mg "sum" = none
  f_range : mg "range" = none
  f_zip : mg "zip" = none
  f_enumerate : mg "enumerate" = none
  f_abs : mg "abs" = none
  f_dict : mg "dict" = none
  f_str : mg "str" = none
  cars : ∃ t, mg "CARS" = some (.int 12 t)
  far : ∃ t, mg "FAR_STEPS" = some (.int 1000 t)
section
variable {P : Program} {w : World} {K : PySem.W.Frag} {mg : Str → Option Value} {base : Heap}
theorem Has.imp {CX : CXT} {k : Nat} {x : Str} {ps : List Str} {sp sp' : Sp} (h : Has P w K mg base CX k x ps sp) (i : ∀ vs H Q E, sp' vs H Q E → sp vs H Q E) : Has P w K mg base CX k x ps sp' := by
  obtain ⟨f, fd, a, b, c, d⟩ := h
  exact ⟨f, fd, a.imp i, b, c, d⟩
theorem pe_fn {X : Cx} {CX : CXT} {k j : Nat} {x : Str} {ps : List Str} {sp : Sp} {E : XK} {p pos : Pos} {e : Expr} {es : List Expr} {t : TA} (h : Has X.prog X.w X.K X.mg X.base CX k x ps sp) (hr : Room j X.A) (hk : k ≤ j) (hg : Gl X x) (hx : Passes CX X E) (ha : PA X (e :: es) t)
    (hdb : (x == ("__debug__" : Str)) = false := by decide) (he : starEach (e :: es) X.env = (false, eval e X.env) :: starEach es X.env := by rfl) (hpl : (backTo pos (starEach es X.env)).any (·.1) = false := by rfl) :
    PE X (.Call (.Name x p) (e :: es) [] pos) (tCall sp [] E t) := by
  obtain ⟨f, fd, F, hm, kp, b⟩ := h
  exact pe_call F (hr.mono hk) hg hm kp b .nil hx ha hdb he hpl
theorem pe_fn0 {X : Cx} {CX : CXT} {k j : Nat} {x : Str} {ps : List Str} {sp : Sp} {E : XK} {p pos : Pos} (h : Has X.prog X.w X.K X.mg X.base CX k x ps sp) (hr : Room j X.A) (hk : k ≤ j) (hg : Gl X x) (hx : Passes CX X E)
    (hdb : (x == ("__debug__" : Str)) = false := by decide) : PE X (.Call (.Name x p) [] [] pos) (tCall sp [] E tNil) := by
  obtain ⟨f, fd, F, hm, kp, b⟩ := h
  exact pe_call0 F (hr.mono hk) hg hm kp b .nil hx hdb
theorem mk_has {CX : CXT} {k i : Nat} {x : Str} {ps N : List Str} {sp : Sp} (D : IsD K mg x i) (S : FnScope N ps (defScope (top i)))
    (hb : ∀ (kV doc pm : Value) (an : Option Addr) (cdv ct : Value) (us : List Value), us.length = ps.length → bindArgs (PySem.W.fnOf x x (defArgs (top i)) (defBody (top i)) (defScope (top i)) .none kV doc pm an cdv ct) ⟨us, []⟩ = pure (ps.zip us))
    (len : ∀ vs H Q E, sp vs H Q E → vs.length = ps.length)
    (h : ∀ (f : Addr) (cdv : Value) (A : Around) (outer : List Env) (s : Shared) (H : Hp) (vs : List V) (Q : VK) (E : XK), Room k (A.deeper (envOfC x (defScope (top i)) s.heap.objs.size f cdv)) → sp vs H Q E →
      ∃ t, PSs (cxOf CX P w K mg base N x (defScope (top i)) f cdv A outer s H E) (defBody (top i)) t ∧ t { nx := fun _ H' => Q .non H', rt := Q } (start N vs) H) : Has P w K mg base CX (k + 1) x ps sp := by
  obtain ⟨f, fd, F, m⟩ := D
  exact ⟨f, fd, F.ok S len fun cdv A outer s H vs Q E hr hs => h f cdv A outer s H vs Q E hr hs, m, F.kp, F.bindsN hb⟩
end
/-- a promise: the arguments' data, then the value's data -/
def spD (K : PySem.W.Frag) (n : Nat) (pre : List PyData → PyData → Prop) : Sp := fun vs H Q _ => vs.length = n ∧ ∃ ds d, DpAll K H vs ds ∧ pre ds d ∧ ∀ v H', Ex H H' → Dp K H' v d → Q v H'
/-- a promise: the value is a list that lives -/
def spL (K : PySem.W.Frag) (n : Nat) (pre : List PyData → List PyData → Prop) : Sp := fun vs H Q _ => vs.length = n ∧ ∃ ds es, DpAll K H vs ds ∧ pre ds es ∧ ∀ p xs H', Ex H H' → H' p = some (.lst xs) → DpAll K H' xs es → Q (.ref p) H'
section
variable {K : PySem.W.Frag} {σ : L2.St} {H : Hp} {t : TA} {n : Nat} {E : XK} {ds es : List PyData} {d : PyData}
theorem evd_fn {pre : List PyData → PyData → Prop} (h : EvDA K t σ H ds) (hn : ds.length = n) (hp : pre ds d) : EvD K (tCall (spD K n pre) [] E t) σ H d := fun H1 x Q q =>
  h H1 x _ fun vs H2 e2 hs => ⟨by rw [List.append_nil, hs.len, hn], ds, d, by rw [List.append_nil]; exact hs, hp, fun v H3 e3 hv => q v H3 (e2.trans e3) hv⟩
theorem evv_fn {pre : List PyData → List PyData → Prop} (h : EvDA K t σ H ds) (hn : ds.length = n) (hp : pre ds es) : EvV K (tCall (spL K n pre) [] E t) σ H es := fun H1 x Q q =>
  h H1 x _ fun vs H2 e2 hs => ⟨by rw [List.append_nil, hs.len, hn], ds, es, by rw [List.append_nil]; exact hs, hp, fun p xs H3 e3 hp hv => q p xs H3 (e2.trans e3) hp hv⟩
theorem arg1 {vs : List V} (h : DpAll K H vs [d]) : ∃ v, vs = [v] ∧ Dp K H v d := one_arg h
theorem arg2 {vs : List V} {e : PyData} (h : DpAll K H vs [d, e]) : ∃ v u, vs = [v, u] ∧ Dp K H v d ∧ Dp K H u e := by
  cases h with
  | cons a t =>
    obtain ⟨u, rfl, hu⟩ := one_arg t
    exact ⟨_, u, rfl, a, hu⟩
theorem arg3 {vs : List V} {e f : PyData} (h : DpAll K H vs [d, e, f]) : ∃ v u x, vs = [v, u, x] ∧ Dp K H v d ∧ Dp K H u e ∧ Dp K H x f := by
  cases h with
  | cons a t =>
    obtain ⟨u, x, rfl, hu, hx⟩ := arg2 t
    exact ⟨_, u, x, rfl, a, hu, hx⟩
end
end PR
set_option maxHeartbeats 4000000
namespace PR
/-! relations of partings -/
abbrev Part := List (List Nat)
def Same (p : Part) (x y : Nat) : Prop := ∃ l ∈ p, x ∈ l ∧ y ∈ l
def headN (l : List Nat) : Nat := l.headD 0
structure Parts (n : Nat) (p : Part) : Prop where
  ne : ∀ l ∈ p, l ≠ []
  asc : ∀ l ∈ p, l.Pairwise (· < ·)
  bd : ∀ l ∈ p, ∀ x ∈ l, x < n
  cov : ∀ x, x < n → ∃ l ∈ p, x ∈ l
  dis : p.Pairwise (fun a b => ∀ x, x ∈ a → x ∉ b)
structure Canon (n : Nat) (p : Part) : Prop where
  parts : Parts n p
  srt : p.Pairwise (fun a b => headN a < headN b)
structure Eqv (n : Nat) (R : Nat → Nat → Prop) : Prop where
  lt : ∀ x y, R x y → x < n
  rfl' : ∀ x, x < n → R x x
  sym : ∀ x y, R x y → R y x
  tr : ∀ x y z, R x y → R y z → R x z
theorem Eqv.lt2 {n : Nat} {R : Nat → Nat → Prop} (E : Eqv n R) {x y : Nat} (h : R x y) : y < n := E.lt y x (E.sym x y h)
def NC (R : Nat → Nat → Prop) : Prop := ∀ a b c d, a < b → b < c → c < d → R a c → R b d → R a b
theorem sorted_ext : ∀ {l m : List Nat}, l.Pairwise (· < ·) → m.Pairwise (· < ·) → (∀ x, x ∈ l ↔ x ∈ m) → l = m
  | [], [], _, _, _ => rfl
  | [], b :: m, _, _, h => absurd ((h b).mpr (List.mem_cons_self ..)) (by simp)
  | a :: l, [], _, _, h => absurd ((h a).mp (List.mem_cons_self ..)) (by simp)
  | a :: l, b :: m, hl, hm, h => by
    have hl' := List.pairwise_cons.mp hl
    have hm' := List.pairwise_cons.mp hm
    have e : a = b := by
      have h1 := (h a).mp (List.mem_cons_self ..)
      have h2 := (h b).mpr (List.mem_cons_self ..)
      rcases List.mem_cons.mp h1 with h1 | h1
      · exact h1
      · rcases List.mem_cons.mp h2 with h2 | h2
        · exact h2.symm
        · have := hl'.1 b h2
          have := hm'.1 a h1
          omega
    subst e
    congr 1
    refine sorted_ext hl'.2 hm'.2 fun x => ?_
    constructor
    · intro hx
      have := (h x).mp (List.mem_cons_of_mem _ hx)
      rcases List.mem_cons.mp this with e | e
      · subst e
        exact absurd (hl'.1 x hx) (Nat.lt_irrefl _)
      · exact e
    · intro hx
      have := (h x).mpr (List.mem_cons_of_mem _ hx)
      rcases List.mem_cons.mp this with e | e
      · subst e
        exact absurd (hm'.1 x hx) (Nat.lt_irrefl _)
      · exact e
theorem headN_mem {l : List Nat} (h : l ≠ []) : headN l ∈ l := by
  cases l with
  | nil => exact absurd rfl h
  | cons a r => exact List.mem_cons_self ..
theorem headN_le {l : List Nat} (h : l.Pairwise (· < ·)) {x : Nat} (hx : x ∈ l) : headN l ≤ x := by
  cases l with
  | nil => cases hx
  | cons a r =>
    rcases List.mem_cons.mp hx with e | e
    · subst e; exact Nat.le_refl _
    · exact Nat.le_of_lt ((List.pairwise_cons.mp h).1 x e)
theorem pw_mem {α : Type} {R : α → α → Prop} : ∀ {l : List α}, l.Pairwise R → ∀ {a b : α}, a ∈ l → b ∈ l → a = b ∨ R a b ∨ R b a
  | [], _, _, _, h, _ => by cases h
  | x :: l, hp, a, b, ha, hb => by
    have hp' := List.pairwise_cons.mp hp
    rcases List.mem_cons.mp ha with e | ha2
    · rcases List.mem_cons.mp hb with e' | hb2
      · exact .inl (e.trans e'.symm)
      · rw [e]; exact .inr (.inl (hp'.1 b hb2))
    · rcases List.mem_cons.mp hb with e' | hb2
      · rw [e']; exact .inr (.inr (hp'.1 a ha2))
      · exact pw_mem hp'.2 ha2 hb2
/-- the lot of a point is one -/
theorem Parts.uniq {n : Nat} {p : Part} (h : Parts n p) {a b : List Nat} {x : Nat} (ha : a ∈ p) (hb : b ∈ p) (xa : x ∈ a) (xb : x ∈ b) : a = b := by
  rcases pw_mem h.dis ha hb with e | e | e
  · exact e
  · exact absurd xb (e x xa)
  · exact absurd xa (e x xb)
theorem Parts.eqv {n : Nat} {p : Part} (h : Parts n p) : Eqv n (Same p) where
  lt := fun x y ⟨l, hl, hx, _⟩ => h.bd l hl x hx
  rfl' := fun x hx => let ⟨l, hl, hm⟩ := h.cov x hx; ⟨l, hl, hm, hm⟩
  sym := fun x y ⟨l, hl, hx, hy⟩ => ⟨l, hl, hy, hx⟩
  tr := fun x y z ⟨l, hl, hx, hy⟩ ⟨m, hm, hy', hz⟩ => by
    have e := h.uniq hl hm hy hy'
    subst e
    exact ⟨l, hl, hx, hz⟩
theorem Parts.mem_iff {n : Nat} {p : Part} (h : Parts n p) {l : List Nat} (hl : l ∈ p) {x : Nat} (hx : x ∈ l) (y : Nat) : y ∈ l ↔ Same p x y := by
  constructor
  · exact fun hy => ⟨l, hl, hx, hy⟩
  · rintro ⟨m, hm, hx', hy⟩
    rw [h.uniq hl hm hx hx']
    exact hy
noncomputable def dcd (P : Prop) : Bool := @decide P (Classical.propDecidable P)
theorem dcd_iff {P : Prop} : dcd P = true ↔ P := by
  unfold dcd
  exact @decide_eq_true_iff P (Classical.propDecidable P)
/-- the lots of a relation, ascending -/
noncomputable def classes (n : Nat) (R : Nat → Nat → Prop) : Part :=
  ((List.range n).filter fun x => dcd (∀ y, y < x → ¬ R x y)).map fun x => (List.range n).filter fun y => dcd (R x y)
theorem range_pw (n : Nat) : (List.range n).Pairwise (· < ·) := List.pairwise_lt_range
theorem classes_canon {n : Nat} {R : Nat → Nat → Prop} (E : Eqv n R) : Canon n (classes n R) ∧ ∀ x y, Same (classes n R) x y ↔ R x y := by
  have hm : ∀ l, l ∈ classes n R ↔ ∃ x, x < n ∧ (∀ y, y < x → ¬ R x y) ∧ l = (List.range n).filter fun y => dcd (R x y) := fun l => by
    unfold classes
    rw [List.mem_map]
    constructor
    · rintro ⟨x, hx, e⟩
      rw [List.mem_filter, List.mem_range, dcd_iff] at hx
      exact ⟨x, hx.1, hx.2, e.symm⟩
    · rintro ⟨x, h1, h2, e⟩
      exact ⟨x, by rw [List.mem_filter, List.mem_range, dcd_iff]; exact ⟨h1, h2⟩, e.symm⟩
  have hin : ∀ x y, y ∈ ((List.range n).filter fun y => dcd (R x y)) ↔ R x y := fun x y => by
    rw [List.mem_filter, List.mem_range, dcd_iff]
    exact ⟨fun h => h.2, fun h => ⟨E.lt2 h, h⟩⟩
  have least : ∀ k x, x < n → x ≤ k → ∃ m, m < n ∧ R m x ∧ ∀ y, y < m → ¬ R m y := by
    intro k
    induction k with
    | zero =>
      intro x hx hk
      exact ⟨x, hx, E.rfl' x hx, fun y hy => absurd hy (by omega)⟩
    | succ k ih =>
      intro x hx hk
      by_cases h : ∀ y, y < x → ¬ R x y
      · exact ⟨x, hx, E.rfl' x hx, h⟩
      · have ⟨y, hy⟩ : ∃ y, ¬ (y < x → ¬ R x y) := Classical.not_forall.mp h
        have h1 : y < x := Classical.byContradiction fun z => hy fun q => absurd q z
        have h2 : R x y := Classical.byContradiction fun z => hy fun _ => z
        obtain ⟨m, hm1, hm2, hm3⟩ := ih y (by omega) (by omega)
        exact ⟨m, hm1, E.tr m y x hm2 (E.sym x y h2), hm3⟩
  have heads : ∀ x, x < n → (∀ y, y < x → ¬ R x y) → headN ((List.range n).filter fun y => dcd (R x y)) = x := by
    intro x hx hl
    have hmem : x ∈ ((List.range n).filter fun y => dcd (R x y)) := (hin x x).mpr (E.rfl' x hx)
    have hne : ((List.range n).filter fun y => dcd (R x y)) ≠ [] := fun e => by rw [e] at hmem; cases hmem
    have pw : ((List.range n).filter fun y => dcd (R x y)).Pairwise (· < ·) := (range_pw n).filter _
    have h1 := headN_le pw hmem
    have h2 : R x (headN ((List.range n).filter fun y => dcd (R x y))) := (hin _ _).mp (headN_mem hne)
    rcases Nat.lt_or_ge (headN ((List.range n).filter fun y => dcd (R x y))) x with h3 | h3
    · exact absurd h2 (hl _ h3)
    · omega
  refine ⟨⟨⟨fun l hl => ?_, fun l hl => ?_, fun l hl x hx => ?_, fun x hx => ?_, ?_⟩, ?_⟩, fun x y => ?_⟩
  · obtain ⟨x, h1, h2, e⟩ := (hm l).mp hl
    intro z
    have : x ∈ l := by rw [e]; exact (hin x x).mpr (E.rfl' x h1)
    rw [z] at this; cases this
  · obtain ⟨x, h1, h2, e⟩ := (hm l).mp hl
    rw [e]
    exact (range_pw n).filter _
  · obtain ⟨z, h1, h2, e⟩ := (hm l).mp hl
    rw [e] at hx
    exact List.mem_range.mp (List.mem_filter.mp hx).1
  · obtain ⟨m, h1, h2, h3⟩ := least x x hx (Nat.le_refl _)
    exact ⟨_, (hm _).mpr ⟨m, h1, h3, rfl⟩, (hin m x).mpr h2⟩
  · unfold classes
    rw [List.pairwise_map]
    refine List.Pairwise.imp_of_mem (R := (· < ·)) ?_ ((range_pw n).filter _)
    intro a b ha hb hab x hxa hxb
    have ra : R a x := by
      exact dcd_iff.mp (List.mem_filter.mp hxa).2
    have rb : R b x := by
      exact dcd_iff.mp (List.mem_filter.mp hxb).2
    have hb2 := (List.mem_filter.mp hb).2
    rw [dcd_iff] at hb2
    exact hb2 a hab (E.tr b x a rb (E.sym a x ra))
  · unfold classes
    rw [List.pairwise_map]
    refine List.Pairwise.imp_of_mem (R := (· < ·)) ?_ ((range_pw n).filter _)
    intro a b ha hb hab
    have h1 := List.mem_filter.mp ha
    have h2 := List.mem_filter.mp hb
    rw [List.mem_range, dcd_iff] at h1 h2
    have e1 := heads a h1.1 h1.2
    have e2 := heads b h2.1 h2.2
    rw [e1, e2]
    exact hab
  · constructor
    · rintro ⟨l, hl, hx, hy⟩
      obtain ⟨z, h1, h2, e⟩ := (hm l).mp hl
      rw [e] at hx hy
      exact E.tr x z y (E.sym _ _ ((hin z x).mp hx)) ((hin z y).mp hy)
    · intro h
      obtain ⟨m, h1, h2, h3⟩ := least x x (E.lt x y h) (Nat.le_refl _)
      exact ⟨_, (hm _).mpr ⟨m, h1, h3, rfl⟩, (hin m x).mpr h2, (hin m y).mpr (E.tr m x y h2 h)⟩
theorem Canon.eq_classes {n : Nat} {p : Part} (h : Canon n p) : p = classes n (Same p) := by
  have E := h.parts.eqv
  have e1 : p.map headN = (List.range n).filter fun x => dcd (∀ y, y < x → ¬ Same p x y) := by
    refine sorted_ext (List.pairwise_map.mpr h.srt) ((range_pw n).filter _) fun x => ?_
    rw [List.mem_map, List.mem_filter, List.mem_range, dcd_iff]
    constructor
    · rintro ⟨l, hl, rfl⟩
      have hm := headN_mem (h.parts.ne l hl)
      refine ⟨h.parts.bd l hl _ hm, fun y hy hs => ?_⟩
      have := (h.parts.mem_iff hl hm y).mpr hs
      have := headN_le (h.parts.asc l hl) this
      omega
    · rintro ⟨hx, hl⟩
      obtain ⟨l, hl', hm⟩ := h.parts.cov x hx
      refine ⟨l, hl', ?_⟩
      have h1 := headN_le (h.parts.asc l hl') hm
      have h2 := headN_mem (h.parts.ne l hl')
      rcases Nat.lt_or_ge (headN l) x with h3 | h3
      · exact absurd ⟨l, hl', hm, h2⟩ (hl _ h3)
      · omega
  have e2 : p = (p.map headN).map fun x => (List.range n).filter fun y => dcd (Same p x y) := by
    rw [List.map_map]
    have : p.map id = p.map ((fun x => (List.range n).filter fun y => dcd (Same p x y)) ∘ headN) := by
      refine List.map_congr_left fun l hl => ?_
      show l = (List.range n).filter fun y => dcd (Same p (headN l) y)
      refine sorted_ext (h.parts.asc l hl) ((range_pw n).filter _) fun x => ?_
      rw [List.mem_filter, List.mem_range, dcd_iff, h.parts.mem_iff hl (headN_mem (h.parts.ne l hl)) x]
      exact ⟨fun q => ⟨E.lt2 q, q⟩, fun q => q.2⟩
    rw [List.map_id] at this
    exact this
  have e3 : classes n (Same p) = (p.map headN).map fun x => (List.range n).filter fun y => dcd (Same p x y) := by
    rw [e1]
    rfl
  rw [e3]
  exact e2
/-- a parting is told by its relation -/
theorem canon_ext {n : Nat} {p q : Part} (hp : Canon n p) (hq : Canon n q) (h : ∀ x y, Same p x y ↔ Same q x y) : p = q := by
  have e : Same p = Same q := by
    funext x y
    exact propext (h x y)
  rw [hp.eq_classes, hq.eq_classes, e]
end PR
set_option maxHeartbeats 4000000
namespace PR
/-! complements -/
def sep (x y z : Nat) : Bool := decide (z ≤ x) != decide (z ≤ y)
def sep' (x y z : Nat) : Bool := decide (z < x) != decide (z < y)
/-- the complement's relation: what lies behind x, up to y, is lots of R -/
def KR (n : Nat) (R : Nat → Nat → Prop) (x y : Nat) : Prop := x < n ∧ y < n ∧ ∀ a b, R a b → sep x y a = sep x y b
def SR (n : Nat) (R : Nat → Nat → Prop) (x y : Nat) : Prop := x < n ∧ y < n ∧ ∀ a b, R a b → sep' x y a = sep' x y b
theorem sep_self (x z : Nat) : sep x x z = false := by simp [sep]
theorem sep_comm (x y z : Nat) : sep x y z = sep y x z := by
  unfold sep
  cases decide (z ≤ x) <;> cases decide (z ≤ y) <;> rfl
theorem sep_xor (x y w z : Nat) : sep x w z = (sep x y z != sep y w z) := by
  unfold sep
  cases decide (z ≤ x) <;> cases decide (z ≤ y) <;> cases decide (z ≤ w) <;> rfl
theorem sep'_self (x z : Nat) : sep' x x z = false := by simp [sep']
theorem sep'_comm (x y z : Nat) : sep' x y z = sep' y x z := by
  unfold sep'
  cases decide (z < x) <;> cases decide (z < y) <;> rfl
theorem sep'_xor (x y w z : Nat) : sep' x w z = (sep' x y z != sep' y w z) := by
  unfold sep'
  cases decide (z < x) <;> cases decide (z < y) <;> cases decide (z < w) <;> rfl
theorem sep_iff {x y z : Nat} (h : x ≤ y) : sep x y z = decide (x < z ∧ z ≤ y) := by
  unfold sep
  by_cases h1 : z ≤ x <;> by_cases h2 : z ≤ y <;> simp [h1, h2] <;> omega
theorem sep'_iff {x y z : Nat} (h : x ≤ y) : sep' x y z = decide (x ≤ z ∧ z < y) := by
  unfold sep'
  by_cases h1 : z < x <;> by_cases h2 : z < y <;> simp [h1, h2] <;> omega
theorem sep_sep' (u v a b : Nat) : (sep u v a != sep u v b) = (sep' a b u != sep' a b v) := by
  have e1 : ∀ z w : Nat, decide (z ≤ w) = !decide (w < z) := fun z w => by
    by_cases h : z ≤ w <;> simp [h] <;> omega
  unfold sep sep'
  rw [e1 a u, e1 a v, e1 b u, e1 b v]
  cases decide (u < a) <;> cases decide (v < a) <;> cases decide (u < b) <;> cases decide (v < b) <;> rfl
theorem sep_sep'_iff (u v a b : Nat) : sep u v a = sep u v b ↔ sep' a b u = sep' a b v := by
  have h := sep_sep' u v a b
  cases h1 : sep u v a <;> cases h2 : sep u v b <;> cases h3 : sep' a b u <;> cases h4 : sep' a b v <;> simp_all
variable {n : Nat} {R T P Q J : Nat → Nat → Prop}
theorem KR_eqv (n : Nat) (R : Nat → Nat → Prop) : Eqv n (KR n R) where
  lt := fun x y h => h.1
  rfl' := fun x hx => ⟨hx, hx, fun a b _ => by rw [sep_self, sep_self]⟩
  sym := fun x y ⟨h1, h2, h⟩ => ⟨h2, h1, fun a b r => by rw [sep_comm y x, sep_comm y x]; exact h a b r⟩
  tr := fun x y z ⟨h1, h2, h⟩ ⟨h3, h4, h'⟩ => ⟨h1, h4, fun a b r => by rw [sep_xor x y z a, sep_xor x y z b, h a b r, h' a b r]⟩
theorem SR_eqv (n : Nat) (R : Nat → Nat → Prop) : Eqv n (SR n R) where
  lt := fun x y h => h.1
  rfl' := fun x hx => ⟨hx, hx, fun a b _ => by rw [sep'_self, sep'_self]⟩
  sym := fun x y ⟨h1, h2, h⟩ => ⟨h2, h1, fun a b r => by rw [sep'_comm y x, sep'_comm y x]; exact h a b r⟩
  tr := fun x y z ⟨h1, h2, h⟩ ⟨h3, h4, h'⟩ => ⟨h1, h4, fun a b r => by rw [sep'_xor x y z a, sep'_xor x y z b, h a b r, h' a b r]⟩
theorem KR_nc (n : Nat) (R : Nat → Nat → Prop) : NC (KR n R) := by
  intro a b c d h1 h2 h3 hac hbd
  have hbc : KR n R b c := by
    refine ⟨hbd.1, hac.2.1, fun x y r => ?_⟩
    have e : ∀ z, sep b c z = (sep a c z && sep b d z) := fun z => by
      rw [sep_iff (by omega), sep_iff (by omega), sep_iff (by omega), ← Bool.decide_and]
      congr 1
      apply propext
      omega
    rw [e, e, hac.2.2 x y r, hbd.2.2 x y r]
  exact (KR_eqv n R).tr _ _ _ hac ((KR_eqv n R).sym _ _ hbc)
theorem SR_nc (n : Nat) (R : Nat → Nat → Prop) : NC (SR n R) := by
  intro a b c d h1 h2 h3 hac hbd
  have hbc : SR n R b c := by
    refine ⟨hbd.1, hac.2.1, fun x y r => ?_⟩
    have e : ∀ z, sep' b c z = (sep' a c z && sep' b d z) := fun z => by
      rw [sep'_iff (by omega), sep'_iff (by omega), sep'_iff (by omega), ← Bool.decide_and]
      congr 1
      apply propext
      omega
    rw [e, e, hac.2.2 x y r, hbd.2.2 x y r]
  exact (SR_eqv n R).tr _ _ _ hac ((SR_eqv n R).sym _ _ hbc)
theorem KR_anti (h : ∀ x y, R x y → T x y) : ∀ x y, KR n T x y → KR n R x y := fun x y ⟨h1, h2, q⟩ => ⟨h1, h2, fun a b r => q a b (h a b r)⟩
theorem SR_anti (h : ∀ x y, R x y → T x y) : ∀ x y, SR n T x y → SR n R x y := fun x y ⟨h1, h2, q⟩ => ⟨h1, h2, fun a b r => q a b (h a b r)⟩
theorem le_SRKR (E : Eqv n R) : ∀ x y, R x y → SR n (KR n R) x y := fun x y r => ⟨E.lt x y r, E.lt2 r, fun u v q => (sep_sep'_iff u v x y).mp (q.2.2 x y r)⟩
theorem le_KRSR (E : Eqv n R) : ∀ x y, R x y → KR n (SR n R) x y := fun x y r => ⟨E.lt x y r, E.lt2 r, fun u v q => (sep_sep'_iff x y u v).mpr (q.2.2 x y r)⟩
theorem greatest_below {p : Nat → Prop} {x : Nat} (hx : p x) : ∀ k y, y - x ≤ k → x < y → ∃ b, x ≤ b ∧ b < y ∧ p b ∧ ∀ z, b < z → z < y → ¬ p z := by
  intro k
  induction k with
  | zero => intro y h1 h2; omega
  | succ k ih =>
    intro y h1 h2
    by_cases h : p (y - 1)
    · exact ⟨y - 1, by omega, by omega, h, fun z a b => by omega⟩
    · by_cases e : x = y - 1
      · rw [← e] at h; exact absurd hx h
      · obtain ⟨b, a1, a2, a3, a4⟩ := ih (y - 1) (by omega) (by omega)
        refine ⟨b, a1, by omega, a3, fun z c1 c2 => ?_⟩
        by_cases e2 : z = y - 1
        · rw [e2]; exact h
        · exact a4 z c1 (by omega)
theorem least_above {p : Nat → Prop} {y : Nat} : ∀ k c, c - y ≤ k → y < c → p c → ∃ b, y < b ∧ b ≤ c ∧ p b ∧ ∀ z, y < z → z < b → ¬ p z := by
  intro k
  induction k with
  | zero => intro c h1 h2; omega
  | succ k ih =>
    intro c h1 h2 hc
    by_cases h : ∃ z, y < z ∧ z < c ∧ p z
    · obtain ⟨z, a1, a2, a3⟩ := h
      obtain ⟨b, b1, b2, b3, b4⟩ := ih z (by omega) a1 a3
      exact ⟨b, b1, by omega, b3, b4⟩
    · exact ⟨c, h2, Nat.le_refl _, hc, fun z a1 a2 a3 => h ⟨z, a1, a2, a3⟩⟩
theorem least_of {p : Nat → Prop} : ∀ k x, x ≤ k → p x → ∃ b, b ≤ x ∧ p b ∧ ∀ z, z < b → ¬ p z := by
  intro k
  induction k with
  | zero =>
    intro x hx h
    exact ⟨x, Nat.le_refl _, h, fun z hz => by omega⟩
  | succ k ih =>
    intro x hx h
    by_cases q : ∃ z, z < x ∧ p z
    · obtain ⟨z, h1, h2⟩ := q
      obtain ⟨b, b1, b2, b3⟩ := ih z (by omega) h2
      exact ⟨b, by omega, b2, b3⟩
    · exact ⟨x, Nat.le_refl _, h, fun z h1 h2 => q ⟨z, h1, h2⟩⟩
/-- between two neighbours of a lot lie whole lots -/
theorem gap_sat (E : Eqv n R) (N : NC R) {b c : Nat} (hbc : b < c) (r : R b c) (hn : ∀ z, b < z → z < c → ¬ R b z) {z w : Nat} (rz : R z w) (h1 : b < z) (h2 : z < c) : b < w ∧ w < c := by
  have nz := hn z h1 h2
  have nb : w ≠ b := fun e => nz (by rw [← e]; exact E.sym _ _ rz)
  have nc : w ≠ c := fun e => nz (E.tr b c z r (by rw [← e]; exact E.sym _ _ rz))
  refine ⟨?_, ?_⟩
  · rcases Nat.lt_or_ge b w with h | h
    · exact h
    · have h' : w < b := by omega
      have : R w b := N w b z c h' h1 h2 (E.sym _ _ rz) r
      exact absurd (E.sym _ _ (E.tr z w b rz this)) nz
  · rcases Nat.lt_or_ge w c with h | h
    · exact h
    · have h' : c < w := by omega
      exact absurd (N b z c w h1 h2 h' r rz) nz
/-- from the least to the greatest point of a lot lie whole lots -/
theorem hull_sat (E : Eqv n R) (N : NC R) {a b : Nat} (r : R a b) (ha : ∀ z, z < a → ¬ R a z) (hb : ∀ z, b < z → ¬ R a z) {z w : Nat} (rz : R z w) (h1 : a ≤ z) (h2 : z ≤ b) : a ≤ w ∧ w ≤ b := by
  by_cases q : R a z
  · have : R a w := E.tr a z w q rz
    refine ⟨?_, ?_⟩
    · rcases Nat.lt_or_ge w a with h | h
      · exact absurd this (ha w h)
      · exact h
    · rcases Nat.lt_or_ge b w with h | h
      · exact absurd this (hb w h)
      · exact h
  · have h1' : a < z := by
      rcases Nat.lt_or_ge a z with h | h
      · exact h
      · have e : z = a := by omega
        rw [e] at q
        exact absurd (E.tr a b a r (E.sym _ _ r)) q
    have h2' : z < b := by
      rcases Nat.lt_or_ge z b with h | h
      · exact h
      · have e : z = b := by omega
        rw [e] at q
        exact absurd r q
    refine ⟨?_, ?_⟩
    · rcases Nat.lt_or_ge w a with h | h
      · have := N w a z b h h1' h2' (E.sym _ _ rz) r
        exact absurd (E.tr a w z (E.sym _ _ this) (E.sym _ _ rz)) q
      · exact h
    · rcases Nat.lt_or_ge b w with h | h
      · exact absurd (N a z b w h1' h2' h r rz) q
      · exact h
theorem eq_of_both {p q : Prop} [Decidable p] [Decidable q] (h1 : p → q) (h2 : q → p) : decide p = decide q := by
  congr 1
  exact propext ⟨h1, h2⟩
theorem gap_KR (E : Eqv n R) (N : NC R) {b c : Nat} (hbc : b < c) (r : R b c) (hn : ∀ z, b < z → z < c → ¬ R b z) : KR n R b (c - 1) := by
  have := E.lt2 r
  refine ⟨by omega, by omega, fun x y q => ?_⟩
  rw [sep_iff (by omega), sep_iff (by omega)]
  refine eq_of_both (fun ⟨h1, h2⟩ => ?_) fun ⟨h1, h2⟩ => ?_
  · have := gap_sat E N hbc r hn q h1 (by omega)
    omega
  · have := gap_sat E N hbc r hn (E.sym _ _ q) h1 (by omega)
    omega
theorem gap_SR (E : Eqv n R) (N : NC R) {b c : Nat} (hbc : b < c) (r : R b c) (hn : ∀ z, b < z → z < c → ¬ R b z) : SR n R (b + 1) c := by
  have := E.lt2 r
  refine ⟨by omega, by omega, fun x y q => ?_⟩
  rw [sep'_iff (by omega), sep'_iff (by omega)]
  refine eq_of_both (fun ⟨h1, h2⟩ => ?_) fun ⟨h1, h2⟩ => ?_
  · have := gap_sat E N hbc r hn q h1 (by omega)
    omega
  · have := gap_sat E N hbc r hn (E.sym _ _ q) h1 (by omega)
    omega
theorem hull_KR (E : Eqv n R) (N : NC R) {a b : Nat} (hab : a ≤ b) (h0 : 0 < a) (r : R a b) (ha : ∀ z, z < a → ¬ R a z) (hb : ∀ z, b < z → ¬ R a z) : KR n R (a - 1) b := by
  have := E.lt2 r
  refine ⟨by omega, by omega, fun x y q => ?_⟩
  rw [sep_iff (by omega), sep_iff (by omega)]
  refine eq_of_both (fun ⟨h1, h2⟩ => ?_) fun ⟨h1, h2⟩ => ?_
  · have := hull_sat E N r ha hb q (by omega) h2
    omega
  · have := hull_sat E N r ha hb (E.sym _ _ q) (by omega) h2
    omega
theorem hull0_KR (E : Eqv n R) (N : NC R) {b : Nat} (r : R 0 b) (hb : ∀ z, b < z → ¬ R 0 z) : KR n R b (n - 1) := by
  have := E.lt2 r
  refine ⟨by omega, by omega, fun x y q => ?_⟩
  have hx := E.lt x y q
  have hy := E.lt2 q
  rw [sep_iff (by omega), sep_iff (by omega)]
  refine eq_of_both (fun ⟨h1, h2⟩ => ?_) fun ⟨h1, h2⟩ => ?_
  · rcases Nat.lt_or_ge b y with h | h
    · omega
    · have := hull_sat E N r (fun z hz => by omega) hb (E.sym _ _ q) (Nat.zero_le _) h
      omega
  · rcases Nat.lt_or_ge b x with h | h
    · omega
    · have := hull_sat E N r (fun z hz => by omega) hb q (Nat.zero_le _) h
      omega
theorem hull_SR (E : Eqv n R) (N : NC R) {a b : Nat} (hab : a ≤ b) (hbn : b + 1 < n) (r : R a b) (ha : ∀ z, z < a → ¬ R a z) (hb : ∀ z, b < z → ¬ R a z) : SR n R a (b + 1) := by
  refine ⟨by omega, by omega, fun x y q => ?_⟩
  rw [sep'_iff (by omega), sep'_iff (by omega)]
  refine eq_of_both (fun ⟨h1, h2⟩ => ?_) fun ⟨h1, h2⟩ => ?_
  · have := hull_sat E N r ha hb q (by omega) (by omega)
    omega
  · have := hull_sat E N r ha hb (E.sym _ _ q) (by omega) (by omega)
    omega
theorem SRKR_lt (E : Eqv n R) (N : NC R) {x y : Nat} (hxy : x < y) (h : SR n (KR n R) x y) : R x y := by
  refine Classical.byContradiction fun nr => ?_
  obtain ⟨hx, hy, h⟩ := h
  have rx := E.rfl' x hx
  obtain ⟨b, b1, b2, b3, b4⟩ := greatest_below (p := R x) rx (y - x) y (Nat.le_refl _) hxy
  have key : ∀ u v, KR n R u v → x ≤ u → u < y → (v < x ∨ y ≤ v) → False := fun u v k h1 h2 h3 => by
    have e := h u v k
    rw [sep'_iff (by omega), sep'_iff (by omega)] at e
    have : (x ≤ v ∧ v < y) := of_decide_eq_true (e ▸ decide_eq_true ⟨h1, h2⟩)
    omega
  by_cases hc : ∃ c, y < c ∧ R x c
  · obtain ⟨c0, hc1, hc2⟩ := hc
    obtain ⟨c, c1, c2, c3, c4⟩ := least_above (p := R x) (y := y) (c0 - y) c0 (Nat.le_refl _) hc1 hc2
    have rbc : R b c := E.tr b x c (E.sym _ _ b3) c3
    have k := gap_KR E N (b := b) (c := c) (by omega) rbc fun z z1 z2 q => by
      have q' : R x z := E.tr x b z b3 q
      rcases Nat.lt_trichotomy z y with e | e | e
      · exact b4 z z1 e q'
      · rw [e] at q'; exact nr q'
      · exact c4 z e z2 q'
    exact key b (c - 1) k b1 b2 (.inr (by omega))
  · obtain ⟨a, a1, a2, a3⟩ := least_of (p := R x) x x (Nat.le_refl _) rx
    have rab : R a b := E.tr a x b (E.sym _ _ a2) b3
    have mx : ∀ z, b < z → ¬ R a z := fun z z1 q => by
      have q' : R x z := E.tr x a z a2 q
      rcases Nat.lt_trichotomy z y with e | e | e
      · exact b4 z z1 e q'
      · rw [e] at q'; exact nr q'
      · exact hc ⟨z, e, q'⟩
    by_cases h0 : a = 0
    · rw [h0] at rab mx
      have k := hull0_KR E N rab mx
      exact key b (n - 1) k b1 b2 (.inr (by omega))
    · have k := hull_KR E N (by omega) (by omega) rab (fun z z1 q => a3 z z1 (E.tr x a z a2 q)) mx
      exact key b (a - 1) ((KR_eqv n R).sym _ _ k) b1 b2 (.inl (by omega))
theorem SRKR (E : Eqv n R) (N : NC R) {x y : Nat} (h : SR n (KR n R) x y) : R x y := by
  rcases Nat.lt_trichotomy x y with e | e | e
  · exact SRKR_lt E N e h
  · rw [← e]; exact E.rfl' x h.1
  · exact E.sym _ _ (SRKR_lt E N e ((SR_eqv _ _).sym _ _ h))
theorem KRSR_lt (E : Eqv n R) (N : NC R) {x y : Nat} (hxy : x < y) (h : KR n (SR n R) x y) : R x y := by
  refine Classical.byContradiction fun nr => ?_
  obtain ⟨hx, hy, h⟩ := h
  have rx := E.rfl' x hx
  obtain ⟨b, b1, b2, b3, b4⟩ := greatest_below (p := R x) rx (y - x) y (Nat.le_refl _) hxy
  have key : ∀ u v, SR n R u v → x < u → u ≤ y → (v ≤ x ∨ y < v) → False := fun u v k h1 h2 h3 => by
    have e := h u v k
    rw [sep_iff (by omega), sep_iff (by omega)] at e
    have : (x < v ∧ v ≤ y) := of_decide_eq_true (e ▸ decide_eq_true ⟨h1, h2⟩)
    omega
  by_cases hc : ∃ c, y < c ∧ R x c
  · obtain ⟨c0, hc1, hc2⟩ := hc
    obtain ⟨c, c1, c2, c3, c4⟩ := least_above (p := R x) (y := y) (c0 - y) c0 (Nat.le_refl _) hc1 hc2
    have rbc : R b c := E.tr b x c (E.sym _ _ b3) c3
    have k := gap_SR E N (b := b) (c := c) (by omega) rbc fun z z1 z2 q => by
      have q' : R x z := E.tr x b z b3 q
      rcases Nat.lt_trichotomy z y with e | e | e
      · exact b4 z z1 e q'
      · rw [e] at q'; exact nr q'
      · exact c4 z e z2 q'
    exact key (b + 1) c k (by omega) (by omega) (.inr (by omega))
  · obtain ⟨a, a1, a2, a3⟩ := least_of (p := R x) x x (Nat.le_refl _) rx
    have rab : R a b := E.tr a x b (E.sym _ _ a2) b3
    have mx : ∀ z, b < z → ¬ R a z := fun z z1 q => by
      have q' : R x z := E.tr x a z a2 q
      rcases Nat.lt_trichotomy z y with e | e | e
      · exact b4 z z1 e q'
      · rw [e] at q'; exact nr q'
      · exact hc ⟨z, e, q'⟩
    have k := hull_SR E N (by omega) (by omega) rab (fun z z1 q => a3 z z1 (E.tr x a z a2 q)) mx
    exact key (b + 1) a ((SR_eqv n R).sym _ _ k) (by omega) (by omega) (.inl (by omega))
theorem KRSR (E : Eqv n R) (N : NC R) {x y : Nat} (h : KR n (SR n R) x y) : R x y := by
  rcases Nat.lt_trichotomy x y with e | e | e
  · exact KRSR_lt E N e h
  · rw [← e]; exact E.rfl' x h.1
  · exact E.sym _ _ (KRSR_lt E N e ((KR_eqv _ _).sym _ _ h))
/-- the least non-crossing relation above two -/
structure Lub (n : Nat) (P Q J : Nat → Nat → Prop) : Prop where
  eqv : Eqv n J
  nc : NC J
  one : ∀ x y, P x y → J x y
  two : ∀ x y, Q x y → J x y
  least : ∀ R, Eqv n R → NC R → (∀ x y, P x y → R x y) → (∀ x y, Q x y → R x y) → ∀ x y, J x y → R x y
theorem compl_join (EP : Eqv n P) (EQ : Eqv n Q) (L : Lub n P Q J) (x y : Nat) : KR n J x y ↔ KR n P x y ∧ KR n Q x y := by
  constructor
  · exact fun h => ⟨KR_anti L.one x y h, KR_anti L.two x y h⟩
  · rintro ⟨h1, h2⟩
    have q := L.least (SR n fun u v => KR n P u v ∧ KR n Q u v) (SR_eqv _ _) (SR_nc _ _)
      (fun a b r => SR_anti (fun u v z => z.1) a b (le_SRKR EP a b r)) (fun a b r => SR_anti (fun u v z => z.2) a b (le_SRKR EQ a b r))
    exact ⟨h1.1, h1.2.1, fun a b r => (sep_sep'_iff x y a b).mpr ((q a b r).2.2 x y ⟨h1, h2⟩)⟩
theorem compl_meet (EP : Eqv n P) (NP : NC P) (EQ : Eqv n Q) (NQ : NC Q) (L : Lub n (KR n P) (KR n Q) J) (x y : Nat) : KR n (fun a b => P a b ∧ Q a b) x y ↔ J x y := by
  constructor
  · intro h
    refine KRSR L.eqv L.nc (KR_anti (fun a b r => ⟨?_, ?_⟩) x y h)
    · exact SRKR EP NP (SR_anti L.one a b r)
    · exact SRKR EQ NQ (SR_anti L.two a b r)
  · exact L.least _ (KR_eqv _ _) (KR_nc _ _) (fun a b r => KR_anti (fun _ _ z => z.1) a b r) (fun a b r => KR_anti (fun _ _ z => z.2) a b r) x y
theorem finer_iff (EP : Eqv n P) (NP : NC P) (EQ : Eqv n Q) (NQ : NC Q) : (∀ x y, P x y → Q x y) ↔ ∀ x y, KR n Q x y → KR n P x y := by
  constructor
  · exact fun h => KR_anti h
  · exact fun h x y r => SRKR EQ NQ (SR_anti h x y (le_SRKR EP x y r))
theorem KRKR (E : Eqv n R) (N : NC R) {x y : Nat} (hx : x < n) (hy : y < n) : KR n (KR n R) x y ↔ R ((x + 1) % n) ((y + 1) % n) := by
  have hn : 0 < n := by omega
  have wr : ∀ z, z < n → ∀ u, u < n → decide (u ≤ z) = (decide (z + 1 = n) != decide (u < (z + 1) % n)) := fun z hz u hu => by
    by_cases e : z + 1 = n
    · have e2 : (z + 1) % n = 0 := by rw [e]; exact Nat.mod_self n
      rw [e2]
      have : u ≤ z := by omega
      simp [e, this]
    · rw [Nat.mod_eq_of_lt (by omega)]
      by_cases h : u ≤ z
      · have : u < z + 1 := by omega
        simp [e, h, this]
      · have : ¬ u < z + 1 := by omega
        simp [e, h, this]
  have key : ∀ u, u < n → sep x y u = ((decide (x + 1 = n) != decide (y + 1 = n)) != sep' ((x + 1) % n) ((y + 1) % n) u) := fun u hu => by
    unfold sep sep'
    rw [wr x hx u hu, wr y hy u hu]
    cases decide (x + 1 = n) <;> cases decide (y + 1 = n) <;> cases decide (u < (x + 1) % n) <;> cases decide (u < (y + 1) % n) <;> rfl
  have hx' : (x + 1) % n < n := Nat.mod_lt _ hn
  have hy' : (y + 1) % n < n := Nat.mod_lt _ hn
  constructor
  · rintro ⟨_, _, h⟩
    refine SRKR E N ⟨hx', hy', fun u v k => ?_⟩
    have e := h u v k
    rw [key u k.1, key v k.2.1] at e
    cases (decide (x + 1 = n) != decide (y + 1 = n)) <;> cases h1 : sep' ((x + 1) % n) ((y + 1) % n) u <;> cases h2 : sep' ((x + 1) % n) ((y + 1) % n) v <;> simp_all
  · intro r
    refine ⟨hx, hy, fun u v k => ?_⟩
    rw [key u k.1, key v k.2.1, (le_SRKR E _ _ r).2.2 u v k]
end PR
set_option maxHeartbeats 4000000
namespace PR
/-! turns, counts -/
variable {n : Nat} {R : Nat → Nat → Prop}
/-- t leads round the lots of R -/
structure Turn (n : Nat) (R : Nat → Nat → Prop) (t : Nat → Nat) : Prop where
  rel : ∀ i, i < n → R i (t i)
  up : ∀ i, i < n → i < t i → ∀ z, i < z → z < t i → ¬ R i z
  top : ∀ i, i < n → t i ≤ i → ∀ z, i < z → ¬ R i z
  low : ∀ i, i < n → t i ≤ i → ∀ z, z < t i → ¬ R i z
theorem compl_turn (E : Eqv n R) (N : NC R) {t u : Nat → Nat} (T : Turn n R t) (h : ∀ i, i < n → u i < n ∧ t (u i) = (i + 1) % n) : Turn n (KR n R) u := by
  have hs : ∀ i, i < n → (i + 1 < n ∧ (i + 1) % n = i + 1) ∨ (i + 1 = n ∧ (i + 1) % n = 0) := fun i hi => by
    by_cases e : i + 1 = n
    · exact .inr ⟨e, by rw [e]; exact Nat.mod_self n⟩
    · exact .inl ⟨by omega, Nat.mod_eq_of_lt (by omega)⟩
  have inK : ∀ {x y a b}, KR n R x y → R a b → x < a → a ≤ y → x < b ∧ b ≤ y := fun {x y a b} k r h1 h2 => by
    have e := k.2.2 a b r
    rw [sep_iff (by omega), sep_iff (by omega)] at e
    exact of_decide_eq_true (e ▸ decide_eq_true ⟨h1, h2⟩)
  refine ⟨fun i hi => ?_, fun i hi hlt z z1 z2 k => ?_, fun i hi hle z z1 k => ?_, fun i hi hle z z1 k => ?_⟩
  · obtain ⟨hu, ht⟩ := h i hi
    have r : R (u i) ((i + 1) % n) := by rw [← ht]; exact T.rel _ hu
    rcases Nat.lt_trichotomy (u i) i with e | e | e
    · -- the point ahead in the ring lies lower
      rcases hs i hi with ⟨h1, h2⟩ | ⟨h1, h2⟩
      · rw [h2] at r
        have k := gap_KR E N (b := u i) (c := i + 1) (by omega) r fun z z1 z2 => T.up (u i) hu (by rw [ht, h2]; omega) z z1 (by rw [ht, h2]; exact z2)
        rw [Nat.add_sub_cancel] at k
        exact (KR_eqv _ _).sym _ _ k
      · rw [h2] at r
        have k := hull0_KR E N (b := u i) (E.sym _ _ r) fun z z1 q => T.top (u i) hu (by rw [ht, h2]; omega) z z1 (E.tr _ _ _ r q)
        have e3 : n - 1 = i := by omega
        rw [e3] at k
        exact (KR_eqv _ _).sym _ _ k
    · rw [e]
      exact (KR_eqv _ _).rfl' i hi
    · rcases hs i hi with ⟨h1, h2⟩ | ⟨h1, h2⟩
      · rw [h2] at r ht
        have k := hull_KR E N (a := i + 1) (b := u i) (by omega) (by omega) (E.sym _ _ r) (fun z z1 q => T.low (u i) hu (by rw [ht]; omega) z (by rw [ht]; exact z1) (E.tr _ _ _ r q)) fun z z1 q => T.top (u i) hu (by rw [ht]; omega) z z1 (E.tr _ _ _ r q)
        rw [Nat.add_sub_cancel] at k
        exact k
      · omega
  · obtain ⟨hu, ht⟩ := h i hi
    have r : R (u i) ((i + 1) % n) := by rw [← ht]; exact T.rel _ hu
    rcases hs i hi with ⟨h1, h2⟩ | ⟨h1, h2⟩
    · rw [h2] at r
      have := inK k (E.sym _ _ r) (by omega) (by omega)
      omega
    · omega
  · obtain ⟨hu, ht⟩ := h i hi
    have r : R (u i) ((i + 1) % n) := by rw [← ht]; exact T.rel _ hu
    have hz := k.2.1
    rcases hs i hi with ⟨h1, h2⟩ | ⟨h1, h2⟩
    · rw [h2] at r
      have := inK k (E.sym _ _ r) (by omega) (by omega)
      omega
    · omega
  · obtain ⟨hu, ht⟩ := h i hi
    have r : R (u i) ((i + 1) % n) := by rw [← ht]; exact T.rel _ hu
    have k' := (KR_eqv _ _).sym _ _ k
    have := inK k' r z1 hle
    rcases hs i hi with ⟨h1, h2⟩ | ⟨h1, h2⟩ <;> omega
/-- .. by places in the lots -/
def TurnL (p : Part) (t : Nat → Nat) : Prop := ∀ l ∈ p, ∀ k, (h : k < l.length) → t (l[k]'h) = l[(k + 1) % l.length]'(Nat.mod_lt _ (Nat.lt_of_le_of_lt (Nat.zero_le _) h))
theorem asc_lt {l : List Nat} (h : l.Pairwise (· < ·)) {i j : Nat} (hi : i < l.length) (hj : j < l.length) (hij : i < j) : l[i] < l[j] := List.pairwise_iff_getElem.mp h i j hi hj hij
theorem asc_le {l : List Nat} (h : l.Pairwise (· < ·)) {i j : Nat} (hi : i < l.length) (hj : j < l.length) (hij : l[i] < l[j]) : i < j := by
  rcases Nat.lt_trichotomy i j with e | e | e
  · exact e
  · subst e; omega
  · have := asc_lt h hj hi e; omega
theorem Turn.of_L {p : Part} {t : Nat → Nat} (h : Parts n p) (T : TurnL p t) : Turn n (Same p) t := by
  have look : ∀ i, i < n → ∃ l, l ∈ p ∧ ∃ k, ∃ hk : k < l.length, l[k] = i ∧ ((∃ h1 : k + 1 < l.length, t i = l[k + 1]) ∨ (∃ h1 : k + 1 = l.length, t i = l[0])) := fun i hi => by
    obtain ⟨l, hl, hm⟩ := h.cov i hi
    obtain ⟨k, hk, e⟩ := List.getElem_of_mem hm
    have q := T l hl k hk
    refine ⟨l, hl, k, hk, e, ?_⟩
    rw [e] at q
    by_cases h1 : k + 1 < l.length
    · refine .inl ⟨h1, ?_⟩
      rw [q]
      congr 1
      exact Nat.mod_eq_of_lt h1
    · refine .inr ⟨by omega, ?_⟩
      rw [q]
      congr 1
      rw [show k + 1 = l.length by omega]
      exact Nat.mod_self _
  refine ⟨fun i hi => ?_, fun i hi hlt z z1 z2 hs => ?_, fun i hi hle z z1 hs => ?_, fun i hi hle z z1 hs => ?_⟩
  · obtain ⟨l, hl, k, hk, e, q⟩ := look i hi
    refine ⟨l, hl, by rw [← e]; exact List.getElem_mem _, ?_⟩
    rcases q with ⟨h1, q⟩ | ⟨h1, q⟩ <;> (rw [q]; exact List.getElem_mem _)
  · obtain ⟨l, hl, k, hk, e, q⟩ := look i hi
    have hz := (h.mem_iff hl (x := i) (by rw [← e]; exact List.getElem_mem _) z).mpr hs
    obtain ⟨m, hm, ez⟩ := List.getElem_of_mem hz
    have a1 := asc_le (h.asc l hl) hk hm (by rw [e, ez]; exact z1)
    rcases q with ⟨h1, q⟩ | ⟨h1, q⟩
    · have a2 := asc_le (h.asc l hl) hm h1 (by rw [ez, ← q]; exact z2)
      omega
    · omega
  · obtain ⟨l, hl, k, hk, e, q⟩ := look i hi
    have hz := (h.mem_iff hl (x := i) (by rw [← e]; exact List.getElem_mem _) z).mpr hs
    obtain ⟨m, hm, ez⟩ := List.getElem_of_mem hz
    have a1 := asc_le (h.asc l hl) hk hm (by rw [e, ez]; exact z1)
    rcases q with ⟨h1, q⟩ | ⟨h1, q⟩
    · have := asc_lt (h.asc l hl) hk h1 (Nat.lt_succ_self _)
      omega
    · omega
  · obtain ⟨l, hl, k, hk, e, q⟩ := look i hi
    have hz := (h.mem_iff hl (x := i) (by rw [← e]; exact List.getElem_mem _) z).mpr hs
    obtain ⟨m, hm, ez⟩ := List.getElem_of_mem hz
    rcases q with ⟨h1, q⟩ | ⟨h1, q⟩
    · have := asc_lt (h.asc l hl) hk h1 (Nat.lt_succ_self _)
      omega
    · have a2 := asc_le (i := m) (j := 0) (h.asc l hl) hm (by omega) (by rw [ez, ← q]; exact z1)
      omega
theorem Turn.to_L {p : Part} {t : Nat → Nat} (h : Parts n p) (T : Turn n (Same p) t) : TurnL p t := by
  intro l hl k hk
  have hi : l[k] < n := h.bd l hl _ (List.getElem_mem _)
  have hm : l[k] ∈ l := List.getElem_mem _
  have ht : t l[k] ∈ l := (h.mem_iff hl hm _).mpr (T.rel _ hi)
  obtain ⟨m, hm', em⟩ := List.getElem_of_mem ht
  have sm : ∀ j (hj : j < l.length), Same p l[k] l[j] := fun j hj => ⟨l, hl, hm, List.getElem_mem _⟩
  have key : m = (k + 1) % l.length := by
    by_cases hlt : l[k] < t l[k]
    · have a1 := asc_le (h.asc l hl) hk hm' (by rw [em]; exact hlt)
      have a2 : m = k + 1 := by
        rcases Nat.lt_or_ge (k + 1) m with q | q
        · exact absurd (sm (k + 1) (by omega)) (T.up _ hi hlt _ (asc_lt (h.asc l hl) hk (by omega) (Nat.lt_succ_self _)) (by rw [← em]; exact asc_lt (h.asc l hl) (by omega) hm' q))
        · omega
      rw [a2, Nat.mod_eq_of_lt (by omega)]
    · have hle : t l[k] ≤ l[k] := by omega
      have a1 : k + 1 = l.length := by
        rcases Nat.lt_or_ge (k + 1) l.length with q | q
        · exact absurd (sm (k + 1) q) (T.top _ hi hle _ (asc_lt (h.asc l hl) hk q (Nat.lt_succ_self _)))
        · omega
      have a2 : m = 0 := by
        rcases Nat.lt_or_ge 0 m with q | q
        · exact absurd (sm 0 (by omega)) (T.low _ hi hle _ (by rw [← em]; exact asc_lt (h.asc l hl) (by omega) hm' q))
        · omega
      rw [a2, a1, Nat.mod_self]
  subst key
  exact em.symm
/-- a turn reaches each point -/
theorem TurnL.onto {p : Part} {t : Nat → Nat} (h : Parts n p) (T : TurnL p t) {y : Nat} (hy : y < n) : ∃ x, x < n ∧ t x = y := by
  obtain ⟨l, hl, hm⟩ := h.cov y hy
  obtain ⟨k, hk, e⟩ := List.getElem_of_mem hm
  by_cases h0 : k = 0
  · refine ⟨l[l.length - 1], h.bd l hl _ (List.getElem_mem _), ?_⟩
    rw [T l hl (l.length - 1) (by omega), ← e]
    congr 1
    rw [h0, show l.length - 1 + 1 = l.length by omega, Nat.mod_self]
  · refine ⟨l[k - 1], h.bd l hl _ (List.getElem_mem _), ?_⟩
    rw [T l hl (k - 1) (by omega), ← e]
    congr 1
    rw [show k - 1 + 1 = k by omega, Nat.mod_eq_of_lt hk]
theorem TurnL.lt {p : Part} {t : Nat → Nat} (h : Parts n p) (T : TurnL p t) {x : Nat} (hx : x < n) : t x < n := by
  obtain ⟨l, hl, hm⟩ := h.cov x hx
  obtain ⟨k, hk, e⟩ := List.getElem_of_mem hm
  have q := T l hl k hk
  rw [e] at q
  rw [q]
  exact h.bd l hl _ (List.getElem_mem _)
/-! counts of lots -/
theorem Canon.count_min {p : Part} (h : Canon n p) : p.length = ((List.range n).filter fun x => dcd (∀ y, y < x → ¬ Same p x y)).length := by
  have e := h.eq_classes
  have : p.length = (classes n (Same p)).length := congrArg List.length e
  rw [this]
  unfold classes
  rw [List.length_map]
theorem lastN_mem {l : List Nat} (h : l ≠ []) : l.getLastD 0 ∈ l := by
  cases l with
  | nil => exact absurd rfl h
  | cons a r =>
    rw [List.getLastD_cons]
    cases r with
    | nil => simp
    | cons b s =>
      have : (b :: s).getLastD a = (b :: s).getLast (by simp) := by simp [List.getLastD]
      rw [this]
      exact List.mem_cons_of_mem _ (List.getLast_mem _)
theorem lastN_ge {l : List Nat} (h : l.Pairwise (· < ·)) {x : Nat} (hx : x ∈ l) : x ≤ l.getLastD 0 := by
  have hne : l ≠ [] := fun e => by rw [e] at hx; cases hx
  have e : l.getLastD 0 = l.getLast hne := by
    cases l with
    | nil => exact absurd rfl hne
    | cons a r => simp [List.getLastD]
  rw [e, List.getLast_eq_getElem]
  obtain ⟨k, hk, e⟩ := List.getElem_of_mem hx
  rw [← e]
  rcases Nat.lt_or_ge k (l.length - 1) with q | q
  · exact Nat.le_of_lt (asc_lt h hk (by omega) q)
  · have : k = l.length - 1 := by omega
    subst this
    exact Nat.le_refl _
theorem Parts.count_max {p : Part} (h : Parts n p) : p.length = ((List.range n).filter fun x => dcd (∀ y, x < y → ¬ Same p x y)).length := by
  have e : (p.map fun l => l.getLastD 0).Perm ((List.range n).filter fun x => dcd (∀ y, x < y → ¬ Same p x y)) := by
    refine (List.perm_ext_iff_of_nodup ?_ ?_).mpr fun x => ?_
    · unfold List.Nodup
      rw [List.pairwise_map]
      refine List.Pairwise.imp_of_mem ?_ h.dis
      intro a b ha hb hd e
      exact hd _ (lastN_mem (h.ne a ha)) (by rw [e]; exact lastN_mem (h.ne b hb))
    · exact List.nodup_range.filter _
    · rw [List.mem_map, List.mem_filter, List.mem_range, dcd_iff]
      constructor
      · rintro ⟨l, hl, rfl⟩
        have hm := lastN_mem (h.ne l hl)
        refine ⟨h.bd l hl _ hm, fun y hy hs => ?_⟩
        have := lastN_ge (h.asc l hl) ((h.mem_iff hl hm y).mpr hs)
        omega
      · rintro ⟨hx, hl⟩
        obtain ⟨l, hl', hm⟩ := h.cov x hx
        refine ⟨l, hl', ?_⟩
        have h1 := lastN_ge (h.asc l hl') hm
        have h2 := lastN_mem (h.ne l hl')
        rcases Nat.lt_or_ge x (l.getLastD 0) with h3 | h3
        · exact absurd ⟨l, hl', hm, h2⟩ (hl _ h3)
        · omega
  have := e.length_eq
  rw [List.length_map] at this
  exact this
theorem KR_max (E : Eqv n R) (N : NC R) {x : Nat} (hx : x < n) : (∀ y, x < y → ¬ KR n R x y) ↔ (x + 1 = n ∨ ¬ ∀ y, y < x + 1 → ¬ R (x + 1) y) := by
  constructor
  · intro h
    by_cases e : x + 1 = n
    · exact .inl e
    · refine .inr fun hmin => ?_
      -- x + 1 is the least of its lot
      have hx1 : x + 1 < n := by omega
      have r0 := E.rfl' _ hx1
      obtain ⟨b, b1, b2, b3, b4⟩ := greatest_below (p := R (x + 1)) r0 (n - (x + 1)) n (Nat.le_refl _) hx1
      have k := hull_KR E N (a := x + 1) (b := b) b1 (by omega) b3 hmin fun z z1 q => b4 z z1 (E.lt2 q) q
      exact h b (by omega) k
  · rintro (e | h) y hy k
    · have := k.2.1; omega
    · have ⟨z, hz⟩ := Classical.not_forall.mp h
      have z1 : z < x + 1 := Classical.byContradiction fun q => hz fun w => absurd w q
      have z2 : R (x + 1) z := Classical.byContradiction fun q => hz fun _ => q
      have e := k.2.2 (x + 1) z z2
      rw [sep_iff (by omega), sep_iff (by omega)] at e
      have : x < z ∧ z ≤ y := of_decide_eq_true (e ▸ decide_eq_true ⟨by omega, by omega⟩)
      omega
theorem filter_split {α : Type} (f : α → Bool) : ∀ l : List α, (l.filter f).length + (l.filter fun x => !f x).length = l.length
  | [] => rfl
  | a :: l => by
    have ih := filter_split f l
    cases h : f a <;> simp [List.filter_cons, h] <;> omega
theorem compl_count {p c : Part} (hp : Canon n p) (N : NC (Same p)) (hc : Canon n c) (hR : ∀ x y, Same c x y ↔ KR n (Same p) x y) (hn : 0 < n) : c.length + p.length = n + 1 := by
  have E := hp.parts.eqv
  obtain ⟨m, rfl⟩ : ∃ m, n = m + 1 := ⟨n - 1, by omega⟩
  rw [hc.parts.count_max, hp.count_min]
  have e1 : ((List.range (m + 1)).filter fun x => dcd (∀ y, x < y → ¬ Same c x y)) = (List.range (m + 1)).filter fun x => dcd (x + 1 = m + 1 ∨ ¬ ∀ y, y < x + 1 → ¬ Same p (x + 1) y) := by
    refine List.filter_congr fun x hx => ?_
    have := KR_max E N (List.mem_range.mp hx)
    rw [Bool.eq_iff_iff, dcd_iff, dcd_iff, ← this]
    exact forall_congr' fun y => by rw [hR]
  rw [e1, List.range_succ, List.filter_append, List.length_append]
  have e2 : ((List.range m).filter fun x => dcd (x + 1 = m + 1 ∨ ¬ ∀ y, y < x + 1 → ¬ Same p (x + 1) y)) = (List.range m).filter fun x => !dcd (∀ y, y < x + 1 → ¬ Same p (x + 1) y) := by
    refine List.filter_congr fun x hx => ?_
    have hx := List.mem_range.mp hx
    rw [Bool.eq_iff_iff, dcd_iff]
    constructor
    · rintro (h | h)
      · omega
      · have : dcd (∀ y, y < x + 1 → ¬ Same p (x + 1) y) ≠ true := fun z => h (dcd_iff.mp z)
        simpa using this
    · intro h
      refine .inr fun z => ?_
      rw [dcd_iff.mpr z] at h
      cases h
  have e3 : ([m].filter fun x => dcd (x + 1 = m + 1 ∨ ¬ ∀ y, y < x + 1 → ¬ Same p (x + 1) y)).length = 1 := by
    have : dcd (m + 1 = m + 1 ∨ ¬ ∀ y, y < m + 1 → ¬ Same p (m + 1) y) = true := dcd_iff.mpr (.inl rfl)
    rw [List.filter_cons, if_pos this]
    rfl
  have e4 : ((List.range m ++ [m]).filter fun x => dcd (∀ y, y < x → ¬ Same p x y)).length = 1 + ((List.range m).filter fun x => dcd (∀ y, y < x + 1 → ¬ Same p (x + 1) y)).length := by
    rw [← List.range_succ, List.range_succ_eq_map, List.filter_cons]
    have : dcd (∀ y, y < 0 → ¬ Same p 0 y) = true := dcd_iff.mpr fun y hy => by omega
    rw [if_pos this, List.length_cons, List.filter_map, List.length_map, Nat.add_comm]
    rfl
  rw [e2, e3]
  rw [List.filter_append, List.length_append] at e4
  rw [List.filter_append, List.length_append, e4]
  have e5 := filter_split (fun x => dcd (∀ y, y < x + 1 → ¬ Same p (x + 1) y)) (List.range m)
  rw [List.length_range] at e5
  omega
end PR
set_option maxHeartbeats 400000
namespace PR
open PySem PySem.Spec PyProof.Rows L2
open Evl (Ex EvT)
def nD (n : Nat) : PyData := .int (n : Int)
def eL (l : List Nat) : PyData := .tuple (l.map nD)
def eP (p : List (List Nat)) : PyData := .tuple (p.map eL)
def iV (n : Nat) : V := .int (n : Int)
def zI (l : List Nat) : List Int := l.map Int.ofNat
theorem nD_zI (l : List Nat) : l.map nD = (zI l).map PyData.int := by
  unfold zI
  rw [List.map_map]
  rfl
theorem zI_inj : ∀ {l m : List Nat}, zI l = zI m → l = m
  | [], [], _ => rfl
  | [], _ :: _, h => by cases h
  | _ :: _, [], h => by cases h
  | a :: l, b :: m, h => by
    have h' := List.cons.inj h
    rw [zI_inj h'.2, Int.ofNat.inj h'.1]
theorem tupO_eL (l : List Nat) : tupO (eL l) = true := by
  show tupOs (l.map nD) = true
  rw [tupOs_all]
  intro d hd
  obtain ⟨n, _, rfl⟩ := List.mem_map.mp hd
  rfl
theorem tupO_eP (p : List (List Nat)) : tupO (eP p) = true := by
  show tupOs (p.map eL) = true
  rw [tupOs_all]
  intro d hd
  obtain ⟨n, _, rfl⟩ := List.mem_map.mp hd
  exact tupO_eL n
/-! sorted lists are told by their members -/
theorem perm_sorted {α : Type} {le : α → α → Prop} (anti : ∀ a b, le a b → le b a → a = b) : ∀ {l m : List α}, l.Perm m → l.Pairwise le → m.Pairwise le → l = m
  | [], m, h, _, _ => by rw [List.nil_perm.mp h]
  | a :: l, [], h, _, _ => absurd h.length_eq (by simp)
  | a :: l, b :: m, h, h1, h2 => by
    have p1 := List.pairwise_cons.mp h1
    have p2 := List.pairwise_cons.mp h2
    have e : a = b := by
      have a1 := h.mem_iff.mp (List.mem_cons_self (a := a))
      have b1 := h.mem_iff.mpr (List.mem_cons_self (a := b))
      rcases List.mem_cons.mp a1 with x | x
      · exact x
      · rcases List.mem_cons.mp b1 with y | y
        · exact y.symm
        · exact anti a b (p1.1 b y) (p2.1 a x)
    subst e
    rw [perm_sorted anti h.cons_inv p1.2 p2.2]
theorem pw_merge {α : Type} (le : α → α → Bool) (tr : ∀ a b c, le a b = true → le b c = true → le a c = true) (tot : ∀ a b, (le a b || le b a) = true) (l : List α) : (l.mergeSort le).Pairwise fun a b => le a b = true :=
  List.pairwise_mergeSort tr tot l
def srtN (l : List Nat) : List Nat := l.mergeSort fun a b => decide (a ≤ b)
theorem srtN_perm (l : List Nat) : (srtN l).Perm l := List.mergeSort_perm l _
theorem srtN_le (l : List Nat) : (srtN l).Pairwise (· ≤ ·) := by
  have h := pw_merge (fun a b : Nat => decide (a ≤ b)) (fun a b c => by simpa using Nat.le_trans) (fun a b => by simpa using Nat.le_total a b) l
  exact h.imp fun {a b} e => of_decide_eq_true e
theorem srtN_mem {l : List Nat} {x : Nat} : x ∈ srtN l ↔ x ∈ l := (srtN_perm l).mem_iff
theorem zI_mem {l : List Nat} {x : Nat} : (x : Int) ∈ zI l ↔ x ∈ l := by
  unfold zI
  rw [List.mem_map]
  exact ⟨fun ⟨a, h1, h2⟩ => Int.ofNat.inj h2 ▸ h1, fun h => ⟨x, h, rfl⟩⟩
theorem srtN_int {l : List Nat} {zs : List Int} (h : zs.Perm (zI l)) (s : zs.Pairwise (· ≤ ·)) : zs = zI (srtN l) :=
  perm_sorted (le := (· ≤ ·)) (fun _ _ => Int.le_antisymm) (h.trans ((srtN_perm l).symm.map _)) s (List.pairwise_map.mpr ((srtN_le l).imp fun {a b} e => Int.ofNat_le.mpr e))
/-! lots by order -/
def ltL (a b : List Nat) : Bool := HT.lexLt (zI a) (zI b)
def leL (a b : List Nat) : Bool := !ltL b a
theorem lex_anti : ∀ {x y : List Int}, HT.lexLt x y = false → HT.lexLt y x = false → x = y
  | [], [], _, _ => rfl
  | [], _ :: _, h, _ => by cases h
  | _ :: _, [], _, h => by cases h
  | a :: x, b :: y, h1, h2 => by
    rw [HT.lexLt_cons] at h1 h2
    by_cases e : a = b
    · subst e
      rw [if_pos rfl] at h1 h2
      rw [lex_anti h1 h2]
    · rw [if_neg e] at h1
      rw [if_neg (fun z => e z.symm)] at h2
      have := of_decide_eq_false h1
      have := of_decide_eq_false h2
      omega
theorem leL_anti {a b : List Nat} (h1 : leL a b = true) (h2 : leL b a = true) : a = b := by
  unfold leL ltL at h1 h2
  rw [Bool.not_eq_true'] at h1 h2
  exact zI_inj (lex_anti h2 h1)
theorem leL_tr {a b c : List Nat} (h1 : leL a b = true) (h2 : leL b c = true) : leL a c = true := by
  unfold leL ltL at *
  rw [Bool.not_eq_true'] at *
  exact lexLt_tr _ _ _ h1 h2
theorem leL_tot (a b : List Nat) : (leL a b || leL b a) = true := by
  unfold leL ltL
  cases h : HT.lexLt (zI b) (zI a) with
  | false => rfl
  | true => rw [lexLt_asym _ _ h]; rfl
def srtL (p : List (List Nat)) : List (List Nat) := p.mergeSort leL
theorem srtL_perm (p : List (List Nat)) : (srtL p).Perm p := List.mergeSort_perm p _
theorem srtL_le (p : List (List Nat)) : (srtL p).Pairwise fun a b => leL a b = true := pw_merge leL (fun _ _ _ => leL_tr) leL_tot p
theorem srtL_mem {p : List (List Nat)} {l : List Nat} : l ∈ srtL p ↔ l ∈ p := (srtL_perm p).mem_iff
theorem srtL_uniq {p q : List (List Nat)} (h : q.Perm p) (s : q.Pairwise fun a b => leL a b = true) : q = srtL p :=
  perm_sorted (le := fun a b => leL a b = true) (fun _ _ => leL_anti) (h.trans (srtL_perm p).symm) s (srtL_le p)
def ddL : List (List Nat) → List (List Nat)
  | [] => []
  | a :: l => if a ∈ l then ddL l else a :: ddL l
theorem ddL_mem {x : List Nat} : ∀ {l : List (List Nat)}, x ∈ ddL l ↔ x ∈ l
  | [] => Iff.rfl
  | a :: l => by
    unfold ddL
    by_cases h : a ∈ l
    · rw [if_pos h, ddL_mem (l := l), List.mem_cons]
      exact ⟨.inr, fun z => z.elim (fun e => e ▸ h) id⟩
    · rw [if_neg h, List.mem_cons, List.mem_cons, ddL_mem (l := l)]
theorem ddL_nd : ∀ l : List (List Nat), (ddL l).Nodup
  | [] => List.nodup_nil
  | a :: l => by
    unfold ddL
    by_cases h : a ∈ l
    · rw [if_pos h]; exact ddL_nd l
    · rw [if_neg h]
      exact List.nodup_cons.mpr ⟨fun z => h (ddL_mem.mp z), ddL_nd l⟩
theorem perm_of_nd {α : Type} [DecidableEq α] {l m : List α} (h1 : l.Nodup) (h2 : m.Nodup) (h : ∀ x, x ∈ l ↔ x ∈ m) : l.Perm m := List.perm_iff_count.mpr fun x => by
  rw [h1.count, h2.count]
  by_cases q : x ∈ l
  · rw [if_pos q, if_pos ((h x).mp q)]
  · rw [if_neg q, if_neg (fun z => q ((h x).mpr z))]
section
variable {K : PySem.W.Frag} {H H' : Hp} {σ : L2.St} {te ta tb : TE} {tt : TT} {d e : PyData} {ds es : List PyData}
theorem dp_nats {vs : List V} {l : List Nat} (h : DpAll K H vs (l.map nD)) : vs = l.map iV := by
  rw [nD_zI] at h
  rw [h.ints_eq]
  unfold zI
  rw [List.map_map]
  rfl
theorem nats_dp (l : List Nat) : DpAll K H (l.map iV) (l.map nD) := by
  have h := dpAll_ints K H (zI l)
  rw [← nD_zI] at h
  unfold zI at h
  rw [List.map_map] at h
  exact h
theorem ints_dp (l : List Nat) : DpAll K H ((zI l).map V.int) (l.map nD) := by
  rw [nD_zI]
  exact dpAll_ints K H (zI l)
theorem evn_sortedI {l : List Nat} (h : EvD K ta σ H (.list (l.map nD))) : EvN K (tCB (rSortedI K) (tCons ta tNil)) σ H ((srtN l).map nD) := evn_cb (eda_one h) fun H1 vs _ hs Q q => by
  obtain ⟨v, rfl, hv⟩ := one_arg hs
  obtain ⟨a, xs, rfl, s, hd⟩ := hv.lst_at
  rw [nD_zI] at hd
  have e1 := hd.ints_eq
  subst e1
  refine ⟨a, zI l, rfl, s, fun zs p hp hs hn => ?_⟩
  rw [srtN_int hp hs]
  exact q p _ _ hn (Ex.new hn) upd_same (ints_dp _)
/-- data that are lots -/
theorem lots_at : ∀ {xs : List V} {p : List (List Nat)}, DpAll K H xs (p.map eL) → ∃ ks : List (Addr × List Int), xs = ks.map (fun q => V.ref q.1) ∧ ks.map (·.2) = p.map zI ∧ ∀ q ∈ ks, SqT K H q.1 (q.2.map V.int)
  | [], [], _ => ⟨[], rfl, rfl, fun q h => by cases h⟩
  | [], _ :: _, h => by cases h
  | _ :: _, [], h => by cases h
  | x :: xs, l :: p, h => by
    cases h with
    | cons a t =>
      obtain ⟨ks, e1, e2, e3⟩ := lots_at t
      obtain ⟨b, ys, rfl, s, hd⟩ := Dp.tup_at (ds := l.map nD) a
      rw [nD_zI] at hd
      have e4 := hd.ints_eq
      subst e4
      refine ⟨(b, zI l) :: ks, by rw [e1]; rfl, by rw [List.map_cons, e2]; rfl, fun q hq => ?_⟩
      rcases List.mem_cons.mp hq with rfl | hq
      · exact s
      · exact e3 q hq
theorem lots_dp : ∀ {ks : List (Addr × List Int)} {p : List (List Nat)}, ks.map (·.2) = p.map zI → (∀ q ∈ ks, SqT K H q.1 (q.2.map V.int)) → DpAll K H (ks.map fun q => V.ref q.1) (p.map eL)
  | [], [], _, _ => .nil
  | [], _ :: _, h, _ => by cases h
  | _ :: _, [], h, _ => by cases h
  | k :: ks, l :: p, h, g => by
    have h' := List.cons.inj h
    refine .cons (.tup (g k List.mem_cons_self) ?_) (lots_dp h'.2 fun q hq => g q (List.mem_cons_of_mem _ hq))
    rw [show k.2 = zI l from h'.1]
    exact ints_dp l
/-- a list of lists of ints that a permutation of what l gives, sorted -/
theorem zI_back : ∀ {ys : List (List Int)} {p : List (List Nat)}, (∀ y ∈ ys, ∃ l, l ∈ p ∧ y = zI l) → ∃ q : List (List Nat), ys = q.map zI
  | [], _, _ => ⟨[], rfl⟩
  | y :: ys, p, h => by
    obtain ⟨q, e⟩ := zI_back (ys := ys) (p := p) fun z hz => h z (List.mem_cons_of_mem _ hz)
    obtain ⟨l, _, e2⟩ := h y List.mem_cons_self
    exact ⟨l :: q, by rw [e, e2]; rfl⟩
theorem zI_perm : ∀ {q p : List (List Nat)}, (q.map zI).Perm (p.map zI) → q.Perm p
  | [], p, h => by
    have e := List.nil_perm.mp h
    cases p with
    | nil => exact .nil
    | cons _ _ => cases e
  | a :: q, p, h => by
    have m : zI a ∈ p.map zI := h.mem_iff.mp List.mem_cons_self
    obtain ⟨b, hb, e⟩ := List.mem_map.mp m
    have e' := zI_inj e
    subst e'
    have p2 : p.Perm (b :: p.erase b) := List.perm_cons_erase hb
    have h2 : (zI b :: q.map zI).Perm (zI b :: (p.erase b).map zI) := h.trans (p2.map zI)
    exact (List.Perm.cons b (zI_perm h2.cons_inv)).trans p2.symm
theorem srtL_int {p : List (List Nat)} {L : List (Addr × List Int)} (h : (L.map (·.2)).Perm (p.map zI)) (s : L.Pairwise fun q r => HT.lexLt r.2 q.2 = false) : L.map (·.2) = (srtL p).map zI := by
  obtain ⟨q, e⟩ := zI_back (ys := L.map (·.2)) (p := p) fun y hy => by
    obtain ⟨l, h1, h2⟩ := List.mem_map.mp (h.mem_iff.mp hy)
    exact ⟨l, h1, h2.symm⟩
  rw [e] at h ⊢
  rw [← srtL_uniq (zI_perm h)]
  have s' : (L.map (·.2)).Pairwise fun a b => HT.lexLt b a = false := List.pairwise_map.mpr s
  rw [e] at s'
  refine (List.pairwise_map.mp s').imp fun {a b} z => ?_
  unfold leL ltL
  rw [z]
  rfl
theorem evn_sortedL {p : List (List Nat)} (h : EvD K ta σ H (.list (p.map eL))) (hne : ∀ l ∈ p, l ≠ []) : EvN K (tCB (rSortedL K) (tCons ta tNil)) σ H ((srtL p).map eL) := evn_cb (eda_one h) fun H1 vs _ hs Q q => by
  obtain ⟨v, rfl, hv⟩ := one_arg hs
  obtain ⟨a, xs, rfl, s, hd⟩ := hv.lst_at
  obtain ⟨ks, rfl, e2, e3⟩ := lots_at hd
  refine ⟨a, ks, rfl, s, fun r hr => ⟨e3 r hr, ?_⟩, fun L l hp hs hn => ?_⟩
  · have : r.2 ∈ ks.map (·.2) := List.mem_map_of_mem hr
    rw [e2] at this
    obtain ⟨m, hm, em⟩ := List.mem_map.mp this
    intro z
    rw [z] at em
    refine hne m hm ?_
    cases m with
    | nil => rfl
    | cons _ _ => cases em
  · refine q l _ _ hn (Ex.new hn) upd_same ((lots_dp (H := H1) (srtL_int (p := p) ?_ hs) fun r hr => e3 r (hp.mem_iff.mp hr)).ex (Ex.new hn))
    rw [← e2]
    exact hp.map _
/-- sorted(set(xs)) -/
theorem evn_sortedS {P : Program} {w : World} {p : List (List Nat)} (h : EvD K ta σ H (.list (p.map eL))) (hne : ∀ l ∈ p, l ≠ []) (hl : p.length < 64) :
    EvN K (tCB (rSortedS K P w) (tCons (tCB (rSetOfT K P w) (tCons ta tNil)) tNil)) σ H ((srtL (ddL p)).map eL) := fun H1 x Q q => h H1 x _ fun v H2 x2 hv => by
  obtain ⟨a, xs, rfl, s, hd⟩ := hv.lst_at
  obtain ⟨ks, rfl, e2, e3⟩ := lots_at hd
  have kl : ks.length = p.length := by
    have := congrArg List.length e2
    simpa using this
  refine ⟨a, ks, rfl, s, e3, by omega, fun b L hb l1 l2 => ⟨b, L, rfl, upd_same, fun r hr => ⟨Evl.ex_t (Ex.new hb) (e3 r (l1 r hr)), ?_⟩, fun L' c hp nd hs hn => ?_⟩⟩
  · have : r.2 ∈ ks.map (·.2) := List.mem_map_of_mem (l1 r hr)
    rw [e2] at this
    obtain ⟨m, hm, em⟩ := List.mem_map.mp this
    intro z
    rw [z] at em
    refine hne m hm ?_
    cases m with
    | nil => rfl
    | cons _ _ => cases em
  · have E := (Ex.new (o := SetTO P w b L) hb).trans (Ex.new (o := .lst (L'.map fun q => V.ref q.1)) hn)
    refine q c _ _ (Evl.fresh_back (x2.trans (Ex.new hb)) hn) (x2.trans E) upd_same ((lots_dp (H := H2) (srtL_int (p := ddL p) ?_ hs) fun r hr => e3 r (l1 r (hp.mem_iff.mp hr))).ex E)
    have nd2 : ((ddL p).map zI).Nodup := List.Pairwise.map _ (fun _ _ n e => n (zI_inj e)) (ddL_nd p)
    refine perm_of_nd nd nd2 fun z => ⟨fun hz => ?_, fun hz => ?_⟩
    · obtain ⟨r, hr, rfl⟩ := List.mem_map.mp hz
      have : r.2 ∈ ks.map (·.2) := List.mem_map_of_mem (l1 r (hp.mem_iff.mp hr))
      rw [e2] at this
      obtain ⟨m, hm, em⟩ := List.mem_map.mp this
      exact List.mem_map.mpr ⟨m, ddL_mem.mpr hm, em⟩
    · obtain ⟨m, hm, rfl⟩ := List.mem_map.mp hz
      have : zI m ∈ p.map zI := List.mem_map_of_mem (ddL_mem.mp hm)
      rw [← e2] at this
      obtain ⟨r, hr, er⟩ := List.mem_map.mp this
      have := l2 r hr
      rw [er] at this
      exact ((hp.map _).mem_iff).mpr this
/-- len(set(xs)) -/
theorem evd_lenSet {ns : List Int} (h : EvD K ta σ H (.list (ns.map PyData.int))) (hl : ns.length < 64) : EvD K (tLenSetN K ta) σ H (.int (diffN ns)) := fun H1 x Q q => h H1 x _ fun v H2 x2 hv => by
  obtain ⟨a, xs, rfl, s, hd⟩ := hv.lst_at
  have e1 := hd.ints_eq
  subst e1
  exact ⟨a, ns, rfl, s, hl, q _ H2 x2 (.int _)⟩
/-- list(range(n)) -/
theorem evn_listRg {n : Nat} (h : EvD K ta σ H (.int n)) (hn : n ≤ 100000) : EvN K (tLstRg (tRg1 ta)) σ H ((List.range n).map nD) := fun H1 x Q q => h H1 x _ fun v H2 x2 hv => by
  refine ⟨n, hv.int_eq, RgOk.of_le (by omega) (by omega) (by omega) (by omega), fun r hr => ?_⟩
  have e : rgV 0 n = (List.range n).map iV := by
    unfold rgV
    rw [show ((n : Int) - 0).toNat = n by omega]
    refine List.map_congr_left fun i _ => ?_
    show V.int (0 + (i : Int)) = V.int i
    rw [Int.zero_add]
  rw [e]
  exact q r _ _ (Evl.fresh_back x2 hr) (x2.trans (Ex.new hr)) upd_same (nats_dp _)
/-! isinstance -/
def tyD : PyData → String
  | .none => "NoneType"
  | .bool _ => "bool"
  | .int _ => "int"
  | .str _ => "str"
  | .tuple _ => "tuple"
  | .list _ => "list"
  | .dict _ => "dict"
theorem ty_dp {v : V} (h : Dp K H v d) : TyX K H v (.type (tyD d)) := by
  cases h with
  | non => exact .base .non
  | bl b => exact .base (.bl b)
  | int i => exact .base (.int i)
  | str s => exact .base (.str s)
  | lst s _ =>
    rcases s with (s | ⟨o, s⟩) | ⟨o, its, n, s, c, _⟩
    · exact .base (.lst s)
    · exact .base (.frz s)
    · exact .kList s c
  | tup s _ =>
    rcases s with (s | ⟨o, s⟩) | ⟨o, its, n, s, c, _⟩
    · exact .base (.tup s)
    · exact .fTuple s
    · exact .kTuple s c
theorem evd_isi {T : String} {b : Bool} (h : EvD K ta σ H d) (hk : kitB (tyD d) T = some b) : EvD K (tCB (rIsi K) (tCons ta (tCons (tC (.ty T)) tNil))) σ H (.bool b) := fun H1 x Q q => h H1 x _ fun v H2 x2 hv =>
  ⟨v, .ty T, .type (tyD d), .type T, b, rfl, .ty T, ty_dp hv, kit_ty hk, q _ H2 x2 (.bl b)⟩
end
end PR
set_option maxHeartbeats 400000
namespace PR
open PySem PySem.Spec PyProof.Rows L2
section
variable {X : Cx}
/-- tuple(xs) of a list: a new tuple whose record is known -/
def rTupZ (K : PySem.W.Frag) : List V → Hp → VK → Prop := fun vs H Q => ∃ a ys, vs = [V.ref a] ∧ SqL K H a ys ∧ ∀ b o, H b = none → o.dict = none → Q (.ref b) (upd H b (.frz o (.tup ys)))
theorem call_tupZ : CallR X (.type "tuple") (rTupZ X.K) := by
  intro pins s σ H vs us Q I r h
  obtain ⟨a, ys, rfl, hs, q⟩ := h
  obtain ⟨u, rfl, ru⟩ := vals1 r
  cases ru
  obtain ⟨its, rv, lst, hz⟩ := I.list hs
  have hn := rv.length
  refine call_tuple_list lst.isList (fun h1 k1 => ?_) (by rw [List.size_toArray]; omega)
  have J : Inv X pins σ H { s with heap := h1 } := I.kept (t' := s.toks) k1
  have g : (h1.push { cls := .type "tuple", data := .seq its.toArray }).get? h1.objs.size = some { cls := .type "tuple", data := .seq its.toArray } := Heap.get?_push_size _ rfl
  refine ⟨.ref h1.objs.size, _, J.laid (t' := s.toks) (fun c ob e => Heap.get?_push_of_some _ e) (Nat.le_refl _) (o := .frz { cls := .type "tuple", data := .seq its.toArray } (.tup ys)) ⟨g, hz, its, rv, IsTup.new _ _⟩, rfl, q _ _ (J.hok.fresh (Nat.le_refl _)) rfl⟩
/-- such a tuple -/
def tyTupZ (x : V) (H : Hp) : Prop := ∃ p o ys, x = .ref p ∧ H p = some (.frz o (.tup ys)) ∧ o.dict = none
theorem ty_tupZ : TyOk X "tuple" tyTupZ := by
  intro pins σ H s x v I r ty
  obtain ⟨p, o, ys, rfl, hp, hd⟩ := ty
  cases r
  obtain ⟨e, _, its, _, t⟩ := (show ObjOk X.prog X.w H s.heap p (.frz o (.tup ys)) from I.hok p _ hp)
  refine ⟨t.typeIs, fun b hb => ?_⟩
  cases hb
  exact ⟨o, e, hd⟩
end
end PR
set_option maxHeartbeats 400000
namespace PR
open PySem PySem.Spec PyProof.Rows L2
open Evl (Ex EvT)
section
variable {K : PySem.W.Frag} {H H' : Hp} {σ : L2.St} {te ta tb : TE} {tt : TT} {d e : PyData} {ds es : List PyData} {wi : TI} {g : TG} {vs : List Nat}
/-- data behind a change at D, where D is not met -/
theorem dpAll_at {D : Addr} {o : HO} {xs : List V} (t : tupOs es = true) (h : DpAll K H xs es) (hD : ∃ ys, H D = some (.lst ys)) (zs : List V) : DpAll K (upd H D (.lst zs)) xs es := by
  obtain ⟨ys, hD⟩ := hD
  exact DpAll.tex (TEx.lst hD) es t h
/-- sum([new lists], []) -/
theorem evn_sumLc {j : Nat} {F : PyData → List PyData} (hI : EvJ K wi σ H ds) (hz : ds.length ≤ 50000) (hF : ∀ d ∈ ds, tupOs (F d) = true) (hw : ∀ x, wipe ((wipe σ vs).set j (some x)) vs = wipe σ vs)
    (he : ∀ d ∈ ds, ∀ x H1, Ex H H1 → Dp K H1 x d → EvN K te ((wipe σ vs).set j (some x)) H1 (F d)) (hs : ((ds.map F).flatten).length ≤ 100000) :
    EvN K (tCB (rSumL K) (tCons (tLc wi (gName j) tYes te vs) (tCons (tLst tNil) tNil))) σ H (ds.map F).flatten := fun H0 x Q q => hI H0 x _ fun J H1 e1 src D hD =>
  lc_it (n := ds.length) (G := Ex H1) (Y := YD K ds) src
    (fun i H' => Ex H1 H' ∧ ∃ ps : List (Addr × List V), H' D = some (.lst (ps.map fun p => V.ref p.1)) ∧ (∀ p ∈ ps, p.1 ≠ D ∧ H' p.1 = some (.lst p.2)) ∧ ps.length = i ∧ DpAll K H' (ps.map (·.2)).flatten ((ds.take i).map F).flatten)
    ⟨Ex.new hD, [], upd_same, (fun p hp => by cases hp), rfl, .nil⟩ (fun i H' _ p => p.1)
    (fun i y H2 H3 hi p hy => by
      obtain ⟨p1, ps, p2, p3, p5, p4⟩ := p
      obtain ⟨y1, d, y2, y3⟩ := hy
      have tk : ds.take (i + 1) = ds.take i ++ [d] := by
        rw [List.take_add_one, y2]
        rfl
      refine ⟨hw y, ?_⟩
      dsimp only [tYes]
      rw [if_pos rfl]
      refine he d (List.mem_of_getElem? y2) y H3 ((x.trans e1).trans (p1.trans y1)) y3 H3 (Ex.refl _) _ fun b xs H5 hb e5 hbx hxs => ?_
      have hD5 : H5 D = some (.lst (ps.map fun p => V.ref p.1)) := e5 D _ (y1 D _ p2)
      have bD : b ≠ D := fun z => by
        rw [z, y1 D _ p2] at hb
        cases hb
      refine ⟨_, hD5, ?_, Ex.mut ((p1.trans y1).trans e5) hD, ps ++ [(b, xs)], ?_, fun r hr => ?_, by simp [p5], ?_⟩
      · refine Evl.sz_lt ?_
        rw [List.length_map, p5]
        omega
      · rw [upd_same, List.map_append]
        rfl
      · rcases List.mem_append.mp hr with hr | hr
        · obtain ⟨r1, r2⟩ := p3 r hr
          exact ⟨r1, by rw [upd_ne r1]; exact e5 _ _ (y1 _ _ r2)⟩
        · cases List.mem_singleton.mp hr
          exact ⟨bD, by rw [upd_ne bD]; exact hbx⟩
      · rw [tk, List.map_append, List.flatten_append, List.map_append, List.flatten_append]
        have t := TEx.lst (ys := (ps.map fun p => V.ref p.1) ++ [V.ref b]) hD5
        refine DpAll.app (DpAll.tex t _ ?_ (p4.ex (y1.trans e5))) ?_
        · refine tupOs_all.mpr fun z hz => ?_
          obtain ⟨l, hl, hz⟩ := List.mem_flatten.mp hz
          obtain ⟨w, hw, rfl⟩ := List.mem_map.mp hl
          exact tupOs_all.mp (hF w (List.mem_of_mem_take hw)) z hz
        · show DpAll K _ ([xs].flatten) ([F d].flatten)
          rw [show [xs].flatten = xs by simp, show [F d].flatten = F d by simp]
          exact DpAll.tex t _ (hF d (List.mem_of_getElem? y2)) hxs)
    (fun H' p => by
      obtain ⟨p1, ps, p2, p3, p5, p4⟩ := p
      rw [List.take_length] at p4
      refine ⟨Nat.zero_le _, fun b hb => ⟨D, b, ps, [], rfl, Evl.ex_l (Ex.new hb) (Evl.sq_of p2), fun r hr => Ex.new hb _ _ (p3 r hr).2, upd_same, ?_, fun z => ?_, fun l hl => ?_⟩⟩
      · rw [List.nil_append]
        refine Evl.sz_of ?_
        rw [p4.len]
        exact hs
      · subst z
        have z0 : ds.length = 0 := p5.symm
        have z1 : ds = [] := List.length_eq_zero_iff.mp z0
        subst z1
        exact q b [] _ (Evl.fresh_back (e1.trans p1) hb) ((e1.trans p1).trans (Ex.new hb)) upd_same .nil
      · have E := (Ex.new (o := .lst []) hb).trans (Ex.new (o := .lst ([] ++ (ps.map (·.2)).flatten)) hl)
        refine q l _ _ (Evl.fresh_back ((e1.trans p1).trans (Ex.new hb)) hl) ((e1.trans p1).trans E) upd_same ?_
        rw [List.nil_append] at E ⊢
        exact p4.ex E)
/-- t.index(z) -/
def rIdxI (K : PySem.W.Frag) : V → List V → Hp → VK → Prop := fun x xs H Q => ∃ p, ∃ ys : List Int, ∃ z j, x = .ref p ∧ xs = [.int z] ∧ SqT K H p (ys.map V.int) ∧ ys[j]? = some z ∧ (∀ m, m < j → ys[m]? ≠ some z) ∧ Q (.int (j : Nat)) H
theorem evd_index {ns : List Nat} {z j i : Nat} {p : Addr} {o : Obj} (ha : σ[i]? = some (some (.ref p))) (hp : H p = some (.frz o (.tup (ns.map iV)))) (ho : o.dict = none) (hb : EvD K tb σ H (nD z)) (hj : ns[j]? = some z) (hno : ∀ m, m < j → ns[m]? ≠ some z) :
    EvD K (tMG tyTupZ (rIdxI K) (tVar i) (tCons tb tNil)) σ H (nD j) := fun H1 x Q q => by
    refine ⟨_, ha, ⟨p, o, _, rfl, x _ _ hp, ho⟩, hb H1 x _ fun u H3 e3 hu => ⟨p, zI ns, (z : Int), j, rfl, by rw [Dp.int_eq hu], ?_, ?_, fun m hm => ?_, q _ H3 e3 (.int _)⟩⟩
    · refine .inl (.inr ⟨o, ?_⟩)
      rw [show (zI ns).map V.int = ns.map iV by unfold zI; rw [List.map_map]; rfl]
      exact e3 _ _ (x _ _ hp)
    · unfold zI
      rw [List.getElem?_map, hj]
      rfl
    · unfold zI
      rw [List.getElem?_map]
      cases h : ns[m]? with
      | none => simp
      | some y =>
        intro e
        have := hno m hm
        rw [h] at this
        exact this (congrArg some (Int.ofNat.inj (Option.some.inj e)))
end
end PR
set_option maxHeartbeats 400000
namespace PR
open PySem PySem.Spec PyProof.Rows L2
open Evl (Ex EvT)
theorem _root_.L2.Room.u1 {k : Nat} {A : Around} (r : Room k A) : A.units + 1 < cLine := by have := r.un; omega
theorem _root_.L2.Room.u65 {k : Nat} {A : Around} (r : Room k A) : A.units + 65 < cLine := by have := r.un; omega
section
variable {K : PySem.W.Frag} {H H' : Hp} {σ : L2.St} {te ta tb : TE} {tt : TT} {d e : PyData} {ds es : List PyData} {wi : TI} {g : TG} {vs : List Nat}
def prD (p : PyData × PyData) : PyData := .tuple [p.1, p.2]
/-- [.. for a, b in pairs] -/
theorem evn_mapP {i j : Nat} {ps : List (PyData × PyData)} {F : PyData × PyData → PyData} (hI : EvJ K wi σ H (ps.map prD)) (hz : ps.length ≤ 50000) (hF : ∀ p ∈ ps, tupO (F p) = true) (hw : ∀ x y, wipe (((wipe σ vs).set i (some x)).set j (some y)) vs = wipe σ vs)
    (he : ∀ p ∈ ps, ∀ x y H1, Ex H H1 → Dp K H1 x p.1 → Dp K H1 y p.2 → EvD K te (((wipe σ vs).set i (some x)).set j (some y)) H1 (F p)) : EvN K (tLc wi (gTup K 2 (gCons (gName i) (gCons (gName j) gNil))) tYes te vs) σ H (ps.map F) := by
  let F' : PyData → Option PyData := fun d => match d with
    | .tuple [a, b] => some (F (a, b))
    | _ => none
  refine evn_is (evn_lc (F := F') hI (by simpa using hz) (fun d hd e h => ?_) fun d hd x H1 e1 hx => ?_) ?_
  · obtain ⟨p, hp, rfl⟩ := List.mem_map.mp hd
    have : F p = e := Option.some.inj h
    exact this ▸ hF p hp
  · obtain ⟨p, hp, rfl⟩ := List.mem_map.mp hd
    refine tg_pair hx fun y z hy hz => ⟨hw y z, fun H2 e2 Q q => q H2 (Ex.refl _), fun e h => ?_⟩
    have : F p = e := Option.some.inj h
    exact this ▸ he p hp y z H1 e1 hy hz
  · rw [List.filterMap_map]
    show ps.filterMap (fun p => some (F p)) = _
    exact List.filterMap_eq_map' ▸ rfl
/-- for a, b in pairs -/
theorem tg_pair' {i j : Nat} {x : V} {Q : L2.St → Hp → Prop} (hx : Dp K H x (.tuple [d, e])) (h : ∀ y z, Dp K H y d → Dp K H z e → Q ((σ.set i (some y)).set j (some z)) H) : gTup K 2 (gCons (gName i) (gCons (gName j) gNil)) x σ H Q := by
  obtain ⟨a, xs, rfl, s, hd⟩ := hx.tup_at
  cases hd with
  | cons h1 t =>
    cases t with
    | cons h2 t =>
      cases t
      exact ⟨a, _, rfl, s, rfl, _, _, rfl, _, _, rfl, rfl, h _ _ h1 h2⟩
theorem zpD_pr (ds es : List PyData) : zpD ds es = (ds.zip es).map prD := rfl
def enP (ds : List PyData) : List (PyData × PyData) := ds.zipIdx.map fun p => (.int (p.2 : Int), p.1)
theorem enD_pr (ds : List PyData) : enD ds = (enP ds).map prD := by
  unfold enD enP
  rw [List.map_map]
  rfl
/-! tests -/
theorem evt_lt {i j : Int} (ha : EvD K ta σ H (.int i)) (hb : EvD K tb σ H (.int j)) : EvD K (tOp (rI0 fun i j => .bl (decide (i < j))) ta tb) σ H (.bool (decide (i < j))) := evd_I0 ha hb fun _ => .bl _
theorem evd_ltT {a b : List Int} (ha : EvD K ta σ H (.tuple (a.map PyData.int))) (hb : EvD K tb σ H (.tuple (b.map PyData.int))) : EvD K (tOp (rLtT K) ta tb) σ H (.bool (HT.lexLt a b)) :=
  evd_op ha hb fun H1 x y _ hx hy Q q => by
    obtain ⟨u, xs, rfl, s, hd⟩ := hx.tup_at
    obtain ⟨v, ys, rfl, s2, hd2⟩ := hy.tup_at
    have e1 := hd.ints_eq
    have e2 := hd2.ints_eq
    subst e1 e2
    exact ⟨u, v, a, b, rfl, rfl, s, s2, q _ H1 (Ex.refl _) (.bl _)⟩
theorem scal_int {x y : V} (hx : ∃ i, x = .int i) (hy : ∃ j, y = .int j) : scal x y = true := by
  obtain ⟨i, rfl⟩ := hx
  obtain ⟨j, rfl⟩ := hy
  rfl
theorem evd_eqI {i j : Int} (ha : EvD K ta σ H (.int i)) (hb : EvD K tb σ H (.int j)) : EvD K (tOp rEq ta tb) σ H (.bool (decide (i = j))) :=
  evd_op ha hb fun H1 x y _ hx hy Q q => by
    rw [hx.int_eq, hy.int_eq]
    refine ⟨rfl, ?_⟩
    have : decide (V.int i = V.int j) = decide (i = j) := by
      by_cases h : i = j
      · subst h; simp
      · rw [decide_eq_false h, decide_eq_false (fun z => h (V.int.inj z))]
    rw [this]
    exact q _ H1 (Ex.refl _) (.bl _)
theorem evd_neI {i j : Int} (ha : EvD K ta σ H (.int i)) (hb : EvD K tb σ H (.int j)) : EvD K (tOp rNe ta tb) σ H (.bool (!decide (i = j))) :=
  evd_op ha hb fun H1 x y _ hx hy Q q => by
    rw [hx.int_eq, hy.int_eq]
    refine ⟨rfl, ?_⟩
    have : decide (V.int i = V.int j) = decide (i = j) := by
      by_cases h : i = j
      · subst h; simp
      · rw [decide_eq_false h, decide_eq_false (fun z => h (V.int.inj z))]
    rw [this]
    exact q _ H1 (Ex.refl _) (.bl _)
/-- a <= b <= c -/
theorem evd_chain {r r' : R2} {tc : TE} {da db dc : PyData} {b c : Bool} (ha : EvD K ta σ H da) (hb : EvD K tb σ H db) (hc : b = true → EvD K tc σ H dc)
    (hr : ∀ H1 x y, Ex H H1 → Dp K H1 x da → Dp K H1 y db → ∀ Q : VK, (∀ v H2, Ex H1 H2 → Dp K H2 v (.bool b) → Q v H2) → r x y H1 Q)
    (hr' : ∀ H1 x y, Ex H H1 → Dp K H1 x db → Dp K H1 y dc → ∀ Q : VK, (∀ v H2, Ex H1 H2 → Dp K H2 v (.bool c) → Q v H2) → r' x y H1 Q) : EvD K (tChain r r' ta tb tc) σ H (.bool (b && c)) := fun H1 x Q q =>
  ha H1 x _ fun u H2 e2 hu => hb H2 (x.trans e2) _ fun v H3 e3 hv => hr H3 u v ((x.trans e2).trans e3) (hu.ex e3) hv _ fun z H4 e4 hz => ⟨b, hz.bl_eq, by
    cases b with
    | true =>
      refine iteT ?_
      exact hc rfl H4 (((x.trans e2).trans e3).trans e4) _ fun y H5 e5 hy => hr' H5 v y ((((x.trans e2).trans e3).trans e4).trans e5) (hv.ex (e4.trans e5)) hy Q fun k H6 e6 hk => q k H6 ((((e2.trans e3).trans e4).trans e5).trans e6) hk
    | false =>
      refine iteF ?_
      exact q _ H4 ((e2.trans e3).trans e4) (.bl false)⟩
theorem chainI {g : Int → Int → V} {i j : Int} {b : Bool} (hg : g i j = .bl b) (H1 : Hp) (x y : V) (hx : Dp K H1 x (.int i)) (hy : Dp K H1 y (.int j)) (Q : VK) (q : ∀ v H2, Ex H1 H2 → Dp K H2 v (.bool b) → Q v H2) : rI0 g x y H1 Q :=
  ⟨i, j, hx.int_eq, hy.int_eq, by rw [hg]; exact q _ H1 (Ex.refl _) (.bl b)⟩
/-- low <= n <= high -/
theorem evd_between {tc : TE} {i j k : Int} (ha : EvD K ta σ H (.int i)) (hb : EvD K tb σ H (.int j)) (hc : EvD K tc σ H (.int k)) :
    EvD K (tChain (rI0 fun i j => .bl (decide (i ≤ j))) (rI0 fun i j => .bl (decide (i ≤ j))) ta tb tc) σ H (.bool (decide (i ≤ j) && decide (j ≤ k))) :=
  evd_chain ha hb (fun _ => hc) (fun H1 x y _ hx hy Q q => chainI rfl H1 x y hx hy Q q) fun H1 x y _ hx hy Q q => chainI rfl H1 x y hx hy Q q
theorem evd_and1 {b : Bool} (h : EvD K te σ H (.bool b)) : EvD K te σ H (.bool b) := h
theorem evd_add {i j : Int} (ha : EvD K ta σ H (.int i)) (hb : EvD K tb σ H (.int j)) : EvD K (tOp (rI0 fun i j => .int (i + j)) ta tb) σ H (.int (i + j)) := evd_I0 ha hb fun _ => .int _
theorem evd_sub {i j : Int} (ha : EvD K ta σ H (.int i)) (hb : EvD K tb σ H (.int j)) : EvD K (tOp (rI0 fun i j => .int (i - j)) ta tb) σ H (.int (i - j)) := evd_I0 ha hb fun _ => .int _
theorem evd_mod {i j : Int} (ha : EvD K ta σ H (.int i)) (hb : EvD K tb σ H (.int j)) (hj : 0 < j) : EvD K (tOp (rI (fun _ j => 0 < j) fun i j => .int (i % j)) ta tb) σ H (.int (i % j)) := evd_I ha hb hj fun _ => .int _
/-- a statement that returns data -/
theorem ret_bool {D : Ends} {b : Bool} (h : EvD K te σ H (.bool b)) (k : ∀ H1, Ex H H1 → D.rt (.bl b) H1) : tRet te D σ H := s_retD h fun v H1 e hv => by
  rw [hv.bl_eq]
  exact k H1 e
def isIntD : PyData → Bool
  | .int _ => true
  | .bool _ => true
  | _ => false
def isBoolD : PyData → Bool
  | .bool _ => true
  | _ => false
def isTupD : PyData → Bool
  | .tuple _ => true
  | _ => false
theorem isi_int : ∀ x : PyData, kitB (tyD x) "int" = some (isIntD x)
  | .none => (by decide +kernel : kitB "NoneType" "int" = some false)
  | .bool _ => (by decide +kernel : kitB "bool" "int" = some true)
  | .int _ => (by decide +kernel : kitB "int" "int" = some true)
  | .str _ => (by decide +kernel : kitB "str" "int" = some false)
  | .tuple _ => (by decide +kernel : kitB "tuple" "int" = some false)
  | .list _ => (by decide +kernel : kitB "list" "int" = some false)
  | .dict _ => (by decide +kernel : kitB "dict" "int" = some false)
theorem isi_bool : ∀ x : PyData, kitB (tyD x) "bool" = some (isBoolD x)
  | .none => (by decide +kernel : kitB "NoneType" "bool" = some false)
  | .bool _ => (by decide +kernel : kitB "bool" "bool" = some true)
  | .int _ => (by decide +kernel : kitB "int" "bool" = some false)
  | .str _ => (by decide +kernel : kitB "str" "bool" = some false)
  | .tuple _ => (by decide +kernel : kitB "tuple" "bool" = some false)
  | .list _ => (by decide +kernel : kitB "list" "bool" = some false)
  | .dict _ => (by decide +kernel : kitB "dict" "bool" = some false)
theorem isi_tuple : ∀ x : PyData, kitB (tyD x) "tuple" = some (isTupD x)
  | .none => (by decide +kernel : kitB "NoneType" "tuple" = some false)
  | .bool _ => (by decide +kernel : kitB "bool" "tuple" = some false)
  | .int _ => (by decide +kernel : kitB "int" "tuple" = some false)
  | .str _ => (by decide +kernel : kitB "str" "tuple" = some false)
  | .tuple _ => (by decide +kernel : kitB "tuple" "tuple" = some true)
  | .list _ => (by decide +kernel : kitB "list" "tuple" = some false)
  | .dict _ => (by decide +kernel : kitB "dict" "tuple" = some false)
theorem s_retC {D : Ends} {v : V} (h : D.rt v H) : tRet (tC v) D σ H := h
theorem evj_is (h : EvJ K wi σ H ds) (e : ds = es) : EvJ K wi σ H es := e ▸ h
theorem evi_is (h : EvI K wi σ H ds) (e : ds = es) : EvI K wi σ H es := e ▸ h
/-! the same, over typed lists -/
section
variable {α β : Type} {l : List α} {en : α → PyData} {F : α → PyData} {i j : Nat}
theorem evn_lcG {F : α → Option PyData} (hI : EvJ K wi σ H (l.map en)) (hz : l.length ≤ 50000) (hF : ∀ a ∈ l, ∀ e, F a = some e → tupO e = true)
    (hg : ∀ a ∈ l, ∀ x H1, Ex H H1 → Dp K H1 x (en a) → TgR g x (wipe σ vs) H1 fun σ2 H2 => wipe σ2 vs = wipe σ vs ∧ EvT tt σ2 H2 (F a).isSome ∧ ∀ e, F a = some e → EvD K te σ2 H2 e) :
    EvN K (tLc wi g tt te vs) σ H (l.filterMap F) := fun H0 x Q q => hI H0 x _ fun J H1 e1 src D hD =>
  lc_it (n := (l.map en).length) (G := Ex H1) (Y := YD K (l.map en)) src (fun i H' => Ex H1 H' ∧ ∃ acc, H' D = some (.lst acc) ∧ DpAll K H' acc ((l.take i).filterMap F)) ⟨Ex.new hD, [], upd_same, .nil⟩ (fun i H' _ p => p.1)
    (fun i y H2 H3 hi p hy => by
      obtain ⟨p1, acc, p2, p3⟩ := p
      obtain ⟨y1, d, y2, y3⟩ := hy
      rw [List.getElem?_map] at y2
      obtain ⟨a, ha, rfl⟩ := Option.map_eq_some_iff.mp y2
      have am := List.mem_of_getElem? ha
      refine hg a am y H3 ((x.trans e1).trans (p1.trans y1)) y3 _ fun σ2 ⟨w, ht, he⟩ => ⟨w, ?_⟩
      have tk : l.take (i + 1) = l.take i ++ [a] := by
        rw [List.take_add_one, ha]
        rfl
      have kp := y1 D _ p2
      cases hf : F a with
      | none =>
        rw [hf] at ht
        refine ht H3 (Ex.refl _) _ fun H4 e4 => iteF ?_
        refine ⟨(p1.trans y1).trans e4, acc, e4 D _ kp, ?_⟩
        rw [tk, List.filterMap_append, List.filterMap_cons, hf]
        show DpAll K H4 acc (_ ++ [])
        rw [List.append_nil]
        exact p3.ex (y1.trans e4)
      | some e =>
        rw [hf] at ht
        refine ht H3 (Ex.refl _) _ fun H4 e4 => iteT ?_
        have te' := hF a am e hf
        refine he e hf H4 e4 _ fun v H5 e5 hv => ⟨acc, e5 D _ (e4 D _ kp), ?_, Ex.mut (((p1.trans y1).trans e4).trans e5) hD, _, upd_same, ?_⟩
        · have h1 := List.length_filterMap_le F (l.take i)
          have h2 : (l.take i).length ≤ l.length := by
            rw [List.length_take]
            exact Nat.min_le_right _ _
          refine Evl.sz_lt ?_
          rw [p3.len]
          omega
        · have t := TEx.lst (ys := acc ++ [v]) (e5 D _ (e4 D _ kp))
          rw [tk, List.filterMap_append, List.filterMap_cons, hf]
          refine DpAll.app (DpAll.tex t _ (tupOs_all.mpr fun z hz => ?_) (p3.ex ((y1.trans e4).trans e5))) (.cons (Dp.tex t _ te' hv) .nil)
          obtain ⟨b, hb, hb2⟩ := List.mem_filterMap.mp hz
          exact hF b (List.mem_of_mem_take hb) z hb2)
    (fun H' p => by
      obtain ⟨p1, acc, p2, p3⟩ := p
      rw [List.length_map, List.take_length] at p3
      exact q D acc H' (Evl.fresh_back e1 hD) (e1.trans p1) p2 p3)
theorem evd_allM {f : α → Bool} (h : EvD K ta σ H (.list (l.map fun a => .bool (f a)))) : EvD K (tCB (rAll K) (tCons ta tNil)) σ H (.bool (l.all f)) :=
  evd_is (evd_all (bs := l.map f) (evd_is h (by rw [List.map_map]; rfl))) (by rw [List.all_map]; rfl)
theorem evd_anyM {f : α → Bool} (h : EvD K ta σ H (.list (l.map fun a => .bool (f a)))) : EvD K (tCB (rAny K) (tCons ta tNil)) σ H (.bool (l.any f)) :=
  evd_is (evd_any (bs := l.map f) (evd_is h (by rw [List.map_map]; rfl))) (by rw [List.any_map]; rfl)
theorem sum_cast (ns : List Nat) : (zI ns).sum = (ns.sum : Int) := by
  induction ns with
  | nil => rfl
  | cons a l ih =>
    show (a : Int) + (zI l).sum = _
    rw [ih, List.sum_cons]
    omega
theorem evd_sumM {f : α → Nat} (h : EvD K ta σ H (.list (l.map fun a => nD (f a)))) : EvD K (tCB (rSum K) (tCons ta tNil)) σ H (nD (l.map f).sum) :=
  evd_is (evd_sum (ns := zI (l.map f)) (evd_is h (by unfold zI; rw [List.map_map, List.map_map]; rfl))) (by rw [sum_cast]; rfl)
theorem evn_mapT (hI : EvJ K wi σ H (l.map en)) (hz : l.length ≤ 50000) (hF : ∀ a ∈ l, tupO (F a) = true) (hw : ∀ x, wipe ((wipe σ vs).set j (some x)) vs = wipe σ vs)
    (he : ∀ a ∈ l, ∀ x H1, Ex H H1 → Dp K H1 x (en a) → EvD K te ((wipe σ vs).set j (some x)) H1 (F a)) : EvN K (tLc wi (gName j) tYes te vs) σ H (l.map F) := by
  refine evn_is (evn_lcG (F := fun a => some (F a)) hI hz (fun a ha e h => by cases h; exact hF a ha) fun a ha x H1 e1 hx => tg_name ⟨hw x, fun H2 e2 Q q => q H2 (Ex.refl _), fun e h => by cases h; exact he a ha x H1 e1 hx⟩) ?_
  exact List.filterMap_eq_map' ▸ rfl
/-- [e for x in l if p], the element typed too -/
theorem evn_filterT {p : α → Bool} (hI : EvJ K wi σ H (l.map en)) (hz : l.length ≤ 50000) (hF : ∀ a ∈ l, p a = true → tupO (F a) = true) (hw : ∀ x, wipe ((wipe σ vs).set j (some x)) vs = wipe σ vs)
    (ht : ∀ a ∈ l, ∀ x H1, Ex H H1 → Dp K H1 x (en a) → EvT tt ((wipe σ vs).set j (some x)) H1 (p a)) (he : ∀ a ∈ l, p a = true → ∀ x H1, Ex H H1 → Dp K H1 x (en a) → EvD K te ((wipe σ vs).set j (some x)) H1 (F a)) :
    EvN K (tLc wi (gName j) tt te vs) σ H ((l.filter p).map F) := by
  refine evn_is (evn_lcG (F := fun a => if p a then some (F a) else none) hI hz (fun a ha e h => ?_) fun a ha x H1 e1 hx => tg_name ⟨hw x, ?_, fun e h => ?_⟩) ?_
  · cases hp : p a with
    | true => rw [hp, if_pos rfl] at h; cases h; exact hF a ha hp
    | false => rw [hp, if_neg (by decide)] at h; cases h
  · have : (if p a then some (F a) else none).isSome = p a := by cases p a <;> rfl
    rw [this]
    exact ht a ha x H1 e1 hx
  · cases hp : p a with
    | true => rw [hp, if_pos rfl] at h; cases h; exact he a ha hp x H1 e1 hx
    | false => rw [hp, if_neg (by decide)] at h; cases h
  · clear hI hz hF ht he
    induction l with
    | nil => rfl
    | cons a l ih =>
      rw [List.filterMap_cons, List.filter_cons]
      cases hp : p a with
      | true => simp [ih]
      | false => simpa using ih
/-- [.. for a, b in ..] -/
theorem evn_mapPT {en2 : α → PyData} (hI : EvJ K wi σ H (l.map fun a => prD (en a, en2 a))) (hz : l.length ≤ 50000) (hF : ∀ a ∈ l, tupO (F a) = true) (hw : ∀ x y, wipe (((wipe σ vs).set i (some x)).set j (some y)) vs = wipe σ vs)
    (he : ∀ a ∈ l, ∀ x y H1, Ex H H1 → Dp K H1 x (en a) → Dp K H1 y (en2 a) → EvD K te (((wipe σ vs).set i (some x)).set j (some y)) H1 (F a)) : EvN K (tLc wi (gTup K 2 (gCons (gName i) (gCons (gName j) gNil))) tYes te vs) σ H (l.map F) := by
  refine evn_is (evn_lcG (F := fun a => some (F a)) hI hz (fun a ha e h => by cases h; exact hF a ha) fun a ha x H1 e1 hx => tg_pair hx fun y z hy hz => ⟨hw y z, fun H2 e2 Q q => q H2 (Ex.refl _), fun e h => by cases h; exact he a ha y z H1 e1 hy hz⟩) ?_
  exact List.filterMap_eq_map' ▸ rfl
theorem evn_sumLcT {F : α → List PyData} (hI : EvJ K wi σ H (l.map en)) (hz : l.length ≤ 50000) (hF : ∀ a ∈ l, tupOs (F a) = true) (hw : ∀ x, wipe ((wipe σ vs).set j (some x)) vs = wipe σ vs) (inj : ∀ a ∈ l, ∃ G : PyData → List PyData, ∀ b ∈ l, G (en b) = F b)
    (he : ∀ a ∈ l, ∀ x H1, Ex H H1 → Dp K H1 x (en a) → EvN K te ((wipe σ vs).set j (some x)) H1 (F a)) (hs : ((l.map F).flatten).length ≤ 100000) :
    EvN K (tCB (rSumL K) (tCons (tLc wi (gName j) tYes te vs) (tCons (tLst tNil) tNil))) σ H (l.map F).flatten := by
  cases hl : l with
  | nil =>
    subst hl
    exact evn_sumLc (F := fun _ => []) hI (by simp) (fun _ h => by cases h) hw (fun _ h => by cases h) (by simp)
  | cons a r =>
    obtain ⟨G, hG⟩ := inj a (by rw [hl]; exact List.mem_cons_self)
    rw [← hl]
    have e : (l.map en).map G = l.map F := by
      rw [List.map_map]
      exact List.map_congr_left fun b hb => hG b hb
    refine evn_is (evn_sumLc (F := G) hI (by simpa using hz) (fun d hd => ?_) hw (fun d hd x H1 e1 hx => ?_) (by rw [e]; exact hs)) (by rw [e])
    · obtain ⟨b, hb, rfl⟩ := List.mem_map.mp hd
      rw [hG b hb]
      exact hF b hb
    · obtain ⟨b, hb, rfl⟩ := List.mem_map.mp hd
      rw [hG b hb]
      exact he b hb x H1 e1 hx
end
end
end PR
set_option maxHeartbeats 400000
namespace PR
open PySem PySem.Spec PyProof.Rows L2
open Evl (Ex EvT)
theorem sc_is_whole : FnScope ["value", "low", "high"] ["value", "low", "high"] (defScope (top 15)) := ⟨rfl, rfl, rfl, by decide +kernel, rfl, by decide +kernel, by decide +kernel⟩
theorem sc_rises_on : FnScope ["items", "one", "other"] ["items"] (defScope (top 18)) := ⟨rfl, rfl, rfl, by decide +kernel, rfl, by decide +kernel, by decide +kernel⟩
theorem sc_fits_lot : FnScope ["value", "one"] ["value"] (defScope (top 19)) := ⟨rfl, rfl, rfl, by decide +kernel, rfl, by decide +kernel, by decide +kernel⟩
theorem sc_do_cross : FnScope ["one", "other", "sides", "point", "limit", "side"] ["one", "other"] (defScope (top 20)) := ⟨rfl, rfl, rfl, by decide +kernel, rfl, by decide +kernel, by decide +kernel⟩
theorem sc_cross_free : FnScope ["lots", "place", "one", "other"] ["lots"] (defScope (top 21)) := ⟨rfl, rfl, rfl, by decide +kernel, rfl, by decide +kernel, by decide +kernel⟩
theorem sc_size_in : FnScope ["parting", "lot"] ["parting"] (defScope (top 23)) := ⟨rfl, rfl, rfl, by decide +kernel, rfl, by decide +kernel, by decide +kernel⟩
/-! mirrors -/
def isW (lo hi : Int) : PyData → Bool
  | .int n => decide (lo ≤ n) && decide (n ≤ hi)
  | _ => false
def risesI (ns : List Int) : Bool := (ns.zip (ns.drop 1)).all fun p => decide (p.1 < p.2)
def risesL (p : List (List Nat)) : Bool := (p.zip (p.drop 1)).all fun q => ltL q.1 q.2
def intsD : List PyData → List Int
  | [] => []
  | .int n :: r => n :: intsD r
  | _ :: r => intsD r
def fitsLotD : PyData → Bool
  | .tuple ds => !ds.isEmpty && ds.all (isW 0 12) && risesI (intsD ds)
  | _ => false
def doCross (one other : List Nat) : Bool := decide (1 < diffN (other.map fun lim => (((one.filter fun x => decide (x < lim)).length % one.length : Nat) : Int)))
def crossFree (p : List (List Nat)) : Bool := (List.range p.length).all fun i => !(p.take i).any fun o => doCross (p.getD i []) o
def sizeP (p : List (List Nat)) : Nat := (p.map List.length).sum
/-! promises -/
def preWhole : List PyData → PyData → Prop := fun ds d => ∃ v lo hi, ds = [v, .int lo, .int hi] ∧ d = .bool (isW lo hi v)
def preRisesI : List PyData → PyData → Prop := fun ds d => ∃ ns : List Int, ds = [.tuple (ns.map PyData.int)] ∧ ns.length ≤ 1000 ∧ d = .bool (risesI ns)
def preRisesL : List PyData → PyData → Prop := fun ds d => ∃ p, ds = [eP p] ∧ p.length ≤ 1000 ∧ d = .bool (risesL p)
def preFitsLot : List PyData → PyData → Prop := fun ds d => ∃ v, ds = [v] ∧ SeqAt.shaped v = true ∧ (∀ es, v = .tuple es → es.length ≤ 1000) ∧ d = .bool (fitsLotD v)
def preCross : List PyData → PyData → Prop := fun ds d => ∃ one other : List Nat, ds = [eL one, eL other] ∧ one ≠ [] ∧ one.length ≤ 1000 ∧ other.length < 64 ∧ d = .bool (doCross one other)
def preFreeT : List PyData → PyData → Prop := fun ds d => ∃ p : List (List Nat), ds = [eP p] ∧ (∀ l ∈ p, l ≠ [] ∧ l.length < 64) ∧ p.length ≤ 1000 ∧ d = .bool (crossFree p)
def preFreeL : List PyData → PyData → Prop := fun ds d => ∃ p : List (List Nat), ds = [.list (p.map eL)] ∧ (∀ l ∈ p, l ≠ [] ∧ l.length < 64) ∧ p.length ≤ 1000 ∧ d = .bool (crossFree p)
def preSize : List PyData → PyData → Prop := fun ds d => ∃ p : List (List Nat), ds = [eP p] ∧ p.length ≤ 1000 ∧ d = nD (sizeP p)
section
variable {P : Program} {w : World} {K : PySem.W.Frag} {mg : Str → Option Value} {base : Heap}
theorem ok_is_whole (N : Fr mg) (D : IsD K mg "is_whole" 15) : Has P w K mg base CX0 1 "is_whole" ["value", "low", "high"] (spD K 3 preWhole) := by
  refine mk_has D sc_is_whole (fun _ _ _ _ _ _ us hl => match us, hl with | [_, _, _], _ => rfl) (fun vs H Q E h => h.1) fun f cdv A outer s H vs Q E hr h => ?_
  refine ⟨_, PSs.nox (pss_one (ps_ret (pe_and (pe_callB (r := rIsi K) call_isi (by rfl) N.f_isinstance (by decide +kernel) (pa_cons (pv 0) (pa_cons (pe_bltn (v := .ty "int") (by rfl) N.f_int (by decide +kernel) rfl) pa_nil))) (pe_and (pe_not (pe_callB (r := rIsi K) call_isi (by rfl) N.f_isinstance (by decide +kernel) (pa_cons (pv 0) (pa_cons (pe_bltn (v := .ty "bool") (by rfl) N.f_bool (by decide +kernel) rfl) pa_nil)))) (pe_one (pe_chain op_le op_le (pv 1) (pv 0) (pv 2))))))), ?_⟩
  obtain ⟨_, ds, d, hd, ⟨x, lo, hi, rfl, rfl⟩, q⟩ := h
  obtain ⟨v, l, u, rfl, hv, hl, hu⟩ := arg3 hd
  refine s_retD ?_ q
  have hx : ∀ H1, Ex H H1 → Dp K H1 v x := fun H1 e => hv.ex e
  refine evd_is (evd_andV (a := isIntD x) (b := isW lo hi x) (evd_isi (evd_var rfl hv) (isi_int x)) fun h1 => evd_is (evd_andV (b := isW lo hi x) (evd_notV (evd_isi (evd_var rfl hv) (isi_bool x))) fun h2 => ?_) ?_) ?_
  · cases x with
    | int n => exact evd_between (evd_var rfl hl) (evd_var rfl hv) (evd_var rfl hu)
    | bool b => cases h2
    | _ => cases h1
  · cases x <;> rfl
  · cases x <;> rfl
theorem zip_drop_map {α β : Type} (f : α → β) (l : List α) : (l.map f).zip ((l.map f).drop 1) = (l.zip (l.drop 1)).map fun p => (f p.1, f p.2) := by
  rw [← List.map_drop, List.zip_map]
  rfl
theorem intsD_nD (l : List Nat) : intsD (l.map nD) = zI l := by
  induction l with
  | nil => rfl
  | cons a l ih =>
    show (a : Int) :: intsD (l.map nD) = _
    rw [ih]
    rfl
theorem intsD_int (l : List Int) : intsD (l.map PyData.int) = l := by
  induction l with
  | nil => rfl
  | cons a l ih =>
    show a :: intsD (l.map PyData.int) = _
    rw [ih]
theorem eL_zI (l : List Nat) : eL l = .tuple ((zI l).map PyData.int) := by
  unfold eL
  rw [nD_zI]
theorem cut1 {α : Type} (l : List α) : cutG l (some 1) none = l.drop 1 := cutG_from l 1
theorem ok_risesI (N : Fr mg) (D : IsD K mg "rises_on" 18) : Has P w K mg base CX0 1 "rises_on" ["items"] (spD K 1 preRisesI) := by
  refine mk_has D sc_rises_on (fun _ _ _ _ _ _ us hl => match us, hl with | [_], _ => rfl) (fun vs H Q E h => h.1) fun f cdv A outer s H vs Q E hr h => ?_
  refine ⟨_, PSs.nox (pss_one (ps_ret (pe_callB (r := rAll K) (cr_all rfl) (by rfl) N.f_all (by decide +kernel) (pa_cons (pe_lc (own := [("one", 1), ("other", 2)]) (g := gTup _ 2 (gCons (gName 1) (gCons (gName 2) (gNil)))) rfl (sc_rises_on).nd (show PI _ _ _ (RZ.iZipA K _) from RZ.pi_zipA (by rfl) N.f_zip (pa_cons (pv 0) (pa_cons (pe_slice (r := rSlA K) sl_tupA (pv 0) (po_some pe_int) po_none) pa_nil))) (blkOk_by (own := [("one", 1), ("other", 2)]) (N := ["items", "one", "other"]) (sc := defScope (top 18)) (by decide +kernel)) (fun _ _ _ _ _ => (pg_tup rfl (pgs_cons (pg_name (i := 1) (sc_rises_on).nd rfl (by first | exact Or.inl rfl | exact Or.inr rfl)) (pgs_cons (pg_name (i := 2) (sc_rises_on).nd rfl (by first | exact Or.inl rfl | exact Or.inr rfl)) pgs_nil)))) (fun _ _ _ _ _ => pts_nil) (fun _ _ _ _ _ => (pe_cmpR op_lt (pv 1) (pv 2) (nomark _)))) pa_nil)))), ?_⟩
  obtain ⟨_, ds, d, hd, ⟨ls, rfl, hl, rfl⟩, q⟩ := h
  obtain ⟨v, rfl, hv⟩ := arg1 hd
  refine s_retD ?_ q
  refine evd_is (evd_all (bs := (ls.zip (ls.drop 1)).map fun p => decide (p.1 < p.2)) (evd_is (evn_mapP (ps := (ls.zip (ls.drop 1)).map fun p => (PyData.int p.1, PyData.int p.2)) (F := fun p => match p with | (.int a, .int b) => .bool (decide (a < b)) | _ => .none) ?_ ?_ ?_ (fun x y => rfl) ?_).dat ?_)) ?_
  · refine evj_is (evj_zipT (evd_var rfl hv) (evd_slT (evd_var rfl hv) (evo_some (K := K) evd_int) Evl.eo_none)) ?_
    rw [cut1, zpD_pr, zip_drop_map]
  · simp; omega
  · intro p hp
    obtain ⟨z, _, rfl⟩ := List.mem_map.mp hp
    rfl
  · intro p hp x y H1 e1 hx hy
    obtain ⟨z, _, rfl⟩ := List.mem_map.mp hp
    exact evt_lt (evd_var rfl hx) (evd_var rfl hy)
  · rw [List.map_map, List.map_map]
    rfl
  · unfold risesI
    rw [List.all_map]
    rfl
theorem ok_risesL (N : Fr mg) (D : IsD K mg "rises_on" 18) : Has P w K mg base CX0 1 "rises_on" ["items"] (spD K 1 preRisesL) := by
  refine mk_has D sc_rises_on (fun _ _ _ _ _ _ us hl => match us, hl with | [_], _ => rfl) (fun vs H Q E h => h.1) fun f cdv A outer s H vs Q E hr h => ?_
  refine ⟨_, PSs.nox (pss_one (ps_ret (pe_callB (r := rAll K) (cr_all rfl) (by rfl) N.f_all (by decide +kernel) (pa_cons (pe_lc (own := [("one", 1), ("other", 2)]) (g := gTup _ 2 (gCons (gName 1) (gCons (gName 2) (gNil)))) rfl (sc_rises_on).nd (show PI _ _ _ (RZ.iZipA K _) from RZ.pi_zipA (by rfl) N.f_zip (pa_cons (pv 0) (pa_cons (pe_slice (r := rSlA K) sl_tupA (pv 0) (po_some pe_int) po_none) pa_nil))) (blkOk_by (own := [("one", 1), ("other", 2)]) (N := ["items", "one", "other"]) (sc := defScope (top 18)) (by decide +kernel)) (fun _ _ _ _ _ => (pg_tup rfl (pgs_cons (pg_name (i := 1) (sc_rises_on).nd rfl (by first | exact Or.inl rfl | exact Or.inr rfl)) (pgs_cons (pg_name (i := 2) (sc_rises_on).nd rfl (by first | exact Or.inl rfl | exact Or.inr rfl)) pgs_nil)))) (fun _ _ _ _ _ => pts_nil) (fun _ _ _ _ _ => (pe_cmpR (r := rLtT K) (op_ltT hr.units0) (pv 1) (pv 2) (nomark _)))) pa_nil)))), ?_⟩
  obtain ⟨_, ds, d, hd, ⟨ls, rfl, hl, rfl⟩, q⟩ := h
  obtain ⟨v, rfl, hv⟩ := arg1 hd
  refine s_retD ?_ q
  refine evd_is (evd_all (bs := (ls.zip (ls.drop 1)).map fun p => ltL p.1 p.2) (evd_is (evn_mapP (ps := (ls.zip (ls.drop 1)).map fun p => (eL p.1, eL p.2)) (F := fun p => match p with | (.tuple a, .tuple b) => .bool (HT.lexLt (intsD a) (intsD b)) | _ => .none) ?_ ?_ ?_ (fun x y => rfl) ?_).dat ?_)) ?_
  · refine evj_is (evj_zipT (evd_var rfl hv) (evd_slT (evd_var rfl hv) (evo_some (K := K) evd_int) Evl.eo_none)) ?_
    rw [cut1, zpD_pr, zip_drop_map]
  · simp; omega
  · intro p hp
    obtain ⟨z, _, rfl⟩ := List.mem_map.mp hp
    rfl
  · intro p hp x y H1 e1 hx hy
    obtain ⟨z, _, rfl⟩ := List.mem_map.mp hp
    show EvD K _ _ H1 (.bool (HT.lexLt (intsD (z.1.map nD)) (intsD (z.2.map nD))))
    rw [intsD_nD, intsD_nD]
    exact evd_ltT (evd_var rfl (eL_zI z.1 ▸ hx)) (evd_var rfl (eL_zI z.2 ▸ hy))
  · rw [List.map_map, List.map_map]
    refine congrArg PyData.list (List.map_congr_left fun z _ => ?_)
    show PyData.bool (HT.lexLt (intsD (z.1.map nD)) (intsD (z.2.map nD))) = _
    rw [intsD_nD, intsD_nD]
    rfl
  · unfold risesL
    rw [List.all_map]
    rfl
theorem isW_int {d : PyData} {lo hi : Int} (h : isW lo hi d = true) : ∃ n, d = .int n := by
  cases d <;> first | exact ⟨_, rfl⟩ | cases h
theorem intsD_all : ∀ {ds : List PyData}, ds.all (isW 0 12) = true → ds = (intsD ds).map PyData.int
  | [], _ => rfl
  | d :: ds, h => by
    rw [List.all_cons, Bool.and_eq_true] at h
    obtain ⟨n, rfl⟩ := isW_int h.1
    show _ = (n :: intsD ds).map PyData.int
    rw [List.map_cons, ← intsD_all h.2]
theorem shaped_nil : SeqAt.shaped (.tuple []) = true := by decide +kernel
theorem eqv_nil (ds : List PyData) : PyData.eqv (.tuple ds) (.tuple []) = ds.isEmpty := by
  cases ds with
  | nil => decide +kernel
  | cons d ds => first | rfl | (unfold PyData.eqv; rfl) | simp [PyData.eqv]
theorem ok_fits_lot (N : Fr mg) (D : IsD K mg "fits_lot" 19) (h_is_whole : Has P w K mg base CX0 1 "is_whole" ["value", "low", "high"] (spD K 3 preWhole)) (h_risesI : Has P w K mg base CX0 1 "rises_on" ["items"] (spD K 1 preRisesI)) :
    Has P w K mg base CX0 2 "fits_lot" ["value"] (spD K 1 preFitsLot) := by
  refine mk_has D sc_fits_lot (fun _ _ _ _ _ _ us hl => match us, hl with | [_], _ => rfl) (fun vs H Q E h => h.1) fun f cdv A outer s H vs Q E hr h => ?_
  refine ⟨_, PSs.nox (pss_cons (ps_if (PW.pt (pw_or (pt_not (pt_val (pe_callB (r := rIsi K) call_isi (by rfl) N.f_isinstance (by decide +kernel) (pa_cons (pv 0) (pa_cons (pe_bltn (v := .ty "tuple") (by rfl) N.f_tuple (by decide +kernel) rfl) pa_nil))))) (pw_or (pt_cmpR (r := rEqD K) (op_eqD hr.units) (pv 0) (pe_tup pa_nil) (nomark _)) (pw_or1 (pt_not (pt_val (pe_callB (r := rAll K) (cr_all rfl) (by rfl) N.f_all (by decide +kernel) (pa_cons (pe_lc (own := [("one", 1)]) (g := gName 1) rfl (sc_fits_lot).nd (show PI _ _ _ (iTup K _) from pi_tup (pv 0)) (blkOk_by (own := [("one", 1)]) (N := ["value", "one"]) (sc := defScope (top 19)) (by decide +kernel)) (fun _ _ _ _ _ => (pg_name (i := 1) (sc_fits_lot).nd rfl (by first | exact Or.inl rfl | exact Or.inr rfl))) (fun _ _ _ _ _ => pts_nil) (fun _ _ _ _ _ => (pe_fn h_is_whole hr (by decide) (by rfl) pass0 (pa_cons (pv 1) (pa_cons pe_int (pa_cons (N.cars.elim fun t ht => pe_glob (v := .int 12) (by rfl) ht ⟨t, rfl⟩) pa_nil)))))) pa_nil)))))))) (pss_one (ps_ret pe_bl)) pss_nil) (pss_one (ps_ret (pe_fn h_risesI hr (by decide) (by rfl) pass0 (pa_cons (pv 0) pa_nil))))), ?_⟩
  obtain ⟨_, ds, d, hd, ⟨x, rfl, hs, hl, rfl⟩, q⟩ := h
  obtain ⟨v, rfl, hv⟩ := arg1 hd
  by_cases hx : isTupD x = true
  · obtain ⟨es, rfl⟩ : ∃ es, x = .tuple es := by cases x <;> first | exact ⟨_, rfl⟩ | cases hx
    have hle := hl es rfl
    refine Evl.q_when (b := es.isEmpty || !(es.all (isW 0 12))) (Evl.et_is (b := es.isEmpty || !(es.all (isW 0 12))) (Evl.et_or (Evl.et_not (evt_B (evd_isi (evd_var rfl hv) (isi_tuple _)))) fun _ => Evl.et_or (evt_test (evd_eq (evd_var rfl hv) (evd_tup eda_nil (by decide)) hs shaped_nil)) fun _ => Evl.et_not (evt_B (evd_allM (f := isW 0 12)
      (evn_map (F := fun d => .bool (isW 0 12 d)) (evj_tup (evd_var rfl hv)) (by omega) (fun d _ => rfl) (fun _ => rfl) fun d hd y H1 e1 hy =>
      evd_fn (eda_cons (evd_var rfl hy) (eda_cons evd_int (eda_one evd_int))) rfl ⟨d, 0, 12, rfl, rfl⟩).dat))) ?_) (fun hb H1 e1 => ?_) (fun hb H1 e1 => ?_)
    · rw [eqv_nil]
      rfl
    · refine s_retC (q _ H1 e1 ?_)
      have : fitsLotD (.tuple es) = false := by
        show (!es.isEmpty && es.all (isW 0 12) && _) = false
        revert hb
        cases es.isEmpty <;> cases es.all (isW 0 12) <;> simp
      rw [this]
      exact .bl false
    · have h1 : es.isEmpty = false ∧ es.all (isW 0 12) = true := by
        revert hb
        cases es.isEmpty <;> cases es.all (isW 0 12) <;> simp
      have hi := intsD_all h1.2
      have hz : (intsD es).length = es.length := by
        have := congrArg List.length hi
        rw [List.length_map] at this
        exact this.symm
      refine s_retD (evd_fn (eda_one (evd_var rfl (hv.ex e1))) rfl ⟨intsD es, by rw [← hi], by omega, ?_⟩) fun u H2 e2 hu => q u H2 (e1.trans e2) hu
      show PyData.bool (!es.isEmpty && es.all (isW 0 12) && risesI (intsD es)) = _
      rw [h1.1, h1.2]
      rfl
  · have hx' : isTupD x = false := by simpa using hx
    refine Evl.q_when (b := true) (Evl.et_is (Evl.et_or (b := true) (Evl.et_not (evt_B (evd_isi (evd_var rfl hv) (isi_tuple _)))) fun z => ?_) ?_) (fun hb H1 e1 => ?_) (fun hb => by cases hb)
    · rw [hx'] at z
      cases z
    · rw [hx']
      rfl
    · refine s_retC (q _ H1 e1 ?_)
      have : fitsLotD x = false := by cases x <;> first | rfl | cases hx'
      rw [this]
      exact .bl false
/-! crossing -/
theorem ltD (H : Hp) (l : List Nat) (lim : Nat) : True := trivial
theorem lens_filter (l : List Nat) (lim : Nat) : (((l.map nD).filter fun d => match d with | .int n => decide (n < (lim : Int)) | _ => false).length) = (l.filter fun x => decide (x < lim)).length := by
  rw [List.filter_map, List.length_map]
  congr 1
  refine List.filter_congr fun x _ => ?_
  show decide ((x : Int) < (lim : Int)) = decide (x < lim)
  by_cases h : x < lim
  · rw [decide_eq_true h, decide_eq_true (by omega)]
  · rw [decide_eq_false h, decide_eq_false (by omega)]
theorem ok_do_cross (N : Fr mg) (D : IsD K mg "do_cross" 20) : Has P w K mg base CX0 1 "do_cross" ["one", "other"] (spD K 2 preCross) := by
  refine mk_has D sc_do_cross (fun _ _ _ _ _ _ us hl => match us, hl with | [_, _], _ => rfl) (fun vs H Q E h => h.1) fun f cdv A outer s H vs Q E hr h => ?_
  refine ⟨_, PSs.nox (pss_cons (ps_setLc (i := 2) (own := [("limit", 4)]) (g := gName 4) rfl (sc_do_cross).nd (by rfl) (by rfl) (sw_true rfl rfl rfl (by decide +kernel)) (show PI _ _ _ (iTup K _) from pi_tup (pv 1)) (blkOk_by (own := [("limit", 4)]) (N := ["one", "other", "sides", "point", "limit", "side"]) (sc := defScope (top 20)) (by decide +kernel)) (fun _ _ _ _ _ => (pg_name (i := 4) (sc_do_cross).nd rfl (by first | exact Or.inl rfl | exact Or.inr rfl))) (fun _ _ _ _ _ => pts_nil) (fun _ _ _ _ _ => (pe_callB (r := Evl.rLenS K) call_len_seq (by rfl) N.f_len boot_len (pa_cons (pe_lc (own := [("point", 3)]) (g := gName 3) rfl (sc_do_cross).nd (show PI _ _ _ (iTup K _) from pi_tup (pv 0)) (blkOk_by (own := [("point", 3)]) (N := ["one", "other", "sides", "point", "limit", "side"]) (sc := relS _ (defScope (top 20))) (by decide +kernel)) (fun _ _ _ _ _ => (pg_name (i := 3) (sc_do_cross).nd rfl (by first | exact Or.inl rfl | exact Or.inr rfl))) (fun _ _ _ _ _ => (pts_one (pt_cmpR op_lt (pv 3) (pv 4) (nomark _)))) (fun _ _ _ _ _ => (pv 3))) pa_nil)))) (pss_one (ps_ret (pe_cmpR op_gt (show PE _ _ (tLenSetN K _) from pe_lenSetN rfl (by rfl) N.f_len (by rfl) N.f_set (pe_lc (own := [("side", 5)]) (g := gName 5) rfl (sc_do_cross).nd (show PI _ _ _ (iList K _) from pi_list (pv 2)) (blkOk_by (own := [("side", 5)]) (N := ["one", "other", "sides", "point", "limit", "side"]) (sc := defScope (top 20)) (by decide +kernel)) (fun _ _ _ _ _ => (pg_name (i := 5) (sc_do_cross).nd rfl (by first | exact Or.inl rfl | exact Or.inr rfl))) (fun _ _ _ _ _ => pts_nil) (fun _ _ _ _ _ => (pe_op op_mod (pv 5) (pe_callB (r := Evl.rLenS K) call_len_seq (by rfl) N.f_len boot_len (pa_cons (pv 0) pa_nil)))))) pe_int (nomark _))))), ?_⟩
  obtain ⟨_, ds, d, hd, ⟨one, other, rfl, hne, hol, hl, rfl⟩, q⟩ := h
  obtain ⟨v, u, rfl, hv, hu⟩ := arg2 hd
  have hp : 0 < one.length := List.length_pos_iff.mpr hne
  refine q_asgD (K := K) (d := .list (other.map fun lim => nD (one.filter fun x => decide (x < lim)).length)) ?_ fun s1 H1 e1 h1 => ?_
  · refine (evn_mapT (F := fun lim => nD (one.filter fun x => decide (x < lim)).length) (evj_tup (evd_var rfl hu)) (by omega) (fun a _ => rfl) (fun _ => rfl) fun lim hlim y H1 e1 hy => ?_).dat
    refine evd_is (evd_lenL (evn_filterT (F := nD) (p := fun x => decide (x < lim)) (evj_tup (evd_var rfl (hv.ex e1))) (by omega) (fun a _ _ => rfl) (fun _ => rfl) (fun x hx z H2 e2 hz => ?_) fun x hx _ z H2 e2 hz => evd_var rfl hz).dat) ?_
    · refine Evl.et_is (evt_test (evt_lt (evd_var rfl hz) (evd_var rfl (hy.ex e2)))) ?_
      exact decide_eq_decide.mpr Int.ofNat_lt
    · rw [List.length_map]
      rfl
  · refine s_retD (evd_is (d := .bool (doCross one other)) (evd_I0 (g := fun i j => .bl (decide (j < i))) (i := diffN (other.map fun lim => (((one.filter fun x => decide (x < lim)).length % one.length : Nat) : Int))) (evd_lenSet (evd_is (evn_mapT (F := fun lim => nD ((one.filter fun x => decide (x < lim)).length % one.length)) (evj_list (evd_var rfl h1)) (by omega) (fun a _ => rfl) (fun _ => rfl) fun lim hlim y H2 e2 hy => ?_).dat ?_) (by rw [List.length_map]; exact hl)) evd_int fun H => ?_) rfl) fun z H2 e2 hz => q z H2 (e1.trans e2) hz
    · refine evd_is (evd_mod (evd_var rfl hy) (evd_lenT (evd_var rfl (hv.ex (e1.trans e2)))) ?_) ?_
      · rw [List.length_map]
        omega
      · rw [List.length_map]
        show PyData.int _ = PyData.int _
        first | rfl | (rw [Int.natCast_emod]) | simp
    · rw [List.map_map]
      rfl
    · show Dp K H (.bl (decide (1 < _))) _
      unfold doCross
      rw [show (decide ((1 : Int) < ((diffN (other.map fun lim => (((one.filter fun x => decide (x < lim)).length % one.length : Nat) : Int)) : Nat) : Int))) = decide (1 < diffN (other.map fun lim => (((one.filter fun x => decide (x < lim)).length % one.length : Nat) : Int))) from decide_eq_decide.mpr (by omega)]
      exact .bl _
/-! places of an enumeration -/
theorem enD_at {ds : List PyData} {i : Nat} {d : PyData} (h : (enD ds)[i]? = some d) : ∃ e, ds[i]? = some e ∧ d = .tuple [nD i, e] := by
  unfold enD at h
  rw [List.getElem?_map, List.getElem?_zipIdx, Option.map_map] at h
  obtain ⟨e, h1, h2⟩ := Option.map_eq_some_iff.mp h
  refine ⟨e, h1, h2.symm.trans ?_⟩
  simp [nD]
theorem map_at {α : Type} {f : α → PyData} {l : List α} {i : Nat} {d : PyData} (h : (l.map f)[i]? = some d) : ∃ a, l[i]? = some a ∧ d = f a := by
  rw [List.getElem?_map] at h
  obtain ⟨e, h1, h2⟩ := Option.map_eq_some_iff.mp h
  exact ⟨e, h1, h2.symm⟩
theorem free_no {p : List (List Nat)} {i : Nat} {l : List Nat} (h : p[i]? = some l) (hc : (p.take i).any (fun o => doCross l o) = true) : crossFree p = false := by
  have hi := (List.getElem?_eq_some_iff.mp h).1
  refine Bool.eq_false_iff.mpr fun z => ?_
  have := List.all_eq_true.mp z i (List.mem_range.mpr hi)
  rw [List.getD_eq_getElem?_getD, h] at this
  rw [show (p.take i).any (fun o => doCross ((some l).getD []) o) = true from hc] at this
  cases this
theorem free_yes {p : List (List Nat)} (h : ∀ i l, p[i]? = some l → (p.take i).any (fun o => doCross l o) = false) : crossFree p = true := by
  refine List.all_eq_true.mpr fun i hi => ?_
  have hi := List.mem_range.mp hi
  have := h i p[i] (List.getElem?_eq_getElem hi)
  rw [List.getD_eq_getElem?_getD, List.getElem?_eq_getElem hi]
  show (!(p.take i).any (fun o => doCross p[i] o)) = true
  rw [this]
  rfl
theorem ok_freeT (N : Fr mg) (D : IsD K mg "cross_free" 21) (h_do_cross : Has P w K mg base CX0 1 "do_cross" ["one", "other"] (spD K 2 preCross)) :
    Has P w K mg base CX0 2 "cross_free" ["lots"] (spD K 1 preFreeT) := by
  refine mk_has D sc_cross_free (fun _ _ _ _ _ _ us hl => match us, hl with | [_], _ => rfl) (fun vs H Q E h => h.1) fun f cdv A outer s H vs Q E hr h => ?_
  refine ⟨_, PSs.nox (pss_cons (ps_for PassesOwn.never rfl (show PI _ _ _ (iEnumT K _) from pi_enumT (by rfl) N.f_enumerate (pa_cons (pv 0) pa_nil)) (pg_tup rfl (pgs_cons (pg_name (i := 1) (sc_cross_free).nd rfl (by first | exact Or.inl rfl | exact Or.inr rfl)) (pgs_cons (pg_name (i := 2) (sc_cross_free).nd rfl (by first | exact Or.inl rfl | exact Or.inr rfl)) pgs_nil))) (pss_one (ps_if (pt_val (pe_callB (r := rAny K) (cr_any rfl) (by rfl) N.f_any (by decide +kernel) (pa_cons (pe_lc (own := [("other", 3)]) (g := gName 3) rfl (sc_cross_free).nd (show PI _ _ _ (iTup K _) from pi_tup (pe_slice (r := rSlA K) sl_tupA (pv 0) po_none (po_some (pv 1)))) (blkOk_by (own := [("other", 3)]) (N := ["lots", "place", "one", "other"]) (sc := defScope (top 21)) (by decide +kernel)) (fun _ _ _ _ _ => (pg_name (i := 3) (sc_cross_free).nd rfl (by first | exact Or.inl rfl | exact Or.inr rfl))) (fun _ _ _ _ _ => pts_nil) (fun _ _ _ _ _ => (pe_fn h_do_cross hr (by decide) (by rfl) pass0 (pa_cons (pv 2) (pa_cons (pv 3) pa_nil))))) pa_nil))) (pss_one (ps_ret pe_bl)) pss_nil))) (pss_one (ps_ret pe_bl))), ?_⟩
  obtain ⟨_, ds, d, hd, ⟨p, rfl, hp, hl, rfl⟩, q⟩ := h
  obtain ⟨v, rfl, hv⟩ := arg1 hd
  refine q_forI (evi_enumTV rfl hv) (Ex.refl H) (fun i σ' H' => (∃ x y, σ' = [some v, x, y, none]) ∧ Ex H H' ∧ ∀ j l, j < i → p[j]? = some l → (p.take j).any (fun o => doCross l o) = false) (fun H1 e1 => ⟨⟨_, _, rfl⟩, e1, fun j l h => absurd h (Nat.not_lt_zero _)⟩) (fun i σ' H' _ h => h.2.1) (fun i d x σ' H1 H' hdi hP e1 hx => ?_) (fun σ' H' hP => ?_)
  · obtain ⟨⟨x0, y0, rfl⟩, e0, hf⟩ := hP
    obtain ⟨e, he, rfl⟩ := enD_at hdi
    obtain ⟨l, hl2, rfl⟩ := map_at he
    have lm := List.mem_of_getElem? hl2
    refine tg_pair' hx fun a b ha hb => ?_
    refine Evl.s_when (b := (p.take i).any fun o => doCross l o) (evt_B (evd_anyM (f := fun o => doCross l o) (evn_mapT (en := eL) (F := fun o => .bool (doCross l o)) (evj_is (evj_tup (evd_slT (evd_var rfl (hv.ex (e0.trans e1))) Evl.eo_none (evo_some (evd_var rfl ha)))) ?_) (by rw [List.length_take]; omega) (fun _ _ => rfl) (fun _ => rfl) fun o ho y H2 e2 hy => ?_).dat)) (fun hb H2 e2 => ?_) (fun hb H2 e2 => ?_)
    · rw [cutG_to, List.map_take]
    · have om := List.mem_of_mem_take ho
      exact evd_fn (eda_cons (evd_var rfl (hb.ex e2)) (eda_one (evd_var rfl hy))) rfl ⟨l, o, rfl, (hp l lm).1, by have := (hp l lm).2; omega, (hp o om).2, rfl⟩
    · refine s_retC (q _ H2 ((e0.trans e1).trans e2) ?_)
      rw [free_no hl2 hb]
      exact .bl false
    · refine ⟨⟨_, _, rfl⟩, (e0.trans e1).trans e2, fun j m hj hm => ?_⟩
      rcases Nat.lt_succ_iff_lt_or_eq.mp hj with hj | rfl
      · exact hf j m hj hm
      · rw [hl2] at hm
        cases hm
        exact hb
  · obtain ⟨⟨x0, y0, rfl⟩, e0, hf⟩ := hP
    refine s_retC (q _ H' e0 ?_)
    rw [free_yes fun i l h => hf i l (by rw [enD_len, List.length_map]; exact (List.getElem?_eq_some_iff.mp h).1) h]
    exact .bl true
theorem ok_freeL (N : Fr mg) (D : IsD K mg "cross_free" 21) (h_do_cross : Has P w K mg base CX0 1 "do_cross" ["one", "other"] (spD K 2 preCross)) :
    Has P w K mg base CX0 2 "cross_free" ["lots"] (spD K 1 preFreeL) := by
  refine mk_has D sc_cross_free (fun _ _ _ _ _ _ us hl => match us, hl with | [_], _ => rfl) (fun vs H Q E h => h.1) fun f cdv A outer s H vs Q E hr h => ?_
  refine ⟨_, PSs.nox (pss_cons (ps_for PassesOwn.never rfl (show PI _ _ _ (iEnum K _) from pi_enum (by rfl) N.f_enumerate (pa_cons (pv 0) pa_nil)) (pg_tup rfl (pgs_cons (pg_name (i := 1) (sc_cross_free).nd rfl (by first | exact Or.inl rfl | exact Or.inr rfl)) (pgs_cons (pg_name (i := 2) (sc_cross_free).nd rfl (by first | exact Or.inl rfl | exact Or.inr rfl)) pgs_nil))) (pss_one (ps_if (pt_val (pe_callB (r := rAny K) (cr_any rfl) (by rfl) N.f_any (by decide +kernel) (pa_cons (pe_lc (own := [("other", 3)]) (g := gName 3) rfl (sc_cross_free).nd (show PI _ _ _ (iList K _) from pi_list (pe_slice (r := rSlL K) sl_list (pv 0) po_none (po_some (pv 1)))) (blkOk_by (own := [("other", 3)]) (N := ["lots", "place", "one", "other"]) (sc := defScope (top 21)) (by decide +kernel)) (fun _ _ _ _ _ => (pg_name (i := 3) (sc_cross_free).nd rfl (by first | exact Or.inl rfl | exact Or.inr rfl))) (fun _ _ _ _ _ => pts_nil) (fun _ _ _ _ _ => (pe_fn h_do_cross hr (by decide) (by rfl) pass0 (pa_cons (pv 2) (pa_cons (pv 3) pa_nil))))) pa_nil))) (pss_one (ps_ret pe_bl)) pss_nil))) (pss_one (ps_ret pe_bl))), ?_⟩
  obtain ⟨_, ds, d, hd, ⟨p, rfl, hp, hl, rfl⟩, q⟩ := h
  obtain ⟨v, rfl, hv⟩ := arg1 hd
  refine q_forI (evi_enumLV rfl hv) (Ex.refl H) (fun i σ' H' => (∃ x y, σ' = [some v, x, y, none]) ∧ Ex H H' ∧ ∀ j l, j < i → p[j]? = some l → (p.take j).any (fun o => doCross l o) = false) (fun H1 e1 => ⟨⟨_, _, rfl⟩, e1, fun j l h => absurd h (Nat.not_lt_zero _)⟩) (fun i σ' H' _ h => h.2.1) (fun i d x σ' H1 H' hdi hP e1 hx => ?_) (fun σ' H' hP => ?_)
  · obtain ⟨⟨x0, y0, rfl⟩, e0, hf⟩ := hP
    obtain ⟨e, he, rfl⟩ := enD_at hdi
    obtain ⟨l, hl2, rfl⟩ := map_at he
    have lm := List.mem_of_getElem? hl2
    refine tg_pair' hx fun a b ha hb => ?_
    refine Evl.s_when (b := (p.take i).any fun o => doCross l o) (evt_B (evd_anyM (f := fun o => doCross l o) (evn_mapT (en := eL) (F := fun o => .bool (doCross l o)) (evj_is (evj_list (evn_slL (evd_var rfl (hv.ex (e0.trans e1))) Evl.eo_none (evo_some (evd_var rfl ha))).dat) ?_) (by rw [List.length_take]; omega) (fun _ _ => rfl) (fun _ => rfl) fun o ho y H2 e2 hy => ?_).dat)) (fun hb H2 e2 => ?_) (fun hb H2 e2 => ?_)
    · rw [cutG_to, List.map_take]
    · have om := List.mem_of_mem_take ho
      exact evd_fn (eda_cons (evd_var rfl (hb.ex e2)) (eda_one (evd_var rfl hy))) rfl ⟨l, o, rfl, (hp l lm).1, by have := (hp l lm).2; omega, (hp o om).2, rfl⟩
    · refine s_retC (q _ H2 ((e0.trans e1).trans e2) ?_)
      rw [free_no hl2 hb]
      exact .bl false
    · refine ⟨⟨_, _, rfl⟩, (e0.trans e1).trans e2, fun j m hj hm => ?_⟩
      rcases Nat.lt_succ_iff_lt_or_eq.mp hj with hj | rfl
      · exact hf j m hj hm
      · rw [hl2] at hm
        cases hm
        exact hb
  · obtain ⟨⟨x0, y0, rfl⟩, e0, hf⟩ := hP
    refine s_retC (q _ H' e0 ?_)
    rw [free_yes fun i l h => hf i l (by rw [enD_len, List.length_map]; exact (List.getElem?_eq_some_iff.mp h).1) h]
    exact .bl true
theorem ok_size (N : Fr mg) (D : IsD K mg "size_in" 23) : Has P w K mg base CX0 1 "size_in" ["parting"] (spD K 1 preSize) := by
  refine mk_has D sc_size_in (fun _ _ _ _ _ _ us hl => match us, hl with | [_], _ => rfl) (fun vs H Q E h => h.1) fun f cdv A outer s H vs Q E hr h => ?_
  refine ⟨_, PSs.nox (pss_one (ps_ret (pe_callB (r := rSum K) (cr_sum rfl) (by rfl) N.f_sum (by decide +kernel) (pa_cons (pe_lc (own := [("lot", 1)]) (g := gName 1) rfl (sc_size_in).nd (show PI _ _ _ (iTup K _) from pi_tup (pv 0)) (blkOk_by (own := [("lot", 1)]) (N := ["parting", "lot"]) (sc := defScope (top 23)) (by decide +kernel)) (fun _ _ _ _ _ => (pg_name (i := 1) (sc_size_in).nd rfl (by first | exact Or.inl rfl | exact Or.inr rfl))) (fun _ _ _ _ _ => pts_nil) (fun _ _ _ _ _ => (pe_callB (r := Evl.rLenS K) call_len_seq (by rfl) N.f_len boot_len (pa_cons (pv 1) pa_nil)))) pa_nil)))), ?_⟩
  obtain ⟨_, ds, d, hd, ⟨p, rfl, hl, rfl⟩, q⟩ := h
  obtain ⟨v, rfl, hv⟩ := arg1 hd
  refine s_retD (evd_sumM (f := List.length) (evn_mapT (en := eL) (F := fun l => nD l.length) (evj_tup (evd_var rfl hv)) (by omega) (fun _ _ => rfl) (fun _ => rfl) fun l _ y H1 e1 hy => ?_).dat) q
  refine evd_is (evd_lenT (evd_var rfl hy)) ?_
  rw [List.length_map]
  rfl
end
end PR
set_option maxHeartbeats 400000
namespace PR
open PySem PySem.Spec PyProof.Rows L2
/-! equality and shape of the data -/
theorem eqv_nD (a b : Nat) : PyData.eqv (nD a) (nD b) = decide (a = b) := by
  have h : PyData.eqv (nD a) (nD b) = ((a : Int) == (b : Int)) := by
    unfold nD
    first | rfl | (rw [PyData.eqv]; rfl) | simp [PyData.eqv]
  rw [h]
  by_cases e : a = b
  · subst e; simp
  · rw [decide_eq_false e]
    exact beq_eq_false_iff_ne.mpr fun z => e (Int.ofNat.inj z)
theorem eqvAll_map {α : Type} [DecidableEq α] {f : α → PyData} (hf : ∀ a b, PyData.eqv (f a) (f b) = decide (a = b)) : ∀ l m : List α, PyData.eqvAll (l.map f) (m.map f) = decide (l = m)
  | [], [] => by simp [PyData.eqvAll]
  | [], b :: m => by simp [PyData.eqvAll]
  | a :: l, [] => by simp [PyData.eqvAll]
  | a :: l, b :: m => by
    rw [List.map_cons, List.map_cons, PyData.eqvAll, hf, eqvAll_map hf l m]
    by_cases h1 : a = b <;> by_cases h2 : l = m <;> simp [h1, h2]
theorem eqv_tup {α : Type} [DecidableEq α] {f : α → PyData} (hf : ∀ a b, PyData.eqv (f a) (f b) = decide (a = b)) (l m : List α) : PyData.eqv (.tuple (l.map f)) (.tuple (m.map f)) = decide (l = m) := by
  rw [← eqvAll_map hf, PyData.eqv]
theorem eqv_lst {α : Type} [DecidableEq α] {f : α → PyData} (hf : ∀ a b, PyData.eqv (f a) (f b) = decide (a = b)) (l m : List α) : PyData.eqv (.list (l.map f)) (.list (m.map f)) = decide (l = m) := by
  rw [← eqvAll_map hf, PyData.eqv]
theorem eqv_eL (l m : List Nat) : PyData.eqv (eL l) (eL m) = decide (l = m) := eqv_tup eqv_nD l m
theorem eqv_eP (p q : List (List Nat)) : PyData.eqv (eP p) (eP q) = decide (p = q) := eqv_tup eqv_eL p q
theorem lay_all {α : Type} {f : α → PyData} (hf : ∀ a, (f a).canLay0 = true) : ∀ l : List α, PyData.canLayAll0 (l.map f) = true
  | [] => rfl
  | a :: l => by
    rw [List.map_cons]
    show ((f a).canLay0 && PyData.canLayAll0 (l.map f)) = true
    rw [hf, lay_all hf l]
    rfl
theorem dep_all {α : Type} {f : α → PyData} {n : Nat} (hf : ∀ a, (f a).depth ≤ n) : ∀ l : List α, PyData.depthAll (l.map f) ≤ n
  | [] => Nat.zero_le _
  | a :: l => by
    rw [List.map_cons]
    show max (f a).depth (PyData.depthAll (l.map f)) ≤ n
    exact Nat.max_le.mpr ⟨hf a, dep_all hf l⟩
theorem lay_eL (l : List Nat) : (eL l).canLay0 = true := lay_all (f := nD) (fun _ => rfl) l
theorem lay_eP (p : List (List Nat)) : (eP p).canLay0 = true := lay_all lay_eL p
theorem dep_tup {ds : List PyData} {n : Nat} (h : PyData.depthAll ds ≤ n) : (PyData.tuple ds).depth ≤ n + 1 := by
  show PyData.depthAll ds + 1 ≤ n + 1
  omega
theorem dep_eL (l : List Nat) : (eL l).depth ≤ 3 := dep_tup (n := 2) (dep_all (f := nD) (fun _ => by first | decide | (show (1 : Nat) ≤ 2; decide) | (show (0 : Nat) ≤ 2; decide)) l)
theorem dep_eP (p : List (List Nat)) : (eP p).depth ≤ 4 := dep_tup (dep_all dep_eL p)
theorem sh_of {d : PyData} (h1 : d.canLay0 = true) (h2 : d.depth ≤ 64) : SeqAt.shaped d = true := by
  unfold SeqAt.shaped
  rw [h1, decide_eq_true h2]
  rfl
theorem sh_eL (l : List Nat) : SeqAt.shaped (eL l) = true := sh_of (lay_eL l) (Nat.le_trans (dep_eL l) (by decide))
theorem sh_eP (p : List (List Nat)) : SeqAt.shaped (eP p) = true := sh_of (lay_eP p) (Nat.le_trans (dep_eP p) (by decide))
theorem sh_lN (l : List Nat) : SeqAt.shaped (.list (l.map nD)) = true := by
  refine sh_of (lay_all (f := nD) (fun _ => rfl) l) (Nat.le_trans (?_ : _ ≤ 3) (by decide))
  have := dep_eL l
  exact this
theorem sh_lL (p : List (List Nat)) : SeqAt.shaped (.list (p.map eL)) = true := sh_of (lay_all lay_eL p) (Nat.le_trans (dep_eP p) (by decide))
theorem sh_lP (ps : List (List (List Nat))) : SeqAt.shaped (.list (ps.map eP)) = true := by
  refine sh_of (lay_all lay_eP ps) (Nat.le_trans (?_ : _ ≤ 5) (by decide))
  exact dep_tup (dep_all dep_eP ps)
end PR
set_option maxHeartbeats 400000
namespace PR
open PySem PySem.Spec PyProof.Rows L2
open Evl (Ex EvT)
theorem sc_fits_parting : FnScope ["value", "lot", "points"] ["value"] (defScope (top 22)) := ⟨rfl, rfl, rfl, by decide +kernel, rfl, by decide +kernel, by decide +kernel⟩
theorem sc_put_together : FnScope ["lots", "one", "other", "rest", "lot", "both"] ["lots", "one", "other"] (defScope (top 27)) := ⟨rfl, rfl, rfl, by decide +kernel, rfl, by decide +kernel, by decide +kernel⟩
theorem sc_mended_once : FnScope ["lots", "place", "one", "other"] ["lots"] (defScope (top 28)) := ⟨rfl, rfl, rfl, by decide +kernel, rfl, by decide +kernel, by decide +kernel⟩
theorem sc_pairs_in : FnScope ["parting", "found", "lot", "point"] ["parting"] (defScope (top 29)) := ⟨rfl, rfl, rfl, by decide +kernel, rfl, by decide +kernel, by decide +kernel⟩
theorem sc_meet_of : FnScope ["parting", "other", "found", "lot", "some", "point", "second", "part"] ["parting", "other"] (defScope (top 31)) := ⟨rfl, rfl, rfl, by decide +kernel, rfl, by decide +kernel, by decide +kernel⟩
theorem sc_turned_lots : FnScope ["parting", "steps", "size", "point", "lot"] ["parting", "steps"] (defScope (top 32)) := ⟨rfl, rfl, rfl, by decide +kernel, rfl, by decide +kernel, by decide +kernel⟩
def fitsP (p : List (List Nat)) : Bool := risesL p && ((decide (2 ≤ sizeP p) && decide (sizeP p ≤ 13)) && (decide (srtN p.flatten = List.range (sizeP p)) && crossFree p))
def hasL (l : List Nat) (a : Nat) : Bool := decide (a ∈ l)
def putTog (p : List (List Nat)) (a b : Nat) : List (List Nat) := (p.filter fun l => !hasL l a && !hasL l b) ++ [srtN (p.filter fun l => hasL l a || hasL l b).flatten]
def pairsIn (p : List (List Nat)) : List (List Nat) := p.flatMap fun l => (l.drop 1).map fun x => [headN l, x]
def meetRaw (p q : List (List Nat)) : List (List Nat) := p.flatMap fun l => (q.map fun m => l.filter fun x => hasL m x).filter fun l => !l.isEmpty
def shN (n : Nat) (s : Int) (x : Nat) : Nat := (((x : Int) + s) % (n : Int)).toNat
def turnedRaw (p : List (List Nat)) (s : Int) : List (List Nat) := p.map fun l => srtN (l.map (shN (sizeP p) s))
def preFits : List PyData → PyData → Prop := fun ds d => ∃ v b, ds = [v] ∧ d = .bool b ∧ ((isTupD v = false ∧ b = false) ∨
  (∃ es, v = .tuple es ∧ es.length ≤ 1000 ∧ (∀ e ∈ es, SeqAt.shaped e = true ∧ ∀ zs, e = .tuple zs → zs.length ≤ 1000) ∧ es.all fitsLotD = false ∧ b = false) ∨
  ∃ p, v = eP p ∧ p.length ≤ 1000 ∧ (∀ l ∈ p, fitsLotD (eL l) = true ∧ l ≠ [] ∧ l.length < 64) ∧ b = fitsP p)
def prePut : List PyData → List PyData → Prop := fun ds es => ∃ (p : List (List Nat)) (a b : Nat), ds = [.list (p.map eL), nD a, nD b] ∧ p.length ≤ 1000 ∧ sizeP p ≤ 1000 ∧ es = (putTog p a b).map eL
/-- what mended_once may give -/
def postM (p q : List (List Nat)) : Prop := (crossFree p = true ∧ q = p) ∨ ∃ (i j : Nat) (l o : List Nat), j < i ∧ p[i]? = some l ∧ p[j]? = some o ∧ doCross l o = true ∧ q = putTog p (headN l) (headN o)
def spMend (K : PySem.W.Frag) : Sp := fun vs H Q _ => ∃ a xs p, vs = [.ref a] ∧ H a = some (.lst xs) ∧ DpAll K H xs (p.map eL) ∧ (∀ l ∈ p, l ≠ [] ∧ l.length < 64) ∧ p.length ≤ 1000 ∧ sizeP p ≤ 1000 ∧
  ∀ q r ys H', postM p q → Ex H H' → H' r = some (.lst ys) → DpAll K H' ys (q.map eL) → Q (.ref r) H'
def prePairs : List PyData → List PyData → Prop := fun ds es => ∃ p : List (List Nat), ds = [eP p] ∧ (∀ l ∈ p, l ≠ []) ∧ p.length ≤ 100 ∧ sizeP p ≤ 100 ∧ es = (pairsIn p).map eL
def preMeet : List PyData → PyData → Prop := fun ds d => ∃ p q : List (List Nat), ds = [eP p, eP q] ∧ p.length ≤ 100 ∧ sizeP p ≤ 100 ∧ q.length ≤ 100 ∧ d = eP (srtL (meetRaw p q))
def preTurned : List PyData → PyData → Prop := fun ds d => ∃ (p : List (List Nat)) (s : Int), ds = [eP p, .int s] ∧ (∀ l ∈ p, l ≠ []) ∧ p.length ≤ 100 ∧ sizeP p ≤ 100 ∧ 0 < sizeP p ∧ d = eP (srtL (turnedRaw p s))
theorem len_mem {p : List (List Nat)} {l : List Nat} (h : l ∈ p) : l.length ≤ sizeP p := by
  induction p with
  | nil => cases h
  | cons a p ih =>
    show l.length ≤ (a.length :: p.map List.length).sum
    rw [List.sum_cons]
    rcases List.mem_cons.mp h with rfl | h
    · omega
    · have := ih h
      unfold sizeP at this
      omega
theorem len_flat (p : List (List Nat)) : p.flatten.length = sizeP p := by
  rw [List.length_flatten]
  rfl
theorem size_filter (f : List Nat → Bool) (p : List (List Nat)) : sizeP (p.filter f) ≤ sizeP p := by
  induction p with
  | nil => exact Nat.le_refl _
  | cons a p ih =>
    unfold sizeP at *
    rw [List.filter_cons]
    cases f a with
    | true => simp; omega
    | false => simp; omega
theorem flat_nD (p : List (List Nat)) : (p.map fun l => l.map nD).flatten = p.flatten.map nD := by
  rw [List.map_flatten]
def unT : PyData → List PyData
  | .tuple ds => ds
  | _ => []
section
variable {P : Program} {w : World} {K : PySem.W.Frag} {mg : Str → Option Value} {base : Heap}
section
variable {σ : L2.St} {H : Hp} {ta tb : TE}
theorem evd_mem {l : List Nat} {a : Nat} (ha : EvD K ta σ H (nD a)) (hb : EvD K tb σ H (eL l)) : EvD K (tOp (rIn K false) ta tb) σ H (.bool (hasL l a)) := by
  refine evd_is (evd_in (neg := false) (n := (a : Int)) (ns := zI l) ha (eL_zI l ▸ hb)) ?_
  show PyData.bool (decide _) = PyData.bool (decide _)
  rw [decide_eq_decide.mpr zI_mem]
theorem evd_nmem {l : List Nat} {a : Nat} (ha : EvD K ta σ H (nD a)) (hb : EvD K tb σ H (eL l)) : EvD K (tOp (rIn K true) ta tb) σ H (.bool (!hasL l a)) := by
  refine evd_is (evd_in (neg := true) (n := (a : Int)) (ns := zI l) ha (eL_zI l ▸ hb)) ?_
  show PyData.bool (!decide _) = PyData.bool (!decide _)
  rw [decide_eq_decide.mpr zI_mem]
end
theorem ok_put (N : Fr mg) (D : IsD K mg "put_together" 27) : Has P w K mg base CX0 1 "put_together" ["lots", "one", "other"] (spL K 3 prePut) := by
  refine mk_has D sc_put_together (fun _ _ _ _ _ _ us hl => match us, hl with | [_, _, _], _ => rfl) (fun vs H Q E h => h.1) fun f cdv A outer s H vs Q E hr h => ?_
  refine ⟨_, PSs.nox (pss_cons (ps_setLc (i := 3) (own := [("lot", 4)]) (g := gName 4) rfl (sc_put_together).nd (by rfl) (by rfl) (sw_true rfl rfl rfl (by decide +kernel)) (show PI _ _ _ (iList K _) from pi_list (pv 0)) (blkOk_by (own := [("lot", 4)]) (N := ["lots", "one", "other", "rest", "lot", "both"]) (sc := defScope (top 27)) (by decide +kernel)) (fun _ _ _ _ _ => (pg_name (i := 4) (sc_put_together).nd rfl (by first | exact Or.inl rfl | exact Or.inr rfl))) (fun _ _ _ _ _ => (pts_one (PW.pt (pw_and (pt_cmpR (r := rIn K true) op_notIn_seq (pv 1) (pv 4) (by rfl)) (pw_and1 (pt_cmpR (r := rIn K true) op_notIn_seq (pv 2) (pv 4) (by rfl))))))) (fun _ _ _ _ _ => (pv 4))) (pss_cons (ps_setLc (i := 5) (own := [("lot", 4)]) (g := gName 4) rfl (sc_put_together).nd (by rfl) (by rfl) (sw_true rfl rfl rfl (by decide +kernel)) (show PI _ _ _ (iList K _) from pi_list (pv 0)) (blkOk_by (own := [("lot", 4)]) (N := ["lots", "one", "other", "rest", "lot", "both"]) (sc := defScope (top 27)) (by decide +kernel)) (fun _ _ _ _ _ => (pg_name (i := 4) (sc_put_together).nd rfl (by first | exact Or.inl rfl | exact Or.inr rfl))) (fun _ _ _ _ _ => (pts_one (PW.pt (pw_or (pt_cmpR (r := rIn K false) op_in_seq (pv 1) (pv 4) (by rfl)) (pw_or1 (pt_cmpR (r := rIn K false) op_in_seq (pv 2) (pv 4) (by rfl))))))) (fun _ _ _ _ _ => (pv 4))) (pss_one (ps_ret (pe_op op_cat (pv 3) (pe_lst (pa_cons (pe_callTy (r := rTupS K) call_tuple_of (by rfl) N.f_tuple (by decide +kernel) (pa_cons (pe_callB (r := rSortedI K) cr_sortedI (by rfl) N.f_sorted (by decide +kernel) (pa_cons (pe_callB (r := rSumL K) (cr_sumL rfl) (by rfl) N.f_sum (by decide +kernel) (pa_cons (pe_lc (own := [("lot", 4)]) (g := gName 4) rfl (sc_put_together).nd (show PI _ _ _ (iList K _) from pi_list (pv 5)) (blkOk_by (own := [("lot", 4)]) (N := ["lots", "one", "other", "rest", "lot", "both"]) (sc := defScope (top 27)) (by decide +kernel)) (fun _ _ _ _ _ => (pg_name (i := 4) (sc_put_together).nd rfl (by first | exact Or.inl rfl | exact Or.inr rfl))) (fun _ _ _ _ _ => pts_nil) (fun _ _ _ _ _ => (pe_callTy (r := Evl.rListS K) call_list_of (by rfl) N.f_list (by decide +kernel) (pa_cons (pv 4) pa_nil)))) (pa_cons (pe_lst pa_nil) pa_nil))) pa_nil)) pa_nil)) pa_nil))))))), ?_⟩
  obtain ⟨_, ds, es, hd, ⟨p, a, b, rfl, hl, hsz, rfl⟩, q⟩ := h
  obtain ⟨v, u, x, rfl, hv, hu, hx⟩ := arg3 hd
  refine q_asgN (K := K) (ds := (p.filter fun l => !hasL l a && !hasL l b).map eL) (evn_filterT (evj_list (evd_var rfl hv)) (by omega) (fun l _ _ => tupO_eL l) (fun _ => rfl) (fun l hl y H1 e1 hy => ?_) (fun l hl _ y H1 e1 hy => evd_var rfl hy)) fun r xs H1 hn e1 hr hxs => ?_
  · exact Evl.et_and (evt_test (evd_nmem (evd_var rfl (hu.ex e1)) (evd_var rfl hy))) fun _ => evt_test (evd_nmem (evd_var rfl (hx.ex e1)) (evd_var rfl hy))
  refine q_asgN (K := K) (ds := (p.filter fun l => hasL l a || hasL l b).map eL) (evn_filterT (evj_list (evd_var rfl (hv.ex e1))) (by omega) (fun l _ _ => tupO_eL l) (fun _ => rfl) (fun l hl y H2 e2 hy => ?_) (fun l hl _ y H2 e2 hy => evd_var rfl hy)) fun r2 ys H2 hn2 e2 hr2 hys => ?_
  · exact Evl.et_or (evt_test (evd_mem (evd_var rfl (hu.ex (e1.trans e2))) (evd_var rfl hy))) fun _ => evt_test (evd_mem (evd_var rfl (hx.ex (e1.trans e2))) (evd_var rfl hy))
  have hb2 : Dp K H2 (.ref r2) (.list ((p.filter fun l => hasL l a || hasL l b).map eL)) := .lst (Evl.sq_of hr2) hys
  have hsz2 := size_filter (fun l => hasL l a || hasL l b) p
  have hlf := List.length_filter_le (fun l => hasL l a || hasL l b) p
  have hlf1 := List.length_filter_le (fun l => !hasL l a && !hasL l b) p
  refine s_retN (K := K) (ds := (putTog p a b).map eL) (evn_is (evn_cat (evv_var rfl (e2 _ _ hr) (hxs.ex e2)) (evn_lst (eda_one (evd_tupL (evn_sortedI (l := (p.filter fun l => hasL l a || hasL l b).flatten) (evd_is (evn_sumLcT (en := eL) (F := fun l => l.map nD) (evj_list (evd_var rfl hb2)) (by omega) (fun l _ => tupO_eL l) (fun _ => rfl) (fun _ _ => ⟨unT, fun _ _ => rfl⟩) (fun l hl y H3 e3 hy => evn_listT (evd_var rfl hy)) ?_).dat ?_)).dat)) (by simp)).liv ?_) ?_) fun r3 zs H3 _ e3 hr3 hzs => q r3 zs H3 ((e1.trans e2).trans e3) hr3 hzs
  · rw [flat_nD, List.length_map, len_flat]
    omega
  · rw [flat_nD]
  · simp
    omega
  · unfold putTog
    rw [List.map_append]
    rfl
theorem ok_pairs (N : Fr mg) (D : IsD K mg "pairs_in" 29) : Has P w K mg base CX0 1 "pairs_in" ["parting"] (spL K 1 prePairs) := by
  refine mk_has D sc_pairs_in (fun _ _ _ _ _ _ us hl => match us, hl with | [_], _ => rfl) (fun vs H Q E h => h.1) fun f cdv A outer s H vs Q E hr h => ?_
  refine ⟨_, PSs.nox (pss_cons (ps_set (i := 1) (sc_pairs_in).nd (by rfl) (by first | exact Or.inl rfl | exact Or.inr rfl) (pe_lst pa_nil)) (pss_cons (ps_for PassesOwn.never rfl (show PI _ _ _ (iTup K _) from pi_tup (pv 0)) (pg_name (i := 2) (sc_pairs_in).nd rfl (by first | exact Or.inl rfl | exact Or.inr rfl)) (pss_one (ps_set (i := 1) (sc_pairs_in).nd (by rfl) (by first | exact Or.inl rfl | exact Or.inr rfl) (pe_op op_cat (pv 1) (pe_lc (own := [("point", 3)]) (g := gName 3) rfl (sc_pairs_in).nd (show PI _ _ _ (iTup K _) from pi_tup (pe_slice (r := rSlA K) sl_tupA (pv 2) (po_some pe_int) po_none)) (blkOk_by (own := [("point", 3)]) (N := ["parting", "found", "lot", "point"]) (sc := defScope (top 29)) (by decide +kernel)) (fun _ _ _ _ _ => (pg_name (i := 3) (sc_pairs_in).nd rfl (by first | exact Or.inl rfl | exact Or.inr rfl))) (fun _ _ _ _ _ => pts_nil) (fun _ _ _ _ _ => (pe_tup (pa_cons (pe_ix (r := rIxT K) ix_tup (pv 2) pe_int (by intro _ _; rfl)) (pa_cons (pv 3) pa_nil))))))))) (pss_one (ps_ret (pv 1))))), ?_⟩
  obtain ⟨_, ds, es, hd, ⟨p, rfl, hne, hl, hsz, rfl⟩, q⟩ := h
  obtain ⟨v, rfl, hv⟩ := arg1 hd
  refine q_asgN (K := K) (ds := []) (evn_lst eda_nil (by decide)) fun r xs H1 hn e1 hr hxs => ?_
  refine q_forI (B := H) (evi_tupV rfl hv) e1 (fun i σ' H' => Ex H H' ∧ ∃ x r ys, σ' = [some v, some (.ref r), x, none] ∧ H' r = some (.lst ys) ∧ DpAll K H' ys ((pairsIn (p.take i)).map eL)) (fun H2 e2 => ⟨e1.trans e2, _, r, xs, rfl, e2 _ _ hr, hxs.ex e2⟩) (fun i σ' H' _ h => h.1) (fun i d x σ' H2 H' hdi hP e2 hx => ?_) (fun σ' H' hP => ?_)
  · obtain ⟨e0, x0, r0, ys, rfl, hr0, hys⟩ := hP
    obtain ⟨l, hl2, rfl⟩ := map_at hdi
    have lm := List.mem_of_getElem? hl2
    have hll := len_mem lm
    have hlen : (pairsIn (p.take i)).length ≤ 100 := by
      have : (pairsIn (p.take i)).length ≤ sizeP (p.take i) := by
        unfold pairsIn sizeP
        rw [List.length_flatMap]
        generalize p.take i = q
        induction q with
        | nil => exact Nat.le_refl _
        | cons a q ih => simp at ih ⊢; omega
      have h2 : sizeP (p.take i) ≤ sizeP p := by
        unfold sizeP
        conv => rhs; rw [← List.take_append_drop i p]
        rw [List.map_append, List.sum_append]
        omega
      omega
    have e3 := e0.trans e2
    show tAsg _ _ _ _ _
    refine s_asgN (K := K) (ds := (pairsIn (p.take (i + 1))).map eL) (evn_is (evn_cat (evv_var rfl (e2 _ _ hr0) (hys.ex e2)) (evn_mapT (en := nD) (F := fun x => eL [headN l, x]) (evj_is (evj_tup (evd_slT (evd_var rfl hx) (evo_some (K := K) evd_int) Evl.eo_none)) ?_) (l := l.drop 1) (by simp; omega) (fun _ _ => rfl) (fun _ => rfl) fun a ha y H3 e3 hy => ?_).liv ?_) ?_) fun r3 zs H3 _ e4 hr3 hzs => ⟨e3.trans e4, _, r3, zs, rfl, hr3, hzs⟩
    · rw [cut1, List.map_drop]
    · refine evd_tup (eda_cons (evd_ixT (j := 0) (evd_var rfl (hx.ex e3)) evd_int ?_) (eda_one (evd_var rfl hy))) (by simp)
      have := hne l lm
      cases l with
      | nil => exact absurd rfl this
      | cons a l => rfl
    · simp; omega
    · rw [List.take_add_one, hl2]
      unfold pairsIn
      rw [List.flatMap_append, List.map_append]
      simp
      rfl
  · obtain ⟨e0, x0, r0, ys, rfl, hr0, hys⟩ := hP
    rw [List.length_map, List.take_length] at hys
    exact s_retV (K := K) (evv_var rfl hr0 hys) fun r3 zs H3 e3 hr3 hzs => q r3 zs H3 (e0.trans e3) hr3 hzs
theorem ok_meet (N : Fr mg) (D : IsD K mg "meet_of" 31) : Has P w K mg base CX0 1 "meet_of" ["parting", "other"] (spD K 2 preMeet) := by
  refine mk_has D sc_meet_of (fun _ _ _ _ _ _ us hl => match us, hl with | [_, _], _ => rfl) (fun vs H Q E h => h.1) fun f cdv A outer s H vs Q E hr h => ?_
  refine ⟨_, PSs.nox (pss_cons (ps_set (i := 2) (sc_meet_of).nd (by rfl) (by first | exact Or.inl rfl | exact Or.inr rfl) (pe_lst pa_nil)) (pss_cons (ps_for PassesOwn.never rfl (show PI _ _ _ (iTup K _) from pi_tup (pv 0)) (pg_name (i := 3) (sc_meet_of).nd rfl (by first | exact Or.inl rfl | exact Or.inr rfl)) (pss_cons (ps_setLc (i := 4) (own := [("second", 6)]) (g := gName 6) rfl (sc_meet_of).nd (by rfl) (by rfl) (sw_true rfl rfl rfl (by decide +kernel)) (show PI _ _ _ (iTup K _) from pi_tup (pv 1)) (blkOk_by (own := [("second", 6)]) (N := ["parting", "other", "found", "lot", "some", "point", "second", "part"]) (sc := defScope (top 31)) (by decide +kernel)) (fun _ _ _ _ _ => (pg_name (i := 6) (sc_meet_of).nd rfl (by first | exact Or.inl rfl | exact Or.inr rfl))) (fun _ _ _ _ _ => pts_nil) (fun _ _ _ _ _ => (pe_callTy (r := rTupS K) call_tuple_of (by rfl) N.f_tuple (by decide +kernel) (pa_cons (pe_lc (own := [("point", 5)]) (g := gName 5) rfl (sc_meet_of).nd (show PI _ _ _ (iTup K _) from pi_tup (pv 3)) (blkOk_by (own := [("point", 5)]) (N := ["parting", "other", "found", "lot", "some", "point", "second", "part"]) (sc := relS _ (defScope (top 31))) (by decide +kernel)) (fun _ _ _ _ _ => (pg_name (i := 5) (sc_meet_of).nd rfl (by first | exact Or.inl rfl | exact Or.inr rfl))) (fun _ _ _ _ _ => (pts_one (pt_cmpR (r := rIn K false) op_in_seq (pv 5) (pv 6) (by rfl)))) (fun _ _ _ _ _ => (pv 5))) pa_nil)))) (pss_one (ps_set (i := 2) (sc_meet_of).nd (by rfl) (by first | exact Or.inl rfl | exact Or.inr rfl) (pe_op op_cat (pv 2) (pe_lc (own := [("part", 7)]) (g := gName 7) rfl (sc_meet_of).nd (show PI _ _ _ (iList K _) from pi_list (pv 4)) (blkOk_by (own := [("part", 7)]) (N := ["parting", "other", "found", "lot", "some", "point", "second", "part"]) (sc := defScope (top 31)) (by decide +kernel)) (fun _ _ _ _ _ => (pg_name (i := 7) (sc_meet_of).nd rfl (by first | exact Or.inl rfl | exact Or.inr rfl))) (fun _ _ _ _ _ => (pts_one (pt_cmpR (r := rNeD K) (op_neD hr.units) (pv 7) (pe_tup pa_nil) (nomark _)))) (fun _ _ _ _ _ => (pv 7)))))))) (pss_one (ps_ret (pe_callTy (r := rTupS K) call_tuple_of (by rfl) N.f_tuple (by decide +kernel) (pa_cons (pe_callB (r := rSortedL K) cr_sortedL (by rfl) N.f_sorted (by decide +kernel) (pa_cons (pv 2) pa_nil)) pa_nil)))))), ?_⟩
  obtain ⟨_, ds, d, hd, ⟨p, m, rfl, hl, hsz, hm, rfl⟩, q⟩ := h
  obtain ⟨v, u, rfl, hv, hu⟩ := arg2 hd
  refine q_asgN (K := K) (ds := []) (evn_lst eda_nil (by decide)) fun r xs H1 hn e1 hr hxs => ?_
  refine q_forI (B := H) (evi_tupV rfl hv) e1 (fun i σ' H' => Ex H H' ∧ ∃ x y r ys, σ' = [some v, some u, some (.ref r), x, y, none, none, none] ∧ H' r = some (.lst ys) ∧ DpAll K H' ys ((meetRaw (p.take i) m).map eL)) (fun H2 e2 => ⟨e1.trans e2, _, _, r, xs, rfl, e2 _ _ hr, hxs.ex e2⟩) (fun i σ' H' _ h => h.1) (fun i d x σ' H2 H' hdi hP e2 hx => ?_) (fun σ' H' hP => ?_)
  · obtain ⟨e0, x0, y0, r0, ys, rfl, hr0, hys⟩ := hP
    obtain ⟨l, hl2, rfl⟩ := map_at hdi
    have lm := List.mem_of_getElem? hl2
    have hll := len_mem lm
    have hi := (List.getElem?_eq_some_iff.mp hl2).1
    have hlen : (meetRaw (p.take i) m).length ≤ 10000 := by
      have h1 : ∀ q : List (List Nat), (meetRaw q m).length ≤ q.length * m.length := fun q => by
        unfold meetRaw
        rw [List.length_flatMap]
        induction q with
        | nil => simp
        | cons a q ih =>
          rw [List.map_cons, List.sum_cons, List.length_cons, Nat.succ_mul]
          have := List.length_filter_le (fun l : List Nat => !l.isEmpty) (m.map fun m => a.filter fun x => hasL m x)
          rw [List.length_map] at this
          omega
      have h2 : (p.take i).length ≤ 100 := by rw [List.length_take]; omega
      exact Nat.le_trans (h1 _) (Nat.le_trans (Nat.mul_le_mul h2 hm) (by decide))
    have e3 := e0.trans e2
    refine q_asgN (K := K) (ds := (m.map fun s => l.filter fun x => hasL s x).map eL) (evn_is (evn_mapT (en := eL) (F := fun s => eL (l.filter fun x => hasL s x)) (evj_tup (evd_var rfl (hu.ex e3))) (by omega) (fun _ _ => tupO_eL _) (fun _ => rfl) fun s hs y H3 e4 hy => evd_tupL (evn_filterT (en := nD) (F := nD) (p := fun x => hasL s x) (evj_tup (evd_var rfl (hx.ex e4))) (by omega) (fun _ _ _ => rfl) (fun _ => rfl) (fun a ha z H5 e5 hz => evt_test (evd_mem (evd_var rfl hz) (evd_var rfl (hy.ex e5)))) fun a ha _ z H5 e5 hz => evd_var rfl hz).dat) (by rw [List.map_map]; rfl)) fun r2 zs H3 hn2 e4 hr2 hzs => ?_
    refine s_asgN (K := K) (ds := (meetRaw (p.take (i + 1)) m).map eL) (evn_is (evn_cat (evv_var rfl (e4 _ _ (e2 _ _ hr0)) ((hys.ex e2).ex e4)) (evn_filterT (l := m.map fun s => l.filter fun x => hasL s x) (en := eL) (F := eL) (p := fun l => !l.isEmpty) (evj_list (evd_var rfl (.lst (Evl.sq_of hr2) hzs))) (by simp; omega) (fun _ _ _ => tupO_eL _) (fun _ => rfl) (fun a ha z H5 e5 hz => ?_) fun a ha _ z H5 e5 hz => evd_var rfl hz).liv ?_) ?_) fun r3 ws H4 _ e5 hr3 hws => ⟨(e3.trans e4).trans e5, _, _, r3, ws, rfl, hr3, hws⟩
    · exact Evl.et_is (evt_test (evd_ne (evd_var rfl hz) (evd_tup eda_nil (by decide)) (sh_eL a) shaped_nil)) (by rw [show PyData.eqv (eL a) (.tuple []) = (a.map nD).isEmpty from eqv_nil _]; cases a <;> rfl)
    · have := List.length_filter_le (fun l : List Nat => !l.isEmpty) (m.map fun s => l.filter fun x => hasL s x)
      rw [List.length_map] at this ⊢
      rw [List.length_map]
      omega
    · rw [List.take_add_one, hl2]
      unfold meetRaw
      rw [List.flatMap_append, List.map_append]
      simp
  · obtain ⟨e0, x0, y0, r0, ys, rfl, hr0, hys⟩ := hP
    rw [List.length_map, List.take_length] at hys
    refine s_retD (K := K) (evd_tupL (evn_sortedL (evd_var rfl (.lst (Evl.sq_of hr0) hys)) fun l hl => ?_).dat) fun z H3 e3 hz => q z H3 (e0.trans e3) hz
    unfold meetRaw at hl
    obtain ⟨a, _, ha⟩ := List.mem_flatMap.mp hl
    have := (List.mem_filter.mp ha).2
    intro z
    subst z
    cases this
theorem ok_turned (N : Fr mg) (D : IsD K mg "turned_lots" 32) (h_size_in : Has P w K mg base CX0 1 "size_in" ["parting"] (spD K 1 preSize)) : Has P w K mg base CX0 2 "turned_lots" ["parting", "steps"] (spD K 2 preTurned) := by
  refine mk_has D sc_turned_lots (fun _ _ _ _ _ _ us hl => match us, hl with | [_, _], _ => rfl) (fun vs H Q E h => h.1) fun f cdv A outer s H vs Q E hr h => ?_
  refine ⟨_, PSs.nox (pss_cons (ps_set (i := 2) (sc_turned_lots).nd (by rfl) (by first | exact Or.inl rfl | exact Or.inr rfl) (pe_fn h_size_in hr (by decide) (by rfl) pass0 (pa_cons (pv 0) pa_nil))) (pss_one (ps_ret (pe_callTy (r := rTupS K) call_tuple_of (by rfl) N.f_tuple (by decide +kernel) (pa_cons (pe_callB (r := rSortedL K) cr_sortedL (by rfl) N.f_sorted (by decide +kernel) (pa_cons (pe_lc (own := [("lot", 4)]) (g := gName 4) rfl (sc_turned_lots).nd (show PI _ _ _ (iTup K _) from pi_tup (pv 0)) (blkOk_by (own := [("lot", 4)]) (N := ["parting", "steps", "size", "point", "lot"]) (sc := defScope (top 32)) (by decide +kernel)) (fun _ _ _ _ _ => (pg_name (i := 4) (sc_turned_lots).nd rfl (by first | exact Or.inl rfl | exact Or.inr rfl))) (fun _ _ _ _ _ => pts_nil) (fun _ _ _ _ _ => (pe_callTy (r := rTupS K) call_tuple_of (by rfl) N.f_tuple (by decide +kernel) (pa_cons (pe_callB (r := rSortedI K) cr_sortedI (by rfl) N.f_sorted (by decide +kernel) (pa_cons (pe_lc (own := [("point", 3)]) (g := gName 3) rfl (sc_turned_lots).nd (show PI _ _ _ (iTup K _) from pi_tup (pv 4)) (blkOk_by (own := [("point", 3)]) (N := ["parting", "steps", "size", "point", "lot"]) (sc := relS _ (defScope (top 32))) (by decide +kernel)) (fun _ _ _ _ _ => (pg_name (i := 3) (sc_turned_lots).nd rfl (by first | exact Or.inl rfl | exact Or.inr rfl))) (fun _ _ _ _ _ => pts_nil) (fun _ _ _ _ _ => (pe_op op_mod (pe_op op_add (pv 3) (pv 1)) (pv 2)))) pa_nil)) pa_nil)))) pa_nil)) pa_nil))))), ?_⟩
  obtain ⟨_, ds, d, hd, ⟨p, st, rfl, hne, hl, hsz, h0, rfl⟩, q⟩ := h
  obtain ⟨v, u, rfl, hv, hu⟩ := arg2 hd
  refine q_asgD (K := K) (d := nD (sizeP p)) (evd_fn (eda_one (evd_var rfl hv)) rfl ⟨p, rfl, by omega, rfl⟩) fun z H1 e1 hz => ?_
  refine s_retD (K := K) (evd_tupL (evn_sortedL (p := turnedRaw p st) (evd_is (evn_mapT (en := eL) (F := fun l => eL (srtN (l.map (shN (sizeP p) st)))) (evj_tup (evd_var rfl (hv.ex e1))) (by omega) (fun _ _ => tupO_eL _) (fun _ => rfl) fun l hl y H2 e2 hy => ?_).dat ?_) fun l hl => ?_).dat) fun z H3 e3 hz => q z H3 (e1.trans e3) hz
  · refine evd_tupL (evn_sortedI (l := l.map (shN (sizeP p) st)) (evd_is (evn_mapT (en := nD) (F := fun x => nD (shN (sizeP p) st x)) (evj_tup (evd_var rfl hy)) (by have := len_mem hl; omega) (fun _ _ => rfl) (fun _ => rfl) fun a ha b H3 e3 hb => ?_).dat ?_)).dat
    · refine evd_is (evd_mod (evd_add (evd_var rfl hb) (evd_var rfl (hu.ex ((e1.trans e2).trans e3)))) (evd_var rfl (hz.ex (e2.trans e3))) (by omega)) ?_
      show PyData.int _ = PyData.int _
      unfold shN
      rw [Int.toNat_of_nonneg (Int.emod_nonneg _ (by omega))]
    · rw [List.map_map]
      rfl
  · unfold turnedRaw
    rw [List.map_map]
    rfl
  · obtain ⟨m, hm, rfl⟩ := List.mem_map.mp hl
    intro z
    have h2 := congrArg List.length z
    rw [(srtN_perm _).length_eq, List.length_map] at h2
    exact hne m hm (List.length_eq_zero_iff.mp h2)
theorem head_get {l : List Nat} (h : l ≠ []) : (l.map nD)[0]? = some (nD (headN l)) := by
  cases l with
  | nil => exact absurd rfl h
  | cons a l => rfl
theorem ok_mended (N : Fr mg) (D : IsD K mg "mended_once" 28) (h_do_cross : Has P w K mg base CX0 1 "do_cross" ["one", "other"] (spD K 2 preCross)) (h_put_together : Has P w K mg base CX0 1 "put_together" ["lots", "one", "other"] (spL K 3 prePut)) :
    Has P w K mg base CX0 2 "mended_once" ["lots"] (spMend K) := by
  refine mk_has D sc_mended_once (fun _ _ _ _ _ _ us hl => match us, hl with | [_], _ => rfl) (fun vs H Q E h => by obtain ⟨a, xs, p, rfl, _⟩ := h; rfl) fun f cdv A outer s H vs Q E hr h => ?_
  refine ⟨_, PSs.nox (pss_cons (ps_for PassesOwn.never rfl (show PI _ _ _ (iEnum K _) from pi_enum (by rfl) N.f_enumerate (pa_cons (pv 0) pa_nil)) (pg_tup rfl (pgs_cons (pg_name (i := 1) (sc_mended_once).nd rfl (by first | exact Or.inl rfl | exact Or.inr rfl)) (pgs_cons (pg_name (i := 2) (sc_mended_once).nd rfl (by first | exact Or.inl rfl | exact Or.inr rfl)) pgs_nil))) (pss_one (ps_for PassesOwn.never rfl (show PI _ _ _ (iList K _) from pi_list (pe_slice (r := rSlL K) sl_list (pv 0) po_none (po_some (pv 1)))) (pg_name (i := 3) (sc_mended_once).nd rfl (by first | exact Or.inl rfl | exact Or.inr rfl)) (pss_one (ps_if (pt_val (pe_fn h_do_cross hr (by decide) (by rfl) pass0 (pa_cons (pv 2) (pa_cons (pv 3) pa_nil)))) (pss_one (ps_ret (pe_fn h_put_together hr (by decide) (by rfl) pass0 (pa_cons (pv 0) (pa_cons (pe_ix (r := rIxT K) ix_tup (pv 2) pe_int (by intro _ _; rfl)) (pa_cons (pe_ix (r := rIxT K) ix_tup (pv 3) pe_int (by intro _ _; rfl)) pa_nil)))))) pss_nil))))) (pss_one (ps_ret (pv 0)))), ?_⟩
  obtain ⟨a, xs, p, rfl, ha, hxs, hne, hl, hsz, q⟩ := h
  have hv : Dp K H (.ref a) (.list (p.map eL)) := .lst (Evl.sq_of ha) hxs
  refine q_forI (evi_enumLV rfl hv) (Ex.refl H) (fun i σ' H' => (∃ x y z, σ' = [some (.ref a), x, y, z]) ∧ Ex H H' ∧ ∀ j l, j < i → p[j]? = some l → (p.take j).any (fun o => doCross l o) = false) (fun H1 e1 => ⟨⟨_, _, _, rfl⟩, e1, fun j l h => absurd h (Nat.not_lt_zero _)⟩) (fun i σ' H' _ h => h.2.1) (fun i d x σ' H1 H' hdi hP e1 hx => ?_) (fun σ' H' hP => ?_)
  · obtain ⟨⟨x0, y0, z0, rfl⟩, e0, hf⟩ := hP
    obtain ⟨e, he, rfl⟩ := enD_at hdi
    obtain ⟨l, hl2, rfl⟩ := map_at he
    have lm := List.mem_of_getElem? hl2
    have hi := (List.getElem?_eq_some_iff.mp hl2).1
    refine tg_pair' hx fun b c hb hc => ?_
    have e2 := e0.trans e1
    refine s_forJ (ds := (p.take i).map eL) (evj_is (evj_list (evn_slL (evd_var rfl (hv.ex e2)) Evl.eo_none (evo_some (evd_var rfl hb))).dat) (by rw [cutG_to, List.map_take])) (fun B j σ2 H2 => (∃ z, σ2 = [some (.ref a), some b, some c, z]) ∧ Ex B H2 ∧ ∀ k o, k < j → (p.take i)[k]? = some o → doCross l o = false) (fun H2 e3 => ⟨⟨_, rfl⟩, Ex.refl _, fun k o h => absurd h (Nat.not_lt_zero _)⟩) (fun _ j σ2 H2 _ h => h.2.1) (fun B eB j d2 y σ2 H2 H3 hdj hP2 e3 hy => ?_) (fun H2 e3 σ2 H3 hP2 => ?_)
    · obtain ⟨⟨z1, rfl⟩, e4, hf2⟩ := hP2
      obtain ⟨o, ho, rfl⟩ := map_at hdj
      have ho2 : p[j]? = some o ∧ j < i := by
        rw [List.getElem?_take] at ho
        by_cases hji : j < i
        · rw [if_pos hji] at ho; exact ⟨ho, hji⟩
        · rw [if_neg hji] at ho; cases ho
      have om := List.mem_of_getElem? ho2.1
      have e5 := (eB.trans e4).trans e3
      refine Evl.s_when (b := doCross l o) (evt_B (evd_fn (eda_cons (evd_var rfl (hc.ex e5)) (eda_one (evd_var rfl hy))) rfl ⟨l, o, rfl, (hne l lm).1, by have := (hne l lm).2; omega, (hne o om).2, rfl⟩)) (fun hb2 H4 e6 => ?_) (fun hb2 H4 e6 => ?_)
      · refine s_retV (K := K) (ds := (putTog p (headN l) (headN o)).map eL) (evv_fn (eda_cons (evd_var rfl (hv.ex ((e2.trans e5).trans e6))) (eda_cons (evd_ixT (j := 0) (evd_var rfl (hc.ex (e5.trans e6))) evd_int (head_get (hne l lm).1)) (eda_one (evd_ixT (j := 0) (evd_var rfl (hy.ex e6)) evd_int (head_get (hne o om).1))))) rfl ⟨p, _, _, rfl, hl, hsz, rfl⟩) fun r ys H5 e7 hr hys => q _ r ys H5 (.inr ⟨i, j, l, o, ho2.2, hl2, ho2.1, hb2, rfl⟩) (((e2.trans e5).trans e6).trans e7) hr hys
      · refine ⟨⟨_, rfl⟩, (e4.trans e3).trans e6, fun k o' hk ho' => ?_⟩
        rcases Nat.lt_succ_iff_lt_or_eq.mp hk with hk | rfl
        · exact hf2 k o' hk ho'
        · rw [ho] at ho'
          cases ho'
          exact hb2
    · obtain ⟨⟨z1, rfl⟩, e4, hf2⟩ := hP2
      refine ⟨⟨_, _, _, rfl⟩, (e2.trans e3).trans e4, fun j m hj hm => ?_⟩
      rcases Nat.lt_succ_iff_lt_or_eq.mp hj with hj | rfl
      · exact hf j m hj hm
      · rw [hl2] at hm
        cases hm
        rw [List.any_eq_false]
        intro o ho z
        obtain ⟨k, hk, ek⟩ := List.getElem_of_mem ho
        have := hf2 k o (by rw [List.length_map]; exact hk) (by rw [← ek]; exact List.getElem?_eq_getElem hk)
        rw [this] at z
        cases z
  · obtain ⟨⟨x0, y0, z0, rfl⟩, e0, hf⟩ := hP
    exact s_retV (K := K) (evv_var rfl (e0 _ _ ha) (hxs.ex e0)) fun r ys H2 e1 hr hys => q p r ys H2 (.inl ⟨free_yes fun i l h => hf i l (by rw [enD_len, List.length_map]; exact (List.getElem?_eq_some_iff.mp h).1) h, rfl⟩) (e0.trans e1) hr hys
end
end PR
set_option maxHeartbeats 400000
namespace PR
open PySem PySem.Spec PyProof.Rows L2
open Evl (Ex EvT)
section
variable {P : Program} {w : World} {K : PySem.W.Frag} {mg : Str → Option Value} {base : Heap}
theorem ok_fits (N : Fr mg) (D : IsD K mg "fits_parting" 22) (h_fits_lot : Has P w K mg base CX0 2 "fits_lot" ["value"] (spD K 1 preFitsLot)) (h_risesL : Has P w K mg base CX0 1 "rises_on" ["items"] (spD K 1 preRisesL)) (h_cross_free : Has P w K mg base CX0 2 "cross_free" ["lots"] (spD K 1 preFreeT)) :
    Has P w K mg base CX0 3 "fits_parting" ["value"] (spD K 1 preFits) := by
  refine mk_has D sc_fits_parting (fun _ _ _ _ _ _ us hl => match us, hl with | [_], _ => rfl) (fun vs H Q E h => h.1) fun f cdv A outer s H vs Q E hr h => ?_
  refine ⟨_, PSs.nox (pss_cons (ps_if (PW.pt (pw_or (pt_not (pt_val (pe_callB (r := rIsi K) call_isi (by rfl) N.f_isinstance (by decide +kernel) (pa_cons (pv 0) (pa_cons (pe_bltn (v := .ty "tuple") (by rfl) N.f_tuple (by decide +kernel) rfl) pa_nil))))) (pw_or (pt_not (pt_val (pe_callB (r := rAll K) (cr_all rfl) (by rfl) N.f_all (by decide +kernel) (pa_cons (pe_lc (own := [("lot", 1)]) (g := gName 1) rfl (sc_fits_parting).nd (show PI _ _ _ (iTup K _) from pi_tup (pv 0)) (blkOk_by (own := [("lot", 1)]) (N := ["value", "lot", "points"]) (sc := defScope (top 22)) (by decide +kernel)) (fun _ _ _ _ _ => (pg_name (i := 1) (sc_fits_parting).nd rfl (by first | exact Or.inl rfl | exact Or.inr rfl))) (fun _ _ _ _ _ => pts_nil) (fun _ _ _ _ _ => (pe_fn h_fits_lot hr (by decide) (by rfl) pass0 (pa_cons (pv 1) pa_nil)))) pa_nil)))) (pw_or1 (pt_not (pt_val (pe_fn h_risesL hr (by decide) (by rfl) pass0 (pa_cons (pv 0) pa_nil)))))))) (pss_one (ps_ret pe_bl)) pss_nil) (pss_cons (ps_set (i := 2) (sc_fits_parting).nd (by rfl) (by first | exact Or.inl rfl | exact Or.inr rfl) (pe_callB (r := rSumL K) (cr_sumL rfl) (by rfl) N.f_sum (by decide +kernel) (pa_cons (pe_lc (own := [("lot", 1)]) (g := gName 1) rfl (sc_fits_parting).nd (show PI _ _ _ (iTup K _) from pi_tup (pv 0)) (blkOk_by (own := [("lot", 1)]) (N := ["value", "lot", "points"]) (sc := defScope (top 22)) (by decide +kernel)) (fun _ _ _ _ _ => (pg_name (i := 1) (sc_fits_parting).nd rfl (by first | exact Or.inl rfl | exact Or.inr rfl))) (fun _ _ _ _ _ => pts_nil) (fun _ _ _ _ _ => (pe_callTy (r := Evl.rListS K) call_list_of (by rfl) N.f_list (by decide +kernel) (pa_cons (pv 1) pa_nil)))) (pa_cons (pe_lst pa_nil) pa_nil)))) (pss_one (ps_ret (pe_and (pe_chain op_le op_le pe_int (pe_callB (r := Evl.rLenS K) call_len_seq (by rfl) N.f_len boot_len (pa_cons (pv 2) pa_nil)) (pe_op op_add (N.cars.elim fun t ht => pe_glob (v := .int 12) (by rfl) ht ⟨t, rfl⟩) pe_int)) (pe_and (pe_cmpR (r := rEqD K) (op_eqD hr.units) (pe_callB (r := rSortedI K) cr_sortedI (by rfl) N.f_sorted (by decide +kernel) (pa_cons (pv 2) pa_nil)) (pe_listRg rfl (by rfl) N.f_list (prg_1 (by rfl) N.f_range (pe_callB (r := Evl.rLenS K) call_len_seq (by rfl) N.f_len boot_len (pa_cons (pv 2) pa_nil)))) (nomark _)) (pe_one (pe_fn h_cross_free hr (by decide) (by rfl) pass0 (pa_cons (pv 0) pa_nil))))))))), ?_⟩
  obtain ⟨_, ds, d, hd, ⟨x, b, rfl, rfl, hc⟩, q⟩ := h
  obtain ⟨v, rfl, hv⟩ := arg1 hd
  rcases hc with ⟨hx, rfl⟩ | ⟨es, rfl, hle, hes, hno, rfl⟩ | ⟨p, rfl, hl, hp, rfl⟩
  · refine Evl.q_when (b := true) (Evl.et_is (b := true) (Evl.et_or (b := true) (Evl.et_not (evt_B (evd_isi (evd_var rfl hv) (isi_tuple _)))) fun z => ?_) ?_) (fun hb H1 e1 => s_retC (q _ H1 e1 (.bl false))) (fun hb => by cases hb)
    · rw [hx] at z
      cases z
    · rw [hx]
      rfl
  · refine Evl.q_when (b := true) (Evl.et_is (b := true) (Evl.et_or (b := true) (Evl.et_not (evt_B (evd_isi (evd_var rfl hv) (isi_tuple _)))) fun z => Evl.et_is (b := true) (Evl.et_or (b := true) (Evl.et_not (evt_B (evd_allM (f := fitsLotD)
      (evn_map (F := fun d => .bool (fitsLotD d)) (evj_tup (evd_var rfl hv)) (by omega) (fun d _ => rfl) (fun _ => rfl) fun d hd y H1 e1 hy =>
      evd_fn (eda_one (evd_var rfl hy)) rfl ⟨d, rfl, (hes d hd).1, (hes d hd).2, rfl⟩).dat))) fun z => ?_) ?_) ?_) (fun hb H1 e1 => s_retC (q _ H1 e1 (.bl false))) (fun hb => by cases hb)
    · rw [hno] at z
      cases z
    · rw [hno]
      rfl
    · simp
  · have ha : (p.map eL).all fitsLotD = true := by
      rw [List.all_map]
      exact List.all_eq_true.mpr fun l hl => (hp l hl).1
    refine Evl.q_when (b := !risesL p) (Evl.et_is (b := !risesL p) (Evl.et_or (b := !risesL p) (Evl.et_not (evt_B (evd_isi (evd_var rfl hv) (isi_tuple _)))) fun z => Evl.et_is (b := !risesL p) (Evl.et_or (b := !risesL p) (Evl.et_not (evt_B (evd_allM (f := fitsLotD)
      (evn_map (F := fun d => .bool (fitsLotD d)) (evj_tup (evd_var rfl hv)) (by simp; omega) (fun d _ => rfl) (fun _ => rfl) fun d hd y H1 e1 hy => ?_).dat))) fun z => Evl.et_not (evt_B (evd_fn (eda_one (evd_var rfl hv)) rfl ⟨p, rfl, by omega, rfl⟩))) ?_) ?_) (fun hb H1 e1 => ?_) (fun hb H1 e1 => ?_)
    · obtain ⟨l, hl, rfl⟩ := List.mem_map.mp hd
      refine evd_fn (eda_one (evd_var rfl hy)) rfl ⟨eL l, rfl, sh_eL l, fun zs hz => ?_, rfl⟩
      cases hz
      rw [List.length_map]
      have := (hp l hl).2.2
      omega
    · rw [ha]
      rfl
    · rfl
    · refine s_retC (q _ H1 e1 ?_)
      have : fitsP p = false := by
        unfold fitsP
        have : risesL p = false := by simpa using hb
        rw [this]
        rfl
      rw [this]
      exact .bl false
    · have hr1 : risesL p = true := by simpa using hb
      have hsz : sizeP p ≤ 64000 := by
        have : ∀ q : List (List Nat), (∀ l ∈ q, l.length < 64) → sizeP q ≤ 64 * q.length := fun q => by
          induction q with
          | nil => intro _; exact Nat.le_refl _
          | cons a q ih =>
            intro h
            have h1 := h a List.mem_cons_self
            have h2 := ih fun l hl => h l (List.mem_cons_of_mem _ hl)
            unfold sizeP at *
            rw [List.map_cons, List.sum_cons, List.length_cons]
            omega
        have := this p fun l hl => (hp l hl).2.2
        omega
      refine q_asgN (K := K) (ds := p.flatten.map nD) (evn_is (evn_sumLcT (en := eL) (F := fun l => l.map nD) (evj_tup (evd_var rfl (hv.ex e1))) (by omega) (fun l _ => tupO_eL l) (fun _ => rfl) (fun _ _ => ⟨unT, fun _ _ => rfl⟩) (fun l hl y H3 e3 hy => evn_listT (evd_var rfl hy)) ?_) (flat_nD p)) fun r xs H2 hn e2 hr2 hxs => ?_
      · rw [flat_nD, List.length_map, len_flat]
        omega
      have hpts : Dp K H2 (.ref r) (.list (p.flatten.map nD)) := .lst (Evl.sq_of hr2) hxs
      have hlen : ∀ σ : L2.St, σ[2]? = some (some (.ref r)) → EvD K (tCB (Evl.rLenS K) (tCons (tVar 2) tNil)) σ H2 (nD (sizeP p)) := fun σ h2 => evd_is (evd_lenL (evd_var h2 hpts)) (by rw [List.length_map, len_flat]; rfl)
      refine s_retD (K := K) (evd_is (d := .bool (fitsP p)) (evd_is (evd_andV (a := decide (2 ≤ sizeP p) && decide (sizeP p ≤ 13)) (b := decide (srtN p.flatten = List.range (sizeP p)) && crossFree p) (evd_is (evd_between evd_int (hlen _ rfl) (evd_add evd_int evd_int)) ?_) fun _ => evd_andV (evd_is (evd_eq (evn_sortedI (evd_var rfl hpts)).dat (evn_listRg (hlen _ rfl) (by omega)).dat (sh_lN _) (sh_lN _)) ?_) fun _ => evd_fn (eda_one (evd_var rfl (hv.ex (e1.trans e2)))) rfl ⟨p, rfl, fun l hl => (hp l hl).2, by omega, rfl⟩) ?_) rfl) fun z H3 e3 hz => q z H3 ((e1.trans e2).trans e3) hz
      · show PyData.bool (decide _ && decide _) = PyData.bool _
        rw [show decide ((2 : Int) ≤ (sizeP p : Int)) = decide (2 ≤ sizeP p) from decide_eq_decide.mpr (by omega), show decide ((sizeP p : Int) ≤ 12 + 1) = decide (sizeP p ≤ 13) from decide_eq_decide.mpr (by omega)]
      · rw [eqv_lst eqv_nD]
      · unfold fitsP
        rw [hr1]
        rfl
end
end PR
set_option maxHeartbeats 400000
namespace PR
/-! crossing -/
def cnt (l : List Nat) (b : Nat) : Nat := (l.filter fun x => decide (x < b)).length
theorem cnt_le (l : List Nat) (b : Nat) : cnt l b ≤ l.length := List.length_filter_le _ _
theorem cnt_cons (a : Nat) (l : List Nat) (b : Nat) : cnt (a :: l) b = (if a < b then 1 else 0) + cnt l b := by
  unfold cnt
  rw [List.filter_cons]
  by_cases h : a < b
  · simp [h]; omega
  · simp [h]
theorem cnt_pos {l : List Nat} {b : Nat} : 0 < cnt l b ↔ ∃ a ∈ l, a < b := by
  unfold cnt
  rw [List.length_pos_iff_exists_mem]
  constructor
  · rintro ⟨a, h⟩
    have := List.mem_filter.mp h
    exact ⟨a, this.1, of_decide_eq_true this.2⟩
  · rintro ⟨a, h1, h2⟩
    exact ⟨a, List.mem_filter.mpr ⟨h1, decide_eq_true h2⟩⟩
theorem cnt_lt : ∀ {l : List Nat} {b : Nat}, cnt l b < l.length ↔ ∃ c ∈ l, b ≤ c
  | [], b => by simp [cnt]
  | a :: l, b => by
    rw [cnt_cons, List.length_cons]
    have ih := @cnt_lt l b
    have le := cnt_le l b
    by_cases h : a < b
    · rw [if_pos h]
      constructor
      · intro q
        obtain ⟨c, hc, hbc⟩ := ih.mp (by omega)
        exact ⟨c, List.mem_cons_of_mem _ hc, hbc⟩
      · rintro ⟨c, hc, hbc⟩
        rcases List.mem_cons.mp hc with rfl | hc
        · omega
        · have := ih.mpr ⟨c, hc, hbc⟩
          omega
    · rw [if_neg h]
      exact ⟨fun _ => ⟨a, List.mem_cons_self, by omega⟩, fun _ => by omega⟩
theorem cnt_mono {b d : Nat} (h : b ≤ d) : ∀ l : List Nat, cnt l b ≤ cnt l d
  | [] => Nat.le_refl _
  | a :: l => by
    have := cnt_mono h l
    rw [cnt_cons, cnt_cons]
    by_cases h1 : a < b <;> by_cases h2 : a < d <;> simp [h1, h2] <;> omega
theorem cnt_between {b d : Nat} (h : b ≤ d) : ∀ {l : List Nat}, cnt l b < cnt l d ↔ ∃ c ∈ l, b ≤ c ∧ c < d
  | [] => by simp [cnt]
  | a :: l => by
    have ih := @cnt_between b d h l
    have mo := cnt_mono h l
    rw [cnt_cons, cnt_cons]
    by_cases h1 : a < b
    · rw [if_pos h1, if_pos (by omega : a < d)]
      constructor
      · intro q
        obtain ⟨c, hc, e⟩ := ih.mp (by omega)
        exact ⟨c, List.mem_cons_of_mem _ hc, e⟩
      · rintro ⟨c, hc, e⟩
        rcases List.mem_cons.mp hc with rfl | hc
        · omega
        · have := ih.mpr ⟨c, hc, e⟩
          omega
    · rw [if_neg h1]
      by_cases h2 : a < d
      · rw [if_pos h2]
        exact ⟨fun _ => ⟨a, List.mem_cons_self, by omega, h2⟩, fun _ => by omega⟩
      · rw [if_neg h2]
        constructor
        · intro q
          obtain ⟨c, hc, e⟩ := ih.mp (by omega)
          exact ⟨c, List.mem_cons_of_mem _ hc, e⟩
        · rintro ⟨c, hc, e⟩
          rcases List.mem_cons.mp hc with rfl | hc
          · omega
          · have := ih.mpr ⟨c, hc, e⟩
            omega
theorem doCross_iff {l o : List Nat} : doCross l o = true ↔ ∃ b ∈ o, ∃ d ∈ o, cnt l b % l.length ≠ cnt l d % l.length := by
  unfold doCross
  rw [decide_eq_true_iff, diffN_gt]
  constructor
  · rintro ⟨x, hx, y, hy, ne⟩
    obtain ⟨b, hb, rfl⟩ := List.mem_map.mp hx
    obtain ⟨d, hd, rfl⟩ := List.mem_map.mp hy
    exact ⟨b, hb, d, hd, fun e => ne (congrArg Int.ofNat e)⟩
  · rintro ⟨b, hb, d, hd, ne⟩
    exact ⟨_, List.mem_map_of_mem hb, _, List.mem_map_of_mem hd, fun e => ne (Int.ofNat.inj e)⟩
/-- l and o interleave -/
def Inter (l o : List Nat) : Prop := ∃ a ∈ l, ∃ b ∈ o, ∃ c ∈ l, ∃ d ∈ o, a < b ∧ b < c ∧ c < d
theorem doCross_of {l o : List Nat} (h : Inter l o ∨ Inter o l) : doCross l o = true := by
  rw [doCross_iff]
  rcases h with ⟨a, ha, b, hb, c, hc, d, hd, h1, h2, h3⟩ | ⟨x, hx, y, hy, z, hz, u, hu, h1, h2, h3⟩
  · refine ⟨b, hb, d, hd, ?_⟩
    have p1 : 0 < cnt l b := cnt_pos.mpr ⟨a, ha, h1⟩
    have p2 : cnt l b < cnt l d := (cnt_between (by omega)).mpr ⟨c, hc, by omega, h3⟩
    have p3 := cnt_le l d
    rw [Nat.mod_eq_of_lt (show cnt l b < l.length by omega)]
    by_cases e : cnt l d = l.length
    · rw [e, Nat.mod_self]; omega
    · rw [Nat.mod_eq_of_lt (by omega)]; omega
  · refine ⟨x, hx, z, hz, ?_⟩
    have p2 : cnt l x < cnt l z := (cnt_between (by omega)).mpr ⟨y, hy, by omega, h2⟩
    have p3 : cnt l z < l.length := cnt_lt.mpr ⟨u, hu, by omega⟩
    rw [Nat.mod_eq_of_lt (by omega), Nat.mod_eq_of_lt p3]
    omega
theorem inter_of {l o : List Nat} (hd : ∀ x, x ∈ l → x ∉ o) (h : doCross l o = true) : Inter l o ∨ Inter o l := by
  have main : ∀ b ∈ o, ∀ d ∈ o, b ≤ d → cnt l b % l.length ≠ cnt l d % l.length → Inter l o ∨ Inter o l := by
    intro b hb d hdo hbd ne
    have le1 := cnt_mono hbd l
    have lt : cnt l b < cnt l d := by
      rcases Nat.lt_or_eq_of_le le1 with h | h
      · exact h
      · rw [h] at ne; exact absurd rfl ne
    obtain ⟨c, hc, h1, h2⟩ := (cnt_between hbd).mp lt
    have hbc : b < c := by
      rcases Nat.lt_or_eq_of_le h1 with h | h
      · exact h
      · subst h; exact absurd hb (hd _ hc)
    have le2 := cnt_le l d
    rcases Nat.lt_or_eq_of_le le2 with h | h
    · obtain ⟨u, hu, h3⟩ := cnt_lt.mp h
      have hdu : d < u := by
        rcases Nat.lt_or_eq_of_le h3 with h | h
        · exact h
        · subst h; exact absurd hdo (hd _ hu)
      exact .inr ⟨b, hb, c, hc, d, hdo, u, hu, hbc, h2, hdu⟩
    · have p : 0 < cnt l b := by
        rcases Nat.eq_zero_or_pos (cnt l b) with z | z
        · rw [z, h, Nat.mod_self, Nat.zero_mod] at ne
          exact absurd rfl ne
        · exact z
      obtain ⟨a, ha, h4⟩ := cnt_pos.mp p
      exact .inl ⟨a, ha, b, hb, c, hc, d, hdo, h4, hbc, h2⟩
  obtain ⟨b, hb, d, hd', ne⟩ := doCross_iff.mp h
  rcases Nat.le_total b d with h | h
  · exact main b hb d hd' h ne
  · exact main d hd' b hb h (Ne.symm ne)
theorem free_iff {p : List (List Nat)} : crossFree p = true ↔ ∀ (i j : Nat) (l o : List Nat), j < i → p[i]? = some l → p[j]? = some o → doCross l o = false := by
  constructor
  · intro h i j l o hij hi hj
    have hi' := (List.getElem?_eq_some_iff.mp hi).1
    have := List.all_eq_true.mp h i (List.mem_range.mpr hi')
    rw [List.getD_eq_getElem?_getD, hi] at this
    have h2 : (p.take i).any (fun o => doCross l o) = false := by simpa using this
    rw [List.any_eq_false] at h2
    have := h2 o (List.mem_of_getElem? (by rw [List.getElem?_take, if_pos hij]; exact hj))
    simpa using this
  · intro h
    refine free_yes fun i l hi => ?_
    rw [List.any_eq_false]
    intro o ho z
    obtain ⟨j, hj, e⟩ := List.getElem_of_mem ho
    rw [List.length_take] at hj
    have hji : j < i := by omega
    have : p[j]? = some o := by
      rw [← e, List.getElem_take]
      exact List.getElem?_eq_getElem (by omega)
    rw [h i j l o hji hi this] at z
    cases z
theorem Parts.dis_at {n : Nat} {p : Part} (h : Parts n p) {i j : Nat} {l o : List Nat} (hij : i ≠ j) (hi : p[i]? = some l) (hj : p[j]? = some o) : ∀ x, x ∈ l → x ∉ o := by
  obtain ⟨hi1, ei⟩ := List.getElem?_eq_some_iff.mp hi
  obtain ⟨hj1, ej⟩ := List.getElem?_eq_some_iff.mp hj
  have pw := List.pairwise_iff_getElem.mp h.dis
  rcases Nat.lt_or_gt_of_ne hij with q | q
  · have := pw i j hi1 hj1 q
    rw [ei, ej] at this
    exact this
  · have := pw j i hj1 hi1 q
    rw [ei, ej] at this
    exact fun x hx ho => this x ho hx
theorem nc_of_free {n : Nat} {p : Part} (h : Parts n p) (f : crossFree p = true) : NC (Same p) := by
  rintro a b c d hab hbc hcd ⟨l, hl, al, cl⟩ ⟨o, ho, bo, do_⟩
  obtain ⟨i, hi, ei⟩ := List.getElem_of_mem hl
  obtain ⟨j, hj, ej⟩ := List.getElem_of_mem ho
  have ei' : p[i]? = some l := by rw [← ei]; exact List.getElem?_eq_getElem hi
  have ej' : p[j]? = some o := by rw [← ej]; exact List.getElem?_eq_getElem hj
  have fi := free_iff.mp f
  rcases Nat.lt_trichotomy i j with q | q | q
  · have := fi j i o l q ej' ei'
    rw [doCross_of (.inr ⟨a, al, b, bo, c, cl, d, do_, hab, hbc, hcd⟩)] at this
    cases this
  · subst q
    rw [ei'] at ej'
    cases ej'
    exact ⟨l, hl, al, bo⟩
  · have := fi i j l o q ei' ej'
    rw [doCross_of (.inl ⟨a, al, b, bo, c, cl, d, do_, hab, hbc, hcd⟩)] at this
    cases this
theorem free_of_nc {n : Nat} {p : Part} (h : Parts n p) (f : NC (Same p)) : crossFree p = true := by
  refine free_iff.mpr fun i j l o hij hi hj => Bool.eq_false_iff.mpr fun z => ?_
  have hl := List.mem_of_getElem? hi
  have ho := List.mem_of_getElem? hj
  have dis := h.dis_at (by omega) hi hj
  rcases inter_of dis z with ⟨a, ha, b, hb, c, hc, d, hd, h1, h2, h3⟩ | ⟨a, ha, b, hb, c, hc, d, hd, h1, h2, h3⟩
  · have s := f a b c d h1 h2 h3 ⟨l, hl, ha, hc⟩ ⟨o, ho, hb, hd⟩
    have := (h.mem_iff hl ha b).mpr s
    exact dis b this hb
  · have s := f a b c d h1 h2 h3 ⟨o, ho, ha, hc⟩ ⟨l, hl, hb, hd⟩
    have := (h.mem_iff ho ha b).mpr s
    exact dis b hb this
/-! orders of lots -/
theorem perm_parts {n : Nat} {p q : Part} (h : Parts n p) (e : q.Perm p) : Parts n q where
  ne := fun l hl => h.ne l (e.mem_iff.mp hl)
  asc := fun l hl => h.asc l (e.mem_iff.mp hl)
  bd := fun l hl => h.bd l (e.mem_iff.mp hl)
  cov := fun x hx => by
    obtain ⟨l, hl, hx⟩ := h.cov x hx
    exact ⟨l, e.mem_iff.mpr hl, hx⟩
  dis := e.symm.pairwise h.dis fun {a b} s x hb ha => s x ha hb
theorem perm_same {p q : Part} (e : q.Perm p) (x y : Nat) : Same q x y ↔ Same p x y :=
  ⟨fun ⟨l, hl, h⟩ => ⟨l, e.mem_iff.mp hl, h⟩, fun ⟨l, hl, h⟩ => ⟨l, e.mem_iff.mpr hl, h⟩⟩
theorem ltL_head {a b : List Nat} (ha : a ≠ []) (hb : b ≠ []) (ne : headN a ≠ headN b) : ltL a b = decide (headN a < headN b) := by
  cases a with
  | nil => exact absurd rfl ha
  | cons x a =>
    cases b with
    | nil => exact absurd rfl hb
    | cons y b =>
      have ne' : x ≠ y := ne
      show HT.lexLt ((x : Int) :: zI a) ((y : Int) :: zI b) = decide (x < y)
      rw [HT.lexLt_cons, if_neg (show ¬ ((x : Int) = (y : Int)) from fun e => ne' (Int.ofNat.inj e))]
      exact decide_eq_decide.mpr (by omega)
theorem Parts.head_ne {n : Nat} {p : Part} (h : Parts n p) {i j : Nat} {l o : List Nat} (hij : i ≠ j) (hi : p[i]? = some l) (hj : p[j]? = some o) : headN l ≠ headN o := fun e =>
  h.dis_at hij hi hj (headN l) (headN_mem (h.ne l (List.mem_of_getElem? hi))) (e ▸ headN_mem (h.ne o (List.mem_of_getElem? hj)))
theorem srtL_canon {n : Nat} {p : Part} (h : Parts n p) : Canon n (srtL p) := by
  have hp := perm_parts h (srtL_perm p)
  refine ⟨hp, List.pairwise_iff_getElem.mpr fun i j hi hj hij => ?_⟩
  have le := List.pairwise_iff_getElem.mp (srtL_le p) i j hi hj hij
  have ne := hp.head_ne (Nat.ne_of_lt hij) (List.getElem?_eq_getElem hi) (List.getElem?_eq_getElem hj)
  unfold leL at le
  rw [ltL_head (hp.ne _ (List.getElem_mem hj)) (hp.ne _ (List.getElem_mem hi)) (Ne.symm ne)] at le
  have : ¬ headN (srtL p)[j] < headN (srtL p)[i] := by simpa using le
  omega
theorem srtL_same (p : Part) (x y : Nat) : Same (srtL p) x y ↔ Same p x y := perm_same (srtL_perm p) x y
theorem srtN_asc {l : List Nat} (h : l.Nodup) : (srtN l).Pairwise (· < ·) := by
  have h1 := srtN_le l
  have h2 : (srtN l).Nodup := (srtN_perm l).nodup_iff.mpr h
  exact (h1.and h2).imp fun {a b} q => Nat.lt_of_le_of_ne q.1 q.2
/-! the size -/
theorem Parts.flat_nd {n : Nat} {p : Part} (h : Parts n p) : p.flatten.Nodup := by
  unfold List.Nodup
  rw [List.pairwise_flatten]
  exact ⟨fun l hl => (h.asc l hl).imp fun {a b} q => Nat.ne_of_lt q, h.dis.imp fun {a b} q x hx y hy (e : x = y) => q x hx (e.symm ▸ hy)⟩
theorem Parts.flat_perm {n : Nat} {p : Part} (h : Parts n p) : p.flatten.Perm (List.range n) := by
  refine perm_of_nd h.flat_nd List.nodup_range fun x => ?_
  rw [List.mem_range, List.mem_flatten]
  exact ⟨fun ⟨l, hl, hx⟩ => h.bd l hl x hx, fun hx => let ⟨l, hl, hx⟩ := h.cov x hx; ⟨l, hl, hx⟩⟩
theorem Parts.size {n : Nat} {p : Part} (h : Parts n p) : sizeP p = n := by
  rw [← len_flat, h.flat_perm.length_eq, List.length_range]
theorem Parts.len {n : Nat} {p : Part} (h : Parts n p) : p.length ≤ n := by
  have : ∀ q : Part, (∀ l ∈ q, l ≠ []) → q.length ≤ sizeP q := fun q => by
    induction q with
    | nil => intro _; exact Nat.le_refl _
    | cons a q ih =>
      intro h
      have h1 := List.length_pos_iff.mpr (h a List.mem_cons_self)
      have h2 := ih fun l hl => h l (List.mem_cons_of_mem _ hl)
      unfold sizeP at *
      rw [List.map_cons, List.sum_cons, List.length_cons]
      omega
  have := this p h.ne
  rw [h.size] at this
  exact this
theorem Parts.lot_len {n : Nat} {p : Part} (h : Parts n p) {l : List Nat} (hl : l ∈ p) : l.length ≤ n := by
  have := len_mem hl
  rw [h.size] at this
  exact this
end PR
set_option maxHeartbeats 400000
namespace PR
theorem hasL_iff {l : List Nat} {a : Nat} : hasL l a = true ↔ a ∈ l := decide_eq_true_iff
/-! a pair of lots put together -/
section
variable {n : Nat} {p : Part} {a b : Nat}
theorem both_iff (h : Parts n p) {l : List Nat} (hl : l ∈ p) {x : Nat} (hx : x ∈ l) : (hasL l a || hasL l b) = true ↔ (Same p a x ∨ Same p b x) := by
  rw [Bool.or_eq_true, hasL_iff, hasL_iff, h.mem_iff hl hx a, h.mem_iff hl hx b]
  exact ⟨fun z => z.imp (h.eqv.sym _ _) (h.eqv.sym _ _), fun z => z.imp (h.eqv.sym _ _) (h.eqv.sym _ _)⟩
theorem rest_iff (l : List Nat) : (!hasL l a && !hasL l b) = !(hasL l a || hasL l b) := by
  cases hasL l a <;> cases hasL l b <;> rfl
theorem mem_both (h : Parts n p) (x : Nat) : x ∈ (p.filter fun l => hasL l a || hasL l b).flatten ↔ (Same p a x ∨ Same p b x) := by
  rw [List.mem_flatten]
  constructor
  · rintro ⟨l, hl, hx⟩
    obtain ⟨hl, q⟩ := List.mem_filter.mp hl
    exact (both_iff h hl hx).mp q
  · intro z
    have : ∃ l ∈ p, x ∈ l := by
      rcases z with ⟨l, hl, _, hx⟩ | ⟨l, hl, _, hx⟩ <;> exact ⟨l, hl, hx⟩
    obtain ⟨l, hl, hx⟩ := this
    exact ⟨l, List.mem_filter.mpr ⟨hl, (both_iff h hl hx).mpr z⟩, hx⟩
theorem mem_put {l : List Nat} : l ∈ putTog p a b ↔ (l ∈ p ∧ (hasL l a || hasL l b) = false) ∨ l = srtN (p.filter fun l => hasL l a || hasL l b).flatten := by
  unfold putTog
  rw [List.mem_append, List.mem_filter, List.mem_singleton, rest_iff, Bool.not_eq_true']
theorem put_same (h : Parts n p) (x y : Nat) : Same (putTog p a b) x y ↔ Same p x y ∨ ((Same p a x ∨ Same p b x) ∧ (Same p a y ∨ Same p b y)) := by
  constructor
  · rintro ⟨l, hl, hx, hy⟩
    rcases mem_put.mp hl with ⟨hl, _⟩ | rfl
    · exact .inl ⟨l, hl, hx, hy⟩
    · exact .inr ⟨(mem_both h x).mp (srtN_mem.mp hx), (mem_both h y).mp (srtN_mem.mp hy)⟩
  · rintro (⟨l, hl, hx, hy⟩ | ⟨hx, hy⟩)
    · cases q : hasL l a || hasL l b with
      | false => exact ⟨l, mem_put.mpr (.inl ⟨hl, q⟩), hx, hy⟩
      | true => exact ⟨_, mem_put.mpr (.inr rfl), srtN_mem.mpr ((mem_both h x).mpr ((both_iff h hl hx).mp q)), srtN_mem.mpr ((mem_both h y).mpr ((both_iff h hl hy).mp q))⟩
    · exact ⟨_, mem_put.mpr (.inr rfl), srtN_mem.mpr ((mem_both h x).mpr hx), srtN_mem.mpr ((mem_both h y).mpr hy)⟩
theorem both_nd (h : Parts n p) : (p.filter fun l => hasL l a || hasL l b).flatten.Nodup := by
  unfold List.Nodup
  rw [List.pairwise_flatten]
  exact ⟨fun l hl => (h.asc l (List.mem_filter.mp hl).1).imp fun {a b} q => Nat.ne_of_lt q, (h.dis.filter _).imp fun {a b} q x hx y hy (e : x = y) => q x hx (e.symm ▸ hy)⟩
theorem put_parts (h : Parts n p) (ha : a < n) : Parts n (putTog p a b) where
  ne := fun l hl => by
    rcases mem_put.mp hl with ⟨hl, _⟩ | rfl
    · exact h.ne l hl
    · intro z
      have : a ∈ srtN (p.filter fun l => hasL l a || hasL l b).flatten := srtN_mem.mpr ((mem_both h a).mpr (.inl (h.eqv.rfl' a ha)))
      rw [z] at this
      cases this
  asc := fun l hl => by
    rcases mem_put.mp hl with ⟨hl, _⟩ | rfl
    · exact h.asc l hl
    · exact srtN_asc (both_nd h)
  bd := fun l hl x hx => by
    rcases mem_put.mp hl with ⟨hl, _⟩ | rfl
    · exact h.bd l hl x hx
    · rcases (mem_both h x).mp (srtN_mem.mp hx) with z | z <;> exact h.eqv.lt2 z
  cov := fun x hx => by
    obtain ⟨l, hl, h1, h2⟩ := (put_same (a := a) (b := b) h x x).mpr (.inl (h.eqv.rfl' x hx))
    exact ⟨l, hl, h1⟩
  dis := by
    unfold putTog
    rw [List.pairwise_append]
    refine ⟨h.dis.filter _, List.pairwise_singleton _ _, fun l hl m hm x hx hxm => ?_⟩
    cases List.mem_singleton.mp hm
    obtain ⟨hl, q⟩ := List.mem_filter.mp hl
    rw [rest_iff, (both_iff h hl hx).mpr ((mem_both h x).mp (srtN_mem.mp hxm))] at q
    cases q
theorem two_mem {α : Type} {l : List α} {x y : α} (hx : x ∈ l) (hy : y ∈ l) (ne : x ≠ y) : 2 ≤ l.length := by
  match l, hx, hy with
  | [a], hx, hy =>
    rw [List.mem_singleton] at hx hy
    exact absurd (hx.trans hy.symm) ne
  | a :: b :: r, _, _ => simp
theorem put_len (h : Parts n p) (ha : a < n) (hb : b < n) (ns : ¬ Same p a b) : (putTog p a b).length < p.length := by
  obtain ⟨l, hl, al⟩ := h.cov a ha
  obtain ⟨m, hm, bm⟩ := h.cov b hb
  have ne : l ≠ m := fun e => ns ⟨l, hl, al, e ▸ bm⟩
  have h2 : 2 ≤ (p.filter fun l => hasL l a || hasL l b).length := by
    refine two_mem (x := l) (y := m) (List.mem_filter.mpr ⟨hl, ?_⟩) (List.mem_filter.mpr ⟨hm, ?_⟩) ne
    · rw [hasL_iff.mpr al]; rfl
    · rw [hasL_iff.mpr bm, Bool.or_true]
  have h3 := filter_split (fun l => hasL l a || hasL l b) p
  unfold putTog
  rw [List.length_append, List.length_singleton]
  have : (p.filter fun l => !hasL l a && !hasL l b) = p.filter fun l => !(hasL l a || hasL l b) := List.filter_congr fun l _ => rest_iff l
  rw [this]
  omega
end
/-! the meet -/
theorem mem_meet {p q : Part} {z : List Nat} : z ∈ meetRaw p q ↔ ∃ l ∈ p, ∃ m ∈ q, z = (l.filter fun x => hasL m x) ∧ z ≠ [] := by
  unfold meetRaw
  rw [List.mem_flatMap]
  constructor
  · rintro ⟨l, hl, hz⟩
    obtain ⟨hz, e⟩ := List.mem_filter.mp hz
    obtain ⟨m, hm, rfl⟩ := List.mem_map.mp hz
    exact ⟨l, hl, m, hm, rfl, fun y => by rw [y] at e; cases e⟩
  · rintro ⟨l, hl, m, hm, rfl, ne⟩
    refine ⟨l, hl, List.mem_filter.mpr ⟨List.mem_map.mpr ⟨m, hm, rfl⟩, ?_⟩⟩
    cases e : l.filter fun x => hasL m x with
    | nil => exact absurd e ne
    | cons _ _ => rfl
theorem mem_cut {l m : List Nat} {x : Nat} : x ∈ (l.filter fun x => hasL m x) ↔ x ∈ l ∧ x ∈ m := by rw [List.mem_filter, hasL_iff]
theorem meet_same {p q : Part} (x y : Nat) : Same (meetRaw p q) x y ↔ ∃ l ∈ p, ∃ m ∈ q, (x ∈ l ∧ y ∈ l) ∧ x ∈ m ∧ y ∈ m := by
  constructor
  · rintro ⟨z, hz, hx, hy⟩
    obtain ⟨l, hl, m, hm, rfl, _⟩ := mem_meet.mp hz
    have h1 := mem_cut.mp hx
    have h2 := mem_cut.mp hy
    exact ⟨l, hl, m, hm, ⟨h1.1, h2.1⟩, h1.2, h2.2⟩
  · rintro ⟨l, hl, m, hm, ⟨a, b⟩, c, d⟩
    have h1 : x ∈ l.filter fun x => hasL m x := mem_cut.mpr ⟨a, c⟩
    exact ⟨_, mem_meet.mpr ⟨l, hl, m, hm, rfl, fun z => by rw [z] at h1; cases h1⟩, h1, mem_cut.mpr ⟨b, d⟩⟩
theorem meet_same' {n : Nat} {p q : Part} (hp : Parts n p) (hq : Parts n q) (x y : Nat) : Same (meetRaw p q) x y ↔ Same p x y ∧ Same q x y := by
  rw [meet_same]
  constructor
  · rintro ⟨l, hl, m, hm, ⟨a, b⟩, c, d⟩
    exact ⟨⟨l, hl, a, b⟩, m, hm, c, d⟩
  · rintro ⟨⟨l, hl, a, b⟩, m, hm, c, d⟩
    exact ⟨l, hl, m, hm, ⟨a, b⟩, c, d⟩
theorem meet_parts {n : Nat} {p q : Part} (hp : Parts n p) (hq : Parts n q) : Parts n (meetRaw p q) where
  ne := fun z hz => by
    obtain ⟨l, hl, m, hm, _, ne⟩ := mem_meet.mp hz
    exact ne
  asc := fun z hz => by
    obtain ⟨l, hl, m, hm, rfl, ne⟩ := mem_meet.mp hz
    exact (hp.asc l hl).filter _
  bd := fun z hz x hx => by
    obtain ⟨l, hl, m, hm, rfl, ne⟩ := mem_meet.mp hz
    exact hp.bd l hl x (mem_cut.mp hx).1
  cov := fun x hx => by
    obtain ⟨z, hz, h1, _⟩ := (meet_same' hp hq x x).mpr ⟨hp.eqv.rfl' x hx, hq.eqv.rfl' x hx⟩
    exact ⟨z, hz, h1⟩
  dis := by
    unfold meetRaw
    rw [List.pairwise_flatMap]
    refine ⟨fun l hl => ?_, hp.dis.imp fun {l l'} d z hz z' hz' x hx hx' => ?_⟩
    · refine List.Pairwise.filter _ (List.pairwise_map.mpr (hq.dis.imp fun {m m'} d x hx hx' => ?_))
      exact d x (mem_cut.mp hx).2 (mem_cut.mp hx').2
    · obtain ⟨m, _, rfl⟩ := List.mem_map.mp (List.mem_filter.mp hz).1
      obtain ⟨m', _, rfl⟩ := List.mem_map.mp (List.mem_filter.mp hz').1
      exact d x (mem_cut.mp hx).1 (mem_cut.mp hx').1
/-! turned -/
theorem shN_lt {n : Nat} (hn : 0 < n) (s : Int) (x : Nat) : shN n s x < n := by
  unfold shN
  have h1 := Int.emod_nonneg ((x : Int) + s) (show (n : Int) ≠ 0 by omega)
  have h2 := Int.emod_lt_of_pos ((x : Int) + s) (show (0 : Int) < n by omega)
  omega
theorem shN_inv {n : Nat} (hn : 0 < n) (s : Int) {x : Nat} (hx : x < n) : shN n s (shN n (-s) x) = x := by
  unfold shN
  have h1 := Int.emod_nonneg ((x : Int) + -s) (show (n : Int) ≠ 0 by omega)
  rw [Int.toNat_of_nonneg h1, Int.emod_add_emod, show (x : Int) + -s + s = x by omega, Int.emod_eq_of_lt (by omega) (by omega)]
  omega
theorem shN_inv' {n : Nat} (hn : 0 < n) (s : Int) {x : Nat} (hx : x < n) : shN n (-s) (shN n s x) = x := by
  have := shN_inv hn (-s) hx
  rwa [Int.neg_neg] at this
theorem mem_turned {n : Nat} {p : Part} (h : Parts n p) {s : Int} {z : List Nat} : z ∈ turnedRaw p s ↔ ∃ l ∈ p, z = srtN (l.map (shN n s)) := by
  unfold turnedRaw
  rw [List.mem_map, h.size]
  exact ⟨fun ⟨l, a, b⟩ => ⟨l, a, b.symm⟩, fun ⟨l, a, b⟩ => ⟨l, a, b.symm⟩⟩
theorem mem_sh {n : Nat} {p : Part} (h : Parts n p) (hn : 0 < n) {s : Int} {l : List Nat} (hl : l ∈ p) {x : Nat} : x ∈ srtN (l.map (shN n s)) ↔ x < n ∧ shN n (-s) x ∈ l := by
  rw [srtN_mem, List.mem_map]
  constructor
  · rintro ⟨y, hy, rfl⟩
    rw [shN_inv' hn s (h.bd l hl y hy)]
    exact ⟨shN_lt hn s y, hy⟩
  · rintro ⟨hx, hy⟩
    exact ⟨_, hy, shN_inv hn s hx⟩
theorem turned_same {n : Nat} {p : Part} (h : Parts n p) (hn : 0 < n) (s : Int) (x y : Nat) : Same (turnedRaw p s) x y ↔ x < n ∧ y < n ∧ Same p (shN n (-s) x) (shN n (-s) y) := by
  constructor
  · rintro ⟨z, hz, hx, hy⟩
    obtain ⟨l, hl, rfl⟩ := (mem_turned h).mp hz
    have h1 := (mem_sh h hn hl).mp hx
    have h2 := (mem_sh h hn hl).mp hy
    exact ⟨h1.1, h2.1, l, hl, h1.2, h2.2⟩
  · rintro ⟨hx, hy, l, hl, a, b⟩
    exact ⟨_, (mem_turned h).mpr ⟨l, hl, rfl⟩, (mem_sh h hn hl).mpr ⟨hx, a⟩, (mem_sh h hn hl).mpr ⟨hy, b⟩⟩
theorem turned_parts {n : Nat} {p : Part} (h : Parts n p) (hn : 0 < n) (s : Int) : Parts n (turnedRaw p s) where
  ne := fun z hz e => by
    obtain ⟨l, hl, rfl⟩ := (mem_turned h).mp hz
    have h2 := congrArg List.length e
    rw [(srtN_perm _).length_eq, List.length_map] at h2
    exact h.ne l hl (List.length_eq_zero_iff.mp h2)
  asc := fun z hz => by
    obtain ⟨l, hl, rfl⟩ := (mem_turned h).mp hz
    refine srtN_asc (List.pairwise_map.mpr ((h.asc l hl).imp_of_mem fun {a b} ha hb q e => ?_))
    have := congrArg (shN n (-s)) e
    rw [shN_inv' hn s (h.bd l hl a ha), shN_inv' hn s (h.bd l hl b hb)] at this
    omega
  bd := fun z hz x hx => by
    obtain ⟨l, hl, rfl⟩ := (mem_turned h).mp hz
    exact ((mem_sh h hn hl).mp hx).1
  cov := fun x hx => by
    obtain ⟨z, hz, h1, _⟩ := (turned_same h hn s x x).mpr ⟨hx, hx, h.eqv.rfl' _ (shN_lt hn _ _)⟩
    exact ⟨z, hz, h1⟩
  dis := by
    unfold turnedRaw
    rw [h.size]
    refine List.pairwise_map.mpr (h.dis.imp_of_mem fun {l m} hl hm d x hx hx' => ?_)
    exact d _ ((mem_sh h hn hl).mp hx).2 ((mem_sh h hn hm).mp hx').2
/-! pairs -/
theorem mem_pairs {p : Part} {z : List Nat} : z ∈ pairsIn p ↔ ∃ l ∈ p, ∃ x ∈ l.drop 1, z = [headN l, x] := by
  unfold pairsIn
  rw [List.mem_flatMap]
  constructor
  · rintro ⟨l, hl, hz⟩
    obtain ⟨x, hx, rfl⟩ := List.mem_map.mp hz
    exact ⟨l, hl, x, hx, rfl⟩
  · rintro ⟨l, hl, x, hx, rfl⟩
    exact ⟨l, hl, List.mem_map.mpr ⟨x, hx, rfl⟩⟩
/-! what fits -/
theorem rises_of {α : Type} {f : α → α → Bool} {l : List α} (h : l.Pairwise fun a b => f a b = true) : ((l.zip (l.drop 1)).all fun q => f q.1 q.2) = true := by
  induction l with
  | nil => rfl
  | cons a l ih =>
    have h' := List.pairwise_cons.mp h
    cases l with
    | nil => rfl
    | cons b l =>
      show (f a b && (((b :: l).zip ((b :: l).drop 1)).all fun q => f q.1 q.2)) = true
      rw [h'.1 b List.mem_cons_self, ih h'.2]
      rfl
theorem fits_lot_of {l : List Nat} (ne : l ≠ []) (asc : l.Pairwise (· < ·)) (bd : ∀ x ∈ l, x ≤ 12) : fitsLotD (eL l) = true := by
  show (!(l.map nD).isEmpty && (l.map nD).all (isW 0 12) && risesI (intsD (l.map nD))) = true
  rw [intsD_nD]
  have h1 : (l.map nD).isEmpty = false := by
    cases l with
    | nil => exact absurd rfl ne
    | cons _ _ => rfl
  have h2 : (l.map nD).all (isW 0 12) = true := by
    rw [List.all_map]
    refine List.all_eq_true.mpr fun x hx => ?_
    have := bd x hx
    show (decide ((0 : Int) ≤ (x : Int)) && decide ((x : Int) ≤ 12)) = true
    rw [decide_eq_true (by omega), decide_eq_true (by omega)]
    rfl
  have h3 : risesI (zI l) = true := by
    unfold risesI
    refine rises_of (f := fun a b => decide (a < b)) (List.pairwise_map.mpr (asc.imp fun {a b} q => decide_eq_true ?_))
    show (a : Int) < (b : Int)
    omega
  rw [h1, h2, h3]
  rfl
theorem fitsP_of {n : Nat} {p : Part} (h : Canon n p) (N : NC (Same p)) (h2 : 2 ≤ n) (h13 : n ≤ 13) : fitsP p = true ∧ ∀ l ∈ p, fitsLotD (eL l) = true ∧ l ≠ [] ∧ l.length < 64 := by
  refine ⟨?_, fun l hl => ⟨fits_lot_of (h.parts.ne l hl) (h.parts.asc l hl) fun x hx => by have := h.parts.bd l hl x hx; omega, h.parts.ne l hl, by have := h.parts.lot_len hl; omega⟩⟩
  have e1 : risesL p = true := by
    unfold risesL
    refine rises_of (f := ltL) (h.srt.imp_of_mem fun {a b} ha hb q => ?_)
    rw [ltL_head (h.parts.ne a ha) (h.parts.ne b hb) (Nat.ne_of_lt q)]
    exact decide_eq_true q
  have e2 : srtN p.flatten = List.range n := perm_sorted (le := (· ≤ ·)) (fun _ _ => Nat.le_antisymm) ((srtN_perm _).trans h.parts.flat_perm) (srtN_le _) ((range_pw n).imp fun q => Nat.le_of_lt q)
  unfold fitsP
  rw [e1, h.parts.size, decide_eq_true h2, decide_eq_true h13, decide_eq_true e2, free_of_nc h.parts N]
  rfl
end PR
set_option maxHeartbeats 400000
namespace PR
open PySem PySem.Spec PyProof.Rows L2
open Evl (Ex EvT)
/-! loops over tuples of tuples, other objects changing -/
section
variable {K : PySem.W.Frag} {H H' B : Hp} {σ : L2.St} {te ta tb : TE} {tt : TT} {d e : PyData} {ds es : List PyData} {wi : TI} {g : TG} {vs : List Nat} {D : Ends} {tu tz : TS}
def SrcT (K : PySem.W.Frag) (J : It) (H : Hp) (ds : List PyData) : Prop := Walk J ds.length (TEx H) (YD K ds)
def EvK (K : PySem.W.Frag) (wi : TI) (σ : L2.St) (H : Hp) (ds : List PyData) : Prop := ∀ Q : It → Hp → Prop, (∀ J, SrcT K J H ds → Q J H) → wi σ H Q
theorem srcT_tup {a : Addr} {xs : List V} (h : SqT K H a xs) (hd : DpAll K H xs ds) (t : tupOs ds = true) : SrcT K (Itt K a) H ds := by
  unfold SrcT
  rw [← hd.len]
  refine Walk.mono walk_tup (fun H1 e => TEx.sqt e h) fun i H1 x H2 _ e y => ?_
  obtain ⟨rfl, y⟩ := y
  obtain ⟨d, h1, h2⟩ := (DpAll.tex e _ t hd).at_ y
  exact ⟨Ex.refl _, d, h1, h2⟩
theorem srcT_enum {a : Addr} {xs : List V} (h : SqT K H a xs) (hd : DpAll K H xs ds) (t : tupOs ds = true) : SrcT K (IteT K a) H (enD ds) := by
  unfold SrcT
  rw [enD_len, ← hd.len]
  refine Walk.mono walk_enumT (fun H1 e => TEx.sqt e h) fun i H1 x H2 _ e y => ?_
  obtain ⟨T, x', y', rfl, hn, rfl, e1, e2⟩ := y
  cases Option.some.inj e1
  obtain ⟨d, h1, h2⟩ := (DpAll.tex e _ t hd).at_ e2
  exact ⟨Ex.new hn, _, enD_get h1, pair_dp upd_same (.int _) (h2.ex (Ex.new hn))⟩
theorem evk_tupV {i : Nat} {v : V} (h : σ[i]? = some (some v)) (hv : Dp K H v (.tuple ds)) (t : tupOs ds = true) : EvK K (iTup K (tVar i)) σ H ds := fun Q q => by
  obtain ⟨a, xs, rfl, s, hd⟩ := hv.tup_at
  exact ⟨_, h, a, rfl, ⟨xs, s⟩, q _ (srcT_tup s hd t)⟩
theorem evk_enumV {i : Nat} {v : V} (h : σ[i]? = some (some v)) (hv : Dp K H v (.tuple ds)) (t : tupOs ds = true) : EvK K (iEnumT K (tCons (tVar i) tNil)) σ H (enD ds) := fun Q q => by
  obtain ⟨a, xs, rfl, s, hd⟩ := hv.tup_at
  exact ⟨_, h, a, xs, rfl, s, q _ (srcT_enum s hd t)⟩
theorem s_forT (hI : EvK K wi σ H ds) (Pv : Nat → L2.St → Hp → Prop) (h0 : Pv 0 σ H) (hG : ∀ i σ' H', i ≤ ds.length → Pv i σ' H' → TEx H H')
    (hs : ∀ i d x σ' H1 H', ds[i]? = some d → Pv i σ' H1 → Ex H1 H' → Dp K H' x d → g x σ' H' fun σ2 H2 => tu { D with nx := Pv (i + 1), ct := Pv (i + 1), bk := D.nx } σ2 H2) (hd : ∀ σ' H', Pv ds.length σ' H' → D.nx σ' H') : tFor wi g tu D σ H :=
  hI _ fun J src =>
    for_it (n := ds.length) (G := TEx H) (Y := YD K ds) src Pv h0 hG
      (fun i x σ' H2 H3 hi p hy => by
        obtain ⟨y1, d, y2, y3⟩ := hy
        exact hs i d x σ' H2 H3 y2 p y1 y3) hd
theorem q_forT (hI : EvK K wi σ H ds) (Pv : Nat → L2.St → Hp → Prop) (h0 : Pv 0 σ H) (hG : ∀ i σ' H', i ≤ ds.length → Pv i σ' H' → TEx H H')
    (hs : ∀ i d x σ' H1 H', ds[i]? = some d → Pv i σ' H1 → Ex H1 H' → Dp K H' x d → g x σ' H' fun σ2 H2 => tu { D with nx := Pv (i + 1), ct := Pv (i + 1), bk := tz D } σ2 H2) (hd : ∀ σ' H', Pv ds.length σ' H' → tz D σ' H') : tSeq (tFor wi g tu) tz D σ H :=
  s_forT (D := { D with nx := tz D }) hI Pv h0 hG hs hd
theorem tupOs_nD (l : List Nat) : tupOs (l.map nD) = true := tupO_eL l
theorem tupOs_eL (p : List (List Nat)) : tupOs (p.map eL) = true := tupO_eP p
/-- xs[i] = e, data -/
theorem s_setD {l : Addr} {xs : List V} {j : Nat} (hl : H l = some (.lst xs)) (h : EvD K te σ H d) (ho : Evl.Ev ta σ H (.ref l)) (hi : EvD K tb σ H (nD j)) (hj : j < xs.length) (k : ∀ v H1, Ex H H1 → Dp K H1 v d → D.nx σ (upd H1 l (.lst (xs.set j v)))) :
    tAsg te (gSub ta tb rSetL) D σ H := h H (Ex.refl H) _ fun v H1 e1 hv => ho H1 e1 _ fun H2 e2 => hi H2 (e1.trans e2) _ fun u H3 e3 hu =>
  ⟨l, xs, (j : Int), j, rfl, Dp.int_eq hu, ((e1.trans e2).trans e3) l _ hl, Evl.ixN_nat hj, k v H3 ((e1.trans e2).trans e3) (hv.ex (e2.trans e3))⟩
/-- a, b = [..], y -/
theorem q_parND {i j : Nat} (ha : EvN K ta σ H ds) (hb : EvD K tb σ H d) (k : ∀ p xs v H1, H p = none → Ex H H1 → H1 p = some (.lst xs) → DpAll K H1 xs ds → Dp K H1 v d → tz D ((σ.set i (some (.ref p))).set j (some v)) H1) :
    tSeq (tPar i j (tCons ta (tCons tb tNil))) tz D σ H :=
  ha H (Ex.refl H) _ fun p xs H1 hn e1 hp hd => hb H1 e1 _ fun v H2 e2 hv => ⟨_, _, rfl, k p xs v H2 hn (e1.trans e2) (e2 _ _ hp) (hd.ex e2) hv⟩
theorem q_parDD {i j : Nat} {d' : PyData} (ha : EvD K ta σ H d) (hb : EvD K tb σ H d') (k : ∀ u v H1, Ex H H1 → Dp K H1 u d → Dp K H1 v d' → tz D ((σ.set i (some u)).set j (some v)) H1) :
    tSeq (tPar i j (tCons ta (tCons tb tNil))) tz D σ H :=
  ha H (Ex.refl H) _ fun u H1 e1 hu => hb H1 e1 _ fun v H2 e2 hv => ⟨_, _, rfl, k u v H2 (e1.trans e2) (hu.ex e2) hv⟩
theorem evd_neg {i : Int} (h : EvD K te σ H (.int i)) : EvD K (tUn (rU fun i => .int (-i)) te) σ H (.int (-i)) := fun H1 x Q q => h H1 x _ fun v H2 e2 hv => ⟨i, Dp.int_eq hv, q _ H2 e2 (.int _)⟩
end
end PR
set_option maxHeartbeats 400000
namespace PR
theorem Canon.le {n : Nat} {C : Part} (h : Canon n C) : C.Pairwise fun a b => leL a b = true := by
  refine h.srt.imp_of_mem fun {a b} ha hb q => ?_
  unfold leL
  rw [ltL_head (h.parts.ne b hb) (h.parts.ne a ha) (by omega)]
  rw [decide_eq_false (by omega)]
  rfl
theorem Canon.nd {n : Nat} {C : Part} (h : Canon n C) : C.Nodup := h.srt.imp fun {a b} q e => by
  subst e
  exact Nat.lt_irrefl _ q
/-- the lot of x -/
def lotOf (C : Part) (x : Nat) : List Nat := (C.find? fun l => hasL l x).getD []
theorem lotOf_mem {n : Nat} {C : Part} (h : Parts n C) {x : Nat} (hx : x < n) : lotOf C x ∈ C ∧ x ∈ lotOf C x := by
  obtain ⟨l, hl, xl⟩ := h.cov x hx
  unfold lotOf
  cases q : C.find? fun l => hasL l x with
  | none => exact absurd (hasL_iff.mpr xl) (by simpa using List.find?_eq_none.mp q l hl)
  | some m =>
    have q2 := List.find?_some q
    exact ⟨List.mem_of_find?_eq_some q, hasL_iff.mp q2⟩
theorem lotOf_eq {n : Nat} {C : Part} (h : Parts n C) {l : List Nat} {x : Nat} (hl : l ∈ C) (hx : x ∈ l) : lotOf C x = l := by
  have := lotOf_mem h (h.bd l hl x hx)
  exact h.uniq this.1 hl this.2 hx
theorem lots_all {n : Nat} {C : Part} (h : Canon n C) : srtL (ddL ((List.range n).map (lotOf C))) = C := by
  refine (srtL_uniq (perm_of_nd h.nd (ddL_nd _) fun l => ?_) h.le).symm
  rw [ddL_mem, List.mem_map]
  constructor
  · intro hl
    have hh := headN_mem (h.parts.ne l hl)
    exact ⟨headN l, List.mem_range.mpr (h.parts.bd l hl _ hh), lotOf_eq h.parts hl hh⟩
  · rintro ⟨x, hx, rfl⟩
    exact (lotOf_mem h.parts (List.mem_range.mp hx)).1
/-- l from place j on, m of them, round and round -/
def rotN (l : List Nat) (j m : Nat) : List Nat := (List.range m).map fun k => l.getD ((j + k) % l.length) 0
theorem rotN_len (l : List Nat) (j m : Nat) : (rotN l j m).length = m := by simp [rotN]
theorem rotN_succ (l : List Nat) (j m : Nat) : rotN l j (m + 1) = rotN l j m ++ [l.getD ((j + m) % l.length) 0] := by
  unfold rotN
  rw [List.range_succ, List.map_append]
  rfl
theorem mod_wrap {a b n : Nat} (ha : a < n) (hb : b < n) : (a + b) % n = if a + b < n then a + b else a + b - n := by
  by_cases h : a + b < n
  · rw [if_pos h, Nat.mod_eq_of_lt h]
  · rw [if_neg h, Nat.mod_eq_sub_mod (by omega), Nat.mod_eq_of_lt (by omega)]
theorem rot_srt {l : List Nat} (asc : l.Pairwise (· < ·)) {j : Nat} (hj : j < l.length) : srtN (rotN l j l.length) = l := by
  have gd : ∀ k, k < l.length → ∃ h : k < l.length, l.getD k 0 = l[k] := fun k h => ⟨h, by rw [List.getD_eq_getElem?_getD, List.getElem?_eq_getElem h]; rfl⟩
  refine sorted_ext (srtN_asc ?_) asc fun x => ?_
  · unfold rotN List.Nodup
    rw [List.pairwise_map]
    refine List.Pairwise.imp_of_mem ?_ (List.pairwise_lt_range (n := l.length))
    intro a b ha hb hab e
    have ha := List.mem_range.mp ha
    have hb := List.mem_range.mp hb
    obtain ⟨h1, e1⟩ := gd ((j + a) % l.length) (Nat.mod_lt _ (by omega))
    obtain ⟨h2, e2⟩ := gd ((j + b) % l.length) (Nat.mod_lt _ (by omega))
    rw [e1, e2] at e
    have ne : (j + a) % l.length ≠ (j + b) % l.length := by
      rw [mod_wrap hj ha, mod_wrap hj hb]
      by_cases q1 : j + a < l.length <;> by_cases q2 : j + b < l.length <;> simp [q1, q2] <;> omega
    rcases Nat.lt_or_gt_of_ne ne with q | q
    · have := asc_lt asc h1 h2 q; omega
    · have := asc_lt asc h2 h1 q; omega
  · rw [srtN_mem]
    unfold rotN
    rw [List.mem_map]
    constructor
    · rintro ⟨k, hk, rfl⟩
      obtain ⟨h1, e1⟩ := gd ((j + k) % l.length) (Nat.mod_lt _ (by omega))
      rw [e1]
      exact List.getElem_mem h1
    · intro hx
      obtain ⟨i, hi, rfl⟩ := List.getElem_of_mem hx
      refine ⟨if j ≤ i then i - j else i + l.length - j, List.mem_range.mpr (by split <;> omega), ?_⟩
      have e : (j + if j ≤ i then i - j else i + l.length - j) % l.length = i := by
        split
        · rw [show j + (i - j) = i by omega, Nat.mod_eq_of_lt hi]
        · rw [show j + (i + l.length - j) = i + l.length by omega, Nat.add_mod_right, Nat.mod_eq_of_lt hi]
      rw [e]
      exact (gd i hi).2
/-- the turn goes from place to place -/
theorem turn_rot {C : Part} {t : Nat → Nat} (T : TurnL C t) {l : List Nat} (hl : l ∈ C) {j m : Nat} (hj : j < l.length) : t (l.getD ((j + m) % l.length) 0) = l.getD ((j + (m + 1)) % l.length) 0 := by
  have gd : ∀ k, (h : k < l.length) → l.getD k 0 = l[k] := fun k h => by rw [List.getD_eq_getElem?_getD, List.getElem?_eq_getElem h]; rfl
  have hp : 0 < l.length := by omega
  rw [gd _ (Nat.mod_lt _ hp), T l hl _ (Nat.mod_lt _ hp), gd _ (Nat.mod_lt _ hp)]
  congr 1
  rw [Nat.mod_add_mod]
  rfl
theorem rot_back {l : List Nat} (asc : l.Pairwise (· < ·)) {j m : Nat} (hj : j < l.length) (hm : 0 < m) (hml : m ≤ l.length) : l.getD ((j + m) % l.length) 0 = l.getD j 0 ↔ m = l.length := by
  have gd : ∀ k, (h : k < l.length) → l.getD k 0 = l[k] := fun k h => by rw [List.getD_eq_getElem?_getD, List.getElem?_eq_getElem h]; rfl
  have hp : 0 < l.length := by omega
  rw [gd _ (Nat.mod_lt _ hp), gd _ hj]
  constructor
  · intro e
    have : (j + m) % l.length = j := by
      rcases Nat.lt_trichotomy ((j + m) % l.length) j with q | q | q
      · have := asc_lt asc (Nat.mod_lt _ hp) hj q; omega
      · exact q
      · have := asc_lt asc hj (Nat.mod_lt _ hp) q; omega
    rcases Nat.lt_or_eq_of_le hml with q | q
    · rw [mod_wrap hj q] at this
      split at this <;> omega
    · exact q
  · rintro rfl
    congr 1
    rw [Nat.add_mod_right, Nat.mod_eq_of_lt hj]
end PR
set_option maxHeartbeats 400000
namespace PR
open PySem PySem.Spec PyProof.Rows L2
open Evl (Ex EvT)
theorem sc_turn_by : FnScope ["parting", "found", "lot", "place", "point"] ["parting"] (defScope (top 24)) := ⟨rfl, rfl, rfl, by decide +kernel, rfl, by decide +kernel, by decide +kernel⟩
theorem sc_lots_by : FnScope ["turn", "found", "point", "lot", "here"] ["turn"] (defScope (top 25)) := ⟨rfl, rfl, rfl, by decide +kernel, rfl, by decide +kernel, by decide +kernel⟩
theorem sc_complement_by : FnScope ["parting", "turn", "size", "point"] ["parting"] (defScope (top 33)) := ⟨rfl, rfl, rfl, by decide +kernel, rfl, by decide +kernel, by decide +kernel⟩
def tOf (t : List Nat) (x : Nat) : Nat := t.getD x 0
def spTurnBy (K : PySem.W.Frag) : Sp := fun vs H Q _ => ∃ v n p, vs = [v] ∧ Dp K H v (eP p) ∧ Parts n p ∧ n ≤ 100 ∧
  ∀ t r o H', t.length = n → TurnL p (tOf t) → o.dict = none → Ex H H' → H' r = some (.frz o (.tup (t.map iV))) → Q (.ref r) H'
theorem tOf_set {t : List Nat} {x y : Nat} (v : Nat) (h : x < t.length) : tOf (t.set x v) y = if y = x then v else tOf t y := by
  unfold tOf
  rw [List.getD_eq_getElem?_getD, List.getD_eq_getElem?_getD]
  by_cases e : y = x
  · subst e
    rw [if_pos rfl, List.getElem?_set_self h]
    rfl
  · rw [if_neg e, List.getElem?_set_ne (Ne.symm e)]
section
variable {P : Program} {w : World} {K : PySem.W.Frag} {mg : Str → Option Value} {base : Heap}
theorem ok_turn_by (N : Fr mg) (D : IsD K mg "turn_by" 24) (h_size_in : Has P w K mg base CX0 1 "size_in" ["parting"] (spD K 1 preSize)) : Has P w K mg base CX0 2 "turn_by" ["parting"] (spTurnBy K) := by
  refine mk_has D sc_turn_by (fun _ _ _ _ _ _ us hl => match us, hl with | [_], _ => rfl) (fun vs H Q E h => by obtain ⟨a, n, p, rfl, _⟩ := h; rfl) fun f cdv A outer s H vs Q E hr h => ?_
  refine ⟨_, PSs.nox (pss_cons (ps_set (i := 1) (sc_turn_by).nd (by rfl) (by first | exact Or.inl rfl | exact Or.inr rfl) (pe_op op_rep (pe_lst (pa_cons pe_int pa_nil)) (pe_fn h_size_in hr (by decide) (by rfl) pass0 (pa_cons (pv 0) pa_nil)))) (pss_cons (ps_for PassesOwn.never rfl (show PI _ _ _ (iTup K _) from pi_tup (pv 0)) (pg_name (i := 2) (sc_turn_by).nd rfl (by first | exact Or.inl rfl | exact Or.inr rfl)) (pss_one (ps_for PassesOwn.never rfl (show PI _ _ _ (iEnumT K _) from pi_enumT (by rfl) N.f_enumerate (pa_cons (pv 2) pa_nil)) (pg_tup rfl (pgs_cons (pg_name (i := 3) (sc_turn_by).nd rfl (by first | exact Or.inl rfl | exact Or.inr rfl)) (pgs_cons (pg_name (i := 4) (sc_turn_by).nd rfl (by first | exact Or.inl rfl | exact Or.inr rfl)) pgs_nil))) (pss_one (ps_asg (pe_ix (r := rIxT K) ix_tup (pv 2) (pe_op op_mod (pe_op op_add (pv 3) pe_int) (pe_callB (r := Evl.rLenS K) call_len_seq (by rfl) N.f_len boot_len (pa_cons (pv 2) pa_nil))) (by intro _ _; rfl)) (pg_sub (pv 1) (pv 4) set_list)))))) (pss_one (ps_ret (pe_callTy (r := rTupZ K) call_tupZ (by rfl) N.f_tuple (by decide +kernel) (pa_cons (pv 1) pa_nil)))))), ?_⟩
  obtain ⟨v, n, p, rfl, hv, hp, hn, q⟩ := h
  refine q_asgN (K := K) (evn_rep (n := n) (d := nD 0) (evn_lst (eda_one evd_int) (by decide)).liv (evd_is (evd_fn (eda_one (evd_var rfl hv)) rfl ⟨p, rfl, by have := hp.len; omega, rfl⟩) (by rw [hp.size]; rfl)) (by omega)) fun r xs H1 hr0 e1 hr1 hxs => ?_
  have ex : xs = (List.replicate n 0).map iV := by
    have : DpAll K H1 xs ((List.replicate n 0).map nD) := by rw [List.map_replicate]; exact hxs
    exact dp_nats this
  subst ex
  refine q_forT (evk_tupV rfl (hv.ex e1) (tupOs_eL p)) (fun i σ' H' => (∃ x y z t, σ' = [some v, some (.ref r), x, y, z] ∧ H' r = some (.lst (t.map iV)) ∧ t.length = n ∧ TurnL (p.take i) (tOf t)) ∧ Ex H H' ∧ TEx H1 H') ⟨⟨_, _, _, List.replicate n 0, rfl, hr1, by simp, fun l hl => by cases hl⟩, e1, TEx.refl _⟩ (fun i σ' H' _ h => h.2.2) (fun i d x σ' H2 H' hdi hP e2 hx => ?_) (fun σ' H' hP => ?_)
  · obtain ⟨⟨x0, y0, z0, t, rfl, hr2, htl, hT⟩, e0, t0⟩ := hP
    obtain ⟨l, hl2, rfl⟩ := map_at hdi
    have lm := List.mem_of_getElem? hl2
    have hlp := List.length_pos_iff.mpr (hp.ne l lm)
    have asc := hp.asc l lm
    have e3 := e0.trans e2
    show tFor _ _ _ _ _ _
    refine s_forT (evk_enumV rfl hx (tupOs_nD l)) (fun j σ2 H2 => (∃ y z t, σ2 = [some v, some (.ref r), some x, y, z] ∧ H2 r = some (.lst (t.map iV)) ∧ t.length = n ∧ TurnL (p.take i) (tOf t) ∧ ∀ k, k < j → (h : k < l.length) → tOf t l[k] = l[(k + 1) % l.length]'(Nat.mod_lt _ hlp)) ∧ Ex H H2 ∧ TEx H' H2) ⟨⟨_, _, t, rfl, e2 _ _ hr2, htl, hT, fun k h => absurd h (Nat.not_lt_zero _)⟩, e3, TEx.refl _⟩ (fun i σ' H' _ h => h.2.2) (fun j d2 y σ2 H3 H4 hdj hP2 e4 hy => ?_) (fun σ2 H3 hP2 => ?_)
    · obtain ⟨⟨y1, z1, t2, rfl, hr3, htl2, hT2, hk⟩, e5, t5⟩ := hP2
      obtain ⟨e, he, rfl⟩ := enD_at hdj
      obtain ⟨a, ha, rfl⟩ := map_at he
      obtain ⟨hj, ej⟩ := List.getElem?_eq_some_iff.mp ha
      have am : a ∈ l := ej ▸ List.getElem_mem hj
      have an : a < n := hp.bd l lm a am
      refine tg_pair' hy fun b c hb hc => ?_
      have hx4 : Dp K H4 x (eL l) := (Dp.tex t5 _ (tupO_eL l) hx).ex e4
      refine s_setD (K := K) (d := nD (l[(j + 1) % l.length]'(Nat.mod_lt _ hlp))) (e4 _ _ hr3) (evd_ixT (j := (j + 1) % l.length) (evd_var rfl hx4) (evd_is (evd_mod (evd_add (evd_var rfl hb) evd_int) (evd_lenT (evd_var rfl hx4)) ?_) ?_) ?_) (Evl.ev_var rfl) (evd_var rfl hc) (by rw [List.length_map]; omega) fun u H5 e6 hu => ?_
      · rw [List.length_map]; omega
      · rw [List.length_map]; rfl
      · rw [List.getElem?_map, List.getElem?_eq_getElem (Nat.mod_lt _ hlp)]; rfl
      · have eu := Dp.int_eq hu
        subst eu
        have hset : (t2.map iV).set a (.int ((l[(j + 1) % l.length]'(Nat.mod_lt _ hlp) : Nat) : Int)) = (t2.set a (l[(j + 1) % l.length]'(Nat.mod_lt _ hlp))).map iV := by rw [List.map_set]; rfl
        rw [hset]
        have hr5 := e6 _ _ (e4 _ _ hr3)
        refine ⟨⟨_, _, _, rfl, upd_same, by rw [List.length_set]; exact htl2, ?_, ?_⟩, Ex.mut ((e5.trans e4).trans e6) hr0, (t5.trans (Ex.t (e4.trans e6))).trans (TEx.lst hr5)⟩
        · intro m hm k hkm
          obtain ⟨i', hi', em⟩ := List.getElem_of_mem hm
          rw [List.length_take] at hi'
          rw [List.getElem_take] at em
          have mi : p[i']? = some m := by rw [← em]; exact List.getElem?_eq_getElem (by omega)
          have dis := hp.dis_at (by omega : i' ≠ i) mi hl2
          have ne : m[k] ≠ a := fun z => dis _ (List.getElem_mem hkm) (z ▸ am)
          rw [tOf_set _ (by omega), if_neg ne]
          exact hT2 m hm k hkm
        · intro k hkj hkl
          rw [tOf_set _ (by omega)]
          by_cases q1 : k = j
          · subst q1
            rw [if_pos ej]
          · have lt : l[k] ≠ a := by
              rw [← ej]
              have := asc_lt asc hkl hj (by omega)
              omega
            rw [if_neg lt]
            exact hk k (by omega) hkl
    · obtain ⟨⟨y1, z1, t2, rfl, hr3, htl2, hT2, hk⟩, e5, t5⟩ := hP2
      refine ⟨⟨_, _, _, t2, rfl, hr3, htl2, ?_⟩, e5, (t0.trans (Ex.t e2)).trans t5⟩
      intro m hm k hkm
      rw [List.take_add_one, hl2] at hm
      rcases List.mem_append.mp hm with hm | hm
      · exact hT2 m hm k hkm
      · cases List.mem_singleton.mp hm
        exact hk k (by rw [enD_len, List.length_map]; exact hkm) hkm
  · obtain ⟨⟨x0, y0, z0, t, rfl, hr2, htl, hT⟩, e0, t0⟩ := hP
    rw [List.length_map, List.take_length] at hT
    exact ⟨_, rfl, r, _, rfl, Evl.sq_of hr2, fun b o hb ho => q t b o _ htl hT ho (e0.trans (Ex.new hb)) upd_same⟩
def preLotsBy : List PyData → PyData → Prop := fun ds d => ∃ n C t, ds = [eL t] ∧ Canon n C ∧ t.length = n ∧ n < 64 ∧ TurnL C (tOf t) ∧ d = eP C
theorem tOf_get {t : List Nat} {x : Nat} (h : x < t.length) : (t.map nD)[x]? = some (nD (tOf t x)) := by
  rw [List.getElem?_map, List.getElem?_eq_getElem h]
  unfold tOf
  rw [List.getD_eq_getElem?_getD, List.getElem?_eq_getElem h]
  rfl
theorem rng_at {n i : Nat} {d : PyData} (h : (rngD 0 n)[i]? = some d) : i < n ∧ d = nD i := by
  unfold rngD at h
  obtain ⟨a, h1, h2⟩ := map_at h
  obtain ⟨h3, h4⟩ := List.getElem?_eq_some_iff.mp h1
  rw [List.length_range] at h3
  rw [List.getElem_range] at h4
  subst h4
  refine ⟨h3, h2.trans ?_⟩
  show PyData.int (0 + (i : Int)) = PyData.int i
  rw [Int.zero_add]
theorem rng_len (n : Nat) : (rngD 0 n).length = n := by simp [rngD]
theorem ok_lots_by (N : Fr mg) (D : IsD K mg "lots_by" 25) : Has P w K mg base CX0 1 "lots_by" ["turn"] (spD K 1 preLotsBy) := by
  refine mk_has D sc_lots_by (fun _ _ _ _ _ _ us hl => match us, hl with | [_], _ => rfl) (fun vs H Q E h => h.1) fun f cdv A outer s H vs Q E hr h => ?_
  refine ⟨_, PSs.nox (pss_cons (ps_set (i := 1) (sc_lots_by).nd (by rfl) (by first | exact Or.inl rfl | exact Or.inr rfl) (pe_lst pa_nil)) (pss_cons (ps_for PassesOwn.never rfl (pi_range1 (by rfl) N.f_range (pa_cons (pe_callB (r := Evl.rLenS K) call_len_seq (by rfl) N.f_len boot_len (pa_cons (pv 0) pa_nil)) pa_nil)) (pg_name (i := 2) (sc_lots_by).nd rfl (by first | exact Or.inl rfl | exact Or.inr rfl)) (pss_cons (ps_par (i := 3) (j := 4) rfl (sc_lots_by).nd (by rfl) (by rfl) (by decide) (by rfl) (by rfl) (pa_cons (pe_lst (pa_cons (pv 2) pa_nil)) (pa_cons (pe_ix (r := rIxT K) ix_tup (pv 0) (pv 2) (by intro _ _; rfl)) pa_nil)) (by rfl)) (pss_cons (ps_while PassesOwn.never (PW.pt (pw_and (pt_cmpR op_ne (pv 4) (pv 2) (nomark _)) (pw_and1 (pt_cmpR op_le (pe_callB (r := Evl.rLenS K) call_len_seq (by rfl) N.f_len boot_len (pa_cons (pv 3) pa_nil)) (pe_callB (r := Evl.rLenS K) call_len_seq (by rfl) N.f_len boot_len (pa_cons (pv 0) pa_nil)) (nomark _))))) (pss_cons (ps_expr (show PE _ _ (tBM K _ _ _ _) from pe_bm PySem.F.plainAttrs_list PySem.F.slot_list_append PySem.F.type_list_append mt_append (pv 3) (pa_cons (pv 4) pa_nil))) (pss_one (ps_set (i := 4) (sc_lots_by).nd (by rfl) (by first | exact Or.inl rfl | exact Or.inr rfl) (pe_ix (r := rIxT K) ix_tup (pv 0) (pv 4) (by intro _ _; rfl)))))) (pss_one (ps_expr (show PE _ _ (tBM K _ _ _ _) from pe_bm PySem.F.plainAttrs_list PySem.F.slot_list_append PySem.F.type_list_append mt_append (pv 1) (pa_cons (pe_callTy (r := rTupS K) call_tuple_of (by rfl) N.f_tuple (by decide +kernel) (pa_cons (pe_callB (r := rSortedI K) cr_sortedI (by rfl) N.f_sorted (by decide +kernel) (pa_cons (pv 3) pa_nil)) pa_nil)) pa_nil))))))) (pss_one (ps_ret (pe_callTy (r := rTupS K) call_tuple_of (by rfl) N.f_tuple (by decide +kernel) (pa_cons (pe_callB (r := rSortedS K P w) (cr_sortedSet rfl) (by rfl) N.f_sorted (by decide +kernel) (pa_cons (pe_callTy (r := rSetOfT K P w) (cr_setOfT rfl hr.units) (by rfl) N.f_set (by decide +kernel) (pa_cons (pv 1) pa_nil)) pa_nil)) pa_nil)))))), ?_⟩
  obtain ⟨_, ds, d, hd, ⟨n, C, t, rfl, hC, htl, hn, hT, rfl⟩, q⟩ := h
  obtain ⟨v, rfl, hv⟩ := arg1 hd
  refine q_asgN (K := K) (ds := []) (evn_lst eda_nil (by decide)) fun r xs H1 hr0 e1 hr1 hxs => ?_
  have hlenT : ∀ (σ : L2.St) (H' : Hp), σ[0]? = some (some v) → Ex H H' → EvD K (tCB (Evl.rLenS K) (tCons (tVar 0) tNil)) σ H' (nD n) := fun σ H' h0 e => evd_is (evd_lenT (evd_var h0 (hv.ex e))) (by rw [List.length_map, htl]; rfl)
  refine q_forI (B := H) (evi_rng1 (n := n) (eda_one (hlenT _ _ rfl (Ex.refl H))) (by omega)) e1 (fun i σ' H' => (∃ x y z r ys, σ' = [some v, some (.ref r), x, y, z] ∧ H r = none ∧ H' r = some (.lst ys) ∧ DpAll K H' ys (((List.range i).map (lotOf C)).map eL)) ∧ Ex H H') (fun H2 e2 => ⟨⟨_, _, _, r, xs, rfl, hr0, e2 _ _ hr1, hxs.ex e2⟩, e1.trans e2⟩) (fun i σ' H' _ h => h.2) (fun i d x σ' H2 H' hdi hP e2 hx => ?_) (fun σ' H' hP => ?_)
  · obtain ⟨⟨x0, y0, z0, r, ys, rfl, hr0, hr2, hys⟩, e0⟩ := hP
    obtain ⟨hin, rfl⟩ := rng_at hdi
    have e3 := e0.trans e2
    obtain ⟨lm, xl⟩ := lotOf_mem hC.parts hin
    have hll := hC.parts.lot_len lm
    have asc := hC.parts.asc _ lm
    generalize hl : lotOf C i = l at lm xl hll asc
    obtain ⟨j, hj, ej⟩ := List.getElem_of_mem xl
    have gj : l.getD j 0 = i := by rw [List.getD_eq_getElem?_getD, List.getElem?_eq_getElem hj]; exact ej
    have gl : ∀ m, l.getD ((j + m) % l.length) 0 < n := fun m => by
      have hp : 0 < l.length := by omega
      rw [List.getD_eq_getElem?_getD, List.getElem?_eq_getElem (Nat.mod_lt _ hp)]
      exact hC.parts.bd l lm _ (List.getElem_mem _)
    have ex := Dp.int_eq hx
    subst ex
    -- lot, here = ([point], turn[point])
    refine q_parND (K := K) (ds := [nD i]) (evn_lst (eda_one (evd_var rfl hx)) (by simp)) (evd_ixT (j := i) (evd_var rfl (hv.ex e3)) (evd_var rfl hx) (tOf_get (by omega))) fun s zs u H4 hs0 e34 hs1 hzs hu => ?_
    have eu := Dp.int_eq hu
    subst eu
    have ez : zs = (rotN l j 1).map iV := by
      have e6 : rotN l j 1 = [i] := by
        show [l.getD ((j + 0) % l.length) 0] = [i]
        rw [Nat.add_zero, Nat.mod_eq_of_lt hj, gj]
      rw [e6]
      exact dp_nats (l := [i]) hzs
    have ne : s ≠ r := fun z => by
      subst z
      rw [e2 _ _ hr2] at hs0
      cases hs0
    have th : tOf t i = l.getD ((j + 1) % l.length) 0 := by
      have := turn_rot (m := 0) hT lm hj
      rw [Nat.add_zero, Nat.mod_eq_of_lt hj, gj] at this
      exact this
    rw [th]
    refine Evl.q_while (fun m σ2 H5 => ∃ k, 1 ≤ k ∧ k ≤ l.length ∧ m = l.length - k ∧ σ2 = [some v, some (.ref r), some (iV i), some (.ref s), some (iV (l.getD ((j + k) % l.length) 0))] ∧ H5 s = some (.lst ((rotN l j k).map iV)) ∧ H5 r = some (.lst ys) ∧ DpAll K H5 ys (((List.range i).map (lotOf C)).map eL) ∧ Ex H H5) (l.length - 1) ⟨1, Nat.le_refl _, by omega, rfl, rfl, by rw [← ez]; exact hs1, e34 _ _ (e2 _ _ hr2), hys.ex (e2.trans e34), e3.trans e34⟩ fun m σ2 H5 hW => ?_
    obtain ⟨k, hk1, hkl, rfl, rfl, hs5, hr5, hys5, e6⟩ := hW
    refine ⟨!decide (k = l.length), Evl.et_is (b := !decide (k = l.length)) (Evl.et_and (evt_test (evd_neI (i := ((l.getD ((j + k) % l.length) 0 : Nat) : Int)) (j := (i : Int)) (evd_var (K := K) rfl (.int _)) (evd_var (K := K) rfl (.int _)))) fun hb => evt_test (evd_I0 (K := K) (g := fun i j => .bl (decide (i ≤ j))) (evd_lenL (evd_var rfl (.lst (Evl.sq_of hs5) (nats_dp _)))) (hlenT _ _ rfl e6) fun _ => .bl _)) ?_, fun hb H6 e7 => ?_, fun hb H6 e7 => ?_⟩
    · rw [List.length_map, rotN_len, decide_eq_true (show ((k : Nat) : Int) ≤ (n : Int) by omega), Bool.and_true]
      congr 1
      refine decide_eq_decide.mpr ?_
      have := rot_back asc hj hk1 hkl
      rw [gj] at this
      exact ⟨fun h => this.mp (Int.ofNat.inj h), fun h => congrArg Int.ofNat (this.mpr h)⟩
    · have hkn : k ≠ l.length := by simpa using hb
      refine ⟨fun σ7 H7 => σ7 = [some v, some (.ref r), some (iV i), some (.ref s), some (iV (l.getD ((j + (k + 1)) % l.length) 0))] ∧ H7 s = some (.lst ((rotN l j (k + 1)).map iV)) ∧ H7 r = some (.lst ys) ∧ DpAll K H7 ys (((List.range i).map (lotOf C)).map eL) ∧ Ex H H7, fun σ7 H7 hN => ⟨l.length - (k + 1), by omega, k + 1, by omega, by omega, rfl, hN.1, hN.2⟩, ?_⟩
      refine q_appD (K := K) (d := nD (l.getD ((j + k) % l.length) 0)) (e7 _ _ hs5) (Evl.ev_var rfl) (evd_var rfl (.int _)) (by rw [List.length_map, rotN_len]; omega) fun w1 H7 e8 hw1 => ?_
      have ew := Dp.int_eq hw1
      subst ew
      have hz : (rotN l j k).map iV ++ [V.int ((l.getD ((j + k) % l.length) 0 : Nat) : Int)] = (rotN l j (k + 1)).map iV := by
        rw [rotN_succ, List.map_append]
        rfl
      rw [hz]
      have h7s := e8 _ _ (e7 _ _ hs5)
      have sH : H s = none := Evl.fresh_back e3 hs0
      have T := TEx.lst (ys := (rotN l j (k + 1)).map iV) h7s
      refine s_asgD (K := K) (d := nD (tOf t (l.getD ((j + k) % l.length) 0))) (evd_ixT (j := l.getD ((j + k) % l.length) 0) (evd_var rfl ((hv.ex (Ex.mut ((e6.trans e7).trans e8) sH)))) (evd_var rfl (.int _)) (tOf_get (by rw [htl]; exact gl k))) fun w2 H8 e9 hw2 => ?_
      have ew := Dp.int_eq hw2
      subst ew
      rw [turn_rot hT lm hj]
      refine ⟨rfl, e9 _ _ upd_same, e9 _ _ (by rw [upd_ne (Ne.symm ne)]; exact e8 _ _ (e7 _ _ hr5)), (DpAll.tex T _ (tupOs_eL _) (hys5.ex (e7.trans e8))).ex e9, (Ex.mut ((e6.trans e7).trans e8) sH).trans e9⟩
    · have hkn : k = l.length := by simpa using hb
      subst hkn
      refine s_appD (K := K) (d := eL l) (e7 _ _ hr5) (Evl.ev_var rfl) (evd_is (evd_tupL (evn_sortedI (l := rotN l j l.length) (evd_var rfl (.lst (Evl.sq_of (e7 _ _ hs5)) (nats_dp _)))).dat) (by rw [rot_srt asc hj]; rfl)) (by rw [hys5.len]; simp; omega) fun w1 H7 e8 hw1 => ?_
      have h7r := e8 _ _ (e7 _ _ hr5)
      have T := TEx.lst (ys := ys ++ [w1]) h7r
      refine ⟨⟨_, _, _, r, _, rfl, hr0, upd_same, ?_⟩, Ex.mut ((e6.trans e7).trans e8) hr0⟩
      rw [List.range_succ, List.map_append, List.map_append]
      refine DpAll.app (DpAll.tex T _ (tupOs_eL _) (hys5.ex (e7.trans e8))) ?_
      show DpAll K _ [w1] [eL (lotOf C i)]
      rw [hl]
      exact .cons (Dp.tex T _ (tupO_eL l) hw1) .nil
  · obtain ⟨⟨x0, y0, z0, r, ys, rfl, hr0, hr2, hys⟩, e0⟩ := hP
    rw [rng_len] at hys
    refine s_retD (K := K) (evd_is (evd_tupL (evn_sortedS (p := (List.range n).map (lotOf C)) (evd_var rfl (.lst (Evl.sq_of hr2) hys)) (fun l hl => ?_) (by simp; omega)).dat) (by rw [lots_all hC]; rfl)) fun z H3 e3 hz => q z H3 (e0.trans e3) hz
    obtain ⟨k, hk, rfl⟩ := List.mem_map.mp hl
    exact hC.parts.ne _ (lotOf_mem hC.parts (List.mem_range.mp hk)).1
def preCompl : List PyData → PyData → Prop := fun ds d => ∃ n p C, ds = [eP p] ∧ Canon n p ∧ NC (Same p) ∧ 0 < n ∧ n < 64 ∧ Canon n C ∧ (∀ x y, Same C x y ↔ KR n (Same p) x y) ∧ d = eP C
def idxN (t : List Nat) (z : Nat) : Nat := t.findIdx fun y => decide (y = z)
theorem idxN_at {t : List Nat} {z : Nat} (h : z ∈ t) : t[idxN t z]? = some z ∧ (∀ m, m < idxN t z → t[m]? ≠ some z) ∧ idxN t z < t.length := by
  have lt : idxN t z < t.length := List.findIdx_lt_length_of_exists ⟨z, h, by simp⟩
  refine ⟨?_, fun m hm e => ?_, lt⟩
  · rw [List.getElem?_eq_getElem lt]
    have := List.findIdx_getElem (p := fun y => decide (y = z)) (xs := t) (w := lt)
    exact congrArg some (of_decide_eq_true this)
  · have q := List.not_of_lt_findIdx (p := fun y => decide (y = z)) (xs := t) hm
    obtain ⟨h1, h2⟩ := List.getElem?_eq_some_iff.mp e
    rw [h2] at q
    simp at q
theorem ok_compl (N : Fr mg) (D : IsD K mg "complement_by" 33) (h_turn_by : Has P w K mg base CX0 2 "turn_by" ["parting"] (spTurnBy K)) (h_lots_by : Has P w K mg base CX0 1 "lots_by" ["turn"] (spD K 1 preLotsBy)) : Has P w K mg base CX0 3 "complement_by" ["parting"] (spD K 1 preCompl) := by
  refine mk_has D sc_complement_by (fun _ _ _ _ _ _ us hl => match us, hl with | [_], _ => rfl) (fun vs H Q E h => h.1) fun f cdv A outer s H vs Q E hr h => ?_
  refine ⟨_, PSs.nox (pss_cons (ps_set (i := 1) (sc_complement_by).nd (by rfl) (by first | exact Or.inl rfl | exact Or.inr rfl) (pe_fn h_turn_by hr (by decide) (by rfl) pass0 (pa_cons (pv 0) pa_nil))) (pss_cons (ps_set (i := 2) (sc_complement_by).nd (by rfl) (by first | exact Or.inl rfl | exact Or.inr rfl) (pe_callB (r := Evl.rLenS K) call_len_seq (by rfl) N.f_len boot_len (pa_cons (pv 1) pa_nil))) (pss_one (ps_ret (pe_fn h_lots_by hr (by decide) (by rfl) pass0 (pa_cons (pe_callTy (r := rTupS K) call_tuple_of (by rfl) N.f_tuple (by decide +kernel) (pa_cons (pe_lc (own := [("point", 3)]) (g := gName 3) rfl (sc_complement_by).nd (pi_range1 (by rfl) N.f_range (pa_cons (pv 2) pa_nil)) (blkOk_by (own := [("point", 3)]) (N := ["parting", "turn", "size", "point"]) (sc := defScope (top 33)) (by decide +kernel)) (fun _ _ _ _ _ => (pg_name (i := 3) (sc_complement_by).nd rfl (by first | exact Or.inl rfl | exact Or.inr rfl))) (fun _ _ _ _ _ => pts_nil) (fun _ _ _ _ _ => (pe_mG (r := rIdxI K) ty_tupZ PySem.F.plainAttrs_tuple PySem.F.slot_tuple_index PySem.F.type_tuple_index mt_tup_indexI (pv 1) (pa_cons (pe_op op_mod (pe_op op_add (pv 3) pe_int) (pv 2)) pa_nil)))) pa_nil)) pa_nil)))))), ?_⟩
  obtain ⟨_, ds, d, hd, ⟨n, p, C, rfl, hp, hN, hn0, hn, hC, hCK, rfl⟩, q⟩ := h
  obtain ⟨v, rfl, hv⟩ := arg1 hd
  refine ⟨v, rfl, v, n, p, rfl, hv, hp.parts, by omega, fun t r o H1 htl hT ho e1 hr1 => ?_⟩
  have htD : Dp K H1 (.ref r) (eL t) := .tup (.inl (.inr ⟨o, hr1⟩)) (nats_dp t)
  refine q_asgD (K := K) (d := nD n) (evd_is (evd_lenT (evd_var rfl htD)) (by rw [List.length_map, htl]; rfl)) fun z H2 e2 hz => ?_
  have memt : ∀ i, (i + 1) % n ∈ t := fun i => by
    obtain ⟨x, hx, e⟩ := hT.onto hp.parts (Nat.mod_lt (i + 1) hn0)
    have : t[x]? = some ((i + 1) % n) := by
      rw [← e]
      unfold tOf
      rw [List.getD_eq_getElem?_getD, List.getElem?_eq_getElem (by omega)]
      rfl
    exact List.mem_of_getElem? this
  have tu : TurnL C (tOf ((List.range n).map fun i => idxN t ((i + 1) % n))) := by
    have e : Same C = KR n (Same p) := funext fun x => funext fun y => propext (hCK x y)
    refine Turn.to_L (n := n) hC.parts ?_
    rw [e]
    refine compl_turn hp.parts.eqv hN (Turn.of_L hp.parts hT) fun i hi => ?_
    have e1 : tOf ((List.range n).map fun i => idxN t ((i + 1) % n)) i = idxN t ((i + 1) % n) := by
      unfold tOf
      rw [List.getD_eq_getElem?_getD, List.getElem?_map, List.getElem?_range hi]
      rfl
    obtain ⟨a1, a2, a3⟩ := idxN_at (memt i)
    rw [e1]
    refine ⟨by omega, ?_⟩
    unfold tOf
    rw [List.getD_eq_getElem?_getD, a1]
    rfl
  refine s_retD (K := K) (evd_fn (eda_one (evd_tupL (evn_mapT (l := List.range n) (en := nD) (F := fun i => nD (idxN t ((i + 1) % n))) (evj_is (evi_rng1 (n := n) (eda_one (evd_var rfl hz)) (by omega)).j ?_) (by simp; omega) (fun _ _ => rfl) (fun _ => rfl) fun i hi y H3 e3 hy => ?_).dat)) rfl ⟨n, C, (List.range n).map fun i => idxN t ((i + 1) % n), ?_, hC, by simp, hn, tu, rfl⟩) fun z H3 e3 hz => q z H3 ((e1.trans e2).trans e3) hz
  · unfold rngD
    refine List.map_congr_left fun i _ => ?_
    show PyData.int (0 + (i : Int)) = PyData.int i
    rw [Int.zero_add]
  · obtain ⟨a1, a2, a3⟩ := idxN_at (memt i)
    refine evd_index (z := (i + 1) % n) rfl (e3 _ _ (e2 _ _ hr1)) ho (evd_is (evd_mod (evd_add (evd_var rfl hy) evd_int) (evd_var rfl (hz.ex e3)) (by omega)) ?_) a1 a2
    rfl
  · unfold eL
    rw [List.map_map]
    rfl
end
end PR
set_option maxHeartbeats 400000
namespace PR
/-- on the way to the least -/
structure JInv (n : Nat) (P : Nat → Nat → Prop) (prs : List (List Nat)) (k : Nat) (q : Part) : Prop where
  parts : Parts n q
  up : ∀ x y, P x y → Same q x y
  prr : ∀ a b, [a, b] ∈ prs.take k → Same q a b
  least : ∀ T, Eqv n T → NC T → (∀ x y, P x y → T x y) → (∀ a b, [a, b] ∈ prs → T a b) → ∀ x y, Same q x y → T x y
theorem put_least {n : Nat} {q : Part} (h : Parts n q) {a b : Nat} {T : Nat → Nat → Prop} (E : Eqv n T) (le : ∀ x y, Same q x y → T x y) (ab : T a b) : ∀ x y, Same (putTog q a b) x y → T x y := fun x y s => by
  have u : ∀ z, Same q a z ∨ Same q b z → T a z := fun z hz => by
    rcases hz with hz | hz
    · exact le _ _ hz
    · exact E.tr _ _ _ ab (le _ _ hz)
  rcases (put_same h x y).mp s with s | ⟨hx, hy⟩
  · exact le _ _ s
  · exact E.tr _ _ _ (E.sym _ _ (u x hx)) (u y hy)
theorem JInv.step {n : Nat} {P : Nat → Nat → Prop} {prs : List (List Nat)} {k : Nat} {q : Part} (J : JInv n P prs k q) {a b : Nat} (hk : prs[k]? = some [a, b]) (ha : a < n) (hb : b < n) : JInv n P prs (k + 1) (putTog q a b) where
  parts := put_parts J.parts ha
  up := fun x y h => (put_same J.parts x y).mpr (.inl (J.up x y h))
  prr := fun c d h => by
    rw [List.take_add_one, hk] at h
    rcases List.mem_append.mp h with h | h
    · exact (put_same J.parts c d).mpr (.inl (J.prr c d h))
    · have e := List.mem_singleton.mp h
      injection e with e1 e2
      injection e2 with e2 _
      subst e1 e2
      exact (put_same J.parts c d).mpr (.inr ⟨.inl (J.parts.eqv.rfl' c ha), .inr (J.parts.eqv.rfl' d hb)⟩)
  least := fun T E N hP hp => put_least J.parts E (J.least T E N hP hp) (hp a b (List.mem_of_getElem? hk))
theorem JInv.mend {n : Nat} {P : Nat → Nat → Prop} {prs : List (List Nat)} {k : Nat} {q : Part} (J : JInv n P prs k q) {i j : Nat} {l o : List Nat} (hij : j < i) (hi : q[i]? = some l) (hj : q[j]? = some o) (hc : doCross l o = true) :
    JInv n P prs k (putTog q (headN l) (headN o)) ∧ (putTog q (headN l) (headN o)).length < q.length := by
  have hl := List.mem_of_getElem? hi
  have ho := List.mem_of_getElem? hj
  have hdl := headN_mem (J.parts.ne l hl)
  have hdo := headN_mem (J.parts.ne o ho)
  have dis := J.parts.dis_at (by omega) hi hj
  refine ⟨⟨put_parts J.parts (J.parts.bd l hl _ hdl), fun x y h => (put_same J.parts x y).mpr (.inl (J.up x y h)), fun c d h => (put_same J.parts c d).mpr (.inl (J.prr c d h)), fun T E N hP hp => ?_⟩, put_len J.parts (J.parts.bd l hl _ hdl) (J.parts.bd o ho _ hdo) fun s => ?_⟩
  · have le := J.least T E N hP hp
    refine put_least J.parts E le ?_
    have key : ∀ l o : List Nat, l ∈ q → o ∈ q → Inter l o → headN l ∈ l → headN o ∈ o → T (headN l) (headN o) := by
      rintro l o hl ho ⟨a, ha, b, hb, c, hc, d, hd, h1, h2, h3⟩ hdl hdo
      have t := N a b c d h1 h2 h3 (le _ _ ⟨l, hl, ha, hc⟩) (le _ _ ⟨o, ho, hb, hd⟩)
      exact E.tr _ _ _ (le _ _ ⟨l, hl, hdl, ha⟩) (E.tr _ _ _ t (le _ _ ⟨o, ho, hb, hdo⟩))
    rcases inter_of dis hc with z | z
    · exact key l o hl ho z hdl hdo
    · exact E.sym _ _ (key o l ho hl z hdo hdl)
  · exact dis _ ((J.parts.mem_iff hl hdl _).mpr s) hdo
/-- the least, told by its relation -/
structure LeastW (n : Nat) (P : Nat → Nat → Prop) (prs : List (List Nat)) (C : Part) : Prop where
  canon : Canon n C
  nc : NC (Same C)
  up : ∀ x y, P x y → Same C x y
  prr : ∀ a b, [a, b] ∈ prs → Same C a b
  least : ∀ T, Eqv n T → NC T → (∀ x y, P x y → T x y) → (∀ a b, [a, b] ∈ prs → T a b) → ∀ x y, Same C x y → T x y
theorem LeastW.uniq {n : Nat} {P : Nat → Nat → Prop} {prs : List (List Nat)} {C D : Part} (h : LeastW n P prs C) (g : LeastW n P prs D) : C = D :=
  canon_ext h.canon g.canon fun x y => ⟨h.least _ g.canon.parts.eqv g.nc g.up g.prr x y, g.least _ h.canon.parts.eqv h.nc h.up h.prr x y⟩
theorem JInv.done {n : Nat} {P : Nat → Nat → Prop} {prs : List (List Nat)} {q : Part} (J : JInv n P prs prs.length q) (hf : crossFree q = true) : LeastW n P prs (srtL q) where
  canon := srtL_canon J.parts
  nc := fun a b c d h1 h2 h3 r s => (srtL_same q _ _).mpr (nc_of_free J.parts hf a b c d h1 h2 h3 ((srtL_same q _ _).mp r) ((srtL_same q _ _).mp s))
  up := fun x y h => (srtL_same q x y).mpr (J.up x y h)
  prr := fun a b h => (srtL_same q a b).mpr (J.prr a b (by rw [List.take_length]; exact h))
  least := fun T E N hP hp x y h => J.least T E N hP hp x y ((srtL_same q x y).mp h)
theorem JInv.start {n : Nat} {p : Part} (h : Parts n p) (prs : List (List Nat)) : JInv n (Same p) prs 0 p where
  parts := h
  up := fun _ _ h => h
  prr := fun a b h => by cases h
  least := fun _ _ _ hP _ x y s => hP x y s
/-- pairs of a parting within T: the parting is within T -/
theorem pairs_in {n : Nat} {q : Part} (h : Parts n q) {T : Nat → Nat → Prop} (E : Eqv n T) : (∀ a b, [a, b] ∈ pairsIn q → T a b) ↔ ∀ x y, Same q x y → T x y := by
  constructor
  · rintro hp x y ⟨l, hl, hx, hy⟩
    have key : ∀ z ∈ l, T (headN l) z := fun z hz => by
      cases l with
      | nil => cases hz
      | cons a l =>
        rcases List.mem_cons.mp hz with rfl | hz
        · exact E.rfl' _ (h.bd _ hl _ List.mem_cons_self)
        · exact hp a z (mem_pairs.mpr ⟨a :: l, hl, z, hz, rfl⟩)
    exact E.tr _ _ _ (E.sym _ _ (key x hx)) (key y hy)
  · intro hs a b hab
    obtain ⟨l, hl, x, hx, e⟩ := mem_pairs.mp hab
    injection e with e1 e2
    injection e2 with e2 _
    subst e1 e2
    exact hs _ _ ⟨l, hl, headN_mem (h.ne l hl), List.mem_of_mem_drop hx⟩
theorem lub_least {n : Nat} {p q C : Part} (hp : Parts n p) (hq : Parts n q) (hC : Canon n C) (L : Lub n (Same p) (Same q) (Same C)) : LeastW n (Same p) (pairsIn q) C where
  canon := hC
  nc := L.nc
  up := L.one
  prr := (pairs_in hq hC.parts.eqv).mpr L.two
  least := fun T E N hP hpr => L.least T E N hP ((pairs_in hq E).mp hpr)
/-- the least above two there is -/
theorem lub_ex {n : Nat} {p q : Part} (hp : Parts n p) (hq : Parts n q) : ∃ C, Canon n C ∧ Lub n (Same p) (Same q) (Same C) := by
  let J : Nat → Nat → Prop := fun x y => x < n ∧ y < n ∧ ∀ T, Eqv n T → NC T → (∀ x y, Same p x y → T x y) → (∀ x y, Same q x y → T x y) → T x y
  have E : Eqv n J := ⟨fun x y h => h.1, fun x hx => ⟨hx, hx, fun T E _ _ _ => E.rfl' x hx⟩, fun x y h => ⟨h.2.1, h.1, fun T E N a b => E.sym _ _ (h.2.2 T E N a b)⟩,
    fun x y z h g => ⟨h.1, g.2.1, fun T E N a b => E.tr _ _ _ (h.2.2 T E N a b) (g.2.2 T E N a b)⟩⟩
  have NJ : NC J := fun a b c d h1 h2 h3 r s => ⟨r.1, s.1, fun T E N u v => N a b c d h1 h2 h3 (r.2.2 T E N u v) (s.2.2 T E N u v)⟩
  obtain ⟨hc, hs⟩ := classes_canon E
  have e : Same (classes n J) = J := funext fun x => funext fun y => propext (hs x y)
  refine ⟨classes n J, hc, ?_⟩
  rw [e]
  exact ⟨E, NJ, fun x y h => ⟨hp.eqv.lt x y h, hp.eqv.lt2 h, fun T _ _ a _ => a x y h⟩, fun x y h => ⟨hq.eqv.lt x y h, hq.eqv.lt2 h, fun T _ _ _ b => b x y h⟩, fun T E N a b x y h => h.2.2 T E N a b⟩
end PR
set_option maxHeartbeats 400000
namespace PR
open PySem PySem.Spec PyProof.Rows L2
open Evl (Ex EvT)
theorem sc_least_with : FnScope ["parting", "pairs", "lots", "one", "other"] ["parting", "pairs"] (defScope (top 26)) := ⟨rfl, rfl, rfl, by decide +kernel, rfl, by decide +kernel, by decide +kernel⟩
theorem sc_join_of : FnScope ["parting", "other"] ["parting", "other"] (defScope (top 30)) := ⟨rfl, rfl, rfl, by decide +kernel, rfl, by decide +kernel, by decide +kernel⟩
theorem sc_need_parting : FnScope ["value"] ["value"] (defScope (top 34)) := ⟨rfl, rfl, rfl, by decide +kernel, rfl, by decide +kernel, by decide +kernel⟩
theorem sc_need_both : FnScope ["parting", "other"] ["parting", "other"] (defScope (top 35)) := ⟨rfl, rfl, rfl, by decide +kernel, rfl, by decide +kernel, by decide +kernel⟩
theorem sc_need_steps : FnScope ["value"] ["value"] (defScope (top 36)) := ⟨rfl, rfl, rfl, by decide +kernel, rfl, by decide +kernel, by decide +kernel⟩
theorem sc_parting_turned : FnScope ["parting", "steps"] ["parting", "steps"] (defScope (top 37)) := ⟨rfl, rfl, rfl, by decide +kernel, rfl, by decide +kernel, by decide +kernel⟩
theorem sc_complement : FnScope ["parting"] ["parting"] (defScope (top 38)) := ⟨rfl, rfl, rfl, by decide +kernel, rfl, by decide +kernel, by decide +kernel⟩
theorem sc_is_finer : FnScope ["parting", "other"] ["parting", "other"] (defScope (top 39)) := ⟨rfl, rfl, rfl, by decide +kernel, rfl, by decide +kernel, by decide +kernel⟩
theorem sc_parting_meet : FnScope ["parting", "other"] ["parting", "other"] (defScope (top 40)) := ⟨rfl, rfl, rfl, by decide +kernel, rfl, by decide +kernel, by decide +kernel⟩
theorem sc_parting_join : FnScope ["parting", "other"] ["parting", "other"] (defScope (top 41)) := ⟨rfl, rfl, rfl, by decide +kernel, rfl, by decide +kernel, by decide +kernel⟩
def preLeast : List PyData → PyData → Prop := fun ds d => ∃ (n : Nat) (p : Part) (prs : List (List Nat)) (C : Part), ds = [eP p, .list (prs.map eL)] ∧ Canon n p ∧ n < 64 ∧ (∀ z ∈ prs, ∃ a b, z = [a, b] ∧ a < n ∧ b < n) ∧ LeastW n (Same p) prs C ∧ d = eP C
def preJoin : List PyData → PyData → Prop := fun ds d => ∃ (n : Nat) (p q C : Part), ds = [eP p, eP q] ∧ Canon n p ∧ Canon n q ∧ n < 64 ∧ Canon n C ∧ Lub n (Same p) (Same q) (Same C) ∧ d = eP C
section
variable {P : Program} {w : World} {K : PySem.W.Frag} {mg : Str → Option Value} {base : Heap}
theorem ok_least (N : Fr mg) (D : IsD K mg "least_with" 26) (h_put_together : Has P w K mg base CX0 1 "put_together" ["lots", "one", "other"] (spL K 3 prePut)) (h_cross_free : Has P w K mg base CX0 2 "cross_free" ["lots"] (spD K 1 preFreeL))
    (h_mended_once : Has P w K mg base CX0 2 "mended_once" ["lots"] (spMend K)) : Has P w K mg base CX0 3 "least_with" ["parting", "pairs"] (spD K 2 preLeast) := by
  refine mk_has D sc_least_with (fun _ _ _ _ _ _ us hl => match us, hl with | [_, _], _ => rfl) (fun vs H Q E h => h.1) fun f cdv A outer s H vs Q E hr h => ?_
  refine ⟨_, PSs.nox (pss_cons (ps_set (i := 2) (sc_least_with).nd (by rfl) (by first | exact Or.inl rfl | exact Or.inr rfl) (pe_callTy (r := Evl.rListS K) call_list_of (by rfl) N.f_list (by decide +kernel) (pa_cons (pv 0) pa_nil))) (pss_cons (ps_for PassesOwn.never rfl (show PI _ _ _ (iList K _) from pi_list (pv 1)) (pg_tup rfl (pgs_cons (pg_name (i := 3) (sc_least_with).nd rfl (by first | exact Or.inl rfl | exact Or.inr rfl)) (pgs_cons (pg_name (i := 4) (sc_least_with).nd rfl (by first | exact Or.inl rfl | exact Or.inr rfl)) pgs_nil))) (pss_one (ps_set (i := 2) (sc_least_with).nd (by rfl) (by first | exact Or.inl rfl | exact Or.inr rfl) (pe_fn h_put_together hr (by decide) (by rfl) pass0 (pa_cons (pv 2) (pa_cons (pv 3) (pa_cons (pv 4) pa_nil))))))) (pss_cons (ps_while PassesOwn.never (pt_not (pt_val (pe_fn h_cross_free hr (by decide) (by rfl) pass0 (pa_cons (pv 2) pa_nil)))) (pss_one (ps_set (i := 2) (sc_least_with).nd (by rfl) (by first | exact Or.inl rfl | exact Or.inr rfl) (pe_fn h_mended_once hr (by decide) (by rfl) pass0 (pa_cons (pv 2) pa_nil))))) (pss_one (ps_ret (pe_callTy (r := rTupS K) call_tuple_of (by rfl) N.f_tuple (by decide +kernel) (pa_cons (pe_callB (r := rSortedL K) cr_sortedL (by rfl) N.f_sorted (by decide +kernel) (pa_cons (pv 2) pa_nil)) pa_nil))))))), ?_⟩
  obtain ⟨_, ds, d, hd, ⟨n, p, prs, C, rfl, hp, hn, hprs, hC, rfl⟩, q⟩ := h
  obtain ⟨v, u, rfl, hv, hu⟩ := arg2 hd
  refine q_asgN (K := K) (ds := p.map eL) (evn_listT (evd_var rfl hv)) fun r xs H1 hr0 e1 hr1 hxs => ?_
  have small : ∀ (q : Part), Parts n q → q.length ≤ 1000 ∧ sizeP q ≤ 1000 ∧ ∀ l ∈ q, l ≠ [] ∧ l.length < 64 := fun q hq => ⟨by have := hq.len; omega, by rw [hq.size]; omega, fun l hl => ⟨hq.ne l hl, by have := hq.lot_len hl; omega⟩⟩
  refine q_forI (B := H) (evi_listV rfl hu) e1 (fun i σ' H' => (∃ r x y q ys, σ' = [some v, some u, some (.ref r), x, y] ∧ H' r = some (.lst ys) ∧ DpAll K H' ys (q.map eL) ∧ JInv n (Same p) prs i q) ∧ Ex H H') (fun H2 e2 => ⟨⟨r, _, _, p, xs, rfl, e2 _ _ hr1, hxs.ex e2, .start hp.parts prs⟩, e1.trans e2⟩) (fun i σ' H' _ h => h.2) (fun i d x σ' H2 H' hdi hP e2 hx => ?_) (fun σ' H' hP => ?_)
  · obtain ⟨⟨r, x0, y0, m, ys, rfl, hr2, hys, J⟩, e0⟩ := hP
    obtain ⟨z, hz, rfl⟩ := map_at hdi
    obtain ⟨a, b, rfl, ha, hb⟩ := hprs z (List.mem_of_getElem? hz)
    obtain ⟨s1, s2, s3⟩ := small m J.parts
    refine tg_pair' hx fun y z hy hz' => ?_
    refine s_asgV (K := K) (ds := (putTog m a b).map eL) (evv_fn (eda_cons (evd_var rfl (.lst (Evl.sq_of (e2 _ _ hr2)) (hys.ex e2))) (eda_cons (evd_var rfl hy) (eda_one (evd_var rfl hz')))) rfl ⟨m, a, b, rfl, s1, s2, rfl⟩) fun r3 zs H3 e3 hr3 hzs => ⟨⟨r3, _, _, _, zs, rfl, hr3, hzs, J.step hz ha hb⟩, (e0.trans e2).trans e3⟩
  · obtain ⟨⟨r, x0, y0, m, ys, rfl, hr2, hys, J⟩, e0⟩ := hP
    rw [List.length_map] at J
    refine Evl.q_while (fun k σ2 H2 => ∃ r m ys, k = m.length ∧ σ2 = [some v, some u, some (.ref r), x0, y0] ∧ H2 r = some (.lst ys) ∧ DpAll K H2 ys (m.map eL) ∧ JInv n (Same p) prs prs.length m ∧ Ex H H2) m.length ⟨r, m, ys, rfl, rfl, hr2, hys, J, e0⟩ fun k σ2 H2 hW => ?_
    obtain ⟨r, m, ys, rfl, rfl, hr2, hys, J, e0⟩ := hW
    obtain ⟨s1, s2, s3⟩ := small m J.parts
    refine ⟨!crossFree m, Evl.et_not (evt_B (evd_fn (eda_one (evd_var rfl (.lst (Evl.sq_of hr2) hys))) rfl ⟨m, rfl, s3, s1, rfl⟩)), fun hb H3 e3 => ?_, fun hb H3 e3 => ?_⟩
    · refine ⟨fun σ4 H4 => ∃ r m' ys, m'.length < m.length ∧ σ4 = [some v, some u, some (.ref r), x0, y0] ∧ H4 r = some (.lst ys) ∧ DpAll K H4 ys (m'.map eL) ∧ JInv n (Same p) prs prs.length m' ∧ Ex H H4, fun σ4 H4 hN => ?_, ?_⟩
      · obtain ⟨r, m', ys, h1, h2⟩ := hN
        exact ⟨m'.length, h1, r, m', ys, rfl, h2⟩
      · refine ⟨.ref r, rfl, r, ys, m, rfl, e3 _ _ hr2, hys.ex e3, s3, s1, s2, fun m' r4 zs H4 hM e4 hr4 hzs => ?_⟩
        rcases hM with ⟨hf, _⟩ | ⟨i, j, l, o, hij, hi, hj, hc, rfl⟩
        · rw [hf] at hb
          cases hb
        · obtain ⟨J2, lt⟩ := J.mend hij hi hj hc
          exact ⟨r4, _, zs, lt, rfl, hr4, hzs, J2, (e0.trans e3).trans e4⟩
    · have hf : crossFree m = true := by simpa using hb
      have hCe : C = srtL m := hC.uniq (J.done hf)
      refine s_retD (K := K) (evd_is (evd_tupL (evn_sortedL (evd_var rfl (.lst (Evl.sq_of (e3 _ _ hr2)) (hys.ex e3))) fun l hl => J.parts.ne l hl).dat) (by rw [hCe]; rfl)) fun z H4 e4 hz => q z H4 ((e0.trans e3).trans e4) hz
theorem ok_join (N : Fr mg) (D : IsD K mg "join_of" 30) (h_pairs_in : Has P w K mg base CX0 1 "pairs_in" ["parting"] (spL K 1 prePairs)) (h_least_with : Has P w K mg base CX0 3 "least_with" ["parting", "pairs"] (spD K 2 preLeast)) : Has P w K mg base CX0 4 "join_of" ["parting", "other"] (spD K 2 preJoin) := by
  refine mk_has D sc_join_of (fun _ _ _ _ _ _ us hl => match us, hl with | [_, _], _ => rfl) (fun vs H Q E h => h.1) fun f cdv A outer s H vs Q E hr h => ?_
  refine ⟨_, PSs.nox (pss_one (ps_ret (pe_fn h_least_with hr (by decide) (by rfl) pass0 (pa_cons (pv 0) (pa_cons (pe_fn h_pairs_in hr (by decide) (by rfl) pass0 (pa_cons (pv 1) pa_nil)) pa_nil))))), ?_⟩
  obtain ⟨_, ds, d, hd, ⟨n, p, m, C, rfl, hp, hm, hn, hC, L, rfl⟩, q⟩ := h
  obtain ⟨v, u, rfl, hv, hu⟩ := arg2 hd
  refine s_retD (K := K) (evd_fn (eda_cons (evd_var rfl hv) (eda_one (evv_fn (es := (pairsIn m).map eL) (eda_one (evd_var rfl hu)) rfl ⟨m, rfl, hm.parts.ne, by have := hm.parts.len; omega, by rw [hm.parts.size]; omega, rfl⟩).dat)) rfl ⟨n, p, pairsIn m, C, rfl, hp, hn, fun z hz => ?_, lub_least hp.parts hm.parts hC L, rfl⟩) q
  obtain ⟨l, hl, x, hx, rfl⟩ := mem_pairs.mp hz
  exact ⟨_, _, rfl, hm.parts.bd l hl _ (headN_mem (hm.parts.ne l hl)), hm.parts.bd l hl _ (List.mem_of_mem_drop hx)⟩
/-! the public defs on good data -/
structure Good (n : Nat) (p : Part) : Prop where
  canon : Canon n p
  nc : NC (Same p)
  two : 2 ≤ n
  few : n ≤ 13
theorem Good.fits {n : Nat} {p : Part} (g : Good n p) : preFits [eP p] (.bool true) :=
  ⟨eP p, true, rfl, rfl, .inr (.inr ⟨p, rfl, by have := g.canon.parts.len; have := g.few; omega, (fitsP_of g.canon g.nc g.two g.few).2, (fitsP_of g.canon g.nc g.two g.few).1.symm⟩)⟩
def preNeed : List PyData → PyData → Prop := fun ds d => ∃ n p, ds = [eP p] ∧ Good n p ∧ d = .none
def preBoth : List PyData → PyData → Prop := fun ds d => ∃ n p q, ds = [eP p, eP q] ∧ Good n p ∧ Good n q ∧ d = .none
def preSteps : List PyData → PyData → Prop := fun ds d => ∃ s : Int, ds = [.int s] ∧ -1000 ≤ s ∧ s ≤ 1000 ∧ d = .none
def preTurnedP : List PyData → PyData → Prop := fun ds d => ∃ (n : Nat) (p : Part) (s : Int), ds = [eP p, .int s] ∧ Good n p ∧ -1000 ≤ s ∧ s ≤ 1000 ∧ d = eP (srtL (turnedRaw p s))
def preComplP : List PyData → PyData → Prop := fun ds d => ∃ n p C, ds = [eP p] ∧ Good n p ∧ Canon n C ∧ (∀ x y, Same C x y ↔ KR n (Same p) x y) ∧ d = eP C
def preFiner : List PyData → PyData → Prop := fun ds d => ∃ n p q, ds = [eP p, eP q] ∧ Good n p ∧ Good n q ∧ d = .bool (decide (srtL (meetRaw p q) = p))
def preMeetP : List PyData → PyData → Prop := fun ds d => ∃ n p q, ds = [eP p, eP q] ∧ Good n p ∧ Good n q ∧ d = eP (srtL (meetRaw p q))
def preJoinP : List PyData → PyData → Prop := fun ds d => ∃ n p q C, ds = [eP p, eP q] ∧ Good n p ∧ Good n q ∧ Canon n C ∧ Lub n (Same p) (Same q) (Same C) ∧ d = eP C
theorem ok_need (N : Fr mg) (D : IsD K mg "need_parting" 34) (h_fits_parting : Has P w K mg base CX0 3 "fits_parting" ["value"] (spD K 1 preFits)) : Has P w K mg base CX0 4 "need_parting" ["value"] (spD K 1 preNeed) := by
  refine mk_has D sc_need_parting (fun _ _ _ _ _ _ us hl => match us, hl with | [_], _ => rfl) (fun vs H Q E h => h.1) fun f cdv A outer s H vs Q E hr h => ?_
  refine ⟨_, PSs.nox (pss_one (ps_if (pt_not (pt_val (pe_fn h_fits_parting hr (by decide) (by rfl) pass0 (pa_cons (pv 0) pa_nil)))) (pss_one ps_never) pss_nil)), ?_⟩
  obtain ⟨_, ds, d, hd, ⟨n, p, rfl, g, rfl⟩, q⟩ := h
  obtain ⟨v, rfl, hv⟩ := arg1 hd
  exact Evl.s_when (b := false) (Evl.et_not (evt_B (evd_fn (eda_one (evd_var rfl hv)) rfl g.fits))) (fun hb => by cases hb) fun _ H1 e1 => q _ H1 e1 .non
theorem ok_both (N : Fr mg) (D : IsD K mg "need_both" 35) (h_need_parting : Has P w K mg base CX0 4 "need_parting" ["value"] (spD K 1 preNeed)) (h_size_in : Has P w K mg base CX0 1 "size_in" ["parting"] (spD K 1 preSize)) : Has P w K mg base CX0 5 "need_both" ["parting", "other"] (spD K 2 preBoth) := by
  refine mk_has D sc_need_both (fun _ _ _ _ _ _ us hl => match us, hl with | [_, _], _ => rfl) (fun vs H Q E h => h.1) fun f cdv A outer s H vs Q E hr h => ?_
  refine ⟨_, PSs.nox (pss_cons (ps_expr (pe_fn h_need_parting hr (by decide) (by rfl) pass0 (pa_cons (pv 0) pa_nil))) (pss_cons (ps_expr (pe_fn h_need_parting hr (by decide) (by rfl) pass0 (pa_cons (pv 1) pa_nil))) (pss_one (ps_if (pt_cmpR op_ne (pe_fn h_size_in hr (by decide) (by rfl) pass0 (pa_cons (pv 0) pa_nil)) (pe_fn h_size_in hr (by decide) (by rfl) pass0 (pa_cons (pv 1) pa_nil)) (nomark _)) (pss_one ps_never) pss_nil)))), ?_⟩
  obtain ⟨_, ds, d, hd, ⟨n, p, m, rfl, g1, g2, rfl⟩, q⟩ := h
  obtain ⟨v, u, rfl, hv, hu⟩ := arg2 hd
  have sz : ∀ p, Good n p → preSize [eP p] (nD n) := fun p g => ⟨p, rfl, by have := g.canon.parts.len; have := g.few; omega, by rw [g.canon.parts.size]⟩
  refine (evd_fn (K := K) (eda_one (evd_var rfl hv)) rfl ⟨n, p, rfl, g1, rfl⟩) H (Ex.refl H) _ fun _ H1 e1 _ => ?_
  refine (evd_fn (K := K) (eda_one (evd_var rfl (hu.ex e1))) rfl ⟨n, m, rfl, g2, rfl⟩) H1 (Ex.refl _) _ fun _ H2 e2 _ => ?_
  exact Evl.s_when (b := !decide ((n : Int) = n)) (evt_test (evd_neI (evd_fn (eda_one (evd_var rfl (hv.ex (e1.trans e2)))) rfl (sz p g1)) (evd_fn (eda_one (evd_var rfl (hu.ex (e1.trans e2)))) rfl (sz m g2)))) (fun hb => by simp at hb) fun _ H3 e3 => q _ H3 ((e1.trans e2).trans e3) .non
theorem ok_steps (N : Fr mg) (D : IsD K mg "need_steps" 36) (h_is_whole : Has P w K mg base CX0 1 "is_whole" ["value", "low", "high"] (spD K 3 preWhole)) : Has P w K mg base CX0 2 "need_steps" ["value"] (spD K 1 preSteps) := by
  refine mk_has D sc_need_steps (fun _ _ _ _ _ _ us hl => match us, hl with | [_], _ => rfl) (fun vs H Q E h => h.1) fun f cdv A outer s H vs Q E hr h => ?_
  refine ⟨_, PSs.nox (pss_one (ps_if (pt_not (pt_val (pe_fn h_is_whole hr (by decide) (by rfl) pass0 (pa_cons (pv 0) (pa_cons (pe_un un_neg (N.far.elim fun t ht => pe_glob (v := .int 1000) (by rfl) ht ⟨t, rfl⟩)) (pa_cons (N.far.elim fun t ht => pe_glob (v := .int 1000) (by rfl) ht ⟨t, rfl⟩) pa_nil)))))) (pss_one ps_never) pss_nil)), ?_⟩
  obtain ⟨_, ds, d, hd, ⟨st, rfl, h1, h2, rfl⟩, q⟩ := h
  obtain ⟨v, rfl, hv⟩ := arg1 hd
  refine Evl.s_when (b := false) (Evl.et_is (Evl.et_not (evt_B (evd_fn (d := .bool true) (eda_cons (evd_var rfl hv) (eda_cons (evd_neg evd_int) (eda_one evd_int))) rfl ⟨.int st, -1000, 1000, rfl, ?_⟩))) rfl) (fun hb => by cases hb) fun _ H1 e1 => q _ H1 e1 .non
  show _ = PyData.bool (decide _ && decide _)
  rw [decide_eq_true h1, decide_eq_true h2]
  rfl
theorem ok_turnedP (N : Fr mg) (D : IsD K mg "parting_turned" 37) (h_need_parting : Has P w K mg base CX0 4 "need_parting" ["value"] (spD K 1 preNeed)) (h_need_steps : Has P w K mg base CX0 2 "need_steps" ["value"] (spD K 1 preSteps)) (h_turned_lots : Has P w K mg base CX0 2 "turned_lots" ["parting", "steps"] (spD K 2 preTurned)) :
    Has P w K mg base CX0 5 "parting_turned" ["parting", "steps"] (spD K 2 preTurnedP) := by
  refine mk_has D sc_parting_turned (fun _ _ _ _ _ _ us hl => match us, hl with | [_, _], _ => rfl) (fun vs H Q E h => h.1) fun f cdv A outer s H vs Q E hr h => ?_
  refine ⟨_, PSs.nox (pss_cons (ps_expr (pe_fn h_need_parting hr (by decide) (by rfl) pass0 (pa_cons (pv 0) pa_nil))) (pss_cons (ps_expr (pe_fn h_need_steps hr (by decide) (by rfl) pass0 (pa_cons (pv 1) pa_nil))) (pss_one (ps_ret (pe_fn h_turned_lots hr (by decide) (by rfl) pass0 (pa_cons (pv 0) (pa_cons (pv 1) pa_nil))))))), ?_⟩
  obtain ⟨_, ds, d, hd, ⟨n, p, st, rfl, g, h1, h2, rfl⟩, q⟩ := h
  obtain ⟨v, u, rfl, hv, hu⟩ := arg2 hd
  refine (evd_fn (K := K) (eda_one (evd_var rfl hv)) rfl ⟨n, p, rfl, g, rfl⟩) H (Ex.refl H) _ fun _ H1 e1 _ => ?_
  refine (evd_fn (K := K) (eda_one (evd_var rfl (hu.ex e1))) rfl ⟨st, rfl, h1, h2, rfl⟩) H1 (Ex.refl _) _ fun _ H2 e2 _ => ?_
  have g2 := g.two
  have g3 := g.few
  exact s_retD (K := K) (evd_fn (eda_cons (evd_var rfl (hv.ex (e1.trans e2))) (eda_one (evd_var rfl (hu.ex (e1.trans e2))))) rfl ⟨p, st, rfl, g.canon.parts.ne, by have := g.canon.parts.len; omega, by rw [g.canon.parts.size]; omega, by rw [g.canon.parts.size]; omega, rfl⟩) fun z H3 e3 hz => q z H3 ((e1.trans e2).trans e3) hz
theorem ok_complP (N : Fr mg) (D : IsD K mg "complement" 38) (h_need_parting : Has P w K mg base CX0 4 "need_parting" ["value"] (spD K 1 preNeed)) (h_complement_by : Has P w K mg base CX0 3 "complement_by" ["parting"] (spD K 1 preCompl)) : Has P w K mg base CX0 5 "complement" ["parting"] (spD K 1 preComplP) := by
  refine mk_has D sc_complement (fun _ _ _ _ _ _ us hl => match us, hl with | [_], _ => rfl) (fun vs H Q E h => h.1) fun f cdv A outer s H vs Q E hr h => ?_
  refine ⟨_, PSs.nox (pss_cons (ps_expr (pe_fn h_need_parting hr (by decide) (by rfl) pass0 (pa_cons (pv 0) pa_nil))) (pss_one (ps_ret (pe_fn h_complement_by hr (by decide) (by rfl) pass0 (pa_cons (pv 0) pa_nil))))), ?_⟩
  obtain ⟨_, ds, d, hd, ⟨n, p, C, rfl, g, hC, hK, rfl⟩, q⟩ := h
  obtain ⟨v, rfl, hv⟩ := arg1 hd
  refine (evd_fn (K := K) (eda_one (evd_var rfl hv)) rfl ⟨n, p, rfl, g, rfl⟩) H (Ex.refl H) _ fun _ H1 e1 _ => ?_
  have g2 := g.two
  have g3 := g.few
  exact s_retD (K := K) (evd_fn (eda_one (evd_var rfl (hv.ex e1))) rfl ⟨n, p, C, rfl, g.canon, g.nc, by omega, by omega, hC, hK, rfl⟩) fun z H3 e3 hz => q z H3 (e1.trans e3) hz
theorem ok_finer (N : Fr mg) (D : IsD K mg "is_finer" 39) (h_need_both : Has P w K mg base CX0 5 "need_both" ["parting", "other"] (spD K 2 preBoth)) (h_meet_of : Has P w K mg base CX0 1 "meet_of" ["parting", "other"] (spD K 2 preMeet)) : Has P w K mg base CX0 6 "is_finer" ["parting", "other"] (spD K 2 preFiner) := by
  refine mk_has D sc_is_finer (fun _ _ _ _ _ _ us hl => match us, hl with | [_, _], _ => rfl) (fun vs H Q E h => h.1) fun f cdv A outer s H vs Q E hr h => ?_
  refine ⟨_, PSs.nox (pss_cons (ps_expr (pe_fn h_need_both hr (by decide) (by rfl) pass0 (pa_cons (pv 0) (pa_cons (pv 1) pa_nil)))) (pss_one (ps_ret (pe_cmpR (r := rEqD K) (op_eqD hr.units) (pe_fn h_meet_of hr (by decide) (by rfl) pass0 (pa_cons (pv 0) (pa_cons (pv 1) pa_nil))) (pv 0) (nomark _))))), ?_⟩
  obtain ⟨_, ds, d, hd, ⟨n, p, m, rfl, g1, g2, rfl⟩, q⟩ := h
  obtain ⟨v, u, rfl, hv, hu⟩ := arg2 hd
  refine (evd_fn (K := K) (eda_cons (evd_var rfl hv) (eda_one (evd_var rfl hu))) rfl ⟨n, p, m, rfl, g1, g2, rfl⟩) H (Ex.refl H) _ fun _ H1 e1 _ => ?_
  have h1 := g1.canon.parts.len
  have h2 := g2.canon.parts.len
  have h3 := g1.few
  exact s_retD (K := K) (evd_is (evd_eq (evd_fn (eda_cons (evd_var rfl (hv.ex e1)) (eda_one (evd_var rfl (hu.ex e1)))) rfl ⟨p, m, rfl, by omega, by rw [g1.canon.parts.size]; omega, by omega, rfl⟩) (evd_var rfl (hv.ex e1)) (sh_eP _) (sh_eP _)) (by rw [eqv_eP])) fun z H3 e3 hz => q z H3 (e1.trans e3) hz
theorem ok_meetP (N : Fr mg) (D : IsD K mg "parting_meet" 40) (h_need_both : Has P w K mg base CX0 5 "need_both" ["parting", "other"] (spD K 2 preBoth)) (h_meet_of : Has P w K mg base CX0 1 "meet_of" ["parting", "other"] (spD K 2 preMeet)) : Has P w K mg base CX0 6 "parting_meet" ["parting", "other"] (spD K 2 preMeetP) := by
  refine mk_has D sc_parting_meet (fun _ _ _ _ _ _ us hl => match us, hl with | [_, _], _ => rfl) (fun vs H Q E h => h.1) fun f cdv A outer s H vs Q E hr h => ?_
  refine ⟨_, PSs.nox (pss_cons (ps_expr (pe_fn h_need_both hr (by decide) (by rfl) pass0 (pa_cons (pv 0) (pa_cons (pv 1) pa_nil)))) (pss_one (ps_ret (pe_fn h_meet_of hr (by decide) (by rfl) pass0 (pa_cons (pv 0) (pa_cons (pv 1) pa_nil)))))), ?_⟩
  obtain ⟨_, ds, d, hd, ⟨n, p, m, rfl, g1, g2, rfl⟩, q⟩ := h
  obtain ⟨v, u, rfl, hv, hu⟩ := arg2 hd
  refine (evd_fn (K := K) (eda_cons (evd_var rfl hv) (eda_one (evd_var rfl hu))) rfl ⟨n, p, m, rfl, g1, g2, rfl⟩) H (Ex.refl H) _ fun _ H1 e1 _ => ?_
  have h1 := g1.canon.parts.len
  have h2 := g2.canon.parts.len
  have h3 := g1.few
  exact s_retD (K := K) (evd_fn (eda_cons (evd_var rfl (hv.ex e1)) (eda_one (evd_var rfl (hu.ex e1)))) rfl ⟨p, m, rfl, by omega, by rw [g1.canon.parts.size]; omega, by omega, rfl⟩) fun z H3 e3 hz => q z H3 (e1.trans e3) hz
theorem ok_joinP (N : Fr mg) (D : IsD K mg "parting_join" 41) (h_need_both : Has P w K mg base CX0 5 "need_both" ["parting", "other"] (spD K 2 preBoth)) (h_join_of : Has P w K mg base CX0 4 "join_of" ["parting", "other"] (spD K 2 preJoin)) : Has P w K mg base CX0 6 "parting_join" ["parting", "other"] (spD K 2 preJoinP) := by
  refine mk_has D sc_parting_join (fun _ _ _ _ _ _ us hl => match us, hl with | [_, _], _ => rfl) (fun vs H Q E h => h.1) fun f cdv A outer s H vs Q E hr h => ?_
  refine ⟨_, PSs.nox (pss_cons (ps_expr (pe_fn h_need_both hr (by decide) (by rfl) pass0 (pa_cons (pv 0) (pa_cons (pv 1) pa_nil)))) (pss_one (ps_ret (pe_fn h_join_of hr (by decide) (by rfl) pass0 (pa_cons (pv 0) (pa_cons (pv 1) pa_nil)))))), ?_⟩
  obtain ⟨_, ds, d, hd, ⟨n, p, m, C, rfl, g1, g2, hC, L, rfl⟩, q⟩ := h
  obtain ⟨v, u, rfl, hv, hu⟩ := arg2 hd
  refine (evd_fn (K := K) (eda_cons (evd_var rfl hv) (eda_one (evd_var rfl hu))) rfl ⟨n, p, m, rfl, g1, g2, rfl⟩) H (Ex.refl H) _ fun _ H1 e1 _ => ?_
  have h3 := g1.few
  exact s_retD (K := K) (evd_fn (eda_cons (evd_var rfl (hv.ex e1)) (eda_one (evd_var rfl (hu.ex e1)))) rfl ⟨n, p, m, C, rfl, g1.canon, g2.canon, by omega, hC, L, rfl⟩) fun z H3 e3 hz => q z H3 (e1.trans e3) hz
end
end PR
set_option maxHeartbeats 400000
namespace PR
open PySem PySem.Spec PyProof.Rows L2
open Evl (Ex EvT)
/-! dicts from Nats to Nats -/
def kN (x : Nat) : Key := Sum.inl (x : Int)
def dF (f : Nat → Nat) (xs : List Nat) : List (Key × V) := xs.map fun x => (kN x, iV (f x))
theorem kN_inj {x y : Nat} (h : kN x = kN y) : x = y := Int.ofNat.inj (Sum.inl.inj h)
theorem dF_val (f : Nat → Nat) : ∀ (xs : List Nat) (x : Nat), valV (dF f xs) (kN x) = if x ∈ xs then some (iV (f x)) else none
  | [], x => by simp [dF, valV]
  | a :: xs, x => by
    show valV ((kN a, iV (f a)) :: dF f xs) (kN x) = _
    by_cases h : a = x
    · subst h
      rw [valV_pos rfl, if_pos List.mem_cons_self]
    · rw [valV_neg (fun z => h (kN_inj z)), dF_val f xs x]
      have : (x ∈ a :: xs) ↔ x ∈ xs := by
        rw [List.mem_cons]
        exact ⟨fun z => z.elim (fun e => absurd e.symm h) id, .inr⟩
      by_cases q : x ∈ xs
      · rw [if_pos q, if_pos (this.mpr q)]
      · rw [if_neg q, if_neg (fun z => q (this.mp z))]
theorem dF_put {f : Nat → Nat} {xs : List Nat} {x : Nat} (h : x ∉ xs) : putK (dF f xs) (kN x) (iV (f x)) = dF f (xs ++ [x]) := by
  rw [putK_new _ (by rw [dF_val, if_neg h])]
  unfold dF
  rw [List.map_append]
  rfl
theorem dF_merge {f : Nat → Nat} : ∀ {xs acc : List Nat}, (acc ++ xs).Nodup → mergeK (dF f acc) (dF f xs) = dF f (acc ++ xs)
  | [], acc, _ => by rw [List.append_nil]; rfl
  | x :: xs, acc, h => by
    have hx : x ∉ acc := fun z => by
      have := (List.nodup_append.mp h).2.2 x z x List.mem_cons_self
      exact this rfl
    show mergeK (putK (dF f acc) (kN x) (iV (f x))) (dF f xs) = _
    rw [dF_put hx, dF_merge (xs := xs) (acc := acc ++ [x]) (by rw [List.append_assoc]; exact h), List.append_assoc]
    rfl
theorem dF_keys (f : Nat → Nat) (xs : List Nat) : (dF f xs).map (·.1) = (zI xs).map Sum.inl := by
  unfold dF zI
  rw [List.map_map, List.map_map]
  rfl
theorem dF_len (f : Nat → Nat) (xs : List Nat) : (dF f xs).length = xs.length := by simp [dF]
theorem dF_congr {f g : Nat → Nat} {xs : List Nat} (h : ∀ x ∈ xs, f x = g x) : dF f xs = dF g xs := List.map_congr_left fun x hx => by rw [h x hx]
section
variable {K : PySem.W.Frag} {H H' B : Hp} {σ : L2.St} {te ta tb : TE} {tt : TT} {d e : PyData} {ds es : List PyData} {D : Ends} {tz : TS}
/-- d[x] -/
theorem evd_get {i x : Nat} {a : Addr} {f : Nat → Nat} {xs : List Nat} (h : σ[i]? = some (some (.ref a))) (ha : H a = some (.dK (dF f xs))) (hb : EvD K tb σ H (nD x)) (hx : x ∈ xs) : EvD K (tDGet (tVar i) tb) σ H (nD (f x)) := fun H1 e1 Q q =>
  ⟨_, h, hb H1 e1 _ fun v H2 e2 hv => ⟨a, iV (f x), rfl, by
    have := DGet.k (k := kN x) (e2 _ _ (e1 _ _ ha))
    rw [dF_val, if_pos hx] at this
    rw [Dp.int_eq hv]
    exact this, q _ H2 e2 (.int _)⟩⟩
/-- d[x] = y, x new -/
theorem s_putD {i x : Nat} {a : Addr} {f : Nat → Nat} {xs : List Nat} (h : σ[i]? = some (some (.ref a))) (ha : H a = some (.dK (dF f xs))) (hv : EvD K te σ H (nD (f x))) (hb : EvD K tb σ H (nD x)) (hx : x ∉ xs) (hl : xs.length < 100000)
    (k : ∀ H1, Ex H H1 → D.nx σ (upd H1 a (.dK (dF f (xs ++ [x]))))) : sDPut (tVar i) tb te D σ H :=
  hv H (Ex.refl _) _ fun v H1 e1 hv => ⟨_, h, hb H1 e1 _ fun u H2 e2 hu => by
    have e := (e1.trans e2) _ _ ha
    refine ⟨a, upd H2 a (.dK (putK (dF f xs) (kN x) v)), rfl, ?_, ?_⟩
    · rw [Dp.int_eq hu]
      exact DPut.k (k := kN x) e (by rw [dF_len]; exact Evl.sz_lt hl)
    · rw [Dp.int_eq hv]
      have : putK (dF f xs) (kN x) (V.int (f x : Int)) = dF f (xs ++ [x]) := dF_put hx
      rw [this]
      exact k H2 (e1.trans e2)⟩
/-- a new dict -/
def EvF (te : TE) (σ : L2.St) (H : Hp) (f : Nat → Nat) (xs : List Nat) : Prop := ∀ H1, Ex H H1 → ∀ Q : VK, (∀ p H2, H1 p = none → Ex H1 H2 → H2 p = some (.dK (dF f xs)) → Q (.ref p) H2) → te σ H1 Q
theorem evf_new {f : Nat → Nat} : EvF tDNewK σ H f [] := fun H1 _ Q q p hp => q p _ hp (Ex.new hp) upd_same
theorem q_asgF {i : Nat} {f : Nat → Nat} {xs : List Nat} (h : EvF te σ H f xs) (k : ∀ p H1, H p = none → Ex H H1 → H1 p = some (.dK (dF f xs)) → tz D (σ.set i (some (.ref p))) H1) : tSeq (tAsg te (gName i)) tz D σ H := h H (Ex.refl _) _ k
/-- sorted(d) -/
def rSortedF : List V → Hp → VK → Prop := fun xs H Q => ∃ (a : Addr) (kvs : List (Key × V)) (ks : List Int), xs = [.ref a] ∧ Rd H a (.dK kvs) ∧ kvs.map (·.1) = ks.map Sum.inl ∧ ks.length < 64 ∧
    ∀ (ys : List Int) (p : Addr), ys.Perm ks → ys.Pairwise (· ≤ ·) → H p = none → Q (.ref p) (upd H p (.lst (ys.map V.int)))
theorem evn_sortedF {i : Nat} {a : Addr} {f : Nat → Nat} {xs : List Nat} (h : σ[i]? = some (some (.ref a))) (ha : H a = some (.dK (dF f xs))) (hl : xs.length < 64) : EvN K (tCB rSortedF (tCons (tVar i) tNil)) σ H ((srtN xs).map nD) := fun H1 e1 Q q =>
  ⟨_, h, a, dF f xs, zI xs, rfl, .inl (e1 _ _ ha), dF_keys f xs, by simpa [zI] using hl, fun ys p hp hs hn => by
    rw [srtN_int hp hs]
    exact q p _ _ hn (Ex.new hn) upd_same (ints_dp _)⟩
/-- dict(pairs) -/
def rDictP (K : PySem.W.Frag) : List V → Hp → VK → Prop := fun xs H Q => ∃ (a : Addr) (ps : List Addr) (kvs : List (Key × V)), xs = [.ref a] ∧ SqL K H a (ps.map V.ref) ∧ Paired (fun p kv => SqT K H p [kV kv.1, kv.2]) ps kvs ∧
    ∀ p, H p = none → Q (.ref p) (upd H p (.dK (mergeK [] kvs)))
theorem pairs_at {f : Nat → Nat} : ∀ {vs : List V} {xs : List Nat}, DpAll K H vs (xs.map fun x => .tuple [nD x, nD (f x)]) → ∃ ps, vs = ps.map V.ref ∧ Paired (fun p (kv : Key × V) => SqT K H p [kV kv.1, kv.2]) ps (dF f xs)
  | [], [], _ => ⟨[], rfl, .nil⟩
  | [], _ :: _, h => by cases h
  | _ :: _, [], h => by cases h
  | v :: vs, x :: xs, h => by
    cases h with
    | cons a t =>
      obtain ⟨ps, rfl, hp⟩ := pairs_at t
      obtain ⟨p, ys, rfl, s, hd⟩ := a.tup_at
      obtain ⟨y, z, rfl, hy, hz⟩ := arg2 hd
      have ey := Dp.int_eq hy
      have ez := Dp.int_eq hz
      subst ey ez
      exact ⟨p :: ps, rfl, .cons s hp⟩
theorem evf_dict {f : Nat → Nat} {xs : List Nat} (h : EvD K ta σ H (.list (xs.map fun x => .tuple [nD x, nD (f x)]))) (hn : xs.Nodup) : EvF (tCB (rDictP K) (tCons ta tNil)) σ H f xs := fun H1 e1 Q q => h H1 e1 _ fun v H2 e2 hv => by
  obtain ⟨a, vs, rfl, s, hd⟩ := hv.lst_at
  obtain ⟨ps, rfl, hp⟩ := pairs_at hd
  refine ⟨a, ps, dF f xs, rfl, s, hp, fun p hpn => ?_⟩
  have : mergeK [] (dF f xs) = dF f xs := dF_merge (acc := []) (by simpa using hn)
  rw [this]
  exact q p _ (Evl.fresh_back e2 hpn) (e2.trans (Ex.new hpn)) upd_same
theorem TEx.dK {a : Addr} {xs ys : List (Key × V)} (h : H a = some (.dK xs)) : TEx H (upd H a (.dK ys)) := TEx.dct h
end
end PR
set_option maxHeartbeats 400000
namespace PR
open PySem PySem.Spec PyProof.Rows L2
open Evl (Ex EvT)
theorem sc__law_finer : FnScope ["_law_one", "_law_other_so", "_law_lot", "_law_part", "_law_some", "_law_point"] ["_law_one", "_law_other_so"] (defScope (top 51)) := ⟨rfl, rfl, rfl, by decide +kernel, rfl, by decide +kernel, by decide +kernel⟩
theorem sc__law_turn : FnScope ["_law_parting_so", "_law_found", "_law_lot", "_law_at", "_law_point"] ["_law_parting_so"] (defScope (top 48)) := ⟨rfl, rfl, rfl, by decide +kernel, rfl, by decide +kernel, by decide +kernel⟩
theorem sc__law_lots : FnScope ["_law_turn_so", "_law_found", "_law_point", "_law_lot", "_law_here"] ["_law_turn_so"] (defScope (top 49)) := ⟨rfl, rfl, rfl, by decide +kernel, rfl, by decide +kernel, by decide +kernel⟩
theorem sc__law_completed : FnScope ["_law_parting_so", "_law_turn_so", "_law_many", "_law_back", "_law_at", "_law_one", "_law_point"] ["_law_parting_so"] (defScope (top 55)) := ⟨rfl, rfl, rfl, by decide +kernel, rfl, by decide +kernel, by decide +kernel⟩
/-! one parting within another -/
def finB (p q : Part) : Bool := p.all fun l => l.all fun x => hasL (lotOf q (headN l)) x
theorem finB_iff {n : Nat} {p q : Part} (hp : Parts n p) (hq : Parts n q) : finB p q = true ↔ ∀ x y, Same p x y → Same q x y := by
  unfold finB
  rw [List.all_eq_true]
  constructor
  · rintro h x y ⟨l, hl, hx, hy⟩
    have h1 := List.all_eq_true.mp (h l hl)
    have hm := lotOf_mem hq (hp.bd l hl _ (headN_mem (hp.ne l hl)))
    exact ⟨_, hm.1, hasL_iff.mp (h1 x hx), hasL_iff.mp (h1 y hy)⟩
  · intro h l hl
    refine List.all_eq_true.mpr fun x hx => hasL_iff.mpr ?_
    have hh := headN_mem (hp.ne l hl)
    have hm := lotOf_mem hq (hp.bd l hl _ hh)
    exact (hq.mem_iff hm.1 hm.2 x).mpr (h _ _ ⟨l, hl, hh, hx⟩)
def preFinB : List PyData → PyData → Prop := fun ds d => ∃ n p q, ds = [eP p, eP q] ∧ Parts n p ∧ Parts n q ∧ n ≤ 100 ∧ d = .bool (finB p q)
def preTurnL : List PyData → PyData → Prop := fun ds d => ∃ n p t, ds = [eP p] ∧ Parts n p ∧ n < 64 ∧ t.length = n ∧ TurnL p (tOf t) ∧ d = eL t
def preComplL : List PyData → PyData → Prop := fun ds d => ∃ n p C, ds = [eP p] ∧ Canon n p ∧ NC (Same p) ∧ 0 < n ∧ n < 64 ∧ Canon n C ∧ (∀ x y, Same C x y ↔ KR n (Same p) x y) ∧ d = eP C
theorem filter_head {q : Part} {a : Nat} {l : List Nat} (h : (q.find? fun l => hasL l a) = some l) : ((q.filter fun l => hasL l a).map eL)[0]? = some (eL l) := by
  have : (q.filter fun l => hasL l a).head? = some l := by
    rw [List.head?_filter]
    exact h
  cases e : q.filter fun l => hasL l a with
  | nil => rw [e] at this; cases this
  | cons m r =>
    rw [e] at this
    cases this
    rfl
section
variable {P : Program} {w : World} {K : PySem.W.Frag} {mg : Str → Option Value} {base : Heap}
theorem ok_law_finer (N : Fr mg) (D : IsD K mg "_law_finer" 51) : Has P w K mg base CX0 1 "_law_finer" ["_law_one", "_law_other_so"] (spD K 2 preFinB) := by
  refine mk_has D sc__law_finer (fun _ _ _ _ _ _ us hl => match us, hl with | [_, _], _ => rfl) (fun vs H Q E h => h.1) fun f cdv A outer s H vs Q E hr h => ?_
  refine ⟨_, PSs.nox (pss_cons (ps_for PassesOwn.never rfl (show PI _ _ _ (iTup K _) from pi_tup (pv 0)) (pg_name (i := 2) (sc__law_finer).nd rfl (by first | exact Or.inl rfl | exact Or.inr rfl)) (pss_cons (ps_set (i := 3) (sc__law_finer).nd (by rfl) (by first | exact Or.inl rfl | exact Or.inr rfl) (pe_ix (r := rIxL K) ix_list (pe_lc (own := [("_law_some", 4)]) (g := gName 4) rfl (sc__law_finer).nd (show PI _ _ _ (iTup K _) from pi_tup (pv 1)) (blkOk_by (own := [("_law_some", 4)]) (N := ["_law_one", "_law_other_so", "_law_lot", "_law_part", "_law_some", "_law_point"]) (sc := defScope (top 51)) (by decide +kernel)) (fun _ _ _ _ _ => (pg_name (i := 4) (sc__law_finer).nd rfl (by first | exact Or.inl rfl | exact Or.inr rfl))) (fun _ _ _ _ _ => (pts_one (pt_cmpR (r := rIn K false) op_in_seq (pe_ix (r := rIxT K) ix_tup (pv 2) pe_int (by intro _ _; rfl)) (pv 4) (by rfl)))) (fun _ _ _ _ _ => (pv 4))) pe_int (by intro _ _; rfl))) (pss_one (ps_if (pt_cmpR (r := rNeD K) (op_neD hr.units) (pe_lc (own := [("_law_point", 5)]) (g := gName 5) rfl (sc__law_finer).nd (show PI _ _ _ (iTup K _) from pi_tup (pv 2)) (blkOk_by (own := [("_law_point", 5)]) (N := ["_law_one", "_law_other_so", "_law_lot", "_law_part", "_law_some", "_law_point"]) (sc := defScope (top 51)) (by decide +kernel)) (fun _ _ _ _ _ => (pg_name (i := 5) (sc__law_finer).nd rfl (by first | exact Or.inl rfl | exact Or.inr rfl))) (fun _ _ _ _ _ => (pts_one (pt_cmpR (r := rIn K true) op_notIn_seq (pv 5) (pv 3) (by rfl)))) (fun _ _ _ _ _ => (pv 5))) (pe_lst pa_nil) (nomark _)) (pss_one (ps_ret pe_bl)) pss_nil)))) (pss_one (ps_ret pe_bl))), ?_⟩
  obtain ⟨_, ds, d, hd, ⟨n, p, q', rfl, hp, hq, hn, rfl⟩, q⟩ := h
  obtain ⟨v, u, rfl, hv, hu⟩ := arg2 hd
  refine q_forI (B := H) (evi_tupV rfl hv) (Ex.refl H) (fun i σ' H' => (∃ x y z a, σ' = [some v, some u, x, y, z, a]) ∧ Ex H H' ∧ ∀ l ∈ p.take i, (l.all fun x => hasL (lotOf q' (headN l)) x) = true) (fun H1 e1 => ⟨⟨_, _, _, _, rfl⟩, e1, fun l hl => by cases hl⟩) (fun i σ' H' _ h => h.2.1) (fun i d x σ' H1 H' hdi hP e1 hx => ?_) (fun σ' H' hP => ?_)
  · obtain ⟨⟨x0, y0, z0, a0, rfl⟩, e0, hall⟩ := hP
    obtain ⟨l, hl2, rfl⟩ := map_at hdi
    have lm := List.mem_of_getElem? hl2
    have hll := hp.lot_len lm
    have hne := hp.ne l lm
    have e2 := e0.trans e1
    have hm := lotOf_mem hq (hp.bd l lm _ (headN_mem hne))
    have hfind : (q'.find? fun l' => hasL l' (headN l)) = some (lotOf q' (headN l)) := by
      unfold lotOf
      cases e : q'.find? fun l' => hasL l' (headN l) with
      | some m => rfl
      | none =>
        have := List.find?_eq_none.mp e _ hm.1
        exact absurd (hasL_iff.mpr hm.2) (by simpa using this)
    show tSeq _ _ _ _ _
    refine q_asgD (K := K) (d := eL (lotOf q' (headN l))) (evd_ixL (j := 0) (evn_filterT (en := eL) (F := eL) (p := fun l' => hasL l' (headN l)) (evj_tup (evd_var rfl (hu.ex e2))) (by have := hq.len; omega) (fun _ _ _ => tupO_eL _) (fun _ => rfl) (fun m hm y H3 e3 hy => evt_test (evd_mem (evd_ixT (j := 0) (evd_var rfl (hx.ex e3)) evd_int (head_get hne)) (evd_var rfl hy))) fun m hm _ y H3 e3 hy => evd_var rfl hy).dat evd_int (filter_head hfind)) fun z H3 e3 hz => ?_
    refine Evl.s_when (b := !(l.all fun x => hasL (lotOf q' (headN l)) x)) (Evl.et_is (evt_test (evd_ne (evn_filterT (en := nD) (F := nD) (p := fun x => !hasL (lotOf q' (headN l)) x) (evj_tup (evd_var rfl (hx.ex e3))) (by omega) (fun _ _ _ => rfl) (fun _ => rfl) (fun a ha y H4 e4 hy => evt_test (evd_nmem (evd_var rfl hy) (evd_var rfl (hz.ex e4)))) fun a ha _ y H4 e4 hy => evd_var rfl hy).dat (evn_lst eda_nil (by decide)).dat (sh_lN _) (sh_lN []))) ?_) (fun hb H4 e4 => ?_) (fun hb H4 e4 => ?_)
    · rw [show (.list [] : PyData) = .list (([] : List Nat).map nD) from rfl, eqv_lst eqv_nD]
      congr 1
      cases h : l.all fun x => hasL (lotOf q' (headN l)) x with
      | true =>
        rw [decide_eq_true_iff, List.filter_eq_nil_iff]
        intro x hx
        have := List.all_eq_true.mp h x hx
        rw [this]
        decide
      | false =>
        rw [decide_eq_false_iff_not]
        intro hf
        rw [List.filter_eq_nil_iff] at hf
        have : (l.all fun x => hasL (lotOf q' (headN l)) x) = true := List.all_eq_true.mpr fun x hx => by simpa using hf x hx
        rw [this] at h
        cases h
    · refine s_retC (q _ H4 ((e2.trans e3).trans e4) ?_)
      have : finB p q' = false := by
        refine Bool.eq_false_iff.mpr fun z => ?_
        have := List.all_eq_true.mp z l lm
        rw [this] at hb
        cases hb
      rw [this]
      exact .bl false
    · refine ⟨⟨_, _, _, _, rfl⟩, (e2.trans e3).trans e4, fun m hm => ?_⟩
      rw [List.take_add_one, hl2] at hm
      rcases List.mem_append.mp hm with hm | hm
      · exact hall m hm
      · cases List.mem_singleton.mp hm
        simpa using hb
  · obtain ⟨⟨x0, y0, z0, a0, rfl⟩, e0, hall⟩ := hP
    rw [List.length_map, List.take_length] at hall
    refine s_retC (q _ H' e0 ?_)
    rw [show finB p q' = true from List.all_eq_true.mpr hall]
    exact .bl true
theorem ok_law_turn (N : Fr mg) (D : IsD K mg "_law_turn" 48) : Has P w K mg base CX0 1 "_law_turn" ["_law_parting_so"] (spD K 1 preTurnL) := by
  refine mk_has D sc__law_turn (fun _ _ _ _ _ _ us hl => match us, hl with | [_], _ => rfl) (fun vs H Q E h => h.1) fun f cdv A outer s H vs Q E hr h => ?_
  refine ⟨_, PSs.nox (pss_cons (ps_set (i := 1) (sc__law_turn).nd (by rfl) (by first | exact Or.inl rfl | exact Or.inr rfl) pe_dnewK) (pss_cons (ps_for PassesOwn.never rfl (show PI _ _ _ (iTup K _) from pi_tup (pv 0)) (pg_name (i := 2) (sc__law_turn).nd rfl (by first | exact Or.inl rfl | exact Or.inr rfl)) (pss_one (ps_for PassesOwn.never rfl (show PI _ _ _ (iEnumT K _) from pi_enumT (by rfl) N.f_enumerate (pa_cons (pv 2) pa_nil)) (pg_tup rfl (pgs_cons (pg_name (i := 3) (sc__law_turn).nd rfl (by first | exact Or.inl rfl | exact Or.inr rfl)) (pgs_cons (pg_name (i := 4) (sc__law_turn).nd rfl (by first | exact Or.inl rfl | exact Or.inr rfl)) pgs_nil))) (pss_one (ps_dput hr.u1 (pv 1) (pv 4) (pe_ifExp (pt_cmpR op_lt (pe_op op_add (pv 3) pe_int) (pe_callB (r := Evl.rLenS K) call_len_seq (by rfl) N.f_len boot_len (pa_cons (pv 2) pa_nil)) (nomark _)) (pe_ix (r := rIxT K) ix_tup (pv 2) (pe_op op_add (pv 3) pe_int) (by intro _ _; rfl)) (pe_ix (r := rIxT K) ix_tup (pv 2) pe_int (by intro _ _; rfl))) (by rfl)))))) (pss_one (ps_ret (pe_callTy (r := rTupS K) call_tuple_of (by rfl) N.f_tuple (by decide +kernel) (pa_cons (pe_lc (own := [("_law_point", 4)]) (g := gName 4) rfl (sc__law_turn).nd (show PI _ _ _ (iList K _) from pi_list (pe_callB (r := rSortedF) (call_sortedDI rfl) (by rfl) N.f_sorted (by decide +kernel) (pa_cons (pv 1) pa_nil))) (blkOk_by (own := [("_law_point", 4)]) (N := ["_law_parting_so", "_law_found", "_law_lot", "_law_at", "_law_point"]) (sc := defScope (top 48)) (by decide +kernel)) (fun _ _ _ _ _ => (pg_name (i := 4) (sc__law_turn).nd rfl (by first | exact Or.inl rfl | exact Or.inr rfl))) (fun _ _ _ _ _ => pts_nil) (fun _ _ _ _ _ => (pe_dget hr.u1 (pv 1) (pv 4) (by intro _ _; rfl)))) pa_nil)))))), ?_⟩
  obtain ⟨_, ds, d, hd, ⟨n, p, t, rfl, hp, hn, htl, hT, rfl⟩, q⟩ := h
  obtain ⟨v, rfl, hv⟩ := arg1 hd
  refine q_asgF (evf_new (f := tOf t)) fun r H1 hr0 e1 hr1 => ?_
  refine q_forT (evk_tupV rfl (hv.ex e1) (tupOs_eL p)) (fun i σ' H' => (∃ x y z, σ' = [some v, some (.ref r), x, y, z] ∧ H' r = some (.dK (dF (tOf t) (p.take i).flatten))) ∧ Ex H H' ∧ TEx H1 H') ⟨⟨_, _, _, rfl, hr1⟩, e1, TEx.refl _⟩ (fun i σ' H' _ h => h.2.2) (fun i d x σ' H2 H' hdi hP e2 hx => ?_) (fun σ' H' hP => ?_)
  · obtain ⟨⟨x0, y0, z0, rfl, hr2⟩, e0, t0⟩ := hP
    obtain ⟨l, hl2, rfl⟩ := map_at hdi
    have lm := List.mem_of_getElem? hl2
    have hll := hp.lot_len lm
    have asc := hp.asc l lm
    have e3 := e0.trans e2
    have hlen : (p.take i).flatten.length ≤ n := by
      have h1 : (p.take i).flatten.length ≤ p.flatten.length := by
        conv => rhs; rw [← List.take_append_drop i p]
        rw [List.flatten_append, List.length_append]
        omega
      have h2 := len_flat p
      have h3 := hp.size
      omega
    show tFor _ _ _ _ _ _
    refine s_forT (evk_enumV rfl hx (tupOs_nD l)) (fun j σ2 H2 => (∃ y z, σ2 = [some v, some (.ref r), some x, y, z] ∧ H2 r = some (.dK (dF (tOf t) ((p.take i).flatten ++ l.take j)))) ∧ Ex H H2 ∧ TEx H' H2) ⟨⟨_, _, rfl, by rw [List.take_zero, List.append_nil]; exact e2 _ _ hr2⟩, e3, TEx.refl _⟩ (fun i σ' H' _ h => h.2.2) (fun j d2 y σ2 H3 H4 hdj hP2 e4 hy => ?_) (fun σ2 H3 hP2 => ?_)
    · obtain ⟨⟨y1, z1, rfl, hr3⟩, e5, t5⟩ := hP2
      obtain ⟨e, he, rfl⟩ := enD_at hdj
      obtain ⟨a, ha, rfl⟩ := map_at he
      obtain ⟨hj, ej⟩ := List.getElem?_eq_some_iff.mp ha
      have am : a ∈ l := ej ▸ List.getElem_mem hj
      refine tg_pair' hy fun b c hb hc => ?_
      have hx4 : Dp K H4 x (eL l) := (Dp.tex t5 _ (tupO_eL l) hx).ex e4
      have hTa : tOf t a = l.getD ((j + 1) % l.length) 0 := by
        have := hT l lm j hj
        rw [ej] at this
        rw [this, List.getD_eq_getElem?_getD, List.getElem?_eq_getElem (Nat.mod_lt _ (by omega))]
        rfl
      have hnew : a ∉ (p.take i).flatten ++ l.take j := by
        rw [List.mem_append]
        rintro (z | z)
        · obtain ⟨m, hm, hz⟩ := List.mem_flatten.mp z
          obtain ⟨i', hi', em⟩ := List.getElem_of_mem hm
          rw [List.length_take] at hi'
          rw [List.getElem_take] at em
          have mi : p[i']? = some m := by rw [← em]; exact List.getElem?_eq_getElem (by omega)
          exact hp.dis_at (by omega : i' ≠ i) mi hl2 a hz am
        · obtain ⟨k, hk, ek⟩ := List.getElem_of_mem z
          rw [List.length_take] at hk
          rw [List.getElem_take] at ek
          have := asc_lt asc (show k < l.length by omega) hj (by omega)
          omega
      refine s_putD (K := K) (x := a) rfl (e4 _ _ hr3) ?_ (evd_var rfl hc) hnew (by rw [List.length_append, List.length_take]; omega) fun H5 e6 => ⟨⟨_, _, rfl, ?_⟩, Ex.mut ((e5.trans e4).trans e6) hr0, (t5.trans (Ex.t (e4.trans e6))).trans (TEx.dK (e6 _ _ (e4 _ _ hr3)))⟩
      · refine evd_if (b := decide (j + 1 < l.length)) (Evl.et_is (evt_test (evt_lt (K := K) (evd_add (evd_var rfl hb) evd_int) (evd_lenT (evd_var rfl hx4)))) ?_) (fun hc1 => ?_) (fun hc1 => ?_)
        · rw [List.length_map]
          exact decide_eq_decide.mpr (by omega)
        · have h1 : j + 1 < l.length := of_decide_eq_true hc1
          rw [hTa, Nat.mod_eq_of_lt h1]
          refine evd_ixT (j := j + 1) (evd_var rfl hx4) (evd_add (evd_var rfl hb) evd_int) ?_
          rw [List.getElem?_map, List.getElem?_eq_getElem h1, List.getD_eq_getElem?_getD, List.getElem?_eq_getElem h1]
          rfl
        · have h1 : ¬ j + 1 < l.length := of_decide_eq_false hc1
          have h2 : j + 1 = l.length := by omega
          rw [hTa, h2, Nat.mod_self]
          refine evd_ixT (j := 0) (evd_var rfl hx4) evd_int ?_
          rw [List.getElem?_map, List.getElem?_eq_getElem (by omega), List.getD_eq_getElem?_getD, List.getElem?_eq_getElem (by omega)]
          rfl
      · rw [upd_same, List.take_add_one, ha, List.append_assoc]
        rfl
    · obtain ⟨⟨y1, z1, rfl, hr3⟩, e5, t5⟩ := hP2
      refine ⟨⟨_, _, _, rfl, ?_⟩, e5, (t0.trans (Ex.t e2)).trans t5⟩
      rw [enD_len, List.length_map, List.take_length] at hr3
      rw [List.take_add_one, hl2, List.flatten_append]
      simpa using hr3
  · obtain ⟨⟨x0, y0, z0, rfl, hr2⟩, e0, t0⟩ := hP
    rw [List.length_map, List.take_length] at hr2
    have fl : srtN p.flatten = List.range n := perm_sorted (le := (· ≤ ·)) (fun _ _ => Nat.le_antisymm) ((srtN_perm _).trans hp.flat_perm) (srtN_le _) ((range_pw n).imp fun q => Nat.le_of_lt q)
    have hl := len_flat p
    have hsz := hp.size
    refine s_retD (K := K) (evd_is (evd_tupL (evn_mapT (l := srtN p.flatten) (en := nD) (F := fun x => nD (tOf t x)) (evj_list (evn_sortedF rfl hr2 (by omega)).dat) (by rw [(srtN_perm _).length_eq]; omega) (fun _ _ => rfl) (fun _ => rfl) fun a ha y H3 e3 hy => evd_get (f := tOf t) rfl (e3 _ _ hr2) (evd_var rfl hy) (srtN_mem.mp ha)).dat) ?_) fun z H3 e3 hz => q z H3 (e0.trans e3) hz
    rw [fl]
    unfold eL
    congr 1
    refine List.ext_getElem? fun k => ?_
    rw [List.getElem?_map, List.getElem?_map]
    by_cases hk : k < n
    · rw [List.getElem?_range hk, List.getElem?_eq_getElem (by omega)]
      unfold tOf
      rw [Option.map_some, Option.map_some, List.getD_eq_getElem?_getD, List.getElem?_eq_getElem (by omega)]
      rfl
    · rw [List.getElem?_eq_none (by simp; omega), List.getElem?_eq_none (by omega)]
      rfl
theorem ok_law_lots (N : Fr mg) (D : IsD K mg "_law_lots" 49) : Has P w K mg base CX0 1 "_law_lots" ["_law_turn_so"] (spD K 1 preLotsBy) := by
  refine mk_has D sc__law_lots (fun _ _ _ _ _ _ us hl => match us, hl with | [_], _ => rfl) (fun vs H Q E h => h.1) fun f cdv A outer s H vs Q E hr h => ?_
  refine ⟨_, PSs.nox (pss_cons (ps_set (i := 1) (sc__law_lots).nd (by rfl) (by first | exact Or.inl rfl | exact Or.inr rfl) (pe_lst pa_nil)) (pss_cons (ps_for PassesOwn.never rfl (pi_range1 (by rfl) N.f_range (pa_cons (pe_callB (r := Evl.rLenS K) call_len_seq (by rfl) N.f_len boot_len (pa_cons (pv 0) pa_nil)) pa_nil)) (pg_name (i := 2) (sc__law_lots).nd rfl (by first | exact Or.inl rfl | exact Or.inr rfl)) (pss_cons (ps_par (i := 3) (j := 4) rfl (sc__law_lots).nd (by rfl) (by rfl) (by decide) (by rfl) (by rfl) (pa_cons (pe_lst (pa_cons (pv 2) pa_nil)) (pa_cons (pe_ix (r := rIxT K) ix_tup (pv 0) (pv 2) (by intro _ _; rfl)) pa_nil)) (by rfl)) (pss_cons (ps_while PassesOwn.never (pt_cmpR op_ne (pv 4) (pv 2) (nomark _)) (pss_cons (ps_expr (show PE _ _ (tBM K _ _ _ _) from pe_bm PySem.F.plainAttrs_list PySem.F.slot_list_append PySem.F.type_list_append mt_append (pv 3) (pa_cons (pv 4) pa_nil))) (pss_one (ps_set (i := 4) (sc__law_lots).nd (by rfl) (by first | exact Or.inl rfl | exact Or.inr rfl) (pe_ix (r := rIxT K) ix_tup (pv 0) (pv 4) (by intro _ _; rfl)))))) (pss_one (ps_expr (show PE _ _ (tBM K _ _ _ _) from pe_bm PySem.F.plainAttrs_list PySem.F.slot_list_append PySem.F.type_list_append mt_append (pv 1) (pa_cons (pe_callTy (r := rTupS K) call_tuple_of (by rfl) N.f_tuple (by decide +kernel) (pa_cons (pe_callB (r := rSortedI K) cr_sortedI (by rfl) N.f_sorted (by decide +kernel) (pa_cons (pv 3) pa_nil)) pa_nil)) pa_nil))))))) (pss_one (ps_ret (pe_callTy (r := rTupS K) call_tuple_of (by rfl) N.f_tuple (by decide +kernel) (pa_cons (pe_callB (r := rSortedS K P w) (cr_sortedSet rfl) (by rfl) N.f_sorted (by decide +kernel) (pa_cons (pe_callTy (r := rSetOfT K P w) (cr_setOfT rfl hr.units) (by rfl) N.f_set (by decide +kernel) (pa_cons (pv 1) pa_nil)) pa_nil)) pa_nil)))))), ?_⟩
  obtain ⟨_, ds, d, hd, ⟨n, C, t, rfl, hC, htl, hn, hT, rfl⟩, q⟩ := h
  obtain ⟨v, rfl, hv⟩ := arg1 hd
  refine q_asgN (K := K) (ds := []) (evn_lst eda_nil (by decide)) fun r xs H1 hr0 e1 hr1 hxs => ?_
  have hlenT : ∀ (σ : L2.St) (H' : Hp), σ[0]? = some (some v) → Ex H H' → EvD K (tCB (Evl.rLenS K) (tCons (tVar 0) tNil)) σ H' (nD n) := fun σ H' h0 e => evd_is (evd_lenT (evd_var h0 (hv.ex e))) (by rw [List.length_map, htl]; rfl)
  refine q_forI (B := H) (evi_rng1 (n := n) (eda_one (hlenT _ _ rfl (Ex.refl H))) (by omega)) e1 (fun i σ' H' => (∃ x y z r ys, σ' = [some v, some (.ref r), x, y, z] ∧ H r = none ∧ H' r = some (.lst ys) ∧ DpAll K H' ys (((List.range i).map (lotOf C)).map eL)) ∧ Ex H H') (fun H2 e2 => ⟨⟨_, _, _, r, xs, rfl, hr0, e2 _ _ hr1, hxs.ex e2⟩, e1.trans e2⟩) (fun i σ' H' _ h => h.2) (fun i d x σ' H2 H' hdi hP e2 hx => ?_) (fun σ' H' hP => ?_)
  · obtain ⟨⟨x0, y0, z0, r, ys, rfl, hr0, hr2, hys⟩, e0⟩ := hP
    obtain ⟨hin, rfl⟩ := rng_at hdi
    have e3 := e0.trans e2
    obtain ⟨lm, xl⟩ := lotOf_mem hC.parts hin
    have hll := hC.parts.lot_len lm
    have asc := hC.parts.asc _ lm
    generalize hl : lotOf C i = l at lm xl hll asc
    obtain ⟨j, hj, ej⟩ := List.getElem_of_mem xl
    have gj : l.getD j 0 = i := by rw [List.getD_eq_getElem?_getD, List.getElem?_eq_getElem hj]; exact ej
    have gl : ∀ m, l.getD ((j + m) % l.length) 0 < n := fun m => by
      have hp : 0 < l.length := by omega
      rw [List.getD_eq_getElem?_getD, List.getElem?_eq_getElem (Nat.mod_lt _ hp)]
      exact hC.parts.bd l lm _ (List.getElem_mem _)
    have ex := Dp.int_eq hx
    subst ex
    -- lot, here = ([point], turn[point])
    refine q_parND (K := K) (ds := [nD i]) (evn_lst (eda_one (evd_var rfl hx)) (by simp)) (evd_ixT (j := i) (evd_var rfl (hv.ex e3)) (evd_var rfl hx) (tOf_get (by omega))) fun s zs u H4 hs0 e34 hs1 hzs hu => ?_
    have eu := Dp.int_eq hu
    subst eu
    have ez : zs = (rotN l j 1).map iV := by
      have e6 : rotN l j 1 = [i] := by
        show [l.getD ((j + 0) % l.length) 0] = [i]
        rw [Nat.add_zero, Nat.mod_eq_of_lt hj, gj]
      rw [e6]
      exact dp_nats (l := [i]) hzs
    have ne : s ≠ r := fun z => by
      subst z
      rw [e2 _ _ hr2] at hs0
      cases hs0
    have th : tOf t i = l.getD ((j + 1) % l.length) 0 := by
      have := turn_rot (m := 0) hT lm hj
      rw [Nat.add_zero, Nat.mod_eq_of_lt hj, gj] at this
      exact this
    rw [th]
    refine Evl.q_while (fun m σ2 H5 => ∃ k, 1 ≤ k ∧ k ≤ l.length ∧ m = l.length - k ∧ σ2 = [some v, some (.ref r), some (iV i), some (.ref s), some (iV (l.getD ((j + k) % l.length) 0))] ∧ H5 s = some (.lst ((rotN l j k).map iV)) ∧ H5 r = some (.lst ys) ∧ DpAll K H5 ys (((List.range i).map (lotOf C)).map eL) ∧ Ex H H5) (l.length - 1) ⟨1, Nat.le_refl _, by omega, rfl, rfl, by rw [← ez]; exact hs1, e34 _ _ (e2 _ _ hr2), hys.ex (e2.trans e34), e3.trans e34⟩ fun m σ2 H5 hW => ?_
    obtain ⟨k, hk1, hkl, rfl, rfl, hs5, hr5, hys5, e6⟩ := hW
    refine ⟨!decide (k = l.length), Evl.et_is (b := !decide (k = l.length)) (evt_test (evd_neI (i := ((l.getD ((j + k) % l.length) 0 : Nat) : Int)) (j := (i : Int)) (evd_var (K := K) rfl (.int _)) (evd_var (K := K) rfl (.int _)))) ?_, fun hb H6 e7 => ?_, fun hb H6 e7 => ?_⟩
    · congr 1
      refine decide_eq_decide.mpr ?_
      have := rot_back asc hj hk1 hkl
      rw [gj] at this
      exact ⟨fun h => this.mp (Int.ofNat.inj h), fun h => congrArg Int.ofNat (this.mpr h)⟩
    · have hkn : k ≠ l.length := by simpa using hb
      refine ⟨fun σ7 H7 => σ7 = [some v, some (.ref r), some (iV i), some (.ref s), some (iV (l.getD ((j + (k + 1)) % l.length) 0))] ∧ H7 s = some (.lst ((rotN l j (k + 1)).map iV)) ∧ H7 r = some (.lst ys) ∧ DpAll K H7 ys (((List.range i).map (lotOf C)).map eL) ∧ Ex H H7, fun σ7 H7 hN => ⟨l.length - (k + 1), by omega, k + 1, by omega, by omega, rfl, hN.1, hN.2⟩, ?_⟩
      refine q_appD (K := K) (d := nD (l.getD ((j + k) % l.length) 0)) (e7 _ _ hs5) (Evl.ev_var rfl) (evd_var rfl (.int _)) (by rw [List.length_map, rotN_len]; omega) fun w1 H7 e8 hw1 => ?_
      have ew := Dp.int_eq hw1
      subst ew
      have hz : (rotN l j k).map iV ++ [V.int ((l.getD ((j + k) % l.length) 0 : Nat) : Int)] = (rotN l j (k + 1)).map iV := by
        rw [rotN_succ, List.map_append]
        rfl
      rw [hz]
      have h7s := e8 _ _ (e7 _ _ hs5)
      have sH : H s = none := Evl.fresh_back e3 hs0
      have T := TEx.lst (ys := (rotN l j (k + 1)).map iV) h7s
      refine s_asgD (K := K) (d := nD (tOf t (l.getD ((j + k) % l.length) 0))) (evd_ixT (j := l.getD ((j + k) % l.length) 0) (evd_var rfl ((hv.ex (Ex.mut ((e6.trans e7).trans e8) sH)))) (evd_var rfl (.int _)) (tOf_get (by rw [htl]; exact gl k))) fun w2 H8 e9 hw2 => ?_
      have ew := Dp.int_eq hw2
      subst ew
      rw [turn_rot hT lm hj]
      refine ⟨rfl, e9 _ _ upd_same, e9 _ _ (by rw [upd_ne (Ne.symm ne)]; exact e8 _ _ (e7 _ _ hr5)), (DpAll.tex T _ (tupOs_eL _) (hys5.ex (e7.trans e8))).ex e9, (Ex.mut ((e6.trans e7).trans e8) sH).trans e9⟩
    · have hkn : k = l.length := by simpa using hb
      subst hkn
      refine s_appD (K := K) (d := eL l) (e7 _ _ hr5) (Evl.ev_var rfl) (evd_is (evd_tupL (evn_sortedI (l := rotN l j l.length) (evd_var rfl (.lst (Evl.sq_of (e7 _ _ hs5)) (nats_dp _)))).dat) (by rw [rot_srt asc hj]; rfl)) (by rw [hys5.len]; simp; omega) fun w1 H7 e8 hw1 => ?_
      have h7r := e8 _ _ (e7 _ _ hr5)
      have T := TEx.lst (ys := ys ++ [w1]) h7r
      refine ⟨⟨_, _, _, r, _, rfl, hr0, upd_same, ?_⟩, Ex.mut ((e6.trans e7).trans e8) hr0⟩
      rw [List.range_succ, List.map_append, List.map_append]
      refine DpAll.app (DpAll.tex T _ (tupOs_eL _) (hys5.ex (e7.trans e8))) ?_
      show DpAll K _ [w1] [eL (lotOf C i)]
      rw [hl]
      exact .cons (Dp.tex T _ (tupO_eL l) hw1) .nil
  · obtain ⟨⟨x0, y0, z0, r, ys, rfl, hr0, hr2, hys⟩, e0⟩ := hP
    rw [rng_len] at hys
    refine s_retD (K := K) (evd_is (evd_tupL (evn_sortedS (p := (List.range n).map (lotOf C)) (evd_var rfl (.lst (Evl.sq_of hr2) hys)) (fun l hl => ?_) (by simp; omega)).dat) (by rw [lots_all hC]; rfl)) fun z H3 e3 hz => q z H3 (e0.trans e3) hz
    obtain ⟨k, hk, rfl⟩ := List.mem_map.mp hl
    exact hC.parts.ne _ (lotOf_mem hC.parts (List.mem_range.mp hk)).1
theorem TurnL.inj {n : Nat} {p : Part} {t : Nat → Nat} (h : Parts n p) (T : TurnL p t) {x y : Nat} (hx : x < n) (hy : y < n) (e : t x = t y) : x = y := by
  obtain ⟨l, hl, xl⟩ := h.cov x hx
  obtain ⟨m, hm, ym⟩ := h.cov y hy
  obtain ⟨k, hk, rfl⟩ := List.getElem_of_mem xl
  obtain ⟨j, hj, rfl⟩ := List.getElem_of_mem ym
  rw [T l hl k hk, T m hm j hj] at e
  have e2 := h.uniq hl hm (List.getElem_mem (Nat.mod_lt (k + 1) (by omega : 0 < l.length))) (e ▸ List.getElem_mem (Nat.mod_lt (j + 1) (by omega : 0 < m.length)))
  subst e2
  have asc := h.asc l hl
  have hp : 0 < l.length := by omega
  have e3 : (k + 1) % l.length = (j + 1) % l.length := by
    rcases Nat.lt_trichotomy ((k + 1) % l.length) ((j + 1) % l.length) with q | q | q
    · have := asc_lt asc (Nat.mod_lt _ hp) (Nat.mod_lt _ hp) q; omega
    · exact q
    · have := asc_lt asc (Nat.mod_lt _ hp) (Nat.mod_lt _ hp) q; omega
  have e4 : k = j := by
    by_cases h1 : l.length = 1
    · omega
    · rw [mod_wrap hk (by omega), mod_wrap hj (by omega)] at e3
      split at e3 <;> split at e3 <;> omega
  subst e4
  rfl
theorem turn_nd {n : Nat} {p : Part} (h : Parts n p) {t : List Nat} (htl : t.length = n) (T : TurnL p (tOf t)) : t.Nodup := by
  unfold List.Nodup
  rw [List.pairwise_iff_getElem]
  intro i j hi hj hij e
  have g : ∀ k, (hk : k < t.length) → tOf t k = t[k] := fun k hk => by
    unfold tOf
    rw [List.getD_eq_getElem?_getD, List.getElem?_eq_getElem hk]
    rfl
  have := T.inj h (x := i) (y := j) (by omega) (by omega) (by rw [g i hi, g j hj, e])
  omega
theorem idxN_nd {t : List Nat} (nd : t.Nodup) {i : Nat} (hi : i < t.length) : idxN t t[i] = i := by
  obtain ⟨a1, a2, a3⟩ := idxN_at (List.getElem_mem hi)
  rw [List.getElem?_eq_getElem a3] at a1
  have e := Option.some.inj a1
  unfold List.Nodup at nd
  have pw := List.pairwise_iff_getElem.mp nd
  rcases Nat.lt_trichotomy (idxN t t[i]) i with q | q | q
  · exact absurd e (pw _ _ a3 hi q)
  · exact q
  · exact absurd e.symm (pw _ _ hi a3 q)
theorem turn_ex {n : Nat} {p : Part} (h : Parts n p) : ∃ t : List Nat, t.length = n ∧ TurnL p (tOf t) := by
  let f : Nat → Nat := fun x => (lotOf p x).getD (((lotOf p x).findIdx fun y => decide (y = x)) + 1) ((lotOf p x).headD 0)
  refine ⟨(List.range n).map fun x => (lotOf p x).getD ((idxN (lotOf p x) x + 1) % (lotOf p x).length) 0, by simp, fun l hl k hk => ?_⟩
  have hb := h.bd l hl _ (List.getElem_mem hk)
  have nd : l.Nodup := (h.asc l hl).imp fun q => Nat.ne_of_lt q
  unfold tOf
  rw [List.getD_eq_getElem?_getD, List.getElem?_map, List.getElem?_range hb, Option.map_some, Option.getD_some, lotOf_eq h hl (List.getElem_mem hk), idxN_nd nd hk, List.getD_eq_getElem?_getD, List.getElem?_eq_getElem (Nat.mod_lt _ (by omega))]
  rfl
theorem ok_law_completed (N : Fr mg) (D : IsD K mg "_law_completed" 55) (h__law_turn : Has P w K mg base CX0 1 "_law_turn" ["_law_parting_so"] (spD K 1 preTurnL)) (h__law_lots : Has P w K mg base CX0 1 "_law_lots" ["_law_turn_so"] (spD K 1 preLotsBy)) : Has P w K mg base CX0 2 "_law_completed" ["_law_parting_so"] (spD K 1 preComplL) := by
  refine mk_has D sc__law_completed (fun _ _ _ _ _ _ us hl => match us, hl with | [_], _ => rfl) (fun vs H Q E h => h.1) fun f cdv A outer s H vs Q E hr h => ?_
  refine ⟨_, PSs.nox (pss_cons (ps_set (i := 1) (sc__law_completed).nd (by rfl) (by first | exact Or.inl rfl | exact Or.inr rfl) (pe_fn h__law_turn hr (by decide) (by rfl) pass0 (pa_cons (pv 0) pa_nil))) (pss_cons (ps_set (i := 2) (sc__law_completed).nd (by rfl) (by first | exact Or.inl rfl | exact Or.inr rfl) (pe_callB (r := Evl.rLenS K) call_len_seq (by rfl) N.f_len boot_len (pa_cons (pv 1) pa_nil))) (pss_cons (ps_set (i := 3) (sc__law_completed).nd (by rfl) (by first | exact Or.inl rfl | exact Or.inr rfl) (pe_callTy (r := rDictP K) (call_dictP rfl) (by rfl) N.f_dict (by decide +kernel) (pa_cons (pe_lc (own := [("_law_at", 4), ("_law_one", 5)]) (g := gTup _ 2 (gCons (gName 4) (gCons (gName 5) (gNil)))) rfl (sc__law_completed).nd (show PI _ _ _ (iEnumT K _) from pi_enumT (by rfl) N.f_enumerate (pa_cons (pv 1) pa_nil)) (blkOk_by (own := [("_law_at", 4), ("_law_one", 5)]) (N := ["_law_parting_so", "_law_turn_so", "_law_many", "_law_back", "_law_at", "_law_one", "_law_point"]) (sc := defScope (top 55)) (by decide +kernel)) (fun _ _ _ _ _ => (pg_tup rfl (pgs_cons (pg_name (i := 4) (sc__law_completed).nd rfl (by first | exact Or.inl rfl | exact Or.inr rfl)) (pgs_cons (pg_name (i := 5) (sc__law_completed).nd rfl (by first | exact Or.inl rfl | exact Or.inr rfl)) pgs_nil)))) (fun _ _ _ _ _ => pts_nil) (fun _ _ _ _ _ => (pe_tup (pa_cons (pv 5) (pa_cons (pv 4) pa_nil))))) pa_nil))) (pss_one (ps_ret (pe_fn h__law_lots hr (by decide) (by rfl) pass0 (pa_cons (pe_callTy (r := rTupS K) call_tuple_of (by rfl) N.f_tuple (by decide +kernel) (pa_cons (pe_lc (own := [("_law_point", 6)]) (g := gName 6) rfl (sc__law_completed).nd (pi_range1 (by rfl) N.f_range (pa_cons (pv 2) pa_nil)) (blkOk_by (own := [("_law_point", 6)]) (N := ["_law_parting_so", "_law_turn_so", "_law_many", "_law_back", "_law_at", "_law_one", "_law_point"]) (sc := defScope (top 55)) (by decide +kernel)) (fun _ _ _ _ _ => (pg_name (i := 6) (sc__law_completed).nd rfl (by first | exact Or.inl rfl | exact Or.inr rfl))) (fun _ _ _ _ _ => pts_nil) (fun _ _ _ _ _ => (pe_dget hr.u1 (pv 3) (pe_op op_mod (pe_op op_add (pv 6) pe_int) (pv 2)) (by intro _ _; rfl)))) pa_nil)) pa_nil))))))), ?_⟩
  obtain ⟨_, ds, d, hd, ⟨n, p, C, rfl, hp, hN, hn0, hn, hC, hCK, rfl⟩, q⟩ := h
  obtain ⟨v, rfl, hv⟩ := arg1 hd
  obtain ⟨t, htl, hT⟩ := turn_ex hp.parts
  refine q_asgD (K := K) (d := eL t) (evd_fn (eda_one (evd_var rfl hv)) rfl ⟨n, p, t, rfl, hp.parts, hn, htl, hT, rfl⟩) fun y H1 e1 hy => ?_
  refine q_asgD (K := K) (d := nD n) (evd_is (evd_lenT (evd_var rfl hy)) (by rw [List.length_map, htl]; rfl)) fun z H2 e2 hz => ?_
  have nd := turn_nd hp.parts htl hT
  refine q_asgF (f := idxN t) (xs := t) (evf_dict (K := K) (evd_is (evn_mapPT (l := t.zipIdx) (en := fun p => nD p.2) (en2 := fun p => nD p.1) (F := fun p => .tuple [nD p.1, nD p.2]) (evj_is (evj_enumT (evd_var rfl (hy.ex e2))) ?_) (by rw [List.length_zipIdx]; omega) (fun _ _ => rfl) (fun _ _ => rfl) fun a ha x y' H3 e3 hx hy' => evd_tup (eda_cons (evd_var rfl hy') (eda_one (evd_var rfl hx))) (by simp)).dat ?_) nd) fun r H3 hr0 e3 hr3 => ?_
  · unfold enD
    rw [List.zipIdx_map, List.map_map]
    rfl
  · congr 1
    refine List.ext_getElem (by simp) fun i h1 h2 => ?_
    rw [List.length_map, List.length_zipIdx] at h1
    rw [List.getElem_map, List.getElem_map, List.getElem_zipIdx, idxN_nd nd h1]
    simp
  have memt : ∀ i, (i + 1) % n ∈ t := fun i => by
    obtain ⟨x, hx, e⟩ := hT.onto hp.parts (Nat.mod_lt (i + 1) hn0)
    have : t[x]? = some ((i + 1) % n) := by
      rw [← e]
      unfold tOf
      rw [List.getD_eq_getElem?_getD, List.getElem?_eq_getElem (by omega)]
      rfl
    exact List.mem_of_getElem? this
  have tu : TurnL C (tOf ((List.range n).map fun i => idxN t ((i + 1) % n))) := by
    have e : Same C = KR n (Same p) := funext fun x => funext fun y => propext (hCK x y)
    refine Turn.to_L (n := n) hC.parts ?_
    rw [e]
    refine compl_turn hp.parts.eqv hN (Turn.of_L hp.parts hT) fun i hi => ?_
    have e1 : tOf ((List.range n).map fun i => idxN t ((i + 1) % n)) i = idxN t ((i + 1) % n) := by
      unfold tOf
      rw [List.getD_eq_getElem?_getD, List.getElem?_map, List.getElem?_range hi]
      rfl
    obtain ⟨a1, a2, a3⟩ := idxN_at (memt i)
    rw [e1]
    refine ⟨by omega, ?_⟩
    unfold tOf
    rw [List.getD_eq_getElem?_getD, a1]
    rfl
  refine s_retD (K := K) (evd_fn (eda_one (evd_tupL (evn_mapT (l := List.range n) (en := nD) (F := fun i => nD (idxN t ((i + 1) % n))) (evj_is (evi_rng1 (n := n) (eda_one (evd_var rfl (hz.ex e3))) (by omega)).j ?_) (by simp; omega) (fun _ _ => rfl) (fun _ => rfl) fun i hi y H4 e4 hy => ?_).dat)) rfl ⟨n, C, (List.range n).map fun i => idxN t ((i + 1) % n), ?_, hC, by simp, hn, tu, rfl⟩) fun z H4 e4 hz => q z H4 (((e1.trans e2).trans e3).trans e4) hz
  · unfold rngD
    refine List.map_congr_left fun i _ => ?_
    show PyData.int (0 + (i : Int)) = PyData.int i
    rw [Int.zero_add]
  · exact evd_get (x := (i + 1) % n) (f := idxN t) rfl (e4 _ _ hr3) (evd_is (evd_mod (evd_add (evd_var rfl hy) evd_int) (evd_var rfl (hz.ex (e3.trans e4))) (by omega)) rfl) (memt i)
  · unfold eL
    rw [List.map_map]
    rfl
end
end PR
set_option maxHeartbeats 400000
namespace PR
open PySem PySem.Spec PyProof.Rows L2
open Evl (Ex EvT)
theorem sc__law_where : FnScope ["_law_lots_here", "_law_found", "_law_at", "_law_lot", "_law_point"] ["_law_lots_here"] (defScope (top 54)) := ⟨rfl, rfl, rfl, by decide +kernel, rfl, by decide +kernel, by decide +kernel⟩
theorem sc__law_any_cross : FnScope ["_law_where_here", "_law_many", "_law_a", "_law_c", "_law_inside", "_law_b", "_law_outside", "_law_d", "_law_lot"] ["_law_where_here", "_law_many"] (defScope (top 47)) := ⟨rfl, rfl, rfl, by decide +kernel, rfl, by decide +kernel, by decide +kernel⟩
def atOf (m : Part) (x : Nat) : Nat := m.findIdx fun l => hasL l x
theorem atOf_eq {m : Part} (nd : m.flatten.Nodup) {i : Nat} {l : List Nat} (hi : m[i]? = some l) {x : Nat} (hx : x ∈ l) : atOf m x = i := by
  obtain ⟨h1, e1⟩ := List.getElem?_eq_some_iff.mp hi
  have lt : atOf m x < m.length := List.findIdx_lt_length_of_exists ⟨l, List.mem_of_getElem? hi, hasL_iff.mpr hx⟩
  have at1 : x ∈ m[atOf m x] := hasL_iff.mp (List.findIdx_getElem (p := fun l => hasL l x) (xs := m) (w := lt))
  unfold List.Nodup at nd
  rw [List.pairwise_flatten] at nd
  have pw := List.pairwise_iff_getElem.mp nd.2
  rcases Nat.lt_trichotomy (atOf m x) i with q | q | q
  · exact absurd rfl (pw _ _ lt h1 q x at1 x (e1 ▸ hx))
  · exact q
  · exact absurd rfl (pw _ _ h1 lt q x (e1 ▸ hx) x at1)
def insL (f : Nat → Nat) (lo n : Nat) : List Nat := (List.range n).map fun k => f (lo + k)
def xB (f : Nat → Nat) (n a c : Nat) : Bool := decide (f a = f c) && !((insL f (a + 1) (c - (a + 1))).filter fun l => !decide (l = f a) && hasL (insL f (c + 1) (n - (c + 1))) l).isEmpty
def anyX (f : Nat → Nat) (n : Nat) : Bool := (List.range n).any fun a => (List.range (n - (a + 2))).any fun k => xB f n a (a + 2 + k)
def spWhere (K : PySem.W.Frag) : Sp := fun vs H Q _ => ∃ v m, vs = [v] ∧ Dp K H v (eP m) ∧ m.flatten.Nodup ∧ m.flatten.length ≤ 1000 ∧ ∀ a H', H a = none → Ex H H' → H' a = some (.dK (dF (atOf m) m.flatten)) → Q (.ref a) H'
def spAnyX (K : PySem.W.Frag) : Sp := fun vs H Q _ => ∃ (a : Addr) (f : Nat → Nat) (xs : List Nat) (n : Nat), vs = [.ref a, .int n] ∧ H a = some (.dK (dF f xs)) ∧ (∀ x, x < n → x ∈ xs) ∧ n ≤ 100 ∧ ∀ H', Ex H H' → Q (.bl (anyX f n)) H'
section
variable {P : Program} {w : World} {K : PySem.W.Frag} {mg : Str → Option Value} {base : Heap}
theorem evd_inL {σ : L2.St} {H : Hp} {ta tb : TE} {l : List Nat} {a : Nat} (ha : EvD K ta σ H (nD a)) (hb : EvD K tb σ H (.list (l.map nD))) : EvD K (tOp (rIn K false) ta tb) σ H (.bool (hasL l a)) :=
  evd_op ha hb fun H1 x y _ hx hy Q q => by
    obtain ⟨p, xs, rfl, s, hd⟩ := hy.lst_at
    rw [nD_zI] at hd
    have e1 := hd.ints_eq
    subst e1
    refine ⟨p, _, rfl, .inl s, by rw [Dp.int_eq hx]; rfl, flat_ints _, ?_⟩
    rw [Dp.int_eq hx, inV_ints, decide_eq_decide.mpr zI_mem]
    exact q _ H1 (Ex.refl _) (.bl _)
theorem ok_where (N : Fr mg) (D : IsD K mg "_law_where" 54) : Has P w K mg base CX0 1 "_law_where" ["_law_lots_here"] (spWhere K) := by
  refine mk_has D sc__law_where (fun _ _ _ _ _ _ us hl => match us, hl with | [_], _ => rfl) (fun vs H Q E h => by obtain ⟨v, m, rfl, _⟩ := h; rfl) fun f cdv A outer s H vs Q E hr h => ?_
  refine ⟨_, PSs.nox (pss_cons (ps_set (i := 1) (sc__law_where).nd (by rfl) (by first | exact Or.inl rfl | exact Or.inr rfl) pe_dnewK) (pss_cons (ps_for PassesOwn.never rfl (show PI _ _ _ (iEnumT K _) from pi_enumT (by rfl) N.f_enumerate (pa_cons (pv 0) pa_nil)) (pg_tup rfl (pgs_cons (pg_name (i := 2) (sc__law_where).nd rfl (by first | exact Or.inl rfl | exact Or.inr rfl)) (pgs_cons (pg_name (i := 3) (sc__law_where).nd rfl (by first | exact Or.inl rfl | exact Or.inr rfl)) pgs_nil))) (pss_one (ps_for PassesOwn.never rfl (show PI _ _ _ (iTup K _) from pi_tup (pv 3)) (pg_name (i := 4) (sc__law_where).nd rfl (by first | exact Or.inl rfl | exact Or.inr rfl)) (pss_one (ps_dput hr.u1 (pv 1) (pv 4) (pv 2) (by rfl)))))) (pss_one (ps_ret (pv 1))))), ?_⟩
  obtain ⟨v, p, rfl, hv, nd, hlen, q⟩ := h
  refine q_asgF (evf_new (f := atOf p)) fun r H1 hr0 e1 hr1 => ?_
  refine q_forT (evk_enumV rfl (hv.ex e1) (tupOs_eL p)) (fun i σ' H' => (∃ x y z, σ' = [some v, some (.ref r), x, y, z] ∧ H' r = some (.dK (dF (atOf p) (p.take i).flatten))) ∧ Ex H H' ∧ TEx H1 H') ⟨⟨_, _, _, rfl, hr1⟩, e1, TEx.refl _⟩ (fun i σ' H' _ h => h.2.2) (fun i d x σ' H2 H' hdi hP e2 hx => ?_) (fun σ' H' hP => ?_)
  · obtain ⟨⟨x0, y0, z0, rfl, hr2⟩, e0, t0⟩ := hP
    obtain ⟨e, he, rfl⟩ := enD_at hdi
    obtain ⟨l, hl2, rfl⟩ := map_at he
    have lm := List.mem_of_getElem? hl2
    have hpre : (p.take i).flatten.length + l.length ≤ p.flatten.length := by
      have h1 : p.flatten = (p.take (i + 1)).flatten ++ (p.drop (i + 1)).flatten := by rw [← List.flatten_append, List.take_append_drop]
      rw [h1, List.length_append, List.take_add_one, hl2, List.flatten_append, List.length_append]
      simp
    refine tg_pair' hx fun b c hb hc => ?_
    refine s_forT (evk_tupV rfl hc (tupOs_nD l)) (fun j σ2 H2 => (∃ z, σ2 = [some v, some (.ref r), some b, some c, z] ∧ H2 r = some (.dK (dF (atOf p) ((p.take i).flatten ++ l.take j)))) ∧ Ex H H2 ∧ TEx H' H2) ⟨⟨_, rfl, by rw [List.take_zero, List.append_nil]; exact e2 _ _ hr2⟩, e0.trans e2, TEx.refl _⟩ (fun i σ' H' _ h => h.2.2) (fun j d2 y σ2 H3 H4 hdj hP2 e4 hy => ?_) (fun σ2 H3 hP2 => ?_)
    · obtain ⟨⟨z1, rfl, hr3⟩, e5, t5⟩ := hP2
      obtain ⟨a, ha, rfl⟩ := map_at hdj
      obtain ⟨hj, ej⟩ := List.getElem?_eq_some_iff.mp ha
      have am : a ∈ l := ej ▸ List.getElem_mem hj
      have hnew : a ∉ (p.take i).flatten ++ l.take j := by
        have h1 : p.flatten = ((p.take i).flatten ++ l.take j) ++ (a :: (l.drop (j + 1) ++ (p.drop (i + 1)).flatten)) := by
          conv => lhs; rw [← List.take_append_drop i p]
          rw [List.flatten_append, List.append_assoc]
          congr 1
          have hi := (List.getElem?_eq_some_iff.mp hl2)
          obtain ⟨hi1, hi2⟩ := hi
          rw [List.drop_eq_getElem_cons hi1, hi2, List.flatten_cons]
          conv => lhs; rw [← List.take_append_drop j l]
          rw [List.drop_eq_getElem_cons hj, ej, List.append_assoc]
          rfl
        rw [h1] at nd
        exact fun z => (List.nodup_append.mp nd).2.2 a z a List.mem_cons_self rfl
      have hval : EvD K (tVar 2) (([some v, some (V.ref r), some b, some c, z1] : L2.St).set 4 (some y)) H4 (nD (atOf p a)) := by
        rw [atOf_eq nd hl2 am]
        exact evd_var rfl (by have := Dp.tex t5 _ (show tupO (nD i) = true from rfl) hb; exact this.ex e4)
      refine s_putD (K := K) (x := a) rfl (e4 _ _ hr3) hval (evd_var rfl hy) hnew (by rw [List.length_append, List.length_take]; omega) fun H5 e6 => ⟨⟨_, rfl, ?_⟩, Ex.mut ((e5.trans e4).trans e6) hr0, (t5.trans (Ex.t (e4.trans e6))).trans (TEx.dK (e6 _ _ (e4 _ _ hr3)))⟩
      rw [upd_same, List.take_add_one, ha, List.append_assoc]
      rfl
    · obtain ⟨⟨z1, rfl, hr3⟩, e5, t5⟩ := hP2
      refine ⟨⟨_, _, _, rfl, ?_⟩, e5, (t0.trans (Ex.t e2)).trans t5⟩
      rw [List.length_map, List.take_length] at hr3
      rw [List.take_add_one, hl2, List.flatten_append]
      simpa using hr3
  · obtain ⟨⟨x0, y0, z0, rfl, hr2⟩, e0, t0⟩ := hP
    rw [enD_len, List.length_map, List.take_length] at hr2
    exact ⟨_, rfl, q r H' hr0 e0 hr2⟩
theorem rngD_map (lo n : Nat) : rngD lo n = (List.range n).map fun k => nD (lo + k) := by
  unfold rngD
  refine List.map_congr_left fun k _ => ?_
  show PyData.int ((lo : Int) + (k : Int)) = PyData.int ((lo + k : Nat) : Int)
  rw [Int.natCast_add]
theorem ok_any_cross (N : Fr mg) (D : IsD K mg "_law_any_cross" 47) : Has P w K mg base CX0 1 "_law_any_cross" ["_law_where_here", "_law_many"] (spAnyX K) := by
  refine mk_has D sc__law_any_cross (fun _ _ _ _ _ _ us hl => match us, hl with | [_, _], _ => rfl) (fun vs H Q E h => by obtain ⟨a, f, xs, n, rfl, _⟩ := h; rfl) fun f cdv A outer s H vs Q E hr h => ?_
  refine ⟨_, PSs.nox (pss_cons (ps_for PassesOwn.never rfl (pi_range1 (by rfl) N.f_range (pa_cons (pv 1) pa_nil)) (pg_name (i := 2) (sc__law_any_cross).nd rfl (by first | exact Or.inl rfl | exact Or.inr rfl)) (pss_one (ps_for PassesOwn.never rfl (pi_range2 (by rfl) N.f_range (pa_cons (pe_op op_add (pv 2) pe_int) (pa_cons (pv 1) pa_nil))) (pg_name (i := 3) (sc__law_any_cross).nd rfl (by first | exact Or.inl rfl | exact Or.inr rfl)) (pss_one (ps_if (pt_cmpR op_eq (pe_dget hr.u1 (pv 0) (pv 2) (by intro _ _; rfl)) (pe_dget hr.u1 (pv 0) (pv 3) (by intro _ _; rfl)) (nomark _)) (pss_cons (ps_setLc (i := 4) (own := [("_law_b", 5)]) (g := gName 5) rfl (sc__law_any_cross).nd (by rfl) (by rfl) (sw_true rfl rfl rfl (by decide +kernel)) (pi_range2 (by rfl) N.f_range (pa_cons (pe_op op_add (pv 2) pe_int) (pa_cons (pv 3) pa_nil))) (blkOk_by (own := [("_law_b", 5)]) (N := ["_law_where_here", "_law_many", "_law_a", "_law_c", "_law_inside", "_law_b", "_law_outside", "_law_d", "_law_lot"]) (sc := defScope (top 47)) (by decide +kernel)) (fun _ _ _ _ _ => (pg_name (i := 5) (sc__law_any_cross).nd rfl (by first | exact Or.inl rfl | exact Or.inr rfl))) (fun _ _ _ _ _ => pts_nil) (fun _ _ _ _ _ => (pe_dget hr.u1 (pv 0) (pv 5) (by intro _ _; rfl)))) (pss_cons (ps_set (i := 6) (sc__law_any_cross).nd (by rfl) (by first | exact Or.inl rfl | exact Or.inr rfl) (pe_lc (own := [("_law_d", 7)]) (g := gName 7) rfl (sc__law_any_cross).nd (pi_range2 (by rfl) N.f_range (pa_cons (pe_op op_add (pv 3) pe_int) (pa_cons (pv 1) pa_nil))) (blkOk_by (own := [("_law_d", 7)]) (N := ["_law_where_here", "_law_many", "_law_a", "_law_c", "_law_inside", "_law_b", "_law_outside", "_law_d", "_law_lot"]) (sc := defScope (top 47)) (by decide +kernel)) (fun _ _ _ _ _ => (pg_name (i := 7) (sc__law_any_cross).nd rfl (by first | exact Or.inl rfl | exact Or.inr rfl))) (fun _ _ _ _ _ => pts_nil) (fun _ _ _ _ _ => (pe_dget hr.u1 (pv 0) (pv 7) (by intro _ _; rfl))))) (pss_one (ps_if (pt_cmpR (r := rNeD K) (op_neD hr.units) (pe_lc (own := [("_law_lot", 8)]) (g := gName 8) rfl (sc__law_any_cross).nd (show PI _ _ _ (iList K _) from pi_list (pv 4)) (blkOk_by (own := [("_law_lot", 8)]) (N := ["_law_where_here", "_law_many", "_law_a", "_law_c", "_law_inside", "_law_b", "_law_outside", "_law_d", "_law_lot"]) (sc := defScope (top 47)) (by decide +kernel)) (fun _ _ _ _ _ => (pg_name (i := 8) (sc__law_any_cross).nd rfl (by first | exact Or.inl rfl | exact Or.inr rfl))) (fun _ _ _ _ _ => (pts_one (PW.pt (pw_and (pt_cmpR op_ne (pv 8) (pe_dget hr.u1 (pv 0) (pv 2) (by intro _ _; rfl)) (nomark _)) (pw_and1 (pt_cmpR (r := rIn K false) op_in_seq (pv 8) (pv 6) (by rfl))))))) (fun _ _ _ _ _ => (pv 8))) (pe_lst pa_nil) (nomark _)) (pss_one (ps_ret pe_bl)) pss_nil)))) pss_nil))))) (pss_one (ps_ret pe_bl))), ?_⟩
  obtain ⟨r, f, xs, n, rfl, hr1, hxs, hn, q⟩ := h
  have hnv : ∀ H', Dp K H' (.int (n : Int)) (nD n) := fun _ => .int _
  refine q_forI (B := H) (evi_rng1 (n := n) (eda_one (evd_var rfl (hnv H))) (by omega)) (Ex.refl H) (fun i σ' H' => (∃ x2 x3 x4 x5 x6 x7 x8, σ' = [some (.ref r), some (.int n), x2, x3, x4, x5, x6, x7, x8]) ∧ Ex H H' ∧ ∀ a, a < i → (List.range (n - (a + 2))).any (fun k => xB f n a (a + 2 + k)) = false) (fun H1 e1 => ⟨⟨_, _, _, _, _, _, _, rfl⟩, e1, fun a ha => absurd ha (Nat.not_lt_zero _)⟩) (fun i σ' H' _ h => h.2.1) (fun a d x σ' H1 H' hda hP e1 hx => ?_) (fun σ' H' hP => ?_)
  · obtain ⟨⟨x2, x3, x4, x5, x6, x7, x8, rfl⟩, e0, hall⟩ := hP
    obtain ⟨han, rfl⟩ := rng_at hda
    have e2 := e0.trans e1
    refine s_forI (B := H') (ds := rngD ((a + 2 : Nat) : Int) (n - (a + 2))) (evi_rng2 (m := a + 2) (n := n) (eda_cons (evd_is (evd_add (evd_var rfl hx) evd_int) rfl) (eda_one (evd_var rfl (hnv H')))) (by omega) (by omega)) (Ex.refl H') (fun k σ2 H2 => (∃ x3 x4 x5 x6 x7 x8, σ2 = [some (.ref r), some (.int n), some x, x3, x4, x5, x6, x7, x8]) ∧ Ex H' H2 ∧ ∀ j, j < k → xB f n a (a + 2 + j) = false) (fun H2 e3 => ⟨⟨_, _, _, _, _, _, rfl⟩, e3, fun a ha => absurd ha (Nat.not_lt_zero _)⟩) (fun i σ' H' _ h => h.2.1) (fun k d2 y σ2 H2 H3 hdk hP2 e3 hy => ?_) (fun σ2 H2 hP2 => ?_)
    · obtain ⟨⟨x3, x4, x5, x6, x7, x8, rfl⟩, e4, hall2⟩ := hP2
      rw [rngD_map] at hdk
      obtain ⟨k', hk1, rfl⟩ := map_at hdk
      obtain ⟨hk2, hk3⟩ := List.getElem?_eq_some_iff.mp hk1
      rw [List.length_range] at hk2
      rw [List.getElem_range] at hk3
      subst hk3
      have hcn : a + 2 + k < n := by omega
      have e5 := (e2.trans e4).trans e3
      have hr3 := e5 _ _ hr1
      have hx3 := hx.ex (e4.trans e3)
      have any1 : xB f n a (a + 2 + k) = true → anyX f n = true := fun z => List.any_eq_true.mpr ⟨a, List.mem_range.mpr han, List.any_eq_true.mpr ⟨k, List.mem_range.mpr hk2, z⟩⟩
      have done : ∀ σ2 : L2.St, (∃ x3 x4 x5 x6 x7 x8, σ2 = [some (.ref r), some (.int n), some x, x3, x4, x5, x6, x7, x8]) → ∀ H4, Ex H3 H4 → xB f n a (a + 2 + k) = false → ((∃ x3 x4 x5 x6 x7 x8, σ2 = [some (.ref r), some (.int n), some x, x3, x4, x5, x6, x7, x8]) ∧ Ex H' H4 ∧ ∀ j, j < k + 1 → xB f n a (a + 2 + j) = false) := fun σ2 hσ H4 e6 hf => ⟨hσ, (e4.trans e3).trans e6, fun j hj => by
        rcases Nat.lt_succ_iff_lt_or_eq.mp hj with hj | rfl
        · exact hall2 j hj
        · exact hf⟩
      refine Evl.s_when (b := decide (f a = f (a + 2 + k))) (Evl.et_is (evt_test (evd_eqI (i := (f a : Int)) (j := (f (a + 2 + k) : Int)) (evd_get rfl hr3 (evd_var rfl hx3) (hxs a han)) (evd_get rfl hr3 (evd_var rfl hy) (hxs _ hcn)))) (decide_eq_decide.mpr ⟨fun h => Int.ofNat.inj h, fun h => congrArg Int.ofNat h⟩)) (fun hb H4 e6 => ?_) (fun hb H4 e6 => done _ ⟨_, _, _, _, _, _, rfl⟩ H4 e6 (by unfold xB; rw [hb]; rfl))
      have hr4 := e6 _ _ hr3
      have hy4 := hy.ex e6
      have hx4 := hx3.ex e6
      refine q_asgD (K := K) (d := .list ((insL f (a + 1) (a + 2 + k - (a + 1))).map nD)) (evd_is (evn_mapT (l := List.range (a + 2 + k - (a + 1))) (en := fun i => nD (a + 1 + i)) (F := fun i => nD (f (a + 1 + i))) (evj_is (evi_rng2 (m := a + 1) (n := a + 2 + k) (eda_cons (evd_is (evd_add (evd_var rfl hx4) evd_int) rfl) (eda_one (evd_var rfl hy4))) (by omega) (by omega)).j (rngD_map _ _)) (by simp; omega) (fun _ _ => rfl) (fun _ => rfl) fun i hi z H5 e7 hz => evd_get rfl (e7 _ _ hr4) (evd_var rfl hz) (hxs _ (by have := List.mem_range.mp hi; omega))).dat (by unfold insL; rw [List.map_map]; rfl)) fun w1 H5 e7 hw1 => ?_
      have hr5 := e7 _ _ hr4
      refine q_asgD (K := K) (d := .list ((insL f (a + 2 + k + 1) (n - (a + 2 + k + 1))).map nD)) (evd_is (evn_mapT (l := List.range (n - (a + 2 + k + 1))) (en := fun i => nD (a + 2 + k + 1 + i)) (F := fun i => nD (f (a + 2 + k + 1 + i))) (evj_is (evi_rng2 (m := a + 2 + k + 1) (n := n) (eda_cons (evd_is (evd_add (evd_var rfl (hy4.ex e7)) evd_int) rfl) (eda_one (evd_var rfl (hnv H5)))) (by omega) (by omega)).j (rngD_map _ _)) (by simp; omega) (fun _ _ => rfl) (fun _ => rfl) fun i hi z H6 e8 hz => evd_get rfl (e8 _ _ hr5) (evd_var rfl hz) (hxs _ (by have := List.mem_range.mp hi; omega))).dat (by unfold insL; rw [List.map_map]; rfl)) fun w2 H6 e8 hw2 => ?_
      have hr6 := e8 _ _ hr5
      refine Evl.s_when (b := !((insL f (a + 1) (a + 2 + k - (a + 1))).filter fun l => !decide (l = f a) && hasL (insL f (a + 2 + k + 1) (n - (a + 2 + k + 1))) l).isEmpty) (Evl.et_is (evt_test (evd_ne (evn_filterT (en := nD) (F := nD) (p := fun l => !decide (l = f a) && hasL (insL f (a + 2 + k + 1) (n - (a + 2 + k + 1))) l) (evj_list (evd_var rfl (hw1.ex e8))) (by simp [insL]; omega) (fun _ _ _ => rfl) (fun _ => rfl) (fun l hl z H7 e9 hz => Evl.et_and (Evl.et_is (evt_test (evd_neI (i := (l : Int)) (j := (f a : Int)) (evd_var rfl hz) (evd_get rfl (e9 _ _ hr6) (evd_var rfl (hx4.ex ((e7.trans e8).trans e9))) (hxs a han)))) ?_) fun _ => evt_test (evd_inL (evd_var rfl hz) (evd_var rfl (hw2.ex e9)))) fun l hl _ z H7 e9 hz => evd_var rfl hz).dat (evn_lst eda_nil (by decide)).dat (sh_lN _) (sh_lN []))) ?_) (fun hb2 H7 e9 => ?_) (fun hb2 H7 e9 => ?_)
      · congr 1
        exact decide_eq_decide.mpr ⟨fun h => Int.ofNat.inj h, fun h => congrArg Int.ofNat h⟩
      · rw [show (.list [] : PyData) = .list (([] : List Nat).map nD) from rfl, eqv_lst eqv_nD]
        congr 1
        generalize List.filter _ _ = z
        cases z <;> rfl
      · refine s_retC ?_
        have : anyX f n = true := any1 (by unfold xB; rw [hb, hb2]; rfl)
        have q' := q H7 ((((e5.trans e6).trans e7).trans e8).trans e9)
        rw [this] at q'
        exact q'
      · exact done _ ⟨_, _, _, _, _, _, rfl⟩ H7 (((e6.trans e7).trans e8).trans e9) (by unfold xB; rw [hb2, Bool.and_false])
    · obtain ⟨⟨x3, x4, x5, x6, x7, x8, rfl⟩, e4, hall2⟩ := hP2
      refine ⟨⟨_, _, _, _, _, _, _, rfl⟩, e2.trans e4, fun b hb => ?_⟩
      rcases Nat.lt_succ_iff_lt_or_eq.mp hb with hb | rfl
      · exact hall b hb
      · rw [List.any_eq_false]
        intro k hk z
        rw [rngD_map, List.length_map, List.length_range] at hall2
        rw [hall2 k (List.mem_range.mp hk)] at z
        cases z
  · obtain ⟨⟨x2, x3, x4, x5, x6, x7, x8, rfl⟩, e0, hall⟩ := hP
    refine s_retC ?_
    have : anyX f n = false := by
      unfold anyX
      rw [List.any_eq_false]
      intro a ha z
      rw [rng_len] at hall
      rw [hall a (List.mem_range.mp ha)] at z
      cases z
    have q' := q H' e0
    rw [this] at q'
    exact q'
end
end PR
set_option maxHeartbeats 400000
namespace PR
open PySem PySem.Spec PyProof.Rows L2
open Evl (Ex EvT)
theorem sc__law_every : FnScope ["_law_points", "_law_found", "_law_point", "_law_longer", "_law_some", "_law_at", "_law_lot", "_law_more"] ["_law_points"] (defScope (top 50)) := ⟨rfl, rfl, rfl, by decide +kernel, rfl, by decide +kernel, by decide +kernel⟩
def moreAt (s : Part) (a k : Nat) : Part := s.take a ++ [s.getD a [] ++ [k]] ++ s.drop (a + 1)
def okM (s : Part) (k a : Nat) : Bool := !anyX (atOf (moreAt s a k)) (k + 1)
def stepP (k : Nat) (s : Part) (n : Nat) : List Part := (s ++ [[k]]) :: ((List.range n).filter (okM s k)).map fun a => moreAt s a k
def everyM : Nat → List Part
  | 0 => [[]]
  | k + 1 => (everyM k).flatMap fun s => stepP k s s.length
theorem more_flat {s : Part} {a k : Nat} (h : a < s.length) : (moreAt s a k).flatten.Perm (s.flatten ++ [k]) := by
  unfold moreAt
  have e : s.flatten = (s.take a).flatten ++ (s.getD a [] ++ (s.drop (a + 1)).flatten) := by
    conv => lhs; rw [← List.take_append_drop a s]
    rw [List.flatten_append, List.drop_eq_getElem_cons h, List.flatten_cons, List.getD_eq_getElem?_getD, List.getElem?_eq_getElem h]
    rfl
  rw [e, List.flatten_append, List.flatten_append]
  simp only [List.flatten_cons, List.flatten_nil, List.append_nil, List.append_assoc]
  refine List.Perm.append_left _ (List.Perm.append_left _ ?_)
  exact List.perm_append_comm
theorem every_flat : ∀ (n : Nat) (s : Part), s ∈ everyM n → s.flatten.Perm (List.range n)
  | 0, s, h => by
    cases List.mem_singleton.mp h
    exact .nil
  | k + 1, s, h => by
    obtain ⟨t, ht, hs⟩ := List.mem_flatMap.mp h
    have ih := every_flat k t ht
    rw [List.range_succ]
    rcases List.mem_cons.mp hs with rfl | hs
    · rw [List.flatten_append]
      exact ih.append_right _
    · obtain ⟨a, ha, rfl⟩ := List.mem_map.mp hs
      have ha := List.mem_range.mp (List.mem_filter.mp ha).1
      exact (more_flat ha).trans (ih.append_right _)
theorem every_len : ∀ n, n ≤ 5 → (everyM n).length ≤ 42 := by
  intro n hn
  match n, hn with
  | 0, _ => decide +kernel
  | 1, _ => decide +kernel
  | 2, _ => decide +kernel
  | 3, _ => decide +kernel
  | 4, _ => decide +kernel
  | 5, _ => decide +kernel
theorem every_small : ∀ n, n ≤ 5 → ((everyM n).all fun s => decide (s.length ≤ 5)) = true := by
  intro n hn
  match n, hn with
  | 0, _ => decide +kernel
  | 1, _ => decide +kernel
  | 2, _ => decide +kernel
  | 3, _ => decide +kernel
  | 4, _ => decide +kernel
  | 5, _ => decide +kernel
def spEvery (K : PySem.W.Frag) : Sp := fun vs H Q _ => ∃ n : Nat, vs = [.int n] ∧ 1 ≤ n ∧ n ≤ 5 ∧ ∀ (ps : List Part) a xs H', ps.Perm (everyM n) → Ex H H' → H' a = some (.lst xs) → DpAll K H' xs (ps.map eP) → Q (.ref a) H'
section
variable {K : PySem.W.Frag} {H : Hp}
theorem dpAll_perm {α : Type} {en : α → PyData} {cs bs : List Addr} (h : cs.Perm bs) : ∀ {l : List α}, DpAll K H (bs.map V.ref) (l.map en) → ∃ l' : List α, l'.Perm l ∧ DpAll K H (cs.map V.ref) (l'.map en) := by
  induction h with
  | nil => exact fun {l} d => ⟨l, .refl _, d⟩
  | cons x _ ih =>
    intro l d
    cases l with
    | nil => cases d
    | cons a l =>
      cases d with
      | cons p q =>
        obtain ⟨l', h1, h2⟩ := ih q
        exact ⟨a :: l', h1.cons a, .cons p h2⟩
  | swap x y r =>
    intro l d
    match l, d with
    | a :: b :: l, .cons p (.cons q d) => exact ⟨b :: a :: l, .swap _ _ _, .cons q (.cons p d)⟩
  | trans _ _ ih1 ih2 =>
    intro l d
    obtain ⟨l1, h1, d1⟩ := ih2 d
    obtain ⟨l2, h2, d2⟩ := ih1 d1
    exact ⟨l2, h2.trans h1, d2⟩
theorem refs_of : ∀ {vs : List V} {ps : List Part}, DpAll K H vs (ps.map eP) → ∃ bs : List Addr, vs = bs.map V.ref
  | [], _, _ => ⟨[], rfl⟩
  | v :: vs, [], h => by cases h
  | v :: vs, p :: ps, h => by
    cases h with
    | cons a t =>
      obtain ⟨bs, rfl⟩ := refs_of t
      obtain ⟨b, _, rfl, _⟩ := Dp.tup_at (ds := p.map eL) a
      exact ⟨b :: bs, rfl⟩
theorem dpAll_mem {α : Type} {en : α → PyData} : ∀ {bs : List Addr} {l : List α}, DpAll K H (bs.map V.ref) (l.map en) → ∀ b ∈ bs, ∃ a ∈ l, Dp K H (.ref b) (en a)
  | [], _, _, b, hb => by cases hb
  | c :: bs, [], h, _, _ => by cases h
  | c :: bs, a :: l, h, b, hb => by
    cases h with
    | cons p q =>
      rcases List.mem_cons.mp hb with rfl | hb
      · exact ⟨a, List.mem_cons_self, p⟩
      · obtain ⟨a', h1, h2⟩ := dpAll_mem q b hb
        exact ⟨a', List.mem_cons_of_mem _ h1, h2⟩
end
section
variable {P : Program} {w : World} {K : PySem.W.Frag} {mg : Str → Option Value} {base : Heap}
theorem ok_every (N : Fr mg) (D : IsD K mg "_law_every" 50) (h__law_any_cross : Has P w K mg base CX0 1 "_law_any_cross" ["_law_where_here", "_law_many"] (spAnyX K)) (h__law_where : Has P w K mg base CX0 1 "_law_where" ["_law_lots_here"] (spWhere K)) :
    Has P w K mg base CX0 2 "_law_every" ["_law_points"] (spEvery K) := by
  refine mk_has D sc__law_every (fun _ _ _ _ _ _ us hl => match us, hl with | [_], _ => rfl) (fun vs H Q E h => by obtain ⟨n, rfl, _⟩ := h; rfl) fun f cdv A outer s H vs Q E hr h => ?_
  refine ⟨_, PSs.nox (pss_cons (ps_set (i := 1) (sc__law_every).nd (by rfl) (by first | exact Or.inl rfl | exact Or.inr rfl) (pe_lst (pa_cons (pe_tup pa_nil) pa_nil))) (pss_cons (ps_for PassesOwn.never rfl (pi_range1 (by rfl) N.f_range (pa_cons (pv 0) pa_nil)) (pg_name (i := 2) (sc__law_every).nd rfl (by first | exact Or.inl rfl | exact Or.inr rfl)) (pss_cons (ps_set (i := 3) (sc__law_every).nd (by rfl) (by first | exact Or.inl rfl | exact Or.inr rfl) (pe_lst pa_nil)) (pss_cons (ps_for PassesOwn.never rfl (show PI _ _ _ (iList K _) from pi_list (pv 1)) (pg_name (i := 4) (sc__law_every).nd rfl (by first | exact Or.inl rfl | exact Or.inr rfl)) (pss_cons (ps_expr (show PE _ _ (tBM K _ _ _ _) from pe_bm PySem.F.plainAttrs_list PySem.F.slot_list_append PySem.F.type_list_append mt_append (pv 3) (pa_cons (pe_op (r := rCatA K) op_catA (pv 4) (pe_tup (pa_cons (pe_tup (pa_cons (pv 2) pa_nil)) pa_nil))) pa_nil))) (pss_one (ps_for PassesOwn.never rfl (show PI _ _ _ (iEnumT K _) from pi_enumT (by rfl) N.f_enumerate (pa_cons (pv 4) pa_nil)) (pg_tup rfl (pgs_cons (pg_name (i := 5) (sc__law_every).nd rfl (by first | exact Or.inl rfl | exact Or.inr rfl)) (pgs_cons (pg_name (i := 6) (sc__law_every).nd rfl (by first | exact Or.inl rfl | exact Or.inr rfl)) pgs_nil))) (pss_cons (ps_set (i := 7) (sc__law_every).nd (by rfl) (by first | exact Or.inl rfl | exact Or.inr rfl) (pe_op (r := rCatA K) op_catA (pe_op (r := rCatA K) op_catA (pe_slice (r := rSlA K) sl_tupA (pv 4) po_none (po_some (pv 5))) (pe_tup (pa_cons (pe_op (r := rCatA K) op_catA (pv 6) (pe_tup (pa_cons (pv 2) pa_nil))) pa_nil))) (pe_slice (r := rSlA K) sl_tupA (pv 4) (po_some (pe_op op_add (pv 5) pe_int)) po_none))) (pss_one (ps_set (i := 3) (sc__law_every).nd (by rfl) (by first | exact Or.inl rfl | exact Or.inr rfl) (pe_op op_cat (pv 3) (pe_ifExp (pt_not (pt_val (pe_fn h__law_any_cross hr (by decide) (by rfl) pass0 (pa_cons (pe_fn h__law_where hr (by decide) (by rfl) pass0 (pa_cons (pv 7) pa_nil)) (pa_cons (pe_op op_add (pv 2) pe_int) pa_nil))))) (pe_lst (pa_cons (pv 7) pa_nil)) (pe_lst pa_nil)))))))))) (pss_one (ps_set (i := 1) (sc__law_every).nd (by rfl) (by first | exact Or.inl rfl | exact Or.inr rfl) (pv 3)))))) (pss_one (ps_ret (pe_callB (r := rSortedN K) (cr_sortedN hr.units) (by rfl) N.f_sorted (by decide +kernel) (pa_cons (pv 1) pa_nil)))))), ?_⟩
  obtain ⟨n, rfl, hn1, hn5, q⟩ := h
  refine q_asgN (K := K) (ds := (everyM 0).map eP) (evn_lst (eda_one (evd_tup eda_nil (by decide))) (by decide)) fun r xs H1 hr0 e1 hr1 hxs => ?_
  refine q_forI (B := H) (evi_rng1 (n := n) (eda_one (evd_var (K := K) rfl (.int _))) (by omega)) e1 (fun i σ' H' => (∃ r xs x2 x3 x4 x5 x6 x7, σ' = [some (.int n), some (.ref r), x2, x3, x4, x5, x6, x7] ∧ H' r = some (.lst xs) ∧ DpAll K H' xs ((everyM i).map eP)) ∧ Ex H H') (fun H2 e2 => ⟨⟨r, xs, _, _, _, _, _, _, rfl, e2 _ _ hr1, hxs.ex e2⟩, e1.trans e2⟩) (fun i σ' H' _ h => h.2) (fun i d x σ' H1 H' hdi hP e1 hx => ?_) (fun σ' H' hP => ?_)
  · obtain ⟨⟨r, xs, x2, x3, x4, x5, x6, x7, rfl, hr1, hxs⟩, e0⟩ := hP
    obtain ⟨hin, rfl⟩ := rng_at hdi
    have ex := Dp.int_eq hx
    subst ex
    have e2 := e0.trans e1
    have hr2 := e1 _ _ hr1
    have hxs2 := hxs.ex e1
    have hfD : Dp K H' (.ref r) (.list ((everyM i).map eP)) := .lst (Evl.sq_of hr2) hxs2
    have hlen := every_len i (by omega)
    refine q_asgN (K := K) (ds := []) (evn_lst eda_nil (by decide)) fun g ys H3 hg0 e3 hg3 hys => ?_
    refine q_forI (B := H') (evi_listV rfl hfD) e3 (fun j σ' H4 => (∃ g ys x4 x5 x6 x7, σ' = [some (.int n), some (.ref r), some (.int i), some (.ref g), x4, x5, x6, x7] ∧ H' g = none ∧ H4 g = some (.lst ys) ∧ DpAll K H4 ys ((((everyM i).take j).flatMap fun s => stepP i s s.length).map eP)) ∧ Ex H' H4) (fun H4 e4 => ⟨⟨g, ys, _, _, _, _, rfl, hg0, e4 _ _ hg3, hys.ex e4⟩, e3.trans e4⟩) (fun i σ' H' _ h => h.2) (fun j d y σ2 H4 H5 hdj hP2 e5 hy => ?_) (fun σ2 H4 hP2 => ?_)
    · obtain ⟨⟨g, ys, x4, x5, x6, x7, rfl, hg0, hg4, hys⟩, e4⟩ := hP2
      obtain ⟨s, hs, rfl⟩ := map_at hdj
      have sm := List.mem_of_getElem? hs
      have hfl := every_flat i s sm
      have hsl : s.length ≤ 5 := of_decide_eq_true (List.all_eq_true.mp (every_small i (by omega)) s sm)
      have hpl : (((everyM i).take j).flatMap fun s => stepP i s s.length).length + (stepP i s s.length).length ≤ 42 := by
        have h1 : (everyM (i + 1)) = ((everyM i).take (j + 1)).flatMap (fun s => stepP i s s.length) ++ ((everyM i).drop (j + 1)).flatMap (fun s => stepP i s s.length) := by
          rw [← List.flatMap_append, List.take_append_drop]
          rfl
        have h2 := every_len (i + 1) (by omega)
        rw [h1, List.length_append, List.take_add_one, hs, List.flatMap_append, List.length_append] at h2
        simp only [Option.toList_some, List.flatMap_cons, List.flatMap_nil, List.append_nil] at h2
        omega
      have hsp : ∀ a, a ≤ s.length → (stepP i s a).length ≤ (stepP i s s.length).length := fun a ha => by
        unfold stepP
        rw [List.length_cons, List.length_cons, List.length_map, List.length_map]
        have := ((List.range_sublist.mpr ha).filter (okM s i)).length_le
        omega
      have e6 := e4.trans e5
      refine q_appD (K := K) (d := eP (s ++ [[i]])) (e5 _ _ hg4) (Evl.ev_var rfl) (evd_is (evd_catT (ds := s.map eL) (es := [eL [i]]) (evd_var rfl hy) (evd_tup (eda_one (evd_tup (eda_one (evd_var (K := K) (d := nD i) rfl (.int _))) (by simp))) (by simp)) (by simp; omega)) (by unfold eP; rw [List.map_append]; rfl)) (by rw [hys.len, List.length_map]; omega) fun w1 H6 e7 hw1 => ?_
      have hg6 := e7 _ _ (e5 _ _ hg4)
      have T := TEx.lst (ys := ys ++ [w1]) hg6
      have eU : Ex H' (upd H6 g (.lst (ys ++ [w1]))) := Ex.mut (e6.trans e7) hg0
      have hyU : Dp K (upd H6 g (.lst (ys ++ [w1]))) y (eP s) := Dp.tex T _ (tupO_eP s) (hy.ex e7)
      have hdU : DpAll K (upd H6 g (.lst (ys ++ [w1]))) (ys ++ [w1]) (((((everyM i).take j).flatMap fun s => stepP i s s.length) ++ stepP i s 0).map eP) := by
        rw [List.map_append]
        refine DpAll.app (DpAll.tex T _ ?_ (hys.ex (e5.trans e7))) (.cons (Dp.tex T _ (tupO_eP _) hw1) .nil)
        refine tupOs_all.mpr fun z hz => ?_
        obtain ⟨m, _, rfl⟩ := List.mem_map.mp hz
        exact tupO_eP m
      have hgU : (upd H6 g (.lst (ys ++ [w1]))) g = some (.lst (ys ++ [w1])) := upd_same
      generalize upd H6 g (.lst (ys ++ [w1])) = HU at eU hyU hdU hgU
      generalize ys ++ [w1] = zs0 at hdU hgU
      refine s_forI (B := HU) (evi_enumTV rfl hyU) (Ex.refl HU) (fun a σ3 H7 => (∃ g zs x5 x6 x7, σ3 = [some (.int n), some (.ref r), some (.int i), some (.ref g), some y, x5, x6, x7] ∧ H' g = none ∧ H7 g = some (.lst zs) ∧ DpAll K H7 zs (((((everyM i).take j).flatMap fun s => stepP i s s.length) ++ stepP i s a).map eP)) ∧ Ex HU H7) (fun H7 e8 => ⟨⟨g, zs0, _, _, _, rfl, hg0, e8 _ _ hgU, hdU.ex e8⟩, e8⟩) (fun i σ' H' _ h => h.2) (fun a d3 w σ3 H7 H8 hda hP3 e8 hw => ?_) (fun σ3 H7 hP3 => ?_)
      · obtain ⟨⟨g, zs, x5, x6, x7, rfl, hg0, hg7, hzs⟩, e9⟩ := hP3
        obtain ⟨e, he, rfl⟩ := enD_at hda
        obtain ⟨l, hl, rfl⟩ := map_at he
        obtain ⟨ha, el⟩ := List.getElem?_eq_some_iff.mp hl
        refine tg_pair' hw fun b c hb hc => ?_
        have eb := Dp.int_eq hb
        subst eb
        have hy8 := hyU.ex (e9.trans e8)
        have iD : ∀ H, Dp K H (.int (i : Int)) (nD i) := fun _ => .int _
        have hll : l.length ≤ 5 := by
          have h1 := len_mem (List.mem_of_getElem? hl)
          have h2 := hfl.length_eq
          rw [len_flat, List.length_range] at h2
          omega
        have hmore : moreAt s a i = s.take a ++ [l ++ [i]] ++ s.drop (a + 1) := by
          unfold moreAt
          rw [List.getD_eq_getElem?_getD, hl]
          rfl
        refine q_asgD (K := K) (d := eP (moreAt s a i)) (evd_is (evd_catT (ds := (s.take a ++ [l ++ [i]]).map eL) (es := (s.drop (a + 1)).map eL) (evd_is (evd_catT (ds := (s.take a).map eL) (es := [eL (l ++ [i])]) (evd_is (evd_slT (evd_var rfl hy8) Evl.eo_none (evo_some (evd_var rfl hb))) (by rw [cutG_to, List.map_take])) (evd_is (evd_tup (eda_one (evd_catT (ds := l.map nD) (es := [nD i]) (evd_var rfl hc) (evd_tup (eda_one (evd_var rfl (iD _))) (by simp)) (by simp; omega))) (by simp)) (by rw [show l.map nD ++ [nD i] = (l ++ [i]).map nD by rw [List.map_append]; rfl]; rfl)) (by simp; omega)) (by rw [List.map_append]; rfl)) (evd_is (evd_slT (evd_var rfl hy8) (evo_some (K := K) (i := ((a + 1 : Nat) : Int)) (evd_is (evd_add (evd_var rfl hb) evd_int) rfl)) Evl.eo_none) (by rw [cutG_from, List.map_drop])) (by simp; omega)) (by rw [hmore]; exact congrArg PyData.tuple List.map_append.symm)) fun m H9 e10 hm => ?_
        have hg9 := e10 _ _ (e8 _ _ hg7)
        have hmf := (more_flat (k := i) (by omega : a < s.length)).trans (hfl.append_right [i])
        rw [← List.range_succ] at hmf
        refine s_asgN (K := K) (ds := ((((everyM i).take j).flatMap fun s => stepP i s s.length) ++ stepP i s (a + 1)).map eP) (evn_is (evn_cat (evv_var rfl hg9 (hzs.ex (e8.trans e10))) (evv_if (b := okM s i a) (ds := if okM s i a then [eP (moreAt s a i)] else []) (Evl.et_not ?_) (fun hb => evv_is (evn_lst (eda_one (evd_var rfl hm)) (by simp)).liv (by rw [hb]; rfl)) (fun hb => evv_is (evn_lst eda_nil (by decide)).liv (by rw [hb]; rfl))) ?_) ?_) fun g3 ws H10 hg30 e11 hg10 hws => ⟨⟨g3, ws, _, _, _, rfl, Evl.fresh_back (((eU.trans e9).trans e8).trans e10) hg30, hg10, hws⟩, ((e9.trans e8).trans e10).trans e11⟩
        · intro H10 e11 Q' q'
          refine ⟨m, rfl, m, moreAt s a i, rfl, hm.ex e11, hmf.nodup_iff.mpr List.nodup_range, by rw [hmf.length_eq, List.length_range]; omega, fun a2 H11 ha2 e12 hra => ?_⟩
          refine ⟨_, rfl, i, 1, rfl, rfl, a2, atOf (moreAt s a i), (moreAt s a i).flatten, i + 1, rfl, hra, fun x hx => hmf.mem_iff.mpr (List.mem_range.mpr hx), by omega, fun H12 e13 => ⟨_, rfl, q' H12 (e12.trans e13)⟩⟩
        · have h1 := hsp a (by omega)
          rw [List.length_map, List.length_append]
          split
          · rw [List.length_singleton]; omega
          · rw [List.length_nil]; omega
        · unfold stepP
          rw [List.range_succ, List.filter_append, List.map_append]
          cases hk : okM s i a with
          | true => simp [hk]
          | false => simp [hk]
      · obtain ⟨⟨g, zs, x5, x6, x7, rfl, hg0, hg7, hzs⟩, e9⟩ := hP3
        rw [enD_len, List.length_map] at hzs
        refine ⟨⟨g, zs, _, _, _, _, rfl, hg0, hg7, ?_⟩, eU.trans e9⟩
        rw [List.take_add_one, hs, List.flatMap_append]
        simpa using hzs
    · obtain ⟨⟨g, ys, x4, x5, x6, x7, rfl, hg0, hg4, hys⟩, e4⟩ := hP2
      rw [List.length_map, List.take_length] at hys
      exact s_asgV (K := K) (evv_var rfl hg4 hys) fun g2 zs H5 e5 hg5 hzs => ⟨⟨g2, zs, _, _, _, _, _, _, rfl, hg5, hzs⟩, (e2.trans e4).trans e5⟩
  · obtain ⟨⟨r, xs, x2, x3, x4, x5, x6, x7, rfl, hr1, hxs⟩, e0⟩ := hP
    rw [rng_len] at hxs
    obtain ⟨bs, rfl⟩ := refs_of hxs
    refine ⟨_, rfl, r, bs, rfl, Evl.sq_of hr1, fun b hb => ?_, fun cs p hc hp => ?_⟩
    · obtain ⟨s, hs, hd⟩ := dpAll_mem hxs b hb
      obtain ⟨_, vs, e, sq, hd⟩ := Dp.tup_at (ds := s.map eL) hd
      cases e
      obtain ⟨ks, rfl, e2, e3⟩ := lots_at hd
      refine ⟨ks, fun z => ?_, sq, e3⟩
      subst z
      have : s = [] := by
        cases s with
        | nil => rfl
        | cons _ _ => cases e2
      subst this
      have := (every_flat n [] hs).length_eq
      rw [List.length_range] at this
      simp at this
      omega
    · obtain ⟨ps, h1, h2⟩ := dpAll_perm hc hxs
      exact q ps p _ _ h1 (e0.trans (Ex.new hp)) upd_same (h2.ex (Ex.new hp))
end
end PR
set_option maxHeartbeats 1000000
namespace PR
/-! every small one -/
def chkB (p : Part) : Bool := decide ((∀ l ∈ p, l ≠ [] ∧ l.Pairwise (· < ·)) ∧ p.Pairwise fun a b => headN a < headN b) && crossFree p
theorem chk_every : ∀ n, 2 ≤ n → n ≤ 5 → (everyM n).all chkB = true := by
  intro n h2 h5
  match n, h2, h5 with
  | 2, _, _ => decide +kernel
  | 3, _, _ => decide +kernel
  | 4, _, _ => decide +kernel
  | 5, _, _ => decide +kernel
theorem every_good {n : Nat} (h2 : 2 ≤ n) (h5 : n ≤ 5) {p : Part} (hp : p ∈ everyM n) : Good n p := by
  have c := List.all_eq_true.mp (chk_every n h2 h5) p hp
  have fl := every_flat n p hp
  unfold chkB at c
  rw [Bool.and_eq_true, decide_eq_true_iff] at c
  have nd := fl.nodup_iff.mpr List.nodup_range
  have mem : ∀ l ∈ p, ∀ x ∈ l, x < n := fun l hl x hx => List.mem_range.mp (fl.mem_iff.mp (List.mem_flatten.mpr ⟨l, hl, hx⟩))
  have P : Parts n p := by
    refine ⟨fun l hl => (c.1.1 l hl).1, fun l hl => (c.1.1 l hl).2, mem, fun x hx => ?_, ?_⟩
    · obtain ⟨l, hl, hx⟩ := List.mem_flatten.mp (fl.mem_iff.mpr (List.mem_range.mpr hx))
      exact ⟨l, hl, hx⟩
    · unfold List.Nodup at nd
      rw [List.pairwise_flatten] at nd
      exact nd.2.imp fun {a b} q x hx hb => q x hx x hb rfl
  exact ⟨⟨P, c.1.2⟩, nc_of_free P c.2, h2, by omega⟩
def grow : Nat → List (List Nat)
  | 0 => [[]]
  | k + 1 => (grow k).flatMap fun v => (List.range (k + 1)).map fun h => v ++ [h]
def vAt (v : List Nat) (x : Nat) : Nat := v.getD x 0
def partV (n : Nat) (v : List Nat) : Part := ((List.range n).filter fun h => decide (vAt v h = h)).map fun h => (List.range n).filter fun x => decide (vAt v x = h)
def idemV (n : Nat) (v : List Nat) : Bool := (List.range n).all fun x => decide (vAt v (vAt v x) = vAt v x)
def ncV (n : Nat) (v : List Nat) : Bool := (List.range n).all fun d => (List.range d).all fun c => (List.range c).all fun b => (List.range b).all fun a => !(decide (vAt v a = vAt v c) && decide (vAt v b = vAt v d)) || decide (vAt v a = vAt v b)
def allIn (n : Nat) : Bool := (grow n).all fun v => !(idemV n v && ncV n v) || decide (partV n v ∈ everyM n)
theorem all_in : ∀ n, 2 ≤ n → n ≤ 5 → allIn n = true := by
  intro n h2 h5
  match n, h2, h5 with
  | 2, _, _ => decide +kernel
  | 3, _, _ => decide +kernel
  | 4, _, _ => decide +kernel
  | 5, _, _ => decide +kernel
theorem grow_mem {f : Nat → Nat} (hf : ∀ x, f x ≤ x) : ∀ n, (List.range n).map f ∈ grow n
  | 0 => List.mem_singleton.mpr rfl
  | k + 1 => by
    rw [List.range_succ, List.map_append]
    exact List.mem_flatMap.mpr ⟨_, grow_mem hf k, List.mem_map.mpr ⟨f k, List.mem_range.mpr (by have := hf k; omega), rfl⟩⟩
theorem vAt_map {f : Nat → Nat} {n x : Nat} (h : x < n) : vAt ((List.range n).map f) x = f x := by
  unfold vAt
  rw [List.getD_eq_getElem?_getD, List.getElem?_map, List.getElem?_range h]
  rfl
theorem good_every {n : Nat} (h5 : n ≤ 5) {p : Part} (g : Good n p) : p ∈ everyM n := by
  have P := g.canon.parts
  let f : Nat → Nat := fun x => if x < n then headN (lotOf p x) else 0
  have fx : ∀ x, x < n → f x = headN (lotOf p x) := fun x hx => if_pos hx
  have hle : ∀ x, f x ≤ x := fun x => by
    by_cases h : x < n
    · rw [fx x h]
      have m := lotOf_mem P h
      exact headN_le (P.asc _ m.1) m.2
    · show (if x < n then _ else 0) ≤ x
      rw [if_neg h]
      exact Nat.zero_le _
  have flt : ∀ x, x < n → f x < n := fun x hx => Nat.lt_of_le_of_lt (hle x) hx
  have fsame : ∀ x y, x < n → y < n → (f x = f y ↔ Same p x y) := fun x y hx hy => by
    have mx := lotOf_mem P hx
    have my := lotOf_mem P hy
    rw [fx x hx, fx y hy]
    constructor
    · intro e
      have hh := headN_mem (P.ne _ mx.1)
      have e2 := P.uniq mx.1 my.1 hh (e ▸ headN_mem (P.ne _ my.1))
      exact ⟨_, mx.1, mx.2, e2 ▸ my.2⟩
    · rintro ⟨l, hl, a, b⟩
      rw [lotOf_eq P hl a, lotOf_eq P hl b]
  have fid : ∀ x, x < n → Same p x (f x) := fun x hx => by
    have mx := lotOf_mem P hx
    rw [fx x hx]
    exact ⟨_, mx.1, mx.2, headN_mem (P.ne _ mx.1)⟩
  have hv := List.all_eq_true.mp (all_in n g.two h5) _ (grow_mem hle n)
  have i1 : idemV n ((List.range n).map f) = true := List.all_eq_true.mpr fun x hx => by
    have hx := List.mem_range.mp hx
    rw [vAt_map hx, vAt_map (flt x hx)]
    exact decide_eq_true ((fsame _ _ (flt x hx) hx).mpr (P.eqv.sym _ _ (fid x hx)))
  have i2 : ncV n ((List.range n).map f) = true := List.all_eq_true.mpr fun d hd => List.all_eq_true.mpr fun c hc => List.all_eq_true.mpr fun b hb => List.all_eq_true.mpr fun a ha => by
    have hd := List.mem_range.mp hd
    have hc := List.mem_range.mp hc
    have hb := List.mem_range.mp hb
    have ha := List.mem_range.mp ha
    rw [vAt_map (show a < n by omega), vAt_map (show b < n by omega), vAt_map (show c < n by omega), vAt_map hd]
    by_cases q : f a = f c ∧ f b = f d
    · have := (fsame a b (by omega) (by omega)).mpr (g.nc a b c d ha hb hc ((fsame a c (by omega) (by omega)).mp q.1) ((fsame b d (by omega) hd).mp q.2))
      rw [decide_eq_true this, Bool.or_true]
    · have : (decide (f a = f c) && decide (f b = f d)) = false := by
        rw [Bool.and_eq_false_iff]
        by_cases q1 : f a = f c
        · exact .inr (decide_eq_false fun q2 => q ⟨q1, q2⟩)
        · exact .inl (decide_eq_false q1)
      rw [this]
      rfl
  rw [i1, i2] at hv
  have hv : partV n ((List.range n).map f) ∈ everyM n := by simpa using hv
  have e : p = partV n ((List.range n).map f) := by
    rw [g.canon.eq_classes]
    unfold classes partV
    have e1 : ((List.range n).filter fun x => dcd (∀ y, y < x → ¬ Same p x y)) = (List.range n).filter fun h => decide (vAt ((List.range n).map f) h = h) := List.filter_congr fun x hx => by
      have hx := List.mem_range.mp hx
      rw [vAt_map hx]
      refine Bool.eq_iff_iff.mpr ?_
      rw [dcd_iff, decide_eq_true_iff]
      constructor
      · intro h
        have l1 := hle x
        rcases Nat.lt_or_eq_of_le l1 with q | q
        · exact absurd (fid x hx) (h _ q)
        · exact q
      · intro e y hy s
        have hyn : y < n := by omega
        have := (fsame x y hx hyn).mpr s
        have := hle y
        omega
    rw [e1]
    refine List.map_congr_left fun h hh => List.filter_congr fun x hx => ?_
    have hx := List.mem_range.mp hx
    obtain ⟨hh1, hh2⟩ := List.mem_filter.mp hh
    have hh1 := List.mem_range.mp hh1
    rw [vAt_map hh1] at hh2
    have hh2 := of_decide_eq_true hh2
    rw [vAt_map hx]
    refine Bool.eq_iff_iff.mpr ?_
    rw [dcd_iff, decide_eq_true_iff]
    constructor
    · intro s
      rw [(fsame x h hx hh1).mpr (P.eqv.sym _ _ s), hh2]
    · intro e
      exact (fsame h x hh1 hx).mp (hh2.trans e.symm)
  rw [e]
  exact hv
end PR
set_option maxHeartbeats 400000
namespace PR
open PySem PySem.Spec PyProof.Rows L2
open Evl (Ex EvT)
theorem sc__law_drum : FnScope ["_law_script", "_law_k", "_law_some", "_law_cell"] ["_law_script", "_law_k"] (defScope (top 43)) := ⟨rfl, rfl, rfl, by decide +kernel, rfl, by decide +kernel, by decide +kernel⟩
theorem sc__law_roll : FnScope ["_law_drum_here", "_law_many", "_law_found", "_law_deep"] ["_law_drum_here", "_law_many"] (defScope (top 44)) := ⟨rfl, rfl, rfl, by decide +kernel, rfl, by decide +kernel, by decide +kernel⟩
theorem sc__law_pick : FnScope ["_law_drum_here", "_law_things"] ["_law_drum_here", "_law_things"] (defScope (top 45)) := ⟨rfl, rfl, rfl, by decide +kernel, rfl, by decide +kernel, by decide +kernel⟩
/-- all but d stands -/
def ExB (d : Addr) (H H' : Hp) : Prop := ∀ x o, x ≠ d → H x = some o → H' x = some o
theorem ExB.refl {d : Addr} (H : Hp) : ExB d H H := fun _ _ _ h => h
theorem ExB.trans {d : Addr} {H1 H2 H3 : Hp} (a : ExB d H1 H2) (b : ExB d H2 H3) : ExB d H1 H3 := fun x o n h => b x o n (a x o n h)
theorem ExB.of {d : Addr} {H H' : Hp} (e : Ex H H') : ExB d H H' := fun x o _ h => e x o h
theorem ExB.upd {d : Addr} {H : Hp} {o : HO} : ExB d H (upd H d o) := fun x u n h => by rw [upd_ne n]; exact h
/-- a drum -/
def Drum (H : Hp) (d : Addr) : Prop := ∃ a b : Int, H d = some (.lst [.int a, .int b]) ∧ 0 ≤ a ∧ 0 ≤ b ∧ b < 4294967296
theorem Drum.ex {H H' : Hp} {d : Addr} (h : Drum H d) (e : Ex H H') : Drum H' d := let ⟨a, b, h1, h2⟩ := h; ⟨a, b, e _ _ h1, h2⟩
theorem ExB.ex {d : Addr} {H H' B : Hp} (h : ExB d H H') (e : Ex B H) (hd : B d = none) : Ex B H' := fun x o hx => h x o (fun z => by rw [z, hd] at hx; cases hx) (e x o hx)
theorem ExB.tex {d : Addr} {H H' : Hp} (h : ExB d H H') (D : Drum H d) : TEx H H' := fun b xs r => by
  obtain ⟨a, b', hd, _⟩ := D
  have n : b ≠ d := fun e => by
    subst e
    rcases r with r | ⟨o, r⟩ <;> (rw [hd] at r; cases r)
  rcases r with r | ⟨o, r⟩
  · exact .inl (h _ _ n r)
  · exact .inr ⟨o, h _ _ n r⟩
def spDrum (K : PySem.W.Frag) : Sp := fun vs H Q _ => ∃ (a : Addr) (ns : List Int), vs = [.ref a, .int 0] ∧ SqL K H a (ns.map V.int) ∧ ns.length ≤ 50000 ∧ ∀ d H', H d = none → Ex H H' → Drum H' d → Q (.ref d) H'
def spRoll (K : PySem.W.Frag) : Sp := fun vs H Q _ => ∃ (d : Addr) (m : Nat), vs = [.ref d, .int m] ∧ Drum H d ∧ 0 < m ∧ m ≤ 1000 ∧ ∀ (r : Nat) H', r < m → ExB d H H' → Drum H' d → Q (.int r) H'
def spPick (K : PySem.W.Frag) : Sp := fun vs H Q _ => ∃ (d x : Addr) (xs : List V) (ps : List Part), vs = [.ref d, .ref x] ∧ Drum H d ∧ x ≠ d ∧ H x = some (.lst xs) ∧ DpAll K H xs (ps.map eP) ∧ 0 < ps.length ∧ ps.length ≤ 1000 ∧
  ∀ p v H', p ∈ ps → ExB d H H' → Drum H' d → Dp K H' v (eP p) → Q v H'
section
variable {P : Program} {w : World} {K : PySem.W.Frag} {mg : Str → Option Value} {base : Heap}
section
variable {σ : L2.St} {H : Hp} {ta tb : TE}
theorem evd_intc {i : Int} (h : EvD K ta σ H (.int i)) : EvD K (tCB (fun xs H Q => (∃ i, xs = [.int i] ∧ Q (.int i) H) ∨ ∃ k, xs = [.bl k] ∧ Q (.int (if k then 1 else 0)) H) (tCons ta tNil)) σ H (.int i) := fun H1 x Q q => h H1 x _ fun v H2 e2 hv =>
  .inl ⟨i, by rw [hv.int_eq], q _ H2 e2 (.int _)⟩
theorem evd_abs {i : Int} (h : EvD K ta σ H (.int i)) : EvD K (tCB (fun xs H Q => ∃ i, xs = [.int i] ∧ Q (.int (if i < 0 then -i else i)) H) (tCons ta tNil)) σ H (.int (if i < 0 then -i else i)) := fun H1 x Q q => h H1 x _ fun v H2 e2 hv =>
  ⟨i, by rw [hv.int_eq], q _ H2 e2 (.int _)⟩
theorem evd_mulW {i j : Int} (ha : EvD K ta σ H (.int i)) (hb : EvD K tb σ H (.int j)) (hc : CMulW i j) : EvD K (tOp (rI CMulW fun i j => .int (i * j)) ta tb) σ H (.int (i * j)) := evd_I ha hb hc fun _ => .int _
theorem evd_mul {i j : Int} (ha : EvD K ta σ H (.int i)) (hb : EvD K tb σ H (.int j)) (hc : CMul i j) : EvD K (tOp (rI CMul fun i j => .int (i * j)) ta tb) σ H (.int (i * j)) := evd_I ha hb hc fun _ => .int _
theorem evd_fdiv {i j : Int} (ha : EvD K ta σ H (.int i)) (hb : EvD K tb σ H (.int j)) (hc : CDiv i j) : EvD K (tOp (rI CDiv fun i j => .int (i / j)) ta tb) σ H (.int (i / j)) := evd_I ha hb hc fun _ => .int _
theorem evd_pow {i j : Int} (ha : EvD K ta σ H (.int i)) (hb : EvD K tb σ H (.int j)) (hc : CPow i j) : EvD K (tOp (rI CPow fun i j => .int (i ^ j.toNat)) ta tb) σ H (.int (i ^ j.toNat)) := evd_I ha hb hc fun _ => .int _
theorem evd_gt {i j : Int} (ha : EvD K ta σ H (.int i)) (hb : EvD K tb σ H (.int j)) : EvD K (tOp (rI0 fun i j => .bl (decide (j < i))) ta tb) σ H (.bool (decide (j < i))) := evd_I0 ha hb fun _ => .bl _
theorem evd_ge {i j : Int} (ha : EvD K ta σ H (.int i)) (hb : EvD K tb σ H (.int j)) : EvD K (tOp (rI0 fun i j => .bl (decide (j ≤ i))) ta tb) σ H (.bool (decide (j ≤ i))) := evd_I0 ha hb fun _ => .bl _
end
theorem q_setD {σ : L2.St} {H : Hp} {te ta tb : TE} {d : PyData} {D : Ends} {tz : TS} {l : Addr} {xs : List V} {j : Nat} (hl : H l = some (.lst xs)) (h : EvD K te σ H d) (ho : Evl.Ev ta σ H (.ref l)) (hi : EvD K tb σ H (nD j)) (hj : j < xs.length) (k : ∀ v H1, Ex H H1 → Dp K H1 v d → tz D σ (upd H1 l (.lst (xs.set j v)))) :
    tSeq (tAsg te (gSub ta tb rSetL)) tz D σ H := s_setD (D := { D with nx := tz D }) hl h ho hi hj k
theorem ok_roll (N : Fr mg) (D : IsD K mg "_law_roll" 44) : Has P w K mg base CX0 1 "_law_roll" ["_law_drum_here", "_law_many"] (spRoll K) := by
  refine mk_has D sc__law_roll (fun _ _ _ _ _ _ us hl => match us, hl with | [_, _], _ => rfl) (fun vs H Q E h => by obtain ⟨d, m, rfl, _⟩ := h; rfl) fun f cdv A outer s H vs Q E hr h => ?_
  refine ⟨_, PSs.nox (pss_cons (ps_if (pt_cmpR op_gt (pe_ix (r := rIxL K) ix_list (pv 0) pe_int (by intro _ _; rfl)) pe_int (nomark _)) (pss_cons (ps_set (i := 2) (sc__law_roll).nd (by rfl) (by first | exact Or.inl rfl | exact Or.inr rfl) (pe_op op_mod (pe_callTy call_int1 (by rfl) N.f_int (by decide +kernel) (pa_cons (pe_ix (r := rIxL K) ix_list (pv 0) pe_int (by intro _ _; rfl)) pa_nil)) (pv 1))) (pss_cons (ps_asg (pe_op op_fdiv (pe_ix (r := rIxL K) ix_list (pv 0) pe_int (by intro _ _; rfl)) (pv 1)) (pg_sub (pv 0) pe_int set_list)) (pss_one (ps_ret (pv 2))))) pss_nil) (pss_cons (ps_asg (pe_op op_mod (pe_callTy call_int1 (by rfl) N.f_int (by decide +kernel) (pa_cons (pe_op op_add (pe_op op_mul (pe_ix (r := rIxL K) ix_list (pv 0) pe_int (by intro _ _; rfl)) pe_int) pe_int) pa_nil)) pe_int) (pg_sub (pv 0) pe_int set_list)) (pss_cons (ps_set (i := 3) (sc__law_roll).nd (by rfl) (by first | exact Or.inl rfl | exact Or.inr rfl) (pe_op op_mod (pe_callTy call_int1 (by rfl) N.f_int (by decide +kernel) (pa_cons (pe_op op_mul (pe_ix (r := rIxL K) ix_list (pv 0) pe_int (by intro _ _; rfl)) (pe_op op_add (pe_ix (r := rIxL K) ix_list (pv 0) pe_int (by intro _ _; rfl)) pe_int)) pa_nil)) pe_int)) (pss_one (ps_ret (pe_op op_mod (pe_callTy call_int1 (by rfl) N.f_int (by decide +kernel) (pa_cons (pe_op op_fdiv (pv 3) pe_int) pa_nil)) (pv 1))))))), ?_⟩
  obtain ⟨d, m, rfl, ⟨a, b, hd, ha, hb, hb2⟩, hm, hm2, q⟩ := h
  have e0 : ∀ (H' : Hp) (a b : Int) (σ : L2.St), σ[0]? = some (some (.ref d)) → H' d = some (.lst [.int a, .int b]) → EvD K (tOp (rIxL K) (tVar 0) (tC (.int 0))) σ H' (.int a) := fun H' a b σ h0 h1 => evd_ixL (j := 0) (ds := [.int a, .int b]) (evd_var h0 (.lst (Evl.sq_of h1) (.cons (.int _) (.cons (.int _) .nil)))) evd_int rfl
  have e1 : ∀ (H' : Hp) (a b : Int) (σ : L2.St), σ[0]? = some (some (.ref d)) → H' d = some (.lst [.int a, .int b]) → EvD K (tOp (rIxL K) (tVar 0) (tC (.int 1))) σ H' (.int b) := fun H' a b σ h0 h1 => evd_ixL (j := 1) (ds := [.int a, .int b]) (evd_var h0 (.lst (Evl.sq_of h1) (.cons (.int _) (.cons (.int _) .nil)))) evd_int rfl
  have mD : ∀ (H' : Hp), Dp K H' (.int (m : Int)) (.int (m : Int)) := fun _ => .int _
  have cd : ∀ x : Int, CDiv x (m : Int) := fun x => ⟨by omega, by omega⟩
  refine Evl.q_when (b := decide (0 < a)) (evt_test (evd_gt (e0 H a b _ rfl hd) evd_int)) (fun hc H1 x1 => ?_) (fun hc H1 x1 => ?_)
  · have ha0 : 0 < a := of_decide_eq_true hc
    refine q_asgD (K := K) (d := .int (a % m)) (evd_mod (evd_intc (e0 H1 a b _ rfl (x1 _ _ hd))) (evd_var rfl (mD _)) (by omega)) fun v H2 x2 hv => ?_
    refine s_setD (K := K) (j := 0) (d := .int (a / m)) (x2 _ _ (x1 _ _ hd)) (evd_fdiv (e0 H2 a b _ rfl (x2 _ _ (x1 _ _ hd))) (evd_var rfl (mD _)) (cd a)) (Evl.ev_var rfl) evd_int (by simp) fun u H3 x3 hu => ?_
    have eu := Dp.int_eq hu
    subst eu
    have h1 := Int.emod_nonneg a (show (m : Int) ≠ 0 by omega)
    have h2 := Int.emod_lt_of_pos a (show (0 : Int) < m by omega)
    refine ⟨v, rfl, ?_⟩
    have ev := Dp.int_eq hv
    subst ev
    have h3 : a % (m : Int) = (((a % (m : Int)).toNat : Nat) : Int) := by omega
    rw [h3]
    exact q _ _ (by omega) ((ExB.of ((x1.trans x2).trans x3)).trans ExB.upd) ⟨a / m, b, upd_same, Int.ediv_nonneg ha (by omega), hb, hb2⟩
  · have c1 : CMul b 30671 := .inr ⟨by decide, by decide⟩
    refine q_setD (K := K) (j := 1) (d := .int ((b * 30671 + 8807) % 2147483549)) (x1 _ _ hd) (evd_mod (evd_intc (evd_add (evd_mul (e1 H1 a b _ rfl (x1 _ _ hd)) evd_int c1) evd_int)) evd_int (by decide)) (Evl.ev_var rfl) evd_int (by simp) fun u H2 x2 hu => ?_
    have eu := Dp.int_eq hu
    subst eu
    have h1 := Int.emod_nonneg (b * 30671 + 8807) (show (2147483549 : Int) ≠ 0 by decide)
    have h2 := Int.emod_lt_of_pos (b * 30671 + 8807) (show (0 : Int) < 2147483549 by decide)
    generalize (b * 30671 + 8807) % 2147483549 = b' at h1 h2 ⊢
    have hd2 : (upd H2 d (.lst ([V.int a, V.int b].set 1 (.int b')))) d = some (.lst [.int a, .int b']) := upd_same
    have xb : ExB d H (upd H2 d (.lst ([V.int a, V.int b].set 1 (.int b')))) := (ExB.of (x1.trans x2)).trans ExB.upd
    generalize upd H2 d (.lst ([V.int a, V.int b].set 1 (.int b'))) = H3 at hd2 xb ⊢
    have c2 : CMul b' (b' + 101) := .inl ⟨by omega, by omega⟩
    refine q_asgD (K := K) (d := .int ((b' * (b' + 101)) % 2147483587)) (evd_mod (evd_intc (evd_mul (e1 H3 a b' _ rfl hd2) (evd_add (e1 H3 a b' _ rfl hd2) evd_int) c2)) evd_int (by decide)) fun v H4 x4 hv => ?_
    have h3 := Int.emod_nonneg (b' * (b' + 101)) (show (2147483587 : Int) ≠ 0 by decide)
    generalize (b' * (b' + 101)) % 2147483587 = c at h3 hv ⊢
    refine s_retD (K := K) (d := .int (c / 613 % m)) (evd_mod (evd_intc (evd_fdiv (evd_var rfl hv) evd_int ⟨by decide, by decide⟩)) (evd_var rfl (mD _)) (by omega)) fun u H5 x5 hu => ?_
    have eu := Dp.int_eq hu
    subst eu
    have h4 := Int.emod_nonneg (c / 613) (show (m : Int) ≠ 0 by omega)
    have h5 := Int.emod_lt_of_pos (c / 613) (show (0 : Int) < m by omega)
    have h6 : c / 613 % (m : Int) = (((c / 613 % (m : Int)).toNat : Nat) : Int) := by omega
    rw [h6]
    exact q _ _ (by omega) (xb.trans (ExB.of (x4.trans x5))) ⟨a, b', (x4.trans x5) _ _ hd2, ha, h1, by omega⟩
theorem ok_drum (N : Fr mg) (D : IsD K mg "_law_drum" 43) : Has P w K mg base CX0 1 "_law_drum" ["_law_script", "_law_k"] (spDrum K) := by
  refine mk_has D sc__law_drum (fun _ _ _ _ _ _ us hl => match us, hl with | [_, _], _ => rfl) (fun vs H Q E h => by obtain ⟨d, m, rfl, _⟩ := h; rfl) fun f cdv A outer s H vs Q E hr h => ?_
  refine ⟨_, PSs.nox (pss_cons (ps_set (i := 2) (sc__law_drum).nd (by rfl) (by first | exact Or.inl rfl | exact Or.inr rfl) (pe_op op_cat (pe_callTy (r := Evl.rListS K) call_list_of (by rfl) N.f_list (by decide +kernel) (pa_cons (pv 0) pa_nil)) (pe_lst (pa_cons pe_int pa_nil)))) (pss_cons (ps_set (i := 3) (sc__law_drum).nd (by rfl) (by first | exact Or.inl rfl | exact Or.inr rfl) (pe_ifExp (pt_cmpR op_lt (pv 1) (pe_callB (r := Evl.rLenS K) call_len_seq (by rfl) N.f_len boot_len (pa_cons (pv 2) pa_nil)) (nomark _)) (pe_op op_mod (pe_callB call_abs (by rfl) N.f_abs (by decide +kernel) (pa_cons (pe_callTy call_int1 (by rfl) N.f_int (by decide +kernel) (pa_cons (pe_ix (r := rIxL K) ix_list (pv 2) (pv 1) (by intro _ _; rfl)) pa_nil)) pa_nil)) (pe_op op_mulW (pe_op op_mulW (pe_op op_mulW (pe_op op_pow pe_int pe_int) (pe_op op_pow pe_int pe_int)) (pe_op op_pow pe_int pe_int)) (pe_op op_pow pe_int pe_int))) (pe_op op_add (pe_op op_mulW pe_int (pv 1)) pe_int))) (pss_one (ps_ret (pe_lst (pa_cons (pe_ifExp (pt_cmpR op_ge (pv 3) (pe_op op_pow pe_int pe_int) (nomark _)) (pv 3) pe_int) (pa_cons (pe_op op_add (pe_op op_mod (pe_callTy call_int1 (by rfl) N.f_int (by decide +kernel) (pa_cons (pe_op op_add (pe_op op_add (pe_op op_mulW (pe_op op_mod (pv 3) pe_int) pe_int) (pe_op op_mulW pe_int (pv 1))) pe_int) pa_nil)) pe_int) pe_int) pa_nil))))))), ?_⟩
  obtain ⟨a, ns, rfl, hs, hl, q⟩ := h
  refine q_asgN (K := K) (ds := (ns ++ [0]).map PyData.int) (evn_is (evn_cat (evn_listL (evd_var rfl (.lst hs (dpAll_ints K H ns)))).liv (evn_lst (eda_one evd_int) (by decide)).liv (by simp; omega)) (by rw [List.map_append]; rfl)) fun r xs H1 hr0 e1 hr1 hxs => ?_
  have hsome : ∀ H', Ex H1 H' → Dp K H' (.ref r) (.list ((ns ++ [0]).map PyData.int)) := fun H' e => .lst (Evl.sq_of (e _ _ hr1)) (hxs.ex e)
  obtain ⟨z, hz⟩ : ∃ z, (ns ++ [0])[0]? = some z := by
    cases ns with
    | nil => exact ⟨0, rfl⟩
    | cons z _ => exact ⟨z, rfl⟩
  have hz' : ((ns ++ [0]).map PyData.int)[0]? = some (.int z) := by rw [List.getElem?_map, hz]; rfl
  have cp : CPow 10 60 := ⟨by decide, by decide, by decide⟩
  have big : ∀ (a b : Nat), a + b ≤ 1000 → CMulW ((10 : Int) ^ a) ((10 : Int) ^ b) := fun a b h => by
    have g : ∀ k : Nat, ((10 : Int) ^ k).natAbs < 2 ^ (4 * k + 1) := fun k => by
      have e : ((10 : Int) ^ k).natAbs = 10 ^ k := by
        rw [Int.natAbs_pow]
        rfl
      rw [e]
      calc 10 ^ k ≤ 16 ^ k := Nat.pow_le_pow_left (by decide) k
        _ = 2 ^ (4 * k) := by rw [Nat.pow_mul]
        _ < 2 ^ (4 * k + 1) := Nat.pow_lt_pow_right (by decide) (by omega)
    exact wide_mul (g a) (g b) (by omega) (by omega) (by omega)
  have m240 : ∀ (σ : L2.St) (H' : Hp), EvD K (tOp (rI CMulW fun i j => .int (i * j)) (tOp (rI CMulW fun i j => .int (i * j)) (tOp (rI CMulW fun i j => .int (i * j)) (tOp (rI CPow fun i j => .int (i ^ j.toNat)) (tC (.int 10)) (tC (.int 60))) (tOp (rI CPow fun i j => .int (i ^ j.toNat)) (tC (.int 10)) (tC (.int 60)))) (tOp (rI CPow fun i j => .int (i ^ j.toNat)) (tC (.int 10)) (tC (.int 60)))) (tOp (rI CPow fun i j => .int (i ^ j.toNat)) (tC (.int 10)) (tC (.int 60)))) σ H' (.int (10 ^ 240)) := fun σ H' => by
    have p := evd_pow (K := K) (σ := σ) (H := H') (evd_int (n := 10)) (evd_int (n := 60)) cp
    have m1 := evd_is (e := .int (10 ^ 120)) (evd_mulW p p (big 60 60 (by decide))) (congrArg PyData.int (by decide +kernel))
    have m2 := evd_is (e := .int (10 ^ 180)) (evd_mulW m1 p (big 120 60 (by decide))) (congrArg PyData.int (by decide +kernel))
    exact evd_is (evd_mulW m2 p (big 180 60 (by decide))) (congrArg PyData.int (by decide +kernel))
  have pos240 : (0 : Int) < 10 ^ 240 := by decide +kernel
  refine q_asgD (K := K) (d := .int ((if z < 0 then -z else z) % 10 ^ 240)) (evd_if (b := true) (Evl.et_is (evt_test (evt_lt (K := K) (i := 0) (evd_var rfl (.int _)) (evd_lenL (evd_var rfl (hsome _ (Ex.refl _)))))) ?_) (fun _ => evd_mod (evd_abs (evd_intc (evd_ixL (j := 0) (evd_var rfl (hsome _ (Ex.refl _))) (evd_var (d := .int 0) rfl (.int _)) hz'))) (m240 _ _) pos240) fun h => by cases h) fun v H2 e2 hv => ?_
  · exact decide_eq_true (by rw [List.length_map, List.length_append, List.length_singleton]; omega)
  have h1 := Int.emod_nonneg (if z < 0 then -z else z) (Int.ne_of_gt pos240)
  generalize (if z < 0 then -z else z) % (10 : Int) ^ 240 = c at hv h1 ⊢
  have p18 : CPow 10 18 := ⟨by decide, by decide, by decide⟩
  have small : ∀ x : Int, 0 ≤ x → x < 2147482319 → CMulW x 89 := fun x h0 h1 => wide_mul (a := 32) (b := 32) (by omega) (by decide) (by decide) (by decide) (by decide)
  have g1 := Int.emod_nonneg c (show (2147482319 : Int) ≠ 0 by decide)
  have g2 := Int.emod_lt_of_pos c (show (0 : Int) < 2147482319 by decide)
  have g3 := Int.emod_nonneg (c % 2147482319 * 89 + 1063 * 0 + 73) (show (2147482319 : Int) ≠ 0 by decide)
  have g4 := Int.emod_lt_of_pos (c % 2147482319 * 89 + 1063 * 0 + 73) (show (0 : Int) < 2147482319 by decide)
  refine s_retN (K := K) (ds := [.int (if (10 : Int) ^ 18 ≤ c then c else 0), .int ((c % 2147482319 * 89 + 1063 * 0 + 73) % 2147482319 + 1)]) (evn_lst (eda_cons (evd_if (b := decide ((10 : Int) ^ 18 ≤ c)) (evt_test (evd_ge (evd_var rfl hv) (evd_pow evd_int evd_int p18))) (fun h => by rw [if_pos (of_decide_eq_true h)]; exact evd_var rfl hv) fun h => by rw [if_neg (of_decide_eq_false h)]; exact evd_int) (eda_one (evd_add (evd_mod (evd_intc (evd_add (evd_add (evd_mulW (evd_mod (evd_var rfl hv) evd_int (by decide)) evd_int (small _ g1 g2)) (evd_mulW evd_int (evd_var (d := .int 0) rfl (.int _)) (wide_mul (a := 32) (b := 1) (by decide) (by decide) (by decide) (by decide) (by decide)))) evd_int)) evd_int (by decide)) evd_int))) (by simp)) fun r2 ys H3 hr2 e3 hr3 hys => ?_
  obtain ⟨x, y, rfl, hx, hy⟩ := arg2 hys
  have ex := Dp.int_eq hx
  have ey := Dp.int_eq hy
  subst ex ey
  refine q r2 H3 (Evl.fresh_back (e1.trans e2) hr2) ((e1.trans e2).trans e3) ⟨_, _, hr3, ?_, by omega, by omega⟩
  by_cases h : (10 : Int) ^ 18 ≤ c
  · rw [if_pos h]; exact h1
  · rw [if_neg h]; exact Int.le_refl 0
theorem ok_pick (N : Fr mg) (D : IsD K mg "_law_pick" 45) (h__law_roll : Has P w K mg base CX0 1 "_law_roll" ["_law_drum_here", "_law_many"] (spRoll K)) : Has P w K mg base CX0 2 "_law_pick" ["_law_drum_here", "_law_things"] (spPick K) := by
  refine mk_has D sc__law_pick (fun _ _ _ _ _ _ us hl => match us, hl with | [_, _], _ => rfl) (fun vs H Q E h => by obtain ⟨d, x, xs, ps, rfl, _⟩ := h; rfl) fun f cdv A outer s H vs Q E hr h => ?_
  refine ⟨_, PSs.nox (pss_one (ps_ret (pe_ix (r := rIxL K) ix_list (pv 1) (pe_fn h__law_roll hr (by decide) (by rfl) pass0 (pa_cons (pv 0) (pa_cons (pe_callB (r := Evl.rLenS K) call_len_seq (by rfl) N.f_len boot_len (pa_cons (pv 1) pa_nil)) pa_nil))) (by intro _ _; rfl)))), ?_⟩
  obtain ⟨d, x, xs, ps, rfl, hd, ne, hx, hxs, h0, h1, q⟩ := h
  refine ⟨_, rfl, _, rfl, _, rfl, x, xs, rfl, .inl (Evl.sq_of hx), d, xs.length, rfl, hd, ?_, ?_, fun r H' hr' xb hd' => ?_⟩
  · rw [hxs.len, List.length_map]; exact h0
  · rw [hxs.len, List.length_map]; exact h1
  · have T := xb.tex hd
    have hxs' : DpAll K H' xs (ps.map eP) := DpAll.tex T _ (tupOs_all.mpr fun z hz => by obtain ⟨m, _, rfl⟩ := List.mem_map.mp hz; exact tupO_eP m) hxs
    have hlt : r < ps.length := by rw [hxs.len, List.length_map] at hr'; exact hr'
    obtain ⟨v, hv, hd2⟩ := hxs'.get (i := r) (d := eP ps[r]) (by rw [List.getElem?_map, List.getElem?_eq_getElem hlt]; rfl)
    exact ⟨x, xs, r, v, rfl, rfl, Evl.sq_of (xb x _ ne hx), atI_nat hv, q _ v H' (List.getElem_mem hlt) xb hd' hd2⟩
end
end PR
set_option maxHeartbeats 400000
namespace PR
def lotAt (p : Part) (o : Nat) : List Nat := p.getD o []
theorem lotAt_get {p : Part} {o : Nat} (h : o < p.length) : p[o]? = some (lotAt p o) := by
  unfold lotAt
  rw [List.getD_eq_getElem?_getD, List.getElem?_eq_getElem h]
  rfl
theorem lotAt_mem {p : Part} {o : Nat} (h : o < p.length) : lotAt p o ∈ p := List.mem_of_getElem? (lotAt_get h)
/-- lots that are made point by point, some of them open -/
structure PInv (k : Nat) (p : Part) (op : List Nat) : Prop where
  parts : Parts k p
  srt : p.Pairwise fun a b => headN a < headN b
  nc : NC (Same p)
  ob : ∀ o ∈ op, o < p.length
  ord : op.Pairwise fun o o' => ∀ b ∈ lotAt p o, ∀ a ∈ lotAt p o', b < a
  exp : ∀ o ∈ op, ∀ b ∈ lotAt p o, ∀ m ∈ p, ∀ a ∈ m, ∀ c ∈ m, a < b → b < c → m = lotAt p o
theorem PInv.start : PInv 0 [] [] where
  parts := ⟨fun l h => (by cases h), fun l h => (by cases h), fun l h => (by cases h), fun x h => absurd h (Nat.not_lt_zero x), .nil⟩
  srt := .nil
  nc := fun a b c d _ _ _ h => by obtain ⟨l, hl, _⟩ := h; cases hl
  ob := fun o h => by cases h
  ord := .nil
  exp := fun o h => by cases h
theorem PInv.trunc {k : Nat} {p : Part} {op : List Nat} (h : PInv k p op) (m : Nat) : PInv k p (op.take m) where
  parts := h.parts
  srt := h.srt
  nc := h.nc
  ob := fun o ho => h.ob o (List.mem_of_mem_take ho)
  ord := h.ord.sublist (List.take_sublist m op)
  exp := fun o ho => h.exp o (List.mem_of_mem_take ho)
theorem lotAt_new {p : Part} {k o : Nat} : lotAt (p ++ [[k]]) o = if o < p.length then lotAt p o else if o = p.length then [k] else [] := by
  unfold lotAt
  rw [List.getD_eq_getElem?_getD, List.getD_eq_getElem?_getD]
  by_cases h : o < p.length
  · rw [if_pos h, List.getElem?_append_left h]
  · rw [if_neg h, List.getElem?_append_right (by omega)]
    by_cases e : o = p.length
    · rw [if_pos e, e, Nat.sub_self]
      rfl
    · rw [if_neg e, List.getElem?_eq_none (by simp; omega)]
      rfl
theorem same_new {k : Nat} {p : Part} (h : Parts k p) (x y : Nat) : Same (p ++ [[k]]) x y ↔ Same p x y ∨ (x = k ∧ y = k) := by
  constructor
  · rintro ⟨l, hl, hx, hy⟩
    rcases List.mem_append.mp hl with hl | hl
    · exact .inl ⟨l, hl, hx, hy⟩
    · cases List.mem_singleton.mp hl
      exact .inr ⟨List.mem_singleton.mp hx, List.mem_singleton.mp hy⟩
  · rintro (⟨l, hl, hx, hy⟩ | ⟨ex, ey⟩)
    · exact ⟨l, List.mem_append_left _ hl, hx, hy⟩
    · exact ⟨[k], List.mem_append_right _ (List.mem_singleton.mpr rfl), List.mem_singleton.mpr ex, List.mem_singleton.mpr ey⟩
theorem PInv.new {k : Nat} {p : Part} {op : List Nat} (h : PInv k p op) : PInv (k + 1) (p ++ [[k]]) (op ++ [p.length]) where
  parts := ⟨fun l hl => by
      rcases List.mem_append.mp hl with hl | hl
      · exact h.parts.ne l hl
      · cases List.mem_singleton.mp hl; simp,
    fun l hl => by
      rcases List.mem_append.mp hl with hl | hl
      · exact h.parts.asc l hl
      · cases List.mem_singleton.mp hl; exact List.pairwise_singleton _ _,
    fun l hl x hx => by
      rcases List.mem_append.mp hl with hl | hl
      · have := h.parts.bd l hl x hx; omega
      · cases List.mem_singleton.mp hl
        cases List.mem_singleton.mp hx; omega,
    fun x hx => by
      by_cases e : x = k
      · exact ⟨[k], List.mem_append_right _ (List.mem_singleton.mpr rfl), List.mem_singleton.mpr e⟩
      · obtain ⟨l, hl, xl⟩ := h.parts.cov x (by omega)
        exact ⟨l, List.mem_append_left _ hl, xl⟩,
    List.pairwise_append.mpr ⟨h.parts.dis, List.pairwise_singleton _ _, fun l hl m hm x hx hxm => by
      cases List.mem_singleton.mp hm
      cases List.mem_singleton.mp hxm
      have := h.parts.bd l hl _ hx
      omega⟩⟩
  srt := List.pairwise_append.mpr ⟨h.srt, List.pairwise_singleton _ _, fun l hl m hm => by
    cases List.mem_singleton.mp hm
    have := h.parts.bd l hl _ (headN_mem (h.parts.ne l hl))
    exact this⟩
  nc := fun a b c d h1 h2 h3 r s => by
    rcases (same_new h.parts a c).mp r with r | ⟨rfl, rfl⟩
    · rcases (same_new h.parts b d).mp s with s | ⟨rfl, rfl⟩
      · exact (same_new h.parts a b).mpr (.inl (h.nc a b c d h1 h2 h3 r s))
      · omega
    · omega
  ob := fun o ho => by
    rw [List.length_append, List.length_singleton]
    rcases List.mem_append.mp ho with ho | ho
    · have := h.ob o ho; omega
    · cases List.mem_singleton.mp ho; omega
  ord := List.pairwise_append.mpr ⟨h.ord.imp_of_mem fun {o o'} ho ho' q b hb a ha => by
      rw [lotAt_new, if_pos (h.ob o ho)] at hb
      rw [lotAt_new, if_pos (h.ob o' ho')] at ha
      exact q b hb a ha, List.pairwise_singleton _ _, fun o ho o' ho' b hb a ha => by
      cases List.mem_singleton.mp ho'
      rw [lotAt_new, if_pos (h.ob o ho)] at hb
      rw [lotAt_new, if_neg (Nat.lt_irrefl _), if_pos rfl] at ha
      cases List.mem_singleton.mp ha
      exact h.parts.bd _ (lotAt_mem (h.ob o ho)) b hb⟩
  exp := fun o ho b hb m hm a ha c hc h1 h2 => by
    have hm' : m ∈ p := by
      rcases List.mem_append.mp hm with hm | hm
      · exact hm
      · cases List.mem_singleton.mp hm
        cases List.mem_singleton.mp ha
        cases List.mem_singleton.mp hc
        omega
    rcases List.mem_append.mp ho with ho | ho
    · rw [lotAt_new, if_pos (h.ob o ho)] at hb ⊢
      exact h.exp o ho b hb m hm' a ha c hc h1 h2
    · cases List.mem_singleton.mp ho
      rw [lotAt_new, if_neg (Nat.lt_irrefl _), if_pos rfl] at hb
      cases List.mem_singleton.mp hb
      have := h.parts.bd m hm' c hc
      omega
/-- the last open lot takes the next point -/
def addAt (p : Part) (o k : Nat) : Part := p.set o (lotAt p o ++ [k])
theorem lotAt_add {p : Part} {o k i : Nat} (h : o < p.length) : lotAt (addAt p o k) i = if i = o then lotAt p o ++ [k] else lotAt p i := by
  unfold addAt
  unfold lotAt
  rw [List.getD_eq_getElem?_getD]
  by_cases e : i = o
  · subst e
    rw [if_pos rfl, List.getElem?_set_self h]
    rfl
  · rw [if_neg e, List.getElem?_set_ne (Ne.symm e), List.getD_eq_getElem?_getD]
theorem add_len {p : Part} {o k : Nat} : (addAt p o k).length = p.length := by simp [addAt]
theorem mem_add {p : Part} {o k : Nat} (h : o < p.length) {l : List Nat} : l ∈ addAt p o k ↔ ∃ i, i < p.length ∧ l = if i = o then lotAt p o ++ [k] else lotAt p i := by
  constructor
  · intro hl
    obtain ⟨i, hi, e⟩ := List.getElem_of_mem hl
    rw [add_len] at hi
    refine ⟨i, hi, ?_⟩
    rw [← lotAt_add h, ← e]
    unfold lotAt
    rw [List.getD_eq_getElem?_getD, List.getElem?_eq_getElem (by rw [add_len]; exact hi)]
    rfl
  · rintro ⟨i, hi, rfl⟩
    rw [← lotAt_add h]
    exact lotAt_mem (by rw [add_len]; exact hi)
theorem head_app {l : List Nat} (h : l ≠ []) (k : Nat) : headN (l ++ [k]) = headN l := by
  cases l with
  | nil => exact absurd rfl h
  | cons a l => rfl
theorem same_add {k : Nat} {p : Part} (h : Parts k p) {o : Nat} (ho : o < p.length) (x y : Nat) : Same (addAt p o k) x y ↔ Same p x y ∨ ((x = k ∨ x ∈ lotAt p o) ∧ (y = k ∨ y ∈ lotAt p o)) := by
  constructor
  · rintro ⟨l, hl, hx, hy⟩
    obtain ⟨i, hi, rfl⟩ := (mem_add ho).mp hl
    by_cases e : i = o
    · rw [if_pos e] at hx hy
      refine .inr ⟨?_, ?_⟩
      · rcases List.mem_append.mp hx with z | z
        · exact .inr z
        · exact .inl (List.mem_singleton.mp z)
      · rcases List.mem_append.mp hy with z | z
        · exact .inr z
        · exact .inl (List.mem_singleton.mp z)
    · rw [if_neg e] at hx hy
      exact .inl ⟨_, lotAt_mem hi, hx, hy⟩
  · have hL : lotAt p o ++ [k] ∈ addAt p o k := (mem_add ho).mpr ⟨o, ho, (if_pos rfl).symm⟩
    have key : ∀ z, (z = k ∨ z ∈ lotAt p o) → z ∈ lotAt p o ++ [k] := fun z hz => by
      rcases hz with rfl | hz
      · exact List.mem_append_right _ (List.mem_singleton.mpr rfl)
      · exact List.mem_append_left _ hz
    rintro (⟨l, hl, hx, hy⟩ | ⟨hx, hy⟩)
    · obtain ⟨i, hi, rfl⟩ := List.getElem_of_mem hl
      by_cases e : i = o
      · subst e
        have e2 : lotAt p i = p[i] := by
          unfold lotAt
          rw [List.getD_eq_getElem?_getD, List.getElem?_eq_getElem hi]
          rfl
        exact ⟨_, hL, key x (.inr (e2 ▸ hx)), key y (.inr (e2 ▸ hy))⟩
      · have e2 : lotAt p i = p[i] := by
          unfold lotAt
          rw [List.getD_eq_getElem?_getD, List.getElem?_eq_getElem hi]
          rfl
        exact ⟨lotAt p i, (mem_add ho).mpr ⟨i, hi, (if_neg e).symm⟩, e2 ▸ hx, e2 ▸ hy⟩
    · exact ⟨_, hL, key x hx, key y hy⟩
theorem lotAt_dis {k : Nat} {p : Part} (h : Parts k p) {i j : Nat} (hi : i < p.length) (hj : j < p.length) (ne : i ≠ j) : ∀ x, x ∈ lotAt p i → x ∉ lotAt p j := h.dis_at ne (lotAt_get hi) (lotAt_get hj)
theorem PInv.add {k : Nat} {p : Part} {rest : List Nat} {o : Nat} (h : PInv k p (rest ++ [o])) : PInv (k + 1) (addAt p o k) (rest ++ [o]) := by
  have om : o ∈ rest ++ [o] := List.mem_append_right _ (List.mem_singleton.mpr rfl)
  have ho := h.ob o om
  have Lm := lotAt_mem ho
  have bd := fun i (hi : i < p.length) x (hx : x ∈ lotAt p i) => h.parts.bd _ (lotAt_mem hi) x hx
  have lower : ∀ o' ∈ rest, o' ≠ o := fun o' ho' e => by
    subst e
    have := (List.pairwise_append.mp h.ord).2.2 o' ho' o' (List.mem_singleton.mpr rfl)
    have hh := headN_mem (h.parts.ne _ Lm)
    exact Nat.lt_irrefl _ (this _ hh _ hh)
  refine ⟨⟨fun l hl => ?_, fun l hl => ?_, fun l hl x hx => ?_, fun x hx => ?_, ?_⟩, ?_, ?_, fun i hi => ?_, ?_, ?_⟩
  · obtain ⟨i, hi, rfl⟩ := (mem_add ho).mp hl
    split
    · simp
    · exact h.parts.ne _ (lotAt_mem hi)
  · obtain ⟨i, hi, rfl⟩ := (mem_add ho).mp hl
    split
    · exact List.pairwise_append.mpr ⟨h.parts.asc _ Lm, List.pairwise_singleton _ _, fun x hx y hy => by
        cases List.mem_singleton.mp hy
        exact bd o ho x hx⟩
    · exact h.parts.asc _ (lotAt_mem hi)
  · obtain ⟨i, hi, rfl⟩ := (mem_add ho).mp hl
    split at hx
    · rcases List.mem_append.mp hx with z | z
      · have := bd o ho x z; omega
      · cases List.mem_singleton.mp z; omega
    · have := bd i hi x hx; omega
  · by_cases e : x = k
    · obtain ⟨l, hl, h1, _⟩ := (same_add h.parts ho x x).mpr (.inr ⟨.inl e, .inl e⟩)
      exact ⟨l, hl, h1⟩
    · obtain ⟨l, hl, h1, _⟩ := (same_add h.parts ho x x).mpr (.inl (h.parts.eqv.rfl' x (by omega)))
      exact ⟨l, hl, h1⟩
  · refine List.pairwise_iff_getElem.mpr fun i j hi hj hij x hx hy => ?_
    have hi2 : i < p.length := by rw [add_len] at hi; exact hi
    have hj2 : j < p.length := by rw [add_len] at hj; exact hj
    have g : ∀ i (hi : i < (addAt p o k).length), (addAt p o k)[i] = lotAt (addAt p o k) i := fun i hi => by
      unfold lotAt
      rw [List.getD_eq_getElem?_getD, List.getElem?_eq_getElem hi]
      rfl
    rw [g, lotAt_add ho] at hx hy
    have nk : ∀ i, i < p.length → k ∉ lotAt p i := fun i hi z => Nat.lt_irrefl _ (bd i hi k z)
    have dis := lotAt_dis h.parts hi2 hj2 (by omega)
    split at hx
    · rename_i e1
      subst e1
      rw [if_neg (by omega)] at hy
      rcases List.mem_append.mp hx with z | z
      · exact dis x z hy
      · cases List.mem_singleton.mp z; exact nk j hj2 hy
    · split at hy
      · rename_i e2
        subst e2
        rcases List.mem_append.mp hy with z | z
        · exact dis x hx z
        · cases List.mem_singleton.mp z; exact nk i hi2 hx
      · exact dis x hx hy
  · refine List.pairwise_iff_getElem.mpr fun i j hi0 hj0 hij => ?_
    have hi : i < p.length := by rw [add_len] at hi0; exact hi0
    have hj : j < p.length := by rw [add_len] at hj0; exact hj0
    have g : ∀ i (hi : i < (addAt p o k).length), (addAt p o k)[i] = lotAt (addAt p o k) i := fun i hi => by
      unfold lotAt
      rw [List.getD_eq_getElem?_getD, List.getElem?_eq_getElem hi]
      rfl
    have hd : ∀ i, i < p.length → headN (lotAt (addAt p o k) i) = headN (lotAt p i) := fun i hi => by
      rw [lotAt_add ho]
      split
      · rename_i e
        subst e
        exact head_app (h.parts.ne _ (lotAt_mem hi)) k
      · rfl
    rw [g, g, hd i hi, hd j hj]
    have e1 : ∀ i (hi : i < p.length), lotAt p i = p[i] := fun i hi => by
      unfold lotAt
      rw [List.getD_eq_getElem?_getD, List.getElem?_eq_getElem hi]
      rfl
    rw [e1 i hi, e1 j hj]
    exact List.pairwise_iff_getElem.mp h.srt i j hi hj hij
  · intro a b c d h1 h2 h3 r s
    have lt : ∀ x y, Same p x y → x < k ∧ y < k := fun x y z => ⟨h.parts.eqv.lt x y z, h.parts.eqv.lt2 z⟩
    have ltL : ∀ x, x ∈ lotAt p o → x < k := bd o ho
    have hac : Same p a c := by
      rcases (same_add h.parts ho a c).mp r with r | ⟨r1, r2⟩
      · exact r
      · have hd : d ≤ k := by
          rcases (same_add h.parts ho b d).mp s with s | ⟨_, s2⟩
          · have := lt b d s; omega
          · rcases s2 with rfl | s2
            · exact Nat.le_refl _
            · have := ltL d s2; omega
        rcases r1 with rfl | r1
        · omega
        · rcases r2 with rfl | r2
          · omega
          · exact ⟨_, Lm, r1, r2⟩
    rcases (same_add h.parts ho b d).mp s with s | ⟨s1, s2⟩
    · exact (same_add h.parts ho a b).mpr (.inl (h.nc a b c d h1 h2 h3 hac s))
    · have hb : b ∈ lotAt p o := by
        rcases s1 with rfl | s1
        · have := (lt a c hac).2; omega
        · exact s1
      obtain ⟨m, hm, am, cm⟩ := hac
      have e := h.exp o om b hb m hm a am c cm h1 h2
      subst e
      exact (same_add h.parts ho a b).mpr (.inl ⟨_, hm, am, hb⟩)
  · rw [add_len]
    exact h.ob i hi
  · refine h.ord.imp_of_mem fun {i j} hi hj q b hb a ha => ?_
    rw [lotAt_add ho] at hb ha
    split at hb
    · rename_i e1
      subst e1
      split at ha
      · rename_i e2
        subst e2
        have hh := headN_mem (h.parts.ne _ Lm)
        exact absurd (q _ hh _ hh) (Nat.lt_irrefl _)
      · -- o ahead of another: not so, o is the last
        rename_i e2
        exfalso
        have : ∀ (rest : List Nat) (i j : Nat), (rest ++ [i]).Pairwise (fun o o' => ∀ b ∈ lotAt p o, ∀ a ∈ lotAt p o', b < a) → j ∈ rest → (∀ b ∈ lotAt p j, ∀ a ∈ lotAt p i, b < a) := fun rest i j pw hj => (List.pairwise_append.mp pw).2.2 j hj i (List.mem_singleton.mpr rfl)
        rcases List.mem_append.mp hj with hj' | hj'
        · have q2 := this rest i j h.ord hj'
          have h1 := headN_mem (h.parts.ne _ Lm)
          have h2 := headN_mem (h.parts.ne _ (lotAt_mem (h.ob j hj)))
          have a1 := q _ h1 _ h2
          have a2 := q2 _ h2 _ h1
          omega
        · exact e2 (List.mem_singleton.mp hj')
    · split at ha
      · rename_i e2
        subst e2
        rcases List.mem_append.mp ha with z | z
        · exact q b hb a z
        · cases List.mem_singleton.mp z
          exact bd i (h.ob i hi) b hb
      · exact q b hb a ha
  · intro i hi b hb m hm a ha c hc h1 h2
    obtain ⟨j, hj, rfl⟩ := (mem_add ho).mp hm
    rw [lotAt_add ho] at hb ⊢
    by_cases ei : i = o
    · subst ei
      rw [if_pos rfl] at hb ⊢
      by_cases ej : j = i
      · rw [if_pos ej]
      · rw [if_neg ej] at ha hc ⊢
        exfalso
        have hbk : b ∈ lotAt p i := by
          rcases List.mem_append.mp hb with z | z
          · exact z
          · cases List.mem_singleton.mp z
            have := bd j hj c hc; omega
        have e := h.exp i hi b hbk _ (lotAt_mem hj) a ha c hc h1 h2
        have hh := headN_mem (h.parts.ne _ Lm)
        exact lotAt_dis h.parts hj (h.ob i hi) ej _ (e.symm ▸ hh) hh
    · rw [if_neg ei] at hb ⊢
      by_cases ej : j = o
      · subst ej
        rw [if_pos rfl] at ha hc
        exfalso
        have hir : i ∈ rest := by
          rcases List.mem_append.mp hi with z | z
          · exact z
          · exact absurd (List.mem_singleton.mp z) ei
        have low := (List.pairwise_append.mp h.ord).2.2 i hir j (List.mem_singleton.mpr rfl)
        have hbk := bd i (h.ob i hi) b hb
        rcases List.mem_append.mp ha with z | z
        · have := low b hb a z; omega
        · cases List.mem_singleton.mp z; omega
      · rw [if_neg ej] at ha hc ⊢
        exact h.exp i hi b hb _ (lotAt_mem hj) a ha c hc h1 h2
theorem PInv.canon {k : Nat} {p : Part} {op : List Nat} (h : PInv k p op) : Canon k p := ⟨h.parts, h.srt⟩
end PR
set_option maxHeartbeats 400000
namespace PR
open PySem PySem.Spec PyProof.Rows L2
open Evl (Ex EvT)
theorem sc__law_parting : FnScope ["_law_drum_here", "_law_points", "_law_lots_here", "_law_open_so", "_law_point", "_law_shut", "_law_lot"] ["_law_drum_here", "_law_points"] (defScope (top 46)) := ⟨rfl, rfl, rfl, by decide +kernel, rfl, by decide +kernel, by decide +kernel⟩
structure PSt (H H' : Hp) (d g h : Addr) (bs : List Addr) (p : Part) (op : List Nat) (k : Nat) : Prop where
  dr : Drum H' d
  xb : ExB d H H'
  hg : H' g = some (.lst (bs.map V.ref))
  hh : H' h = some (.lst (op.map iV))
  fg : H g = none
  fh : H h = none
  fb : ∀ b ∈ bs, H b = none
  gh : g ≠ h
  gb : g ∉ bs
  hb : h ∉ bs
  nd : bs.Nodup
  len : bs.length = p.length
  at_ : ∀ i b, bs[i]? = some b → H' b = some (.lst ((lotAt p i).map iV))
  inv : PInv k p op
  ol : op.length ≤ k
section
variable {H H' H2 : Hp} {d g h : Addr} {bs : List Addr} {p : Part} {op : List Nat} {k : Nat}
theorem fresh_of {b : Addr} (x : ExB d H H') (D : Drum H' d) (hb : H' b = none) : H b = none := by
  have ne : b ≠ d := fun e => by
    subst e
    obtain ⟨_, _, q, _⟩ := D
    rw [q] at hb
    cases hb
  cases e : H b with
  | none => rfl
  | some o =>
    rw [x b o ne e] at hb
    cases hb
theorem PSt.ex (s : PSt H H' d g h bs p op k) (e : Ex H' H2) : PSt H H2 d g h bs p op k :=
  { s with dr := s.dr.ex e, xb := s.xb.trans (.of e), hg := e _ _ s.hg, hh := e _ _ s.hh, at_ := fun i b hb => e _ _ (s.at_ i b hb) }
theorem PSt.roll (s : PSt H H' d g h bs p op k) (hd : H d ≠ none) (x : ExB d H' H2) (D : Drum H2 d) : PSt H H2 d g h bs p op k := by
  have n1 : ∀ b, H b = none → b ≠ d := fun b hb e => hd (e ▸ hb)
  exact { s with dr := D, xb := s.xb.trans x, hg := x _ _ (n1 _ s.fg) s.hg, hh := x _ _ (n1 _ s.fh) s.hh, at_ := fun i b hb => x _ _ (n1 _ (s.fb b (List.mem_of_getElem? hb))) (s.at_ i b hb) }
theorem PSt.cut (s : PSt H H' d g h bs p op k) (m : Nat) {h2 : Addr} (hn : H' h2 = none) (e : Ex H' H2) (hh2 : H2 h2 = some (.lst ((op.take m).map iV))) : PSt H H2 d g h2 bs p (op.take m) k :=
  { s.ex e with
    hh := hh2
    fh := fresh_of s.xb s.dr hn
    gh := fun z => by
      have := s.hg
      rw [z, hn] at this
      cases this
    hb := fun z => by
      obtain ⟨i, hi, ei⟩ := List.getElem_of_mem z
      have := s.at_ i h2 (by rw [← ei]; exact List.getElem?_eq_getElem hi)
      rw [hn] at this
      cases this
    inv := s.inv.trunc m
    ol := by
      rw [List.length_take]
      exact Nat.le_trans (Nat.min_le_right _ _) s.ol }
theorem PSt.add {rest : List Nat} {o : Nat} {b : Addr} (s : PSt H H' d g h bs p (rest ++ [o]) k) (hd : H d ≠ none) (hb : bs[o]? = some b) : PSt H (upd H' b (.lst ((lotAt p o ++ [k]).map iV))) d g h bs (addAt p o k) (rest ++ [o]) (k + 1) := by
  have bm := List.mem_of_getElem? hb
  have ho := s.inv.ob o (List.mem_append_right _ (List.mem_singleton.mpr rfl))
  have nbd : b ≠ d := fun e => hd (e ▸ s.fb b bm)
  have nbg : g ≠ b := fun e => s.gb (e ▸ bm)
  have nbh : h ≠ b := fun e => s.hb (e ▸ bm)
  refine { s with dr := ?_, xb := fun x u n hx => ?_, hg := by rw [upd_ne nbg]; exact s.hg, hh := by rw [upd_ne nbh]; exact s.hh, len := by rw [add_len]; exact s.len, at_ := fun i c hc => ?_, inv := s.inv.add, ol := by have := s.ol; omega }
  · obtain ⟨a1, b1, q, r⟩ := s.dr
    exact ⟨a1, b1, by rw [upd_ne (Ne.symm nbd)]; exact q, r⟩
  · have : x ≠ b := fun e => by rw [e, s.fb b bm] at hx; cases hx
    rw [upd_ne this]
    exact s.xb x u n hx
  · rw [lotAt_add ho]
    by_cases e : i = o
    · subst e
      rw [hb] at hc
      cases hc
      rw [if_pos rfl, upd_same]
    · have : c ≠ b := fun z => by
        subst z
        obtain ⟨h1, e1⟩ := List.getElem?_eq_some_iff.mp hc
        obtain ⟨h2, e2⟩ := List.getElem?_eq_some_iff.mp hb
        have := List.pairwise_iff_getElem.mp s.nd
        rcases Nat.lt_or_gt_of_ne e with q | q
        · exact this i o h1 h2 q (e1.trans e2.symm)
        · exact this o i h2 h1 q (e2.trans e1.symm)
      rw [if_neg e, upd_ne this]
      exact s.at_ i c hc
/-- a new lot: its number to the open ones, itself to the lots -/
theorem PSt.new {b : Addr} {H3 : Hp} (s : PSt H H' d g h bs p op k) (hd : H d ≠ none) (e : Ex (upd H' h (.lst ((op ++ [p.length]).map iV))) H3) (hn : (upd H' h (.lst ((op ++ [p.length]).map iV))) b = none) (hb : H3 b = some (.lst ([k].map iV))) :
    PSt H (upd H3 g (.lst ((bs ++ [b]).map V.ref))) d g h (bs ++ [b]) (p ++ [[k]]) (op ++ [p.length]) (k + 1) := by
  have nhd : d ≠ h := fun e => hd (e ▸ s.fh)
  have ngd : d ≠ g := fun e => hd (e ▸ s.fg)
  have hn' : H' b = none := by
    by_cases z : b = h
    · rw [z, upd_same] at hn; cases hn
    · rw [upd_ne z] at hn; exact hn
  have bh : b ≠ h := fun z => by rw [z, upd_same] at hn; cases hn
  have bg : b ≠ g := fun z => by rw [z, s.hg] at hn'; cases hn'
  have bbs : b ∉ bs := fun z => by
    obtain ⟨i, hi, ei⟩ := List.getElem_of_mem z
    have := s.at_ i b (by rw [← ei]; exact List.getElem?_eq_getElem hi)
    rw [hn'] at this
    cases this
  have dU : (upd H' h (.lst ((op ++ [p.length]).map iV))) d = H' d := upd_ne nhd
  refine ⟨?_, fun x u n hx => ?_, upd_same, ?_, s.fg, s.fh, fun c hc => ?_, s.gh, fun z => ?_, fun z => ?_, ?_, ?_, fun i c hc => ?_, s.inv.new, by have := s.ol; rw [List.length_append, List.length_singleton]; omega⟩
  · obtain ⟨a1, b1, q, r⟩ := s.dr
    exact ⟨a1, b1, by rw [upd_ne ngd]; exact e _ _ (dU.trans q), r⟩
  · have x1 : x ≠ g := fun z => by rw [z, s.fg] at hx; cases hx
    have x2 : x ≠ h := fun z => by rw [z, s.fh] at hx; cases hx
    rw [upd_ne x1]
    exact e _ _ (by rw [upd_ne x2]; exact s.xb x u n hx)
  · rw [upd_ne (Ne.symm s.gh)]
    exact e _ _ upd_same
  · rcases List.mem_append.mp hc with hc | hc
    · exact s.fb c hc
    · cases List.mem_singleton.mp hc
      exact fresh_of s.xb s.dr hn'
  · rcases List.mem_append.mp z with z | z
    · exact s.gb z
    · exact bg (List.mem_singleton.mp z).symm
  · rcases List.mem_append.mp z with z | z
    · exact s.hb z
    · exact bh (List.mem_singleton.mp z).symm
  · exact List.nodup_append.mpr ⟨s.nd, List.nodup_cons.mpr ⟨by simp, List.nodup_nil⟩, fun x hx y hy e => by
      cases List.mem_singleton.mp hy
      exact bbs (e ▸ hx)⟩
  · rw [List.length_append, List.length_append, s.len]
    rfl
  · rw [lotAt_new]
    by_cases hi : i < p.length
    · rw [if_pos hi]
      rw [List.getElem?_append_left (by rw [s.len]; exact hi)] at hc
      have cm := List.mem_of_getElem? hc
      have c1 : c ≠ g := fun z => s.gb (z ▸ cm)
      have c2 : c ≠ h := fun z => s.hb (z ▸ cm)
      rw [upd_ne c1]
      exact e _ _ (by rw [upd_ne c2]; exact s.at_ i c hc)
    · rw [if_neg hi]
      rw [List.getElem?_append_right (by rw [s.len]; omega), s.len] at hc
      by_cases ei : i = p.length
      · subst ei
        rw [Nat.sub_self] at hc
        cases hc
        rw [if_pos rfl, upd_ne bg]
        exact hb
      · rw [List.getElem?_eq_none (by simp; omega)] at hc
        cases hc
end
theorem atI_last {α : Type} (xs : List α) (v : α) : atI (xs ++ [v]) (-1) = some v := by
  unfold atI ixN
  rw [if_neg (by decide), List.length_append, List.length_singleton, if_pos (by omega)]
  show (xs ++ [v])[(-1 + ((xs.length + 1 : Nat) : Int)).toNat]? = some v
  rw [show (-1 + ((xs.length + 1 : Nat) : Int)).toNat = xs.length by omega, List.getElem?_append_right (Nat.le_refl _), Nat.sub_self]
  rfl
def spParting (K : PySem.W.Frag) : Sp := fun vs H Q _ => ∃ (d : Addr) (n : Nat), vs = [.ref d, .int n] ∧ Drum H d ∧ 2 ≤ n ∧ n ≤ 13 ∧ ∀ p v H', Good n p → ExB d H H' → Drum H' d → Dp K H' v (eP p) → Q v H'
section
variable {P : Program} {w : World} {K : PySem.W.Frag} {mg : Str → Option Value} {base : Heap}
theorem roll_ok {σ : L2.St} {H : Hp} {te : TE} {d : Addr} {m : Nat} (h0 : σ[0]? = some (some (.ref d))) (he : EvD K te σ H (nD m)) (D : Drum H d) (hm : 0 < m) (hm2 : m ≤ 1000) (Q : VK) (k : ∀ (r : Nat) H1, r < m → ExB d H H1 → Drum H1 d → Q (.int r) H1) :
    tCall (spRoll K) [] E0 (tCons (tVar 0) (tCons te tNil)) σ H Q :=
  ⟨_, h0, he H (Ex.refl _) _ fun v H1 e1 hv => ⟨d, m, by rw [Dp.int_eq hv]; rfl, D.ex e1, hm, hm2, fun r H2 hr xb D2 => k r H2 hr ((ExB.of e1).trans xb) D2⟩⟩
theorem roll_eq0 {σ : L2.St} {H : Hp} {te : TE} {d : Addr} {m : Nat} (h0 : σ[0]? = some (some (.ref d))) (he : EvD K te σ H (nD m)) (D : Drum H d) (hm : 0 < m) (hm2 : m ≤ 1000) (Q : Bool → Hp → Prop) (k : ∀ (r : Nat) H1, r < m → ExB d H H1 → Drum H1 d → Q (decide (r = 0)) H1) :
    tTest (tOp rEq (tCall (spRoll K) [] E0 (tCons (tVar 0) (tCons te tNil))) (tC (.int 0))) σ H Q :=
  roll_ok h0 he D hm hm2 _ fun r H1 hr xb D2 => ⟨rfl, _, rfl, by
    have : decide (V.int (r : Int) = V.int 0) = decide (r = 0) := decide_eq_decide.mpr ⟨fun e => by have := V.int.inj e; omega, fun e => by rw [e]; rfl⟩
    rw [this]
    exact k r H1 hr xb D2⟩
theorem and_ok {σ : L2.St} {H : Hp} {A B : TT} {b : Bool} (hA : EvT A σ H b) (Q : Bool → Hp → Prop) (kT : b = true → ∀ H1, Ex H H1 → B σ H1 Q) (kF : b = false → ∀ H1, Ex H H1 → Q false H1) : tAnd A B σ H Q := hA H (Ex.refl _) _ fun H1 e1 => by
  cases b with
  | true => exact iteT (kT rfl H1 e1)
  | false => exact iteF (kF rfl H1 e1)
theorem shut_ok {σ : L2.St} {H H' : Hp} {d g h : Addr} {bs : List Addr} {p : Part} {op : List Nat} {i : Nat} (h0 : σ[0]? = some (some (.ref d))) (h3 : σ[3]? = some (some (.ref h))) (st : PSt H H' d g h bs p op i) (hd : H d ≠ none) (hi : i ≤ 100)
    (Q : VK) (k : ∀ (m : Nat) H2, m ≤ op.length → PSt H H2 d g h bs p op i → Q (.int m) H2) :
    tIf (tTest (tOp rEq (tCall (spRoll K) [] E0 (tCons (tVar 0) (tCons (tC (.int 2)) tNil))) (tC (.int 0)))) (tCall (spRoll K) [] E0 (tCons (tVar 0) (tCons (tOp (rI0 fun i j => .int (i + j)) (tCB (Evl.rLenS K) (tCons (tVar 3) tNil)) (tC (.int 1))) tNil))) (tC (.int 0)) σ H' Q :=
  roll_eq0 (m := 2) h0 evd_int st.dr (by decide) (by decide) _ fun r H2 hr xb D2 => by
    have st2 := st.roll hd xb D2
    have ol := st.ol
    by_cases e : r = 0
    · rw [decide_eq_true e]
      refine iteT (roll_ok (m := op.length + 1) h0 (evd_is (evd_add (evd_lenL (evd_var h3 (.lst (Evl.sq_of st2.hh) (nats_dp op)))) evd_int) (by rw [List.length_map]; rfl)) D2 (by omega) (by omega) _ fun r2 H3 hr2 xb2 D3 => k r2 H3 (by omega) (st2.roll hd xb2 D3))
    · rw [decide_eq_false e]
      exact iteF (k 0 H2 (Nat.zero_le _) st2)
theorem lots_list {H : Hp} : ∀ {bs : List Addr} {p : Part}, bs.length = p.length → (∀ i b, bs[i]? = some b → H b = some (.lst ((lotAt p i).map iV))) → DpAll K H (bs.map V.ref) (p.map fun l => .list (l.map nD))
  | [], [], _, _ => .nil
  | [], _ :: _, h, _ => by cases h
  | _ :: _, [], h, _ => by cases h
  | b :: bs, l :: p, h, a => .cons (.lst (Evl.sq_of (a 0 b rfl)) (nats_dp l)) (lots_list (Nat.succ.inj h) fun i c hc => a (i + 1) c hc)
theorem s_appNew {σ : L2.St} {H : Hp} {ta te : TE} {D : Ends} {ds : List PyData} {l : Addr} {xs : List V} (hl : H l = some (.lst xs)) (ha : Evl.Ev ta σ H (.ref l)) (h : EvN K te σ H ds) (hz : xs.length < 100000)
    (k : ∀ p ys H1, H p = none → Ex H H1 → H1 p = some (.lst ys) → DpAll K H1 ys ds → D.nx σ (upd H1 l (.lst (xs ++ [.ref p])))) : tDrop (tBM K "list" rAppend ta (tCons te tNil)) D σ H := ha H (Ex.refl H) _ fun H1 e1 =>
  ⟨Or.inl ⟨rfl, xs, Evl.sq_of (e1 l _ hl)⟩, h H1 e1 _ fun p ys H2 hn e2 hp hd => ⟨l, xs, .ref p, rfl, rfl, e2 l _ (e1 l _ hl), Evl.sz_lt hz, k p ys H2 (Evl.fresh_back e1 hn) (e1.trans e2) hp hd⟩⟩
theorem newlot_ok {σ : L2.St} {H H' : Hp} {d g h : Addr} {bs : List Addr} {p : Part} {op : List Nat} {i : Nat} {D : Ends} (h2 : σ[2]? = some (some (.ref g))) (h3 : σ[3]? = some (some (.ref h))) (h4 : σ[4]? = some (some (.int (i : Int)))) (st : PSt H H' d g h bs p op i) (hd : H d ≠ none) (hi : i ≤ 100)
    (k : ∀ H3 bs', PSt H H3 d g h bs' (p ++ [[i]]) (op ++ [p.length]) (i + 1) → D.nx σ H3) :
    tSeq (tDrop (tBM K "list" rAppend (tVar 3) (tCons (tCB (Evl.rLenS K) (tCons (tVar 2) tNil)) tNil))) (tDrop (tBM K "list" rAppend (tVar 2) (tCons (tLst (tCons (tVar 4) tNil)) tNil))) D σ H' := by
  have ol := st.ol
  have pl := st.inv.parts.len
  refine q_appD (K := K) (d := nD p.length) st.hh (Evl.ev_var h3) (evd_is (evd_lenL (evd_var h2 (.lst (Evl.sq_of st.hg) (lots_list st.len st.at_)))) (by rw [List.length_map]; rfl)) (by rw [List.length_map]; omega) fun v H1 e1 hv => ?_
  have ev := Dp.int_eq hv
  subst ev
  have st1 := st.ex e1
  have e2 : op.map iV ++ [V.int (p.length : Int)] = (op ++ [p.length]).map iV := by rw [List.map_append]; rfl
  rw [e2]
  have hgU : (upd H1 h (.lst ((op ++ [p.length]).map iV))) g = some (.lst (bs.map V.ref)) := by rw [upd_ne st.gh]; exact st1.hg
  refine s_appNew (K := K) (ds := [i].map nD) hgU (Evl.ev_var h2) (evn_lst (eda_one (evd_var (K := K) (d := nD i) h4 (.int _))) (by simp)) (by rw [List.length_map, st.len]; omega) fun b ys H2 hn e3 hb hys => ?_
  have ey := dp_nats hys
  subst ey
  have e4 : bs.map V.ref ++ [V.ref b] = (bs ++ [b]).map V.ref := by rw [List.map_append]; rfl
  rw [e4]
  exact k _ _ (st1.new hd e3 hn hb)
theorem ok_parting (N : Fr mg) (D : IsD K mg "_law_parting" 46) (h__law_roll : Has P w K mg base CX0 1 "_law_roll" ["_law_drum_here", "_law_many"] (spRoll K)) : Has P w K mg base CX0 2 "_law_parting" ["_law_drum_here", "_law_points"] (spParting K) := by
  refine mk_has D sc__law_parting (fun _ _ _ _ _ _ us hl => match us, hl with | [_, _], _ => rfl) (fun vs H Q E h => by obtain ⟨d, m, rfl, _⟩ := h; rfl) fun f cdv A outer s H vs Q E hr h => ?_
  refine ⟨_, PSs.nox (pss_cons (ps_par (i := 2) (j := 3) rfl (sc__law_parting).nd (by rfl) (by rfl) (by decide) (by rfl) (by rfl) (pa_cons (pe_lst pa_nil) (pa_cons (pe_lst pa_nil) pa_nil)) (by rfl)) (pss_cons (ps_for PassesOwn.never rfl (pi_range1 (by rfl) N.f_range (pa_cons (pv 1) pa_nil)) (pg_name (i := 4) (sc__law_parting).nd rfl (by first | exact Or.inl rfl | exact Or.inr rfl)) (pss_cons (ps_set (i := 5) (sc__law_parting).nd (by rfl) (by first | exact Or.inl rfl | exact Or.inr rfl) (pe_ifExp (pt_cmpR op_eq (pe_fn h__law_roll hr (by decide) (by rfl) pass0 (pa_cons (pv 0) (pa_cons pe_int pa_nil))) pe_int (nomark _)) (pe_fn h__law_roll hr (by decide) (by rfl) pass0 (pa_cons (pv 0) (pa_cons (pe_op op_add (pe_callB (r := Evl.rLenS K) call_len_seq (by rfl) N.f_len boot_len (pa_cons (pv 3) pa_nil)) pe_int) pa_nil))) pe_int)) (pss_cons (ps_set (i := 3) (sc__law_parting).nd (by rfl) (by first | exact Or.inl rfl | exact Or.inr rfl) (pe_slice (r := rSlL K) sl_list (pv 3) po_none (po_some (pe_op op_sub (pe_callB (r := Evl.rLenS K) call_len_seq (by rfl) N.f_len boot_len (pa_cons (pv 3) pa_nil)) (pv 5))))) (pss_one (ps_if (PW.pt (pw_and (pt_cmpR (r := rNeD K) (op_neD hr.units) (pv 3) (pe_lst pa_nil) (nomark _)) (pw_and1 (pt_cmpR op_eq (pe_fn h__law_roll hr (by decide) (by rfl) pass0 (pa_cons (pv 0) (pa_cons pe_int pa_nil))) pe_int (nomark _))))) (pss_one (ps_expr (show PE _ _ (tBM K _ _ _ _) from pe_bm PySem.F.plainAttrs_list PySem.F.slot_list_append PySem.F.type_list_append mt_append (pe_ix (r := rIxL K) ix_list (pv 2) (pe_ix (r := rIxL K) ix_list (pv 3) (pe_un un_neg pe_int) (by intro _ _; rfl)) (by intro _ _; rfl)) (pa_cons (pv 4) pa_nil)))) (pss_cons (ps_expr (show PE _ _ (tBM K _ _ _ _) from pe_bm PySem.F.plainAttrs_list PySem.F.slot_list_append PySem.F.type_list_append mt_append (pv 3) (pa_cons (pe_callB (r := Evl.rLenS K) call_len_seq (by rfl) N.f_len boot_len (pa_cons (pv 2) pa_nil)) pa_nil))) (pss_one (ps_expr (show PE _ _ (tBM K _ _ _ _) from pe_bm PySem.F.plainAttrs_list PySem.F.slot_list_append PySem.F.type_list_append mt_append (pv 2) (pa_cons (pe_lst (pa_cons (pv 4) pa_nil)) pa_nil)))))))))) (pss_one (ps_ret (pe_callTy (r := rTupS K) call_tuple_of (by rfl) N.f_tuple (by decide +kernel) (pa_cons (pe_callB (r := rSortedL K) cr_sortedL (by rfl) N.f_sorted (by decide +kernel) (pa_cons (pe_lc (own := [("_law_lot", 6)]) (g := gName 6) rfl (sc__law_parting).nd (show PI _ _ _ (iList K _) from pi_list (pv 2)) (blkOk_by (own := [("_law_lot", 6)]) (N := ["_law_drum_here", "_law_points", "_law_lots_here", "_law_open_so", "_law_point", "_law_shut", "_law_lot"]) (sc := defScope (top 46)) (by decide +kernel)) (fun _ _ _ _ _ => (pg_name (i := 6) (sc__law_parting).nd rfl (by first | exact Or.inl rfl | exact Or.inr rfl))) (fun _ _ _ _ _ => pts_nil) (fun _ _ _ _ _ => (pe_callTy (r := rTupS K) call_tuple_of (by rfl) N.f_tuple (by decide +kernel) (pa_cons (pv 6) pa_nil)))) pa_nil)) pa_nil)))))), ?_⟩
  obtain ⟨d, n, rfl, hd, hn2, hn13, q⟩ := h
  have hd0 : H d ≠ none := by obtain ⟨a, b, e, _⟩ := hd; rw [e]; exact fun z => by cases z
  refine ⟨Nat.zero_le _, fun g hg0 => ⟨Nat.zero_le _, fun h hh0 => ⟨_, _, rfl, ?_⟩⟩⟩
  have gh : g ≠ h := fun e => by rw [e, upd_same] at hh0; cases hh0
  have hh0' : H h = none := by rw [upd_ne (Ne.symm gh)] at hh0; exact hh0
  have st0 : PSt H (upd (upd H g (.lst [])) h (.lst [])) d g h [] [] [] 0 :=
    ⟨hd.ex ((Ex.new hg0).trans (Ex.new hh0)), .of ((Ex.new hg0).trans (Ex.new hh0)), by rw [upd_ne gh]; exact upd_same, upd_same, hg0, hh0', fun b hb => (by cases hb), gh, fun z => (by cases z), fun z => (by cases z), List.nodup_nil, rfl, fun i b hb => (by cases hb), PInv.start, Nat.le_refl _⟩
  refine q_forI (B := fun _ => none) (evi_rng1 (K := K) (n := n) (eda_one (evd_var rfl (.int _))) (by omega)) (fun a o h => by cases h) (fun i σ' H' => ∃ g h bs p op x4 x5 x6, σ' = [some (.ref d), some (.int n), some (.ref g), some (.ref h), x4, x5, x6] ∧ PSt H H' d g h bs p op i) (fun H2 e2 => ⟨g, h, [], [], [], _, _, _, rfl, st0.ex e2⟩) (fun i σ' H' _ h a o z => by cases z) (fun i dd x σ' H1 H' hdi hP e1 hx => ?_) (fun σ' H' hP => ?_)
  · obtain ⟨g, h, bs, p, op, x4, x5, x6, rfl, st⟩ := hP
    obtain ⟨hin, rfl⟩ := rng_at hdi
    have ex := Dp.int_eq hx
    subst ex
    have st := st.ex e1
    clear e1
    have hop := st.ol
    refine shut_ok rfl rfl st hd0 (by omega) _ fun m H2 hm st2 => ?_
    clear st
    refine q_asgN (K := K) (ds := (op.take (op.length - m)).map nD) (evn_is (evn_slL (hi := some ((op.length - m : Nat) : Int)) (evd_var rfl (.lst (Evl.sq_of st2.hh) (nats_dp op))) Evl.eo_none (evo_some (evd_is (evd_sub (evd_lenL (evd_var rfl (.lst (Evl.sq_of st2.hh) (nats_dp op)))) (evd_var (K := K) (d := .int (m : Int)) rfl (.int _))) ?_))) ?_) fun h2 ys H3 hn2 e3 hh3 hys => ?_
    · rw [List.length_map, Int.natCast_sub hm]
    · rw [cutG_to, List.map_take]
    have ey := dp_nats hys
    subst ey
    have st3 := st2.cut (op.length - m) hn2 e3 hh3
    clear st2
    generalize op.take (op.length - m) = op2 at st3 hh3 hys
    have hop2 := st3.ol
    refine and_ok (b := !op2.isEmpty) (Evl.et_is (evt_test (evd_ne (evd_var rfl (.lst (Evl.sq_of st3.hh) (nats_dp op2))) (evn_lst eda_nil (by decide)).dat (sh_lN _) (sh_lN []))) ?_) _ (fun hb H4 e4 => roll_eq0 (m := 2) rfl evd_int (st3.dr.ex e4) (by decide) (by decide) _ fun r H5 hr xb D5 => ?_) (fun hb H4 e4 => iteF ?_)
    · rw [show (.list [] : PyData) = .list (([] : List Nat).map nD) from rfl, eqv_lst eqv_nD]
      cases op2 <;> rfl
    · have st5 := (st3.ex e4).roll hd0 xb D5
      by_cases er : r = 0
      · rw [decide_eq_true er]
        refine iteT ?_
        obtain ⟨rest, o, rfl⟩ : ∃ rest o, op2 = rest ++ [o] := by
          rcases List.eq_nil_or_concat op2 with e | ⟨rest, o, e⟩
          · subst e; cases hb
          · exact ⟨rest, o, by rw [e, List.concat_eq_append]⟩
        have om : o ∈ rest ++ [o] := List.mem_append_right _ (List.mem_singleton.mpr rfl)
        have ho := st5.inv.ob o om
        obtain ⟨b, hb5⟩ : ∃ b, bs[o]? = some b := ⟨_, List.getElem?_eq_getElem (by rw [st5.len]; exact ho)⟩
        have lm := lotAt_mem ho
        have ll := st5.inv.parts.lot_len lm
        refine s_appD (K := K) (d := nD i) (st5.at_ o b hb5) (Evl.ev_op (Evl.ev_var rfl) (Evl.ev_op (Evl.ev_var rfl) (Evl.ev_un Evl.ev_c Evl.ru_neg) (Evl.rv_ixL (v := .int (o : Int)) (Evl.sq_of st5.hh) ?_)) (Evl.rv_ixL (Evl.sq_of st5.hg) (atI_nat ?_))) (evd_var (K := K) (d := nD i) rfl (.int _)) (by rw [List.length_map]; omega) fun v H6 e6 hv => ?_
        · rw [List.map_append]
          exact atI_last _ _
        · rw [List.getElem?_map, hb5]
          rfl
        · have ev := Dp.int_eq hv
          subst ev
          have st6 := (st5.ex e6).add hd0 hb5
          have e7 : (lotAt p o).map iV ++ [V.int (i : Int)] = (lotAt p o ++ [i]).map iV := by rw [List.map_append]; rfl
          rw [e7]
          exact ⟨g, h2, bs, _, _, _, _, _, rfl, st6⟩
      · rw [decide_eq_false er]
        exact iteF (newlot_ok rfl rfl rfl st5 hd0 (by omega) fun H6 bs' st6 => ⟨g, h2, bs', _, _, _, _, _, rfl, st6⟩)
    · exact newlot_ok rfl rfl rfl (st3.ex e4) hd0 (by omega) fun H6 bs' st6 => ⟨g, h2, bs', _, _, _, _, _, rfl, st6⟩
  · obtain ⟨g, h, bs, p, op, x4, x5, x6, rfl, st⟩ := hP
    rw [rng_len] at st
    have hC := st.inv.canon
    refine s_retD (K := K) (d := eP (srtL p)) (evd_tupL (evn_sortedL (evn_mapT (l := p) (en := fun l => .list (l.map nD)) (F := eL) (evj_list (evd_var rfl (.lst (Evl.sq_of st.hg) (lots_list st.len st.at_)))) (by have := st.inv.parts.len; omega) (fun _ _ => tupO_eL _) (fun _ => rfl) fun l hl y H2 e2 hy => evd_tupL (evd_var rfl hy)).dat fun l hl => st.inv.parts.ne l hl).dat) fun z H2 e2 hz => q (srtL p) z H2 ⟨srtL_canon st.inv.parts, fun a b c d h1 h2 h3 r s => (srtL_same p _ _).mpr (st.inv.nc a b c d h1 h2 h3 ((srtL_same p _ _).mp r) ((srtL_same p _ _).mp s)), hn2, hn13⟩ (st.xb.trans (.of e2)) (st.dr.ex e2) hz
end
end PR
set_option maxHeartbeats 1000000
namespace PR
section
variable {n : Nat} {p q C D J M : Part}
theorem nc_of {p : Part} {R : Nat → Nat → Prop} (e : ∀ x y, Same p x y ↔ R x y) (N : NC R) : NC (Same p) := fun a b c d h1 h2 h3 r s => (e a b).mpr (N a b c d h1 h2 h3 ((e a c).mp r) ((e b d).mp s))
/-- a complement -/
structure Cpl (n : Nat) (p C : Part) : Prop where
  canon : Canon n C
  same : ∀ x y, Same C x y ↔ KR n (Same p) x y
theorem cpl_ex (n : Nat) (p : Part) : ∃ C, Cpl n p C := by
  obtain ⟨h1, h2⟩ := classes_canon (KR_eqv n (Same p))
  exact ⟨_, h1, h2⟩
theorem Cpl.good (h : Cpl n p C) (g : Good n p) : Good n C := ⟨h.canon, nc_of h.same (KR_nc n _), g.two, g.few⟩
theorem Cpl.eq (h : Cpl n p C) : Same C = KR n (Same p) := funext fun x => funext fun y => propext (h.same x y)
theorem meet_good (g1 : Good n p) (g2 : Good n q) : Good n (srtL (meetRaw p q)) :=
  ⟨srtL_canon (meet_parts g1.canon.parts g2.canon.parts), nc_of (fun x y => (srtL_same _ x y).trans (meet_same' g1.canon.parts g2.canon.parts x y)) fun a b c d h1 h2 h3 r s => ⟨g1.nc a b c d h1 h2 h3 r.1 s.1, g2.nc a b c d h1 h2 h3 r.2 s.2⟩, g1.two, g1.few⟩
theorem meet_eq (g1 : Good n p) (g2 : Good n q) (x y : Nat) : Same (srtL (meetRaw p q)) x y ↔ Same p x y ∧ Same q x y := (srtL_same _ x y).trans (meet_same' g1.canon.parts g2.canon.parts x y)
theorem join_good (g1 : Good n p) (hJ : Canon n J) (L : Lub n (Same p) (Same q) (Same J)) : Good n J := ⟨hJ, L.nc, g1.two, g1.few⟩
theorem canon_eq (h1 : Canon n p) (h2 : Canon n q) (h : ∀ x y, Same p x y ↔ Same q x y) : p = q := canon_ext h1 h2 h
theorem meet_is (g1 : Good n p) (g2 : Good n q) : srtL (meetRaw p q) = p ↔ ∀ x y, Same p x y → Same q x y := by
  constructor
  · intro e x y s
    rw [← e] at s
    exact ((meet_eq g1 g2 x y).mp s).2
  · intro h
    refine canon_ext (meet_good g1 g2).canon g1.canon fun x y => ?_
    rw [meet_eq g1 g2]
    exact ⟨fun z => z.1, fun z => ⟨z, h x y z⟩⟩
/-- twice the complement is a turn -/
theorem cpl_twice (g : Good n p) (h : Cpl n p C) (k : Cpl n C D) : D = srtL (turnedRaw p (-1)) := by
  have hn : 0 < n := by have := g.two; omega
  refine canon_ext k.canon (srtL_canon (turned_parts g.canon.parts hn _)) fun x y => ?_
  rw [k.same, srtL_same, turned_same g.canon.parts hn, h.eq]
  have sh : ∀ x, shN n (- -1) x = (x + 1) % n := fun x => by
    unfold shN
    rw [show (x : Int) + - -1 = ((x + 1 : Nat) : Int) by omega, ← Int.natCast_emod]
    rfl
  rw [sh, sh]
  constructor
  · intro z
    exact ⟨z.1, z.2.1, (KRKR g.canon.parts.eqv g.nc z.1 z.2.1).mp z⟩
  · rintro ⟨hx, hy, z⟩
    exact (KRKR g.canon.parts.eqv g.nc hx hy).mpr z
/-- of a join, of a meet -/
theorem cpl_join (g1 : Good n p) (g2 : Good n q) (L : Lub n (Same p) (Same q) (Same J)) (h1 : Cpl n p C) (h2 : Cpl n q D) (h : Cpl n J M) : M = srtL (meetRaw C D) := by
  refine canon_ext h.canon (meet_good (h1.good g1) (h2.good g2)).canon fun x y => ?_
  rw [h.same, meet_eq (h1.good g1) (h2.good g2), h1.same, h2.same]
  exact compl_join g1.canon.parts.eqv g2.canon.parts.eqv L x y
theorem cpl_meet (g1 : Good n p) (g2 : Good n q) (h1 : Cpl n p C) (h2 : Cpl n q D) (hJ : Canon n J) (L : Lub n (Same C) (Same D) (Same J)) (h : Cpl n (srtL (meetRaw p q)) M) : M = J := by
  refine canon_ext h.canon hJ fun x y => ?_
  have e : Same (srtL (meetRaw p q)) = fun a b => Same p a b ∧ Same q a b := funext fun a => funext fun b => propext (meet_eq g1 g2 a b)
  rw [h.same, e]
  rw [h1.eq, h2.eq] at L
  exact compl_meet g1.canon.parts.eqv g1.nc g2.canon.parts.eqv g2.nc L x y
theorem cpl_finer (g1 : Good n p) (g2 : Good n q) (h1 : Cpl n p C) (h2 : Cpl n q D) : decide (srtL (meetRaw p q) = p) = decide (srtL (meetRaw D C) = D) := by
  refine decide_eq_decide.mpr ?_
  rw [meet_is g1 g2, meet_is (h2.good g2) (h1.good g1), h1.eq, h2.eq]
  exact finer_iff g1.canon.parts.eqv g1.nc g2.canon.parts.eqv g2.nc
end
end PR
set_option maxHeartbeats 1000000
namespace PR
open PySem PySem.Spec PyProof.Rows L2
open Evl (Ex EvT)
theorem sc__law_small_right : FnScope ["_law_one", "_law_other_so", "_law_every_here", "_law_below", "_law_some", "_law_above", "_law_low", "_law_high"] ["_law_one", "_law_other_so", "_law_every_here"] (defScope (top 56)) := ⟨rfl, rfl, rfl, by decide +kernel, rfl, by decide +kernel, by decide +kernel⟩
theorem sc__law_great_right : FnScope ["_law_one", "_law_other_so", "_law_low", "_law_high", "_law_many", "_law_lot"] ["_law_one", "_law_other_so"] (defScope (top 57)) := ⟨rfl, rfl, rfl, by decide +kernel, rfl, by decide +kernel, by decide +kernel⟩
def preGreat : List PyData → PyData → Prop := fun ds d => ∃ n p q, ds = [eP p, eP q] ∧ Good n p ∧ Good n q ∧ d = .bool true
def preSmall : List PyData → PyData → Prop := fun ds d => ∃ (n : Nat) (p q : Part) (ps : List Part), ds = [eP p, eP q, .list (ps.map eP)] ∧ n ≤ 5 ∧ Good n p ∧ Good n q ∧ ps.Perm (everyM n) ∧ d = .bool true
section
variable {P : Program} {w : World} {K : PySem.W.Frag} {mg : Str → Option Value} {base : Heap}
section
variable {σ : L2.St} {H : Hp} {ta tb : TE}
theorem evd_isB {a b : Bool} (ha : EvD K ta σ H (.bool a)) (hb : EvD K tb σ H (.bool b)) : EvD K (tOp rIsB ta tb) σ H (.bool (decide (a = b))) :=
  evd_op ha hb fun H1 x y _ hx hy Q q => ⟨a, b, hx.bl_eq, hy.bl_eq, q _ H1 (Ex.refl _) (.bl _)⟩
theorem evd_neB {a b : Bool} (ha : EvD K ta σ H (.bool a)) (hb : EvD K tb σ H (.bool b)) : EvD K (tOp rNe ta tb) σ H (.bool (!decide (a = b))) :=
  evd_op ha hb fun H1 x y _ hx hy Q q => by
    rw [hx.bl_eq, hy.bl_eq]
    refine ⟨rfl, ?_⟩
    have : decide (V.bl a = V.bl b) = decide (a = b) := decide_eq_decide.mpr ⟨fun e => V.bl.inj e, fun e => by rw [e]⟩
    rw [this]
    exact q _ H1 (Ex.refl _) (.bl _)
theorem evd_neP {p q : Part} (ha : EvD K ta σ H (eP p)) (hb : EvD K tb σ H (eP q)) : EvD K (tOp (rNeD K) ta tb) σ H (.bool (!decide (p = q))) := evd_is (evd_ne ha hb (sh_eP _) (sh_eP _)) (by rw [eqv_eP])
theorem evd_eqP {p q : Part} (ha : EvD K ta σ H (eP p)) (hb : EvD K tb σ H (eP q)) : EvD K (tOp (rEqD K) ta tb) σ H (.bool (decide (p = q))) := evd_is (evd_eq ha hb (sh_eP _) (sh_eP _)) (by rw [eqv_eP])
theorem evt_no {te : TE} {b : Bool} (h : EvD K te σ H (.bool b)) (e : b = false) : EvT (tTest te) σ H false := Evl.et_is (evt_test h) e
/-- the public defs, good data -/
theorem evd_cpl {n : Nat} {p C : Part} (ha : EvD K ta σ H (eP p)) (g : Good n p) (c : Cpl n p C) : EvD K (tCall (spD K 1 preComplP) [] E0 (tCons ta tNil)) σ H (eP C) := evd_fn (eda_one ha) rfl ⟨n, p, C, rfl, g, c.canon, c.same, rfl⟩
theorem evd_cplL {n : Nat} {p C : Part} (ha : EvD K ta σ H (eP p)) (g : Good n p) (c : Cpl n p C) : EvD K (tCall (spD K 1 preComplL) [] E0 (tCons ta tNil)) σ H (eP C) := by
  have := g.two
  have := g.few
  exact evd_fn (eda_one ha) rfl ⟨n, p, C, rfl, g.canon, g.nc, by omega, by omega, c.canon, c.same, rfl⟩
theorem evd_meetP {n : Nat} {p q : Part} (ha : EvD K ta σ H (eP p)) (hb : EvD K tb σ H (eP q)) (g1 : Good n p) (g2 : Good n q) : EvD K (tCall (spD K 2 preMeetP) [] E0 (tCons ta (tCons tb tNil))) σ H (eP (srtL (meetRaw p q))) := evd_fn (eda_cons ha (eda_one hb)) rfl ⟨n, p, q, rfl, g1, g2, rfl⟩
theorem evd_joinP {n : Nat} {p q J : Part} (ha : EvD K ta σ H (eP p)) (hb : EvD K tb σ H (eP q)) (g1 : Good n p) (g2 : Good n q) (hJ : Canon n J) (L : Lub n (Same p) (Same q) (Same J)) : EvD K (tCall (spD K 2 preJoinP) [] E0 (tCons ta (tCons tb tNil))) σ H (eP J) := evd_fn (eda_cons ha (eda_one hb)) rfl ⟨n, p, q, J, rfl, g1, g2, hJ, L, rfl⟩
theorem evd_finP {n : Nat} {p q : Part} (ha : EvD K ta σ H (eP p)) (hb : EvD K tb σ H (eP q)) (g1 : Good n p) (g2 : Good n q) : EvD K (tCall (spD K 2 preFiner) [] E0 (tCons ta (tCons tb tNil))) σ H (.bool (decide (srtL (meetRaw p q) = p))) := evd_fn (eda_cons ha (eda_one hb)) rfl ⟨n, p, q, rfl, g1, g2, rfl⟩
theorem evd_finL {n : Nat} {p q : Part} (ha : EvD K ta σ H (eP p)) (hb : EvD K tb σ H (eP q)) (g1 : Good n p) (g2 : Good n q) : EvD K (tCall (spD K 2 preFinB) [] E0 (tCons ta (tCons tb tNil))) σ H (.bool (finB p q)) := evd_fn (eda_cons ha (eda_one hb)) rfl ⟨n, p, q, rfl, g1.canon.parts, g2.canon.parts, by have := g1.few; omega, rfl⟩
theorem evd_turnP {n : Nat} {p : Part} {s : Int} (ha : EvD K ta σ H (eP p)) (hb : EvD K tb σ H (.int s)) (g1 : Good n p) (h1 : -1000 ≤ s) (h2 : s ≤ 1000) : EvD K (tCall (spD K 2 preTurnedP) [] E0 (tCons ta (tCons tb tNil))) σ H (eP (srtL (turnedRaw p s))) := evd_fn (eda_cons ha (eda_one hb)) rfl ⟨n, p, s, rfl, g1, h1, h2, rfl⟩
theorem evd_lenP {p : Part} (ha : EvD K ta σ H (eP p)) : EvD K (tCB (Evl.rLenS K) (tCons ta tNil)) σ H (nD p.length) := evd_is (evd_lenT ha) (by rw [List.length_map]; rfl)
end
theorem ok_great (N : Fr mg) (D : IsD K mg "_law_great_right" 57) (h_parting_meet : Has P w K mg base CX0 6 "parting_meet" ["parting", "other"] (spD K 2 preMeetP)) (h_parting_join : Has P w K mg base CX0 6 "parting_join" ["parting", "other"] (spD K 2 preJoinP))
    (h_complement : Has P w K mg base CX0 5 "complement" ["parting"] (spD K 1 preComplP)) (h__law_completed : Has P w K mg base CX0 2 "_law_completed" ["_law_parting_so"] (spD K 1 preComplL)) (h_parting_turned : Has P w K mg base CX0 5 "parting_turned" ["parting", "steps"] (spD K 2 preTurnedP))
    (h_is_finer : Has P w K mg base CX0 6 "is_finer" ["parting", "other"] (spD K 2 preFiner)) (h__law_finer : Has P w K mg base CX0 1 "_law_finer" ["_law_one", "_law_other_so"] (spD K 2 preFinB)) : Has P w K mg base CX0 7 "_law_great_right" ["_law_one", "_law_other_so"] (spD K 2 preGreat) := by
  refine mk_has D sc__law_great_right (fun _ _ _ _ _ _ us hl => match us, hl with | [_, _], _ => rfl) (fun vs H Q E h => h.1) fun f cdv A outer s H vs Q E hr h => ?_
  refine ⟨_, PSs.nox (pss_cons (ps_par3 (i := 2) (j := 3) (l := 4) rfl (sc__law_great_right).nd (by rfl) (by rfl) (by rfl) (by decide) (by decide) (by decide) (by rfl) (by rfl) (by rfl) (pa_cons (pe_fn h_parting_meet hr (by decide) (by rfl) pass0 (pa_cons (pv 0) (pa_cons (pv 1) pa_nil))) (pa_cons (pe_fn h_parting_join hr (by decide) (by rfl) pass0 (pa_cons (pv 0) (pa_cons (pv 1) pa_nil))) (pa_cons (pe_callB (r := rSum K) (cr_sum rfl) (by rfl) N.f_sum (by decide +kernel) (pa_cons (pe_lc (own := [("_law_lot", 5)]) (g := gName 5) rfl (sc__law_great_right).nd (show PI _ _ _ (iTup K _) from pi_tup (pv 0)) (blkOk_by (own := [("_law_lot", 5)]) (N := ["_law_one", "_law_other_so", "_law_low", "_law_high", "_law_many", "_law_lot"]) (sc := defScope (top 57)) (by decide +kernel)) (fun _ _ _ _ _ => (pg_name (i := 5) (sc__law_great_right).nd rfl (by first | exact Or.inl rfl | exact Or.inr rfl))) (fun _ _ _ _ _ => pts_nil) (fun _ _ _ _ _ => (pe_callB (r := Evl.rLenS K) call_len_seq (by rfl) N.f_len boot_len (pa_cons (pv 5) pa_nil)))) pa_nil)) pa_nil))) (by rfl)) (pss_cons (ps_if (PW.pt (pw_or (pt_cmpR (r := rNeD K) (op_neD hr.units) (pe_fn h_complement hr (by decide) (by rfl) pass0 (pa_cons (pv 0) pa_nil)) (pe_fn h__law_completed hr (by decide) (by rfl) pass0 (pa_cons (pv 0) pa_nil)) (nomark _)) (pw_or1 (pt_cmpR (r := rNeD K) (op_neD hr.units) (pe_fn h_complement hr (by decide) (by rfl) pass0 (pa_cons (pe_fn h_complement hr (by decide) (by rfl) pass0 (pa_cons (pv 0) pa_nil)) pa_nil)) (pe_fn h_parting_turned hr (by decide) (by rfl) pass0 (pa_cons (pv 0) (pa_cons (pe_un un_neg pe_int) pa_nil))) (nomark _))))) (pss_one (ps_ret pe_bl)) pss_nil) (pss_cons (ps_if (pt_cmpR op_ne (pe_op op_add (pe_callB (r := Evl.rLenS K) call_len_seq (by rfl) N.f_len boot_len (pa_cons (pe_fn h_complement hr (by decide) (by rfl) pass0 (pa_cons (pv 0) pa_nil)) pa_nil)) (pe_callB (r := Evl.rLenS K) call_len_seq (by rfl) N.f_len boot_len (pa_cons (pv 0) pa_nil))) (pe_op op_add (pv 4) pe_int) (nomark _)) (pss_one (ps_ret pe_bl)) pss_nil) (pss_cons (ps_if (pt_cmpR (r := rNeD K) (op_neD hr.units) (pe_fn h_complement hr (by decide) (by rfl) pass0 (pa_cons (pv 3) pa_nil)) (pe_fn h_parting_meet hr (by decide) (by rfl) pass0 (pa_cons (pe_fn h_complement hr (by decide) (by rfl) pass0 (pa_cons (pv 0) pa_nil)) (pa_cons (pe_fn h_complement hr (by decide) (by rfl) pass0 (pa_cons (pv 1) pa_nil)) pa_nil))) (nomark _)) (pss_one (ps_ret pe_bl)) pss_nil) (pss_cons (ps_if (pt_cmpR (r := rNeD K) (op_neD hr.units) (pe_fn h_complement hr (by decide) (by rfl) pass0 (pa_cons (pv 2) pa_nil)) (pe_fn h_parting_join hr (by decide) (by rfl) pass0 (pa_cons (pe_fn h_complement hr (by decide) (by rfl) pass0 (pa_cons (pv 0) pa_nil)) (pa_cons (pe_fn h_complement hr (by decide) (by rfl) pass0 (pa_cons (pv 1) pa_nil)) pa_nil))) (nomark _)) (pss_one (ps_ret pe_bl)) pss_nil) (pss_cons (ps_if (pt_cmpR op_ne (pe_fn h_is_finer hr (by decide) (by rfl) pass0 (pa_cons (pv 0) (pa_cons (pv 1) pa_nil))) (pe_fn h_is_finer hr (by decide) (by rfl) pass0 (pa_cons (pe_fn h_complement hr (by decide) (by rfl) pass0 (pa_cons (pv 1) pa_nil)) (pa_cons (pe_fn h_complement hr (by decide) (by rfl) pass0 (pa_cons (pv 0) pa_nil)) pa_nil))) (nomark _)) (pss_one (ps_ret pe_bl)) pss_nil) (pss_one (ps_ret (pe_and (pe_fn h__law_finer hr (by decide) (by rfl) pass0 (pa_cons (pv 2) (pa_cons (pv 0) pa_nil))) (pe_and (pe_fn h__law_finer hr (by decide) (by rfl) pass0 (pa_cons (pv 1) (pa_cons (pv 3) pa_nil))) (pe_one (pe_cmpR op_isBl (pe_fn h_is_finer hr (by decide) (by rfl) pass0 (pa_cons (pv 0) (pa_cons (pv 3) pa_nil))) pe_bl (nomark _))))))))))))), ?_⟩
  obtain ⟨_, ds, d, hd, ⟨n, p, m, rfl, g1, g2, rfl⟩, q⟩ := h
  obtain ⟨v, u, rfl, hv, hu⟩ := arg2 hd
  obtain ⟨J, hJ, L⟩ := lub_ex g1.canon.parts g2.canon.parts
  have gM := meet_good g1 g2
  have gJ := join_good g1 hJ L
  obtain ⟨Cp, cp⟩ := cpl_ex n p
  obtain ⟨Cq, cq⟩ := cpl_ex n m
  obtain ⟨CC, cc⟩ := cpl_ex n Cp
  obtain ⟨CJ, cj⟩ := cpl_ex n J
  obtain ⟨CM, cm⟩ := cpl_ex n (srtL (meetRaw p m))
  have gp := cp.good g1
  have gq := cq.good g2
  obtain ⟨JC, hJC, LC⟩ := lub_ex gp.canon.parts gq.canon.parts
  have hlen := g1.canon.parts.len
  have few := g1.few
  have two := g1.two
  -- low, high, many
  refine (evd_meetP (K := K) (evd_var rfl hv) (evd_var rfl hu) g1 g2) H (Ex.refl H) _ fun lo H1 e1 hlo => (evd_joinP (K := K) (evd_var rfl (hv.ex e1)) (evd_var rfl (hu.ex e1)) g1 g2 hJ L) H1 (Ex.refl H1) _ fun hi H2 e2 hhi => (evd_sumM (K := K) (l := p) (f := List.length) (evn_mapT (en := eL) (F := fun l => nD l.length) (evj_tup (evd_var rfl (hv.ex (e1.trans e2)))) (by omega) (fun _ _ => rfl) (fun _ => rfl) fun l _ y H3 e3 hy => evd_is (evd_lenT (evd_var rfl hy)) (by rw [List.length_map]; rfl)).dat) H2 (Ex.refl H2) _ fun k H3 e3 hk => ⟨_, _, _, rfl, ?_⟩
  have hv := hv.ex ((e1.trans e2).trans e3)
  have hu := hu.ex ((e1.trans e2).trans e3)
  have hlo := hlo.ex (e2.trans e3)
  have hhi := hhi.ex e3
  have e0 := (e1.trans e2).trans e3
  clear hd e1 e2 e3
  have no : ∀ {a b : Part}, a = b → (!decide (a = b)) = false := fun h => by rw [decide_eq_true h]; rfl
  refine Evl.q_when (b := false) (Evl.et_or (evt_no (evd_neP (evd_cpl (evd_var rfl hv) g1 cp) (evd_cplL (evd_var rfl hv) g1 cp)) (no rfl)) fun _ => evt_no (evd_neP (evd_cpl (evd_cpl (evd_var rfl hv) g1 cp) gp cc) (evd_turnP (evd_var rfl hv) (evd_neg evd_int) g1 (by decide) (by decide))) (no (cpl_twice g1 cp cc))) (fun hb => by cases hb) fun _ H4 e4 => ?_
  have hv := hv.ex e4
  have hu := hu.ex e4
  have hlo := hlo.ex e4
  have hhi := hhi.ex e4
  have hk := hk.ex e4
  refine Evl.q_when (b := false) (evt_no (evd_neI (evd_add (evd_lenP (evd_cpl (evd_var rfl hv) g1 cp)) (evd_lenP (evd_var rfl hv))) (evd_add (evd_var rfl hk) evd_int)) ?_) (fun hb => by cases hb) fun _ H5 e5 => ?_
  · have c := compl_count g1.canon g1.nc cp.canon cp.same (by omega)
    have sz := g1.canon.parts.size
    unfold sizeP at sz
    rw [sz, decide_eq_true (by omega)]
    rfl
  have hv := hv.ex e5
  have hu := hu.ex e5
  have hlo := hlo.ex e5
  have hhi := hhi.ex e5
  refine Evl.q_when (b := false) (evt_no (evd_neP (evd_cpl (evd_var rfl hhi) gJ cj) (evd_meetP (evd_cpl (evd_var rfl hv) g1 cp) (evd_cpl (evd_var rfl hu) g2 cq) gp gq)) (no (cpl_join g1 g2 L cp cq cj))) (fun hb => by cases hb) fun _ H6 e6 => ?_
  have hv := hv.ex e6
  have hu := hu.ex e6
  have hlo := hlo.ex e6
  have hhi := hhi.ex e6
  refine Evl.q_when (b := false) (evt_no (evd_neP (evd_cpl (evd_var rfl hlo) gM cm) (evd_joinP (evd_cpl (evd_var rfl hv) g1 cp) (evd_cpl (evd_var rfl hu) g2 cq) gp gq hJC LC)) (no (cpl_meet g1 g2 cp cq hJC LC cm))) (fun hb => by cases hb) fun _ H7 e7 => ?_
  have hv := hv.ex e7
  have hu := hu.ex e7
  have hlo := hlo.ex e7
  have hhi := hhi.ex e7
  refine Evl.q_when (b := false) (evt_no (evd_neB (evd_finP (evd_var rfl hv) (evd_var rfl hu) g1 g2) (evd_finP (evd_cpl (evd_var rfl hu) g2 cq) (evd_cpl (evd_var rfl hv) g1 cp) gq gp)) ?_) (fun hb => by cases hb) fun _ H8 e8 => ?_
  · rw [cpl_finer g1 g2 cp cq, decide_eq_true rfl]
    rfl
  have hv := hv.ex e8
  have hu := hu.ex e8
  have hlo := hlo.ex e8
  have hhi := hhi.ex e8
  have f1 : finB (srtL (meetRaw p m)) p = true := (finB_iff gM.canon.parts g1.canon.parts).mpr fun x y z => ((meet_eq g1 g2 x y).mp z).1
  have f2 : finB m J = true := (finB_iff g2.canon.parts hJ.parts).mpr L.two
  have f3 : srtL (meetRaw p J) = p := (meet_is g1 gJ).mpr L.one
  refine s_retD (K := K) (evd_is (d := .bool true) (evd_is (evd_andV (a := true) (b := true) (evd_is (evd_finL (evd_var rfl hlo) (evd_var rfl hv) gM g1) (by rw [f1])) fun _ => evd_is (evd_andV (a := true) (b := true) (evd_is (evd_finL (evd_var rfl hu) (evd_var rfl hhi) g2 gJ) (by rw [f2])) fun _ => evd_is (evd_isB (evd_finP (evd_var rfl hv) (evd_var rfl hhi) g1 gJ) evd_bl) (by rw [f3, decide_eq_true rfl]; rfl)) rfl) rfl) rfl) fun z H9 e9 hz => q z H9 ((((((e0.trans e4).trans e5).trans e6).trans e7).trans e8).trans e9) hz
section
variable {σ : L2.St} {H : Hp} {ta tb : TE}
theorem any_eqv (ps : List Part) (p : Part) : ((ps.map eP).any fun z => PyData.eqv z (eP p)) = decide (p ∈ ps) := by
  rw [List.any_map]
  refine Bool.eq_iff_iff.mpr ?_
  rw [List.any_eq_true, decide_eq_true_iff]
  constructor
  · rintro ⟨z, hz, e⟩
    have e : PyData.eqv (eP z) (eP p) = true := e
    rw [eqv_eP, decide_eq_true_iff] at e
    exact e ▸ hz
  · intro h
    exact ⟨p, h, by show PyData.eqv (eP p) (eP p) = true; rw [eqv_eP, decide_eq_true_iff]⟩
theorem evd_inP {p : Part} {ps : List Part} (ha : EvD K ta σ H (eP p)) (hb : EvD K tb σ H (.list (ps.map eP))) : EvD K (tOp (rInD K) ta tb) σ H (.bool (decide (p ∈ ps))) :=
  evd_op ha hb fun H1 x y _ hx hy Q q => ⟨eP p, ps.map eP, hx, hy, sh_eP p, sh_lP ps, by rw [any_eqv]; exact q _ H1 (Ex.refl _) (.bl _)⟩
theorem evd_ninP {p : Part} {ps : List Part} (ha : EvD K ta σ H (eP p)) (hb : EvD K tb σ H (.list (ps.map eP))) : EvD K (tOp (rNotInD K) ta tb) σ H (.bool (!decide (p ∈ ps))) :=
  evd_op ha hb fun H1 x y _ hx hy Q q => ⟨eP p, ps.map eP, hx, hy, sh_eP p, sh_lP ps, by rw [any_eqv]; exact q _ H1 (Ex.refl _) (.bl _)⟩
theorem evd_eq0 {ps : List Part} (ha : EvD K ta σ H (.list (ps.map eP))) : EvD K (tOp (rEqD K) ta (tLst tNil)) σ H (.bool (decide (ps = []))) :=
  evd_is (evd_eq ha (evn_lst eda_nil (by decide)).dat (sh_lP _) (sh_lP [])) (by rw [show (.list [] : PyData) = .list (([] : List Part).map eP) from rfl, eqv_lst eqv_eP])
theorem evd_ne0 {ps : List Part} (ha : EvD K ta σ H (.list (ps.map eP))) : EvD K (tOp (rNeD K) ta (tLst tNil)) σ H (.bool (!decide (ps = []))) :=
  evd_is (evd_ne ha (evn_lst eda_nil (by decide)).dat (sh_lP _) (sh_lP [])) (by rw [show (.list [] : PyData) = .list (([] : List Part).map eP) from rfl, eqv_lst eqv_eP])
end
theorem filter_none {α : Type} {f : α → Bool} {l : List α} (h : ∀ x ∈ l, f x = false) : l.filter f = [] := List.filter_eq_nil_iff.mpr fun x hx => by rw [h x hx]; decide
theorem ok_small (N : Fr mg) (D : IsD K mg "_law_small_right" 56) (h_parting_meet : Has P w K mg base CX0 6 "parting_meet" ["parting", "other"] (spD K 2 preMeetP)) (h_parting_join : Has P w K mg base CX0 6 "parting_join" ["parting", "other"] (spD K 2 preJoinP))
    (h_is_finer : Has P w K mg base CX0 6 "is_finer" ["parting", "other"] (spD K 2 preFiner)) (h__law_finer : Has P w K mg base CX0 1 "_law_finer" ["_law_one", "_law_other_so"] (spD K 2 preFinB)) : Has P w K mg base CX0 7 "_law_small_right" ["_law_one", "_law_other_so", "_law_every_here"] (spD K 3 preSmall) := by
  refine mk_has D sc__law_small_right (fun _ _ _ _ _ _ us hl => match us, hl with | [_, _, _], _ => rfl) (fun vs H Q E h => h.1) fun f cdv A outer s H vs Q E hr h => ?_
  refine ⟨_, PSs.nox (pss_cons (ps_if (PW.pt (pw_or (pt_cmpR op_ne (pe_fn h_is_finer hr (by decide) (by rfl) pass0 (pa_cons (pv 0) (pa_cons (pv 1) pa_nil))) (pe_fn h__law_finer hr (by decide) (by rfl) pass0 (pa_cons (pv 0) (pa_cons (pv 1) pa_nil))) (nomark _)) (pw_or1 (pt_not (pt_val (pe_callB (r := rIsi K) call_isi (by rfl) N.f_isinstance (by decide +kernel) (pa_cons (pe_fn h_is_finer hr (by decide) (by rfl) pass0 (pa_cons (pv 0) (pa_cons (pv 1) pa_nil))) (pa_cons (pe_bltn (v := .ty "bool") (by rfl) N.f_bool (by decide +kernel) rfl) pa_nil)))))))) (pss_one (ps_ret pe_bl)) pss_nil) (pss_cons (ps_setLc (i := 3) (own := [("_law_some", 4)]) (g := gName 4) rfl (sc__law_small_right).nd (by rfl) (by rfl) (sw_true rfl rfl rfl (by decide +kernel)) (show PI _ _ _ (iList K _) from pi_list (pv 2)) (blkOk_by (own := [("_law_some", 4)]) (N := ["_law_one", "_law_other_so", "_law_every_here", "_law_below", "_law_some", "_law_above", "_law_low", "_law_high"]) (sc := defScope (top 56)) (by decide +kernel)) (fun _ _ _ _ _ => (pg_name (i := 4) (sc__law_small_right).nd rfl (by first | exact Or.inl rfl | exact Or.inr rfl))) (fun _ _ _ _ _ => (pts_one (PW.pt (pw_and (pt_val (pe_fn h__law_finer hr (by decide) (by rfl) pass0 (pa_cons (pv 4) (pa_cons (pv 0) pa_nil)))) (pw_and1 (pt_val (pe_fn h__law_finer hr (by decide) (by rfl) pass0 (pa_cons (pv 4) (pa_cons (pv 1) pa_nil))))))))) (fun _ _ _ _ _ => (pv 4))) (pss_cons (ps_setLc (i := 5) (own := [("_law_some", 4)]) (g := gName 4) rfl (sc__law_small_right).nd (by rfl) (by rfl) (sw_true rfl rfl rfl (by decide +kernel)) (show PI _ _ _ (iList K _) from pi_list (pv 2)) (blkOk_by (own := [("_law_some", 4)]) (N := ["_law_one", "_law_other_so", "_law_every_here", "_law_below", "_law_some", "_law_above", "_law_low", "_law_high"]) (sc := defScope (top 56)) (by decide +kernel)) (fun _ _ _ _ _ => (pg_name (i := 4) (sc__law_small_right).nd rfl (by first | exact Or.inl rfl | exact Or.inr rfl))) (fun _ _ _ _ _ => (pts_one (PW.pt (pw_and (pt_val (pe_fn h__law_finer hr (by decide) (by rfl) pass0 (pa_cons (pv 0) (pa_cons (pv 4) pa_nil)))) (pw_and1 (pt_val (pe_fn h__law_finer hr (by decide) (by rfl) pass0 (pa_cons (pv 1) (pa_cons (pv 4) pa_nil))))))))) (fun _ _ _ _ _ => (pv 4))) (pss_cons (ps_asg (pe_tup (pa_cons (pe_fn h_parting_meet hr (by decide) (by rfl) pass0 (pa_cons (pv 0) (pa_cons (pv 1) pa_nil))) (pa_cons (pe_fn h_parting_join hr (by decide) (by rfl) pass0 (pa_cons (pv 0) (pa_cons (pv 1) pa_nil))) pa_nil))) (pg_tup rfl (pgs_cons (pg_name (i := 6) (sc__law_small_right).nd rfl (by first | exact Or.inl rfl | exact Or.inr rfl)) (pgs_cons (pg_name (i := 7) (sc__law_small_right).nd rfl (by first | exact Or.inl rfl | exact Or.inr rfl)) pgs_nil)))) (pss_cons (ps_if (PW.pt (pw_or (pt_cmpR (r := rNotInD K) (op_notInD hr.u65) (pv 6) (pv 3) (by rfl)) (pw_or1 (pt_cmpR (r := rNeD K) (op_neD hr.units) (pe_lc (own := [("_law_some", 4)]) (g := gName 4) rfl (sc__law_small_right).nd (show PI _ _ _ (iList K _) from pi_list (pv 3)) (blkOk_by (own := [("_law_some", 4)]) (N := ["_law_one", "_law_other_so", "_law_every_here", "_law_below", "_law_some", "_law_above", "_law_low", "_law_high"]) (sc := defScope (top 56)) (by decide +kernel)) (fun _ _ _ _ _ => (pg_name (i := 4) (sc__law_small_right).nd rfl (by first | exact Or.inl rfl | exact Or.inr rfl))) (fun _ _ _ _ _ => (pts_one (pt_not (pt_val (pe_fn h__law_finer hr (by decide) (by rfl) pass0 (pa_cons (pv 4) (pa_cons (pv 6) pa_nil))))))) (fun _ _ _ _ _ => (pv 4))) (pe_lst pa_nil) (nomark _))))) (pss_one (ps_ret pe_bl)) pss_nil) (pss_one (ps_ret (pe_and (pe_cmpR (r := rInD K) (op_inD hr.u65) (pv 7) (pv 5) (by rfl)) (pe_one (pe_cmpR (r := rEqD K) (op_eqD hr.units) (pe_lc (own := [("_law_some", 4)]) (g := gName 4) rfl (sc__law_small_right).nd (show PI _ _ _ (iList K _) from pi_list (pv 5)) (blkOk_by (own := [("_law_some", 4)]) (N := ["_law_one", "_law_other_so", "_law_every_here", "_law_below", "_law_some", "_law_above", "_law_low", "_law_high"]) (sc := defScope (top 56)) (by decide +kernel)) (fun _ _ _ _ _ => (pg_name (i := 4) (sc__law_small_right).nd rfl (by first | exact Or.inl rfl | exact Or.inr rfl))) (fun _ _ _ _ _ => (pts_one (pt_not (pt_val (pe_fn h__law_finer hr (by decide) (by rfl) pass0 (pa_cons (pv 7) (pa_cons (pv 4) pa_nil))))))) (fun _ _ _ _ _ => (pv 4))) (pe_lst pa_nil) (nomark _))))))))))), ?_⟩
  obtain ⟨_, ds, d, hd, ⟨n, p, m, ps, rfl, h5, g1, g2, hps, rfl⟩, q⟩ := h
  obtain ⟨v, u, l, rfl, hv, hu, hl⟩ := arg3 hd
  obtain ⟨J, hJ, L⟩ := lub_ex g1.canon.parts g2.canon.parts
  have gM := meet_good g1 g2
  have gJ := join_good g1 hJ L
  have good : ∀ s ∈ ps, Good n s := fun s hs => every_good g1.two h5 (hps.mem_iff.mp hs)
  have mem : ∀ s, Good n s → s ∈ ps := fun s g => hps.mem_iff.mpr (good_every h5 g)
  have hlen : ps.length ≤ 42 := by rw [hps.length_eq]; exact every_len n h5
  have fe : decide (srtL (meetRaw p m) = p) = finB p m := Bool.eq_iff_iff.mpr (by rw [decide_eq_true_iff, meet_is g1 g2, finB_iff g1.canon.parts g2.canon.parts])
  refine Evl.q_when (b := false) (Evl.et_or (b := false) (evt_no (evd_neB (evd_finP (evd_var rfl hv) (evd_var rfl hu) g1 g2) (evd_finL (evd_var rfl hv) (evd_var rfl hu) g1 g2)) (by rw [fe, decide_eq_true rfl]; rfl)) fun _ => Evl.et_is (Evl.et_not (evt_B (evd_isi (evd_finP (evd_var rfl hv) (evd_var rfl hu) g1 g2) (isi_bool _)))) rfl) (fun hb => by cases hb) fun _ H1 e1 => ?_
  have hv := hv.ex e1
  have hu := hu.ex e1
  have hl := hl.ex e1
  refine q_asgD (K := K) (d := .list ((ps.filter fun s => finB s p && finB s m).map eP)) (evn_filterT (en := eP) (F := eP) (p := fun s => finB s p && finB s m) (evj_list (evd_var rfl hl)) (by omega) (fun _ _ _ => tupO_eP _) (fun _ => rfl) (fun s hs y H2 e2 hy => Evl.et_and (evt_B (evd_finL (evd_var rfl hy) (evd_var rfl (hv.ex e2)) (good s hs) g1)) fun _ => evt_B (evd_finL (evd_var rfl hy) (evd_var rfl (hu.ex e2)) (good s hs) g2)) fun s hs _ y H2 e2 hy => evd_var rfl hy).dat fun be H2 e2 hbe => ?_
  have hv := hv.ex e2
  have hu := hu.ex e2
  have hl := hl.ex e2
  refine q_asgD (K := K) (d := .list ((ps.filter fun s => finB p s && finB m s).map eP)) (evn_filterT (en := eP) (F := eP) (p := fun s => finB p s && finB m s) (evj_list (evd_var rfl hl)) (by omega) (fun _ _ _ => tupO_eP _) (fun _ => rfl) (fun s hs y H3 e3 hy => Evl.et_and (evt_B (evd_finL (evd_var rfl (hv.ex e3)) (evd_var rfl hy) g1 (good s hs))) fun _ => evt_B (evd_finL (evd_var rfl (hu.ex e3)) (evd_var rfl hy) g2 (good s hs))) fun s hs _ y H3 e3 hy => evd_var rfl hy).dat fun ab H3 e3 hab => ?_
  have hv := hv.ex e3
  have hu := hu.ex e3
  have hbe := hbe.ex e3
  have lb : (ps.filter fun s => finB s p && finB s m).length ≤ 42 := Nat.le_trans (List.length_filter_le _ _) hlen
  have la : (ps.filter fun s => finB p s && finB m s).length ≤ 42 := Nat.le_trans (List.length_filter_le _ _) hlen
  refine (evd_tup (K := K) (eda_cons (evd_meetP (evd_var rfl hv) (evd_var rfl hu) g1 g2) (eda_one (evd_joinP (evd_var rfl hv) (evd_var rfl hu) g1 g2 hJ L))) (by simp)) H3 (Ex.refl _) _ fun t H4 e4 ht => tg_pair' ht fun lo hi hlo hhi => ?_
  have hv := hv.ex e4
  have hu := hu.ex e4
  have hbe := hbe.ex e4
  have hab := hab.ex e4
  have inB : srtL (meetRaw p m) ∈ ps.filter fun s => finB s p && finB s m := List.mem_filter.mpr ⟨mem _ gM, by
    rw [(finB_iff gM.canon.parts g1.canon.parts).mpr fun x y z => ((meet_eq g1 g2 x y).mp z).1, (finB_iff gM.canon.parts g2.canon.parts).mpr fun x y z => ((meet_eq g1 g2 x y).mp z).2]
    rfl⟩
  have inA : J ∈ ps.filter fun s => finB p s && finB m s := List.mem_filter.mpr ⟨mem _ gJ, by
    rw [(finB_iff g1.canon.parts hJ.parts).mpr L.one, (finB_iff g2.canon.parts hJ.parts).mpr L.two]
    rfl⟩
  have nb : ((ps.filter fun s => finB s p && finB s m).filter fun s => !finB s (srtL (meetRaw p m))) = [] := filter_none fun s hs => by
    obtain ⟨h1, h2⟩ := List.mem_filter.mp hs
    rw [Bool.and_eq_true] at h2
    have gs := good s h1
    rw [(finB_iff gs.canon.parts gM.canon.parts).mpr fun x y z => (meet_eq g1 g2 x y).mpr ⟨(finB_iff gs.canon.parts g1.canon.parts).mp h2.1 x y z, (finB_iff gs.canon.parts g2.canon.parts).mp h2.2 x y z⟩]
    rfl
  have na : ((ps.filter fun s => finB p s && finB m s).filter fun s => !finB J s) = [] := filter_none fun s hs => by
    obtain ⟨h1, h2⟩ := List.mem_filter.mp hs
    rw [Bool.and_eq_true] at h2
    have gs := good s h1
    rw [(finB_iff hJ.parts gs.canon.parts).mpr (L.least _ gs.canon.parts.eqv gs.nc ((finB_iff g1.canon.parts gs.canon.parts).mp h2.1) ((finB_iff g2.canon.parts gs.canon.parts).mp h2.2))]
    rfl
  refine Evl.q_when (b := false) (Evl.et_or (b := false) (evt_no (evd_ninP (evd_var rfl hlo) (evd_var rfl hbe)) (by rw [decide_eq_true inB]; rfl)) fun _ => evt_no (evd_ne0 (evn_filterT (en := eP) (F := eP) (p := fun s => !finB s (srtL (meetRaw p m))) (evj_list (evd_var rfl hbe)) (by omega) (fun _ _ _ => tupO_eP _) (fun _ => rfl) (fun s hs y H5 e5 hy => Evl.et_not (evt_B (evd_finL (evd_var rfl hy) (evd_var rfl (hlo.ex e5)) (good s (List.mem_filter.mp hs).1) gM))) fun s hs _ y H5 e5 hy => evd_var rfl hy).dat) (by rw [nb, decide_eq_true rfl]; rfl)) (fun hb => by cases hb) fun _ H5 e5 => ?_
  have hab := hab.ex e5
  have hhi := hhi.ex e5
  refine s_retD (K := K) (evd_is (d := .bool true) (evd_is (evd_andV (a := true) (b := true) (evd_is (evd_inP (evd_var rfl hhi) (evd_var rfl hab)) (by rw [decide_eq_true inA])) fun _ => evd_is (evd_eq0 (evn_filterT (en := eP) (F := eP) (p := fun s => !finB J s) (evj_list (evd_var rfl hab)) (by omega) (fun _ _ _ => tupO_eP _) (fun _ => rfl) (fun s hs y H6 e6 hy => Evl.et_not (evt_B (evd_finL (evd_var rfl (hhi.ex e6)) (evd_var rfl hy) gJ (good s (List.mem_filter.mp hs).1)))) fun s hs _ y H6 e6 hy => evd_var rfl hy).dat) (by rw [na, decide_eq_true rfl])) rfl) rfl) fun z H6 e6 hz => q z H6 (((((e1.trans e2).trans e3).trans e4).trans e5).trans e6) hz
end
end PR
set_option maxHeartbeats 1000000
namespace PR
open PySem PySem.Spec PyProof.Rows L2
open Evl (Ex EvT)
/-- an own class of errors -/
structure ExcC (K : PySem.W.Frag) (mg : Str → Option Value) (x : Str) (C : Addr) : Prop where
  gl : mg x = some (.ref C)
  ex : PySem.W.excIn K C He.veBase "ValueError.__new__" = true
  keep : PySem.W.keepIn K (.ref C) = true
  sub : PySem.W.subIn K (.ref C) (.type "BaseException") = some true
  ty : PySem.W.typeIn K (.ref C) = some (.type "type")
section
theorem pe_fnX {X : Cx} {CX : CXT} {k j : Nat} {x : Str} {ps : List Str} {sp : Sp} {E : L2.St → XK} {p pos : Pos} {e : Expr} {es : List Expr} {t : TA} (h : Has X.prog X.w X.K X.mg X.base CX k x ps sp) (hr : Room j X.A) (hk : k ≤ j) (hg : Gl X x) (hx : ∀ σ, PassesAt CX X σ (E σ)) (ha : PA X (e :: es) t)
    (hdb : (x == ("__debug__" : Str)) = false := by decide) (he : starEach (e :: es) X.env = (false, eval e X.env) :: starEach es X.env := by rfl) (hpl : (backTo pos (starEach es X.env)).any (·.1) = false := by rfl) :
    PE X (.Call (.Name x p) (e :: es) [] pos) (tCallS sp E t) := by
  obtain ⟨f, fd, F, hm, kp, b⟩ := h
  exact pe_callS F (hr.mono hk) hg hm kp b hx ha hdb he hpl
end
def spNeedX (K : PySem.W.Frag) (C : Addr) : Sp := fun vs H Q E => ∃ v d b, vs = [v] ∧ Dp K H v d ∧ preFits [d] (.bool b) ∧ (b = true → ∀ H', Ex H H' → Q .non H') ∧ (b = false → ∀ H', Ex H H' → E (.ref C) none H')
def spBothX (K : PySem.W.Frag) (C CU : Addr) : Sp := fun vs H _ E => ∃ v u d b, vs = [v, u] ∧ Dp K H v d ∧ preFits [d] (.bool b) ∧ (b = false → ∀ H', Ex H H' → E (.ref C) none H') ∧
  (b = true → ∃ n p e c, d = eP p ∧ Good n p ∧ Dp K H u e ∧ preFits [e] (.bool c) ∧ (c = false → ∀ H', Ex H H' → E (.ref C) none H') ∧ (c = true → ∃ m q, e = eP q ∧ Good m q ∧ n ≠ m ∧ ∀ H', Ex H H' → E (.ref CU) none H'))
def spComplX (K : PySem.W.Frag) (C : Addr) : Sp := fun vs H _ E => ∃ v d, vs = [v] ∧ Dp K H v d ∧ preFits [d] (.bool false) ∧ ∀ H', Ex H H' → E (.ref C) none H'
section
variable {P : Program} {w : World} {K : PySem.W.Frag} {mg : Str → Option Value} {base : Heap} {C CU : Addr}
theorem ok_needX (N : Fr mg) (D : IsD K mg "need_parting" 34) (x_InvalidParting : ExcC K mg "InvalidParting" C) (h_fits_parting : Has P w K mg base CX0 3 "fits_parting" ["value"] (spD K 1 preFits)) : Has P w K mg base (L2.CX P w) 4 "need_parting" ["value"] (spNeedX K C) := by
  refine mk_has D sc_need_parting (fun _ _ _ _ _ _ us hl => match us, hl with | [_], _ => rfl) (fun vs H Q E h => by obtain ⟨v, d, b, rfl, _⟩ := h; rfl) fun f cdv A outer s H vs Q E hr h => ?_
  refine ⟨_, (pss_one (ps_if (pt_not (pt_val (pe_fn h_fits_parting hr (by decide) (by rfl) pass0 (pa_cons (pv 0) pa_nil)))) (pss_one (ps_raise rfl (takes_of (E := E) rfl rfl rfl rfl) (pmk_own PySem.F.excBase_ValueError x_InvalidParting.ex x_InvalidParting.gl x_InvalidParting.keep (raises_own x_InvalidParting.sub x_InvalidParting.ty) (by rfl)))) pss_nil)), ?_⟩
  obtain ⟨v, d, b, rfl, hv, hp, h1, h2⟩ := h
  refine Evl.s_when (b := !b) (Evl.et_not (evt_B (evd_fn (eda_one (evd_var (K := K) rfl hv)) rfl hp))) (fun hb H1 e1 => h2 (by simpa using hb) H1 e1) fun hb H1 e1 => h1 (by simpa using hb) H1 e1
theorem ok_bothX (N : Fr mg) (D : IsD K mg "need_both" 35) (x_Unlike : ExcC K mg "Unlike" CU) (hX_need_parting : Has P w K mg base (L2.CX P w) 4 "need_parting" ["value"] (spNeedX K C)) (h_size_in : Has P w K mg base CX0 1 "size_in" ["parting"] (spD K 1 preSize)) : Has P w K mg base (L2.CX P w) 5 "need_both" ["parting", "other"] (spBothX K C CU) := by
  refine mk_has D sc_need_both (fun _ _ _ _ _ _ us hl => match us, hl with | [_, _], _ => rfl) (fun vs H Q E h => by obtain ⟨v, u, d, b, rfl, _⟩ := h; rfl) fun f cdv A outer s H vs Q E hr h => ?_
  refine ⟨_, (pss_cons (ps_expr (pe_fnX hX_need_parting hr (by decide) (by rfl) (fun σ => passAt (takes_of (E := E) rfl rfl rfl rfl) σ) (pa_cons (pv 0) pa_nil))) (pss_cons (ps_expr (pe_fnX hX_need_parting hr (by decide) (by rfl) (fun σ => passAt (takes_of (E := E) rfl rfl rfl rfl) σ) (pa_cons (pv 1) pa_nil))) (pss_one (ps_if (pt_cmpR op_ne (pe_fn h_size_in hr (by decide) (by rfl) pass0 (pa_cons (pv 0) pa_nil)) (pe_fn h_size_in hr (by decide) (by rfl) pass0 (pa_cons (pv 1) pa_nil)) (nomark _)) (pss_one (ps_raise rfl (takes_of (E := E) rfl rfl rfl rfl) (pmk_own PySem.F.excBase_ValueError x_Unlike.ex x_Unlike.gl x_Unlike.keep (raises_own x_Unlike.sub x_Unlike.ty) (by rfl)))) pss_nil)))), ?_⟩
  obtain ⟨v, u, d, b, rfl, hv, hp, h1, h2⟩ := h
  refine ⟨v, rfl, v, d, b, rfl, hv, hp, fun hb H1 e1 => ?_, fun hb H1 e1 => h1 hb H1 e1⟩
  obtain ⟨n, p, e, c, rfl, g, hu, hq, h3, h4⟩ := h2 hb
  refine ⟨u, rfl, u, e, c, rfl, hu.ex e1, hq, fun hc H2 e2 => ?_, fun hc H2 e2 => h3 hc H2 (e1.trans e2)⟩
  obtain ⟨m, q, rfl, g2, ne, h5⟩ := h4 hc
  have sz : ∀ (n : Nat) (p : Part), Good n p → preSize [eP p] (nD n) := fun n p g => ⟨p, rfl, by have := g.canon.parts.len; have := g.few; omega, by rw [g.canon.parts.size]⟩
  have e3 := e1.trans e2
  dsimp only
  refine Evl.s_when (b := true) (Evl.et_is (evt_test (evd_neI (i := (n : Int)) (j := (m : Int)) (evd_fn (eda_one (evd_var (K := K) rfl (hv.ex e3))) rfl (sz n p g)) (evd_fn (eda_one (evd_var (K := K) rfl (hu.ex e3))) rfl (sz m q g2)))) (by rw [decide_eq_false (by omega)]; rfl)) (fun _ H3 e4 => ?_) (fun hb => by cases hb)
  exact h5 H3 (e3.trans e4)
theorem ok_finerX (N : Fr mg) (D : IsD K mg "is_finer" 39) (hX_need_both : Has P w K mg base (L2.CX P w) 5 "need_both" ["parting", "other"] (spBothX K C CU)) : Has P w K mg base (L2.CX P w) 6 "is_finer" ["parting", "other"] (spBothX K C CU) := by
  refine mk_has D sc_is_finer (fun _ _ _ _ _ _ us hl => match us, hl with | [_, _], _ => rfl) (fun vs H Q E h => by obtain ⟨v, u, d, b, rfl, _⟩ := h; rfl) fun f cdv A outer s H vs Q E hr h => ?_
  refine ⟨_, (pss_cons (ps_expr (pe_fnX hX_need_both hr (by decide) (by rfl) (fun σ => passAt (takes_of (E := E) rfl rfl rfl rfl) σ) (pa_cons (pv 0) (pa_cons (pv 1) pa_nil)))) pss_never), ?_⟩
  obtain ⟨v, u, d, b, rfl, h⟩ := h
  exact ⟨v, rfl, u, rfl, v, u, d, b, rfl, h⟩
theorem ok_meetX (N : Fr mg) (D : IsD K mg "parting_meet" 40) (hX_need_both : Has P w K mg base (L2.CX P w) 5 "need_both" ["parting", "other"] (spBothX K C CU)) : Has P w K mg base (L2.CX P w) 6 "parting_meet" ["parting", "other"] (spBothX K C CU) := by
  refine mk_has D sc_parting_meet (fun _ _ _ _ _ _ us hl => match us, hl with | [_, _], _ => rfl) (fun vs H Q E h => by obtain ⟨v, u, d, b, rfl, _⟩ := h; rfl) fun f cdv A outer s H vs Q E hr h => ?_
  refine ⟨_, (pss_cons (ps_expr (pe_fnX hX_need_both hr (by decide) (by rfl) (fun σ => passAt (takes_of (E := E) rfl rfl rfl rfl) σ) (pa_cons (pv 0) (pa_cons (pv 1) pa_nil)))) pss_never), ?_⟩
  obtain ⟨v, u, d, b, rfl, h⟩ := h
  exact ⟨v, rfl, u, rfl, v, u, d, b, rfl, h⟩
theorem ok_joinX (N : Fr mg) (D : IsD K mg "parting_join" 41) (hX_need_both : Has P w K mg base (L2.CX P w) 5 "need_both" ["parting", "other"] (spBothX K C CU)) : Has P w K mg base (L2.CX P w) 6 "parting_join" ["parting", "other"] (spBothX K C CU) := by
  refine mk_has D sc_parting_join (fun _ _ _ _ _ _ us hl => match us, hl with | [_, _], _ => rfl) (fun vs H Q E h => by obtain ⟨v, u, d, b, rfl, _⟩ := h; rfl) fun f cdv A outer s H vs Q E hr h => ?_
  refine ⟨_, (pss_cons (ps_expr (pe_fnX hX_need_both hr (by decide) (by rfl) (fun σ => passAt (takes_of (E := E) rfl rfl rfl rfl) σ) (pa_cons (pv 0) (pa_cons (pv 1) pa_nil)))) pss_never), ?_⟩
  obtain ⟨v, u, d, b, rfl, h⟩ := h
  exact ⟨v, rfl, u, rfl, v, u, d, b, rfl, h⟩
theorem ok_complX (N : Fr mg) (D : IsD K mg "complement" 38) (hX_need_parting : Has P w K mg base (L2.CX P w) 4 "need_parting" ["value"] (spNeedX K C)) : Has P w K mg base (L2.CX P w) 5 "complement" ["parting"] (spComplX K C) := by
  refine mk_has D sc_complement (fun _ _ _ _ _ _ us hl => match us, hl with | [_], _ => rfl) (fun vs H Q E h => by obtain ⟨v, d, rfl, _⟩ := h; rfl) fun f cdv A outer s H vs Q E hr h => ?_
  refine ⟨_, (pss_cons (ps_expr (pe_fnX hX_need_parting hr (by decide) (by rfl) (fun σ => passAt (takes_of (E := E) rfl rfl rfl rfl) σ) (pa_cons (pv 0) pa_nil))) pss_never), ?_⟩
  obtain ⟨v, d, rfl, hv, hp, h⟩ := h
  exact ⟨v, rfl, v, d, false, rfl, hv, hp, fun hb => (by cases hb), fun _ => h⟩
end
end PR
set_option maxHeartbeats 1000000
namespace PR
open PySem PySem.Spec PyProof.Rows L2
open Evl (Ex EvT)
theorem sc__law_bad_partings : FnScope ["_law_some"] [] (defScope (top 53)) := ⟨rfl, rfl, rfl, by decide +kernel, rfl, by decide +kernel, by decide +kernel⟩
def bad1 : List PyData := [.none, .tuple [], .list [], .tuple [.tuple [.int 0]], .tuple [.tuple [.int 0, .int 1], .tuple [.int 0, .int 1]], .tuple [.tuple [.int 1, .int 0]], .tuple [.tuple [.int 0], .tuple []], .tuple [.tuple [.int 0, .int 2], .tuple [.int 1, .int 3]], .tuple [.tuple [.int 1], .tuple [.int 0]], .tuple [.tuple [.int 0, .int 2]]]
def bad2 : List PyData := [.tuple [.tuple [.int 0, .bool true]], .list [.tuple [.int 0, .int 1]], .tuple [.list [.int 0, .int 1]], .int 3, .str "01", .tuple [.int 0, .int 1], .tuple [.tuple [.int 0, .int 1, .int 2, .int 3, .int 4, .int 5, .int 6, .int 7, .int 8, .int 9, .int 10, .int 11, .int 12, .int 13]]]
theorem bad_tup {es : List PyData} (h1 : es.all (fun e => SeqAt.shaped e && match e with | .tuple zs => decide (zs.length ≤ 1000) | _ => true) = true) (hl : es.length ≤ 1000) (h2 : es.all fitsLotD = false) : preFits [.tuple es] (.bool false) :=
  ⟨_, false, rfl, rfl, .inr (.inl ⟨es, rfl, hl, fun e he => by
    have h := List.all_eq_true.mp h1 e he
    rw [Bool.and_eq_true] at h
    refine ⟨h.1, fun zs hz => ?_⟩
    subst hz
    exact of_decide_eq_true h.2, h2, rfl⟩)⟩
theorem bad_ty {d : PyData} (h : isTupD d = false) : preFits [d] (.bool false) := ⟨d, false, rfl, rfl, .inl ⟨h, rfl⟩⟩
theorem bad_P {p : Part} (hl : p.length ≤ 1000) (h1 : p.all (fun l => fitsLotD (eL l) && !l.isEmpty && decide (l.length < 64)) = true) (h2 : fitsP p = false) : preFits [eP p] (.bool false) :=
  ⟨_, false, rfl, rfl, .inr (.inr ⟨p, rfl, hl, fun l h => by
    have := List.all_eq_true.mp h1 l h
    rw [Bool.and_eq_true, Bool.and_eq_true] at this
    refine ⟨this.1.1, ?_, of_decide_eq_true this.2⟩
    rintro rfl
    exact absurd this.1.2 (by decide), h2.symm⟩)⟩
theorem fits_no {p : Part} (h : crossFree p = false) : fitsP p = false := by
  unfold fitsP
  rw [h, Bool.and_false, Bool.and_false, Bool.and_false]
theorem fits_02 : fitsP [[0, 2]] = false := by
  have h : decide (srtN ([[0, 2]] : Part).flatten = List.range (sizeP [[0, 2]])) = false := by
    rw [decide_eq_false_iff_not]
    intro e
    have m : 2 ∈ srtN ([[0, 2]] : Part).flatten := srtN_mem.mpr (by decide)
    rw [e] at m
    exact absurd m (by decide)
  unfold fitsP
  rw [h, Bool.false_and, Bool.and_false, Bool.and_false]
theorem bads : ∀ d ∈ bad1 ++ bad2, preFits [d] (.bool false) := by
  intro d hd
  simp only [bad1, bad2, List.cons_append, List.nil_append, List.mem_cons, List.not_mem_nil, or_false] at hd
  rcases hd with rfl | rfl | rfl | rfl | rfl | rfl | rfl | rfl | rfl | rfl | rfl | rfl | rfl | rfl | rfl | rfl | rfl
  · exact bad_ty rfl
  · exact bad_P (p := []) (by decide) (by decide +kernel) (by decide +kernel)
  · exact bad_ty rfl
  · exact bad_P (p := [[0]]) (by decide) (by decide +kernel) (by decide +kernel)
  · exact bad_P (p := [[0, 1], [0, 1]]) (by decide) (by decide +kernel) (by decide +kernel)
  · exact bad_tup (by decide +kernel) (by decide) (by decide +kernel)
  · exact bad_tup (by decide +kernel) (by decide) (by decide +kernel)
  · exact bad_P (p := [[0, 2], [1, 3]]) (by decide) (by decide +kernel) (fits_no (by decide +kernel))
  · exact bad_P (p := [[1], [0]]) (by decide) (by decide +kernel) (by decide +kernel)
  · exact bad_P (p := [[0, 2]]) (by decide) (by decide +kernel) fits_02
  · exact bad_tup (by decide +kernel) (by decide) (by decide +kernel)
  · exact bad_ty rfl
  · exact bad_tup (by decide +kernel) (by decide) (by decide +kernel)
  · exact bad_ty rfl
  · exact bad_ty rfl
  · exact bad_tup (by decide +kernel) (by decide) (by decide +kernel)
  · exact bad_tup (by decide +kernel) (by decide) (by decide +kernel)
section
variable {P : Program} {w : World} {K : PySem.W.Frag} {mg : Str → Option Value} {base : Heap}
theorem evd_repT2 {σ : L2.St} {H : Hp} {ta : TE} {d : PyData} (ha : EvD K ta σ H (.tuple [d])) : EvD K (tOp (rRepT K) ta (tC (.int 2))) σ H (.tuple [d, d]) :=
  evd_op (db := .int 2) ha evd_int fun H1 x y _ hx hy Q q => by
    obtain ⟨a, xs, rfl, s, hd⟩ := hx.tup_at
    obtain ⟨v, rfl, hv⟩ := one_arg hd
    refine ⟨a, 2, [v], rfl, Dp.int_eq hy, s, by simp, by decide, by decide, by simp, fun p hp => q _ _ (Ex.new hp) (.tup (Evl.st_of upd_same) ?_)⟩
    exact .cons (hv.ex (Ex.new hp)) (.cons (hv.ex (Ex.new hp)) .nil)
def preBad : List PyData → List PyData → Prop := fun ds es => ds = [] ∧ es = bad1 ++ bad2
theorem ok_bad (N : Fr mg) (D : IsD K mg "_law_bad_partings" 53) : Has P w K mg base CX0 1 "_law_bad_partings" [] (spL K 0 preBad) := by
  refine mk_has D sc__law_bad_partings (fun _ _ _ _ _ _ us hl => match us, hl with | [], _ => rfl) (fun vs H Q E h => h.1) fun f cdv A outer s H vs Q E hr h => ?_
  refine ⟨_, PSs.nox (pss_cons (ps_set (i := 0) (sc__law_bad_partings).nd (by rfl) (by first | exact Or.inl rfl | exact Or.inr rfl) (pe_lst (pa_cons pe_non (pa_cons (pe_tup pa_nil) (pa_cons (pe_lst pa_nil) (pa_cons (pe_tup (pa_cons (pe_tup (pa_cons pe_int pa_nil)) pa_nil)) (pa_cons (pe_op (r := rRepT K) op_repT (pe_tup (pa_cons (pe_tup (pa_cons pe_int (pa_cons pe_int pa_nil))) pa_nil)) pe_int) (pa_cons (pe_tup (pa_cons (pe_tup (pa_cons pe_int (pa_cons pe_int pa_nil))) pa_nil)) (pa_cons (pe_tup (pa_cons (pe_tup (pa_cons pe_int pa_nil)) (pa_cons (pe_tup pa_nil) pa_nil))) (pa_cons (pe_tup (pa_cons (pe_tup (pa_cons pe_int (pa_cons pe_int pa_nil))) (pa_cons (pe_tup (pa_cons pe_int (pa_cons pe_int pa_nil))) pa_nil))) (pa_cons (pe_tup (pa_cons (pe_tup (pa_cons pe_int pa_nil)) (pa_cons (pe_tup (pa_cons pe_int pa_nil)) pa_nil))) (pa_cons (pe_tup (pa_cons (pe_tup (pa_cons pe_int (pa_cons pe_int pa_nil))) pa_nil)) pa_nil)))))))))))) (pss_one (ps_ret (pe_op op_cat (pv 0) (pe_lst (pa_cons (pe_tup (pa_cons (pe_tup (pa_cons pe_int (pa_cons pe_bl pa_nil))) pa_nil)) (pa_cons (pe_lst (pa_cons (pe_tup (pa_cons pe_int (pa_cons pe_int pa_nil))) pa_nil)) (pa_cons (pe_tup (pa_cons (pe_lst (pa_cons pe_int (pa_cons pe_int pa_nil))) pa_nil)) (pa_cons pe_int (pa_cons pe_str (pa_cons (pe_tup (pa_cons pe_int (pa_cons pe_int pa_nil))) (pa_cons (pe_tup (pa_cons (pe_tup (pa_cons pe_int (pa_cons pe_int (pa_cons pe_int (pa_cons pe_int (pa_cons pe_int (pa_cons pe_int (pa_cons pe_int (pa_cons pe_int (pa_cons pe_int (pa_cons pe_int (pa_cons pe_int (pa_cons pe_int (pa_cons pe_int (pa_cons pe_int pa_nil))))))))))))))) pa_nil)) pa_nil)))))))))))), ?_⟩
  obtain ⟨hvs, ds, es, hd, ⟨rfl, rfl⟩, q⟩ := h
  have hvs : vs = [] := List.length_eq_zero_iff.mp hvs
  subst hvs
  refine q_asgN (K := K) (ds := bad1) (evn_lst (eda_cons evd_non (eda_cons (evd_tup eda_nil (by decide)) (eda_cons (evn_lst eda_nil (by decide)).dat (eda_cons (evd_tup (eda_cons (evd_tup (eda_cons evd_int eda_nil) (by decide)) eda_nil) (by decide)) (eda_cons (evd_repT2 (evd_tup (eda_cons (evd_tup (eda_cons evd_int (eda_cons evd_int eda_nil)) (by decide)) eda_nil) (by decide))) (eda_cons (evd_tup (eda_cons (evd_tup (eda_cons evd_int (eda_cons evd_int eda_nil)) (by decide)) eda_nil) (by decide)) (eda_cons (evd_tup (eda_cons (evd_tup (eda_cons evd_int eda_nil) (by decide)) (eda_cons (evd_tup eda_nil (by decide)) eda_nil)) (by decide)) (eda_cons (evd_tup (eda_cons (evd_tup (eda_cons evd_int (eda_cons evd_int eda_nil)) (by decide)) (eda_cons (evd_tup (eda_cons evd_int (eda_cons evd_int eda_nil)) (by decide)) eda_nil)) (by decide)) (eda_cons (evd_tup (eda_cons (evd_tup (eda_cons evd_int eda_nil) (by decide)) (eda_cons (evd_tup (eda_cons evd_int eda_nil) (by decide)) eda_nil)) (by decide)) (eda_cons (evd_tup (eda_cons (evd_tup (eda_cons evd_int (eda_cons evd_int eda_nil)) (by decide)) eda_nil) (by decide)) eda_nil)))))))))) (by decide)) fun r xs H1 hr0 e1 hr1 hxs => ?_
  refine s_retN (K := K) (evn_cat (evv_var rfl hr1 hxs) (evn_lst (eda_cons (evd_tup (eda_cons (evd_tup (eda_cons evd_int (eda_cons evd_bl eda_nil)) (by decide)) eda_nil) (by decide)) (eda_cons (evn_lst (eda_cons (evd_tup (eda_cons evd_int (eda_cons evd_int eda_nil)) (by decide)) eda_nil) (by decide)).dat (eda_cons (evd_tup (eda_cons (evn_lst (eda_cons evd_int (eda_cons evd_int eda_nil)) (by decide)).dat eda_nil) (by decide)) (eda_cons evd_int (eda_cons evd_str (eda_cons (evd_tup (eda_cons evd_int (eda_cons evd_int eda_nil)) (by decide)) (eda_cons (evd_tup (eda_cons (evd_tup (eda_cons evd_int (eda_cons evd_int (eda_cons evd_int (eda_cons evd_int (eda_cons evd_int (eda_cons evd_int (eda_cons evd_int (eda_cons evd_int (eda_cons evd_int (eda_cons evd_int (eda_cons evd_int (eda_cons evd_int (eda_cons evd_int (eda_cons evd_int eda_nil)))))))))))))) (by decide)) eda_nil) (by decide)) eda_nil))))))) (by decide)).liv (by decide)) fun p ys H2 _ e2 hp hys => q p ys H2 (e1.trans e2) hp hys
end
end PR
set_option maxHeartbeats 1000000
namespace PR
open PySem PySem.Spec PyProof.Rows L2
/-! a try whose clauses are told up to the one that takes the exception; those behind it (of any kind) are not looked at -/
/-- the wish: one of the told clauses names it -/
def wUp (K : PySem.W.Frag) (n : Nat) (D : Ends) : List (Value × (Addr → Value → Option Addr → TS)) → WX
  | [] => fun _ _ _ _ => False
  | (c, ts) :: r => fun cls d σ H => ∃ b, PySem.W.exmOne K cls c = some b ∧ (b = true → ∀ a, H a = none → σ.length = n → ts a cls d D σ H) ∧ (b = false → wUp K n D r cls d σ H)
inductive HdsUp (X : Cx) : List ExceptHandler → List (Value × (Addr → Value → Option Addr → TS)) → Prop
  | stop (hds : List ExceptHandler) : HdsUp X hds []
  | cons {x : Str} {c : Value} {ts : Addr → Value → Option Addr → TS} {b₀ : Stmt} {suite : List Stmt} {np pos' : Pos} {hds : List ExceptHandler} {l : List (Value × (Addr → Value → Option Addr → TS))} (nm : Names X x c)
      (su : ∀ (a : Addr) (oe : Obj) (cls : Value) (d : Option Addr) (pn : List (Addr × Obj)), Zc cls d oe → (∃ vs, oe.data = .fields vs) → PSs (X.suite a ((a, oe) :: pn)) (b₀ :: suite) (ts a cls d)) (r : HdsUp X hds l) :
      HdsUp X (.ExceptHandler (some (.Name x np)) none (b₀ :: suite) pos' :: hds) ((c, ts) :: l)
section
variable {X : Cx} {D : Ends} {pins : List (Addr × Obj)} {σ1 : L2.St} {H1 : Hp} {a : Addr} {B : Heap} {cls : Value} {d : Option Addr} {sI s0 : Shared}
/-- the clauses are looked through, the exception at a landed in h1 -/
theorem look_up (ok : X.Ok) (J : Inv X pins σ1 H1 sI) (nb : ∀ b o, sI.heap.get? b = some o → b ∉ frs X.stack → B.get? b = some o) (os : s0.os = sI.os) (ag : AllBare s0.gens) (na : H1 a = none)
    (nfr : ∀ {h : Heap} {o : Obj} {vs : Array Value}, h.FunFrames B (X.env :: X.outer) → h.get? a = some o → o.data = .fields vs → a ≠ X.env.locals ∧ a ∉ X.fs) :
    ∀ {hds : List ExceptHandler} {l : List (Value × (Addr → Value → Option Addr → TS))}, HdsUp X hds l → ∀ {h1 : Heap}, sI.heap.UpToSlots h1 → HandSPX.FlyingZ B (X.env :: X.outer) a (Zc cls d) h1 → wUp X.K X.N.length D l cls d σ1 H1 →
      wpAny (model X.prog X.w) X.A (handleBy (.ref a) X.env hds) (SP X pins D) X.xe { s0 with heap := h1 } := by
  intro hds l hh
  induction hh with
  | stop _ => exact fun _ _ w => w.elim
  | @cons x c ts b₀ suite np pos' more l2 nm su r ih =>
    intro h1 up fl w
    obtain ⟨b, eb, yes, no⟩ := w
    have J1 : Inv X pins σ1 H1 { s0 with heap := h1 } := J.landed nb fl.1 up os ag
    obtain ⟨o1, v1, g1, z1, d1⟩ := fl.there
    obtain ⟨nL, nF⟩ := nfr fl.2.2.1 g1 d1
    have S1 := J1.suite g1 d1 na nL nF
    refine wpAny_handleBy_cons (codeAny_handlers_test ?_) (fun q => nomatch q)
    have ty : PySem.W.Looks (model X.prog X.w) h1 (typeOf (.ref a)) cls := fun A Q E s k q => wpAny_typeOf_ref (k _ _ g1) (z1.1.symm ▸ q)
    have nmd : ∀ {Q : Value → Shared → Prop} {E : Value → Shared → Prop}, Q c { s0 with heap := h1 } → wpAny (model X.prog X.w) (X.A.mark (some (.ref a))) (eval (.Name x np) X.env) Q E { s0 with heap := h1 } := by
      intro Q E q
      rcases nm with ⟨gl, dbg, m | ⟨m, bo, nn⟩⟩
      · exact ld_glob (X := X.suite a ((a, o1) :: (X.pn ++ pins))) S1 gl m q dbg
      · exact ld_blt (X := X.suite a ((a, o1) :: (X.pn ++ pins))) S1 gl m bo q nn dbg
    refine nmd ((PySem.W.exm_one (M := model X.prog X.w) J1.kIn ty eb).here ?_)
    cases b with
    | false => exact ih up fl (no rfl)
    | true =>
      refine codeAny_handlers_suite (HandSPX.lands_againZ fl fun h2 fl2 up2 => ?_)
      have J2 : Inv X pins σ1 H1 { s0 with heap := h2 } := J.landed nb fl2.1 (up.trans up2) os ag
      obtain ⟨o2, v2, g2, z2, d2⟩ := fl2.there
      have run := (su a o2 cls d (X.pn ++ pins) z2 ⟨_, d2⟩).run [] _ _ H1 _ (J2.suite g2 d2 na nL nF) (yes rfl a na J.len)
      refine wpAny_mono run (fun fw s6 out => ?_) (fun _ _ z => z.elim)
      cases fw with
      | ret u => exact let ⟨v, σ6, H6, S6, r6, q6⟩ := out; ⟨v, σ6, H6, S6.unsuite ok, r6, q6⟩
      | next => exact let ⟨σ6, H6, S6, q6⟩ := out; ⟨σ6, H6, S6.unsuite ok, q6⟩
      | brk => exact let ⟨σ6, H6, S6, q6⟩ := out; ⟨σ6, H6, S6.unsuite ok, q6⟩
      | cont => exact let ⟨σ6, H6, S6, q6⟩ := out; ⟨σ6, H6, S6.unsuite ok, q6⟩
end
section
variable {X : Cx} {body : List Stmt} {h₀ : ExceptHandler} {hds : List ExceptHandler} {l : List (Value × (Addr → Value → Option Addr → TS))} {pos : Pos} {tb : WX → TS}
theorem ps_try_up (hs : X.stack = X.env :: X.outer) (hf : X.env.frame = some X.env.locals)
    (hb : ∀ (W : WX) (pn : List (Addr × Obj)) (xe : Value → Shared → Prop), Takes (X.tr pn xe) W → PassesOwn (model X.prog X.w) X.A X.env xe → PSs (X.tr pn xe) body (tb W))
    (hh : HdsUp X (h₀ :: hds) l) : PS X (.Try body (h₀ :: hds) [] [] pos) (fun D σ H => tb (wUp X.K X.N.length D l) D σ H) := by
  refine ⟨fun pins s σ H D I h => ?_⟩
  have ok := I.ok
  have frm : X.A.frames = some (X.env :: X.outer) := ok.frames.trans (congrArg some hs)
  let air : Value → Shared → Prop := fun e s₁ => wpAny (model X.prog X.w) X.A (noteFrame e X.env) (fun _ s₂ => wpAny (model X.prog X.w) X.A (setFlight e none) (fun _ s₃ =>
    wpAny (model X.prog X.w) X.A (handleBy e X.env (h₀ :: hds)) (SP X pins D) X.xe s₃) X.xe s₂) X.xe s₁
  have caught : Takes (X.tr (X.pn ++ pins) air) (wUp X.K X.N.length D l) := by
    rintro u s1 ⟨a, B, sI, pinsI, σ1, H1, cls, d, rfl, JI, nb, up, sky, na, os, ag, w⟩
    have J : Inv X pins σ1 H1 sI := JI.ofTry ok
    have sk : Sky B (X.env :: X.outer) a (Zc cls d) X.env.locals s1.heap := by rw [← hs]; exact sky
    show wpAny (model X.prog X.w) X.A (noteFrame (.ref a) X.env) _ _ _
    refine Sky.land Zc.steady frm hf sk fun h1 fl up1 => look_up ok J nb os ag na (fun {h o vs} ff e dd => ?_) hh (up.trans up1) fl w
    have nof : a ∉ frs (X.env :: X.outer) := fun hm => by
      obtain ⟨_, o2, e2, q⟩ := ff.mem hm
      cases e.symm.trans e2
      exact q _ dd
    refine ⟨fun z => nof (List.mem_filterMap.mpr ⟨X.env, List.mem_cons_self, by rw [hf, z]⟩), fun hm => ?_⟩
    obtain ⟨e3, h3, q⟩ := List.mem_filterMap.mp hm
    exact nof (List.mem_filterMap.mpr ⟨e3, List.mem_cons_of_mem _ h3, q⟩)
  refine wpAny_Try_except (wpAny_mono ((hb (wUp X.K X.N.length D l) (X.pn ++ pins) air caught PassesOwn.looking).run [] s σ H D (I.toTry _) h) (fun fw s1 out => ?_) fun _ _ z => z)
  cases fw with
  | next => exact let ⟨σ1, H1, J, q⟩ := out; wpAny_execs_nil ⟨σ1, H1, J.ofTry ok, q⟩
  | brk => exact let ⟨σ1, H1, J, q⟩ := out; ⟨σ1, H1, J.ofTry ok, q⟩
  | cont => exact let ⟨σ1, H1, J, q⟩ := out; ⟨σ1, H1, J.ofTry ok, q⟩
  | ret u => exact let ⟨v, σ1, H1, J, r, q⟩ := out; ⟨v, σ1, H1, J.ofTry ok, r, q⟩
end
end PR
set_option maxHeartbeats 1000000
namespace PR
open PySem PySem.Spec PyProof.Rows L2
open Evl (Ex EvT)
theorem sc__law_word : FnScope ["_law_call", "_law_found"] ["_law_call"] (defScope (top 52)) := ⟨rfl, rfl, rfl, by decide +kernel, rfl, by decide +kernel, by decide +kernel⟩
/-- the classes that the clauses name, up to Unlike -/
structure Wd (K : PySem.W.Frag) (mg : Str → Option Value) (C CU : Addr) where
  c1 : Addr
  c2 : Addr
  c3 : Addr
  c4 : Addr
  c5 : Addr
  c6 : Addr
  c7 : Addr
  c8 : Addr
  g0 : mg "InvalidParting" = some (.ref C)
  g1 : mg "InvalidPoints" = some (.ref c1)
  g2 : mg "InvalidTurn" = some (.ref c2)
  g3 : mg "InvalidChain" = some (.ref c3)
  g4 : mg "InvalidExchanges" = some (.ref c4)
  g5 : mg "InvalidExchange" = some (.ref c5)
  g6 : mg "InvalidRow" = some (.ref c6)
  g7 : mg "InvalidNumber" = some (.ref c7)
  g8 : mg "InvalidCars" = some (.ref c8)
  g9 : mg "Unlike" = some (.ref CU)
  e0 : PySem.W.exmOne K (.ref C) (.ref C) = some true
  u0 : PySem.W.exmOne K (.ref CU) (.ref C) = some false
  u1 : PySem.W.exmOne K (.ref CU) (.ref c1) = some false
  u2 : PySem.W.exmOne K (.ref CU) (.ref c2) = some false
  u3 : PySem.W.exmOne K (.ref CU) (.ref c3) = some false
  u4 : PySem.W.exmOne K (.ref CU) (.ref c4) = some false
  u5 : PySem.W.exmOne K (.ref CU) (.ref c5) = some false
  u6 : PySem.W.exmOne K (.ref CU) (.ref c6) = some false
  u7 : PySem.W.exmOne K (.ref CU) (.ref c7) = some false
  u8 : PySem.W.exmOne K (.ref CU) (.ref c8) = some false
  u9 : PySem.W.exmOne K (.ref CU) (.ref CU) = some true
def wsL (a0 a1 a2 a3 a4 a5 a6 a7 a8 a9 : Addr) : List (Value × Str) := [(.ref a0, "parting"), (.ref a1, "points"), (.ref a2, "turn"), (.ref a3, "chain"), (.ref a4, "exchanges"), (.ref a5, "exchange"), (.ref a6, "row"), (.ref a7, "number"), (.ref a8, "cars"), (.ref a9, "unlike")]
def Wd.ws {K : PySem.W.Frag} {mg : Str → Option Value} {C CU : Addr} (W : Wd K mg C CU) : List (Value × Str) := wsL C W.c1 W.c2 W.c3 W.c4 W.c5 W.c6 W.c7 W.c8 CU
/-- the word for a class -/
def wordOf (K : PySem.W.Frag) : List (Value × Str) → Value → Str → Prop
  | [], _, _ => False
  | (c, w) :: r, cls, x => ∃ b, PySem.W.exmOne K cls c = some b ∧ (b = true → x = w) ∧ (b = false → wordOf K r cls x)
def tsW (w : Str) : Addr → Value → Option Addr → TS := fun _ _ _ => tAsg (tC (.str w)) (gName 1)
def clW (ws : List (Value × Str)) : List (Value × (Addr → Value → Option Addr → TS)) := ws.map fun p => (p.1, tsW p.2)
theorem wish {K : PySem.W.Frag} {D : Ends} {cls : Value} {d : Option Addr} {σ : L2.St} {H : Hp} {x : Str} {n : Nat} (hn : 1 < n) (hD : ∀ σ' : L2.St, σ'[1]? = some (some (.str x)) → D.nx σ' H) : ∀ {ws : List (Value × Str)}, wordOf K ws cls x → wUp K n D (clW ws) cls d σ H
  | [], w => w
  | (c, w0) :: r, w => by
    obtain ⟨b, e, h1, h2⟩ := w
    refine ⟨b, e, fun hb a _ hl => ?_, fun hb => wish hn hD (h2 hb)⟩
    have e1 := h1 hb
    subst e1
    exact hD _ (List.getElem?_set_self (by omega))
/-- what the word is told of: the lambda's reading -/
def TTw (K : PySem.W.Frag) (ws : List (Value × Str)) : (XK → Hp → VK → Prop) → Hp → VK → Prop := fun tl H Q => tl (fun cls _ H' => ∃ r, wordOf K ws cls r ∧ Q (.str r) H') H fun _ H' => ∃ v, some (some (V.str "")) = some (some v) ∧ Q v H'
theorem word_gives {X : Cx} {C CU : Addr} (W : Wd X.K X.mg C CU) {g : Addr} {cdg : Value} {q : Str} : LamX.GivesTo X ["_law_call", "_law_found"] "_law_word" (defScope (top 52)) g cdg (defBody (top 52)) "_law_call" q (TTw X.K W.ws) := by
  intro f c' s H Q tl act hc h
  refine ⟨_, pss_cons (ps_set (i := 1) sc__law_word.nd (by rfl) (Or.inl rfl) pe_str) (pss_cons (ps_try_up (X := (cxOf C8.CX0 X.prog X.w X.K X.mg X.base ["_law_call", "_law_found"] "_law_word" (defScope (top 52)) g cdg X.A X.stack s H C8.E0).nox) (l := clW W.ws)
      (tb := fun W' D σ H => ∃ Ech : XK, (∀ cls d σ' H', Ech cls d H' → W' cls d σ' H') ∧ σ[0]? = some (some (.ref f)) ∧ H c' = some (LamX.CodeO c' q) ∧ tl Ech H fun _ H' => D.nx σ H')
      rfl rfl (fun W' pn xe tk _ => ⟨fun pins s' σ H' D I h' => ?_⟩) ?_) (pss_one (ps_ret (pv 1)))), ?_⟩
  · obtain ⟨Ech, hW, h1, h2, h3⟩ := h'
    exact (pss_one (ps_expr (act W' pn xe Ech _ _ tk hW))).run pins s' σ H' D I ⟨h1, h2, h3⟩
  · exact .cons ⟨by rfl, by decide, .inl W.g0⟩ (fun _ _ _ _ _ _ _ => pss_one (ps_set (i := 1) sc__law_word.nd (by rfl) (Or.inl rfl) pe_str)) <| .cons ⟨by rfl, by decide, .inl W.g1⟩ (fun _ _ _ _ _ _ _ => pss_one (ps_set (i := 1) sc__law_word.nd (by rfl) (Or.inl rfl) pe_str)) <| .cons ⟨by rfl, by decide, .inl W.g2⟩ (fun _ _ _ _ _ _ _ => pss_one (ps_set (i := 1) sc__law_word.nd (by rfl) (Or.inl rfl) pe_str)) <| .cons ⟨by rfl, by decide, .inl W.g3⟩ (fun _ _ _ _ _ _ _ => pss_one (ps_set (i := 1) sc__law_word.nd (by rfl) (Or.inl rfl) pe_str)) <| .cons ⟨by rfl, by decide, .inl W.g4⟩ (fun _ _ _ _ _ _ _ => pss_one (ps_set (i := 1) sc__law_word.nd (by rfl) (Or.inl rfl) pe_str)) <| .cons ⟨by rfl, by decide, .inl W.g5⟩ (fun _ _ _ _ _ _ _ => pss_one (ps_set (i := 1) sc__law_word.nd (by rfl) (Or.inl rfl) pe_str)) <| .cons ⟨by rfl, by decide, .inl W.g6⟩ (fun _ _ _ _ _ _ _ => pss_one (ps_set (i := 1) sc__law_word.nd (by rfl) (Or.inl rfl) pe_str)) <| .cons ⟨by rfl, by decide, .inl W.g7⟩ (fun _ _ _ _ _ _ _ => pss_one (ps_set (i := 1) sc__law_word.nd (by rfl) (Or.inl rfl) pe_str)) <| .cons ⟨by rfl, by decide, .inl W.g8⟩ (fun _ _ _ _ _ _ _ => pss_one (ps_set (i := 1) sc__law_word.nd (by rfl) (Or.inl rfl) pe_str)) <| .cons ⟨by rfl, by decide, .inl W.g9⟩ (fun _ _ _ _ _ _ _ => pss_one (ps_set (i := 1) sc__law_word.nd (by rfl) (Or.inl rfl) pe_str)) <| .stop _
  · refine ⟨fun cls _ H' => ∃ r, wordOf X.K W.ws cls r ∧ Q (.str r) H', fun cls d σ' H' ⟨r, hw, hq⟩ => ?_, rfl, hc, ?_⟩
    · refine wish (show 1 < 2 by decide) (fun σ2 h2 => ?_) hw
      exact ⟨_, h2, hq⟩
    · exact h
theorem word_givesK {X : Cx} {K : PySem.W.Frag} {mg : Str → Option Value} (hK : X.K = K) (hm : X.mg = mg) {C CU : Addr} (W : Wd K mg C CU) {g : Addr} {cdg : Value} {q : Str} : LamX.GivesTo X ["_law_call", "_law_found"] "_law_word" (defScope (top 52)) g cdg (defBody (top 52)) "_law_call" q (TTw K W.ws) := by
  subst hK hm
  exact word_gives W
theorem word_parting {K : PySem.W.Frag} {mg : Str → Option Value} {C CU : Addr} (W : Wd K mg C CU) : wordOf K W.ws (.ref C) "parting" := ⟨true, W.e0, fun _ => rfl, fun h => by cases h⟩
theorem word_unlike {K : PySem.W.Frag} {mg : Str → Option Value} {C CU : Addr} (W : Wd K mg C CU) : wordOf K W.ws (.ref CU) "unlike" := by
  refine ⟨false, W.u0, fun h => (by cases h), fun _ => ⟨false, W.u1, fun h => (by cases h), fun _ => ⟨false, W.u2, fun h => (by cases h), fun _ => ⟨false, W.u3, fun h => (by cases h), fun _ => ⟨false, W.u4, fun h => (by cases h), fun _ => ⟨false, W.u5, fun h => (by cases h), fun _ => ⟨false, W.u6, fun h => (by cases h), fun _ => ⟨false, W.u7, fun h => (by cases h), fun _ => ⟨false, W.u8, fun h => (by cases h), fun _ => ⟨true, W.u9, fun _ => rfl, fun h => (by cases h)⟩⟩⟩⟩⟩⟩⟩⟩⟩⟩
end PR
set_option maxHeartbeats 1000000
namespace PR
open PySem PySem.Spec PyProof.Rows L2 LamX
open Evl (Ex EvT)
def qLam : Str := ("law" : Str) ++ ".<locals>." ++ "<lambda>"
def lawT (Pt : Addr) : List (Addr × Str) := [(Pt, qLam)]
theorem ExtN.ex {H H' : Hp} (e : Ex H H') : ExtN H H' := ExtN.of e
theorem tabs_ex {T : List (Addr × Str)} {H H' : Hp} (t : Tabs T H) (e : Ex H H') : Tabs T H' := fun p hp => (t p hp).ext e
theorem tabs0 {H : Hp} {Pt : Addr} (h : H Pt = some (.tbl #[])) : Tabs (lawT Pt) H := fun p hp => by
  cases List.mem_singleton.mp hp
  exact ⟨#[], h, True.intro, fun pos cv hc => by cases hc⟩
/-- without its tables -/
noncomputable def bare (H : Hp) : Hp := fun b => @ite _ (∃ ps, H b = some (.tbl ps)) (Classical.propDecidable _) none (H b)
theorem bare_of {H : Hp} {b : Addr} {o : HO} (h : bare H b = some o) : H b = some o ∧ ∀ ps, o ≠ .tbl ps := by
  unfold bare at h
  by_cases e : ∃ ps, H b = some (.tbl ps)
  · rw [if_pos e] at h
    cases h
  · rw [if_neg e] at h
    exact ⟨h, fun ps z => e ⟨ps, z ▸ h⟩⟩
theorem bare_at {H : Hp} {b : Addr} {o : HO} (h : H b = some o) (n : ∀ ps, o ≠ .tbl ps) : bare H b = some o := by
  unfold bare
  rw [if_neg (fun ⟨ps, e⟩ => n ps (Option.some.inj (h.symm.trans e)))]
  exact h
theorem bare_ext {H H' : Hp} (e : ExtN H H') : Ex (bare H) H' := fun b o h => e b o (bare_of h).1 (bare_of h).2
section
variable {K : PySem.W.Frag} {H H' : Hp} {σ : L2.St} {Pt : Addr}
theorem sqT_bare {a : Addr} {xs : List V} (h : SqT K H a xs) : SqT K (bare H) a xs := by
  rcases h with (h | ⟨o, h⟩) | h
  · exact .inl (.inl (bare_at h fun _ z => by cases z))
  · exact .inl (.inr ⟨o, bare_at h fun _ z => by cases z⟩)
  · exact .inr h
theorem sqL_bare {a : Addr} {xs : List V} (h : SqL K H a xs) : SqL K (bare H) a xs := by
  rcases h with (h | ⟨o, h⟩) | h
  · exact .inl (.inl (bare_at h fun _ z => by cases z))
  · exact .inl (.inr ⟨o, bare_at h fun _ z => by cases z⟩)
  · exact .inr h
mutual
theorem dp_bare : ∀ {v : V} {d : PyData}, Dp K H v d → Dp K (bare H) v d
  | _, _, .non => .non
  | _, _, .bl b => .bl b
  | _, _, .int i => .int i
  | _, _, .str x => .str x
  | _, _, .lst s a => .lst (sqL_bare s) (dpA_bare a)
  | _, _, .tup s a => .tup (sqT_bare s) (dpA_bare a)
theorem dpA_bare : ∀ {vs : List V} {ds : List PyData}, DpAll K H vs ds → DpAll K (bare H) vs ds
  | _, _, .nil => .nil
  | _, _, .cons h t => .cons (dp_bare h) (dpA_bare t)
end
theorem dp_extN {v : V} {d : PyData} (h : Dp K H v d) (e : ExtN H H') : Dp K H' v d := (dp_bare h).ex (bare_ext e)
/-- the word, the lambda's call raising c -/
theorem word_ev {ws : List (Value × Str)} {t : XK → TE} {c : Value} {r : Str} (hT : Tabs (lawT Pt) H) (hw : wordOf K ws c r) (ht : ∀ H1, ExtN H H1 → ∀ (E : XK) (Q' : VK), (∀ H2, Ex H1 H2 → E c none H2) → t E σ H1 Q') (Q : VK)
    (q : ∀ H2, ExtN H H2 → Tabs (lawT Pt) H2 → Q (.str r) H2) : tLam (lawT Pt) (TTw K ws) t σ H Q :=
  ⟨hT, fun H1 e1 t1 => ht H1 e1 _ _ fun H2 e2 => ⟨r, hw, q H2 (e1.trans (.of e2)) (tabs_ex t1 e2)⟩⟩
theorem ne_str {r : Str} (Q : VK) (H : Hp) (q : Q (.bl false) H) : rNe (.str r) (.str r) H Q := by
  refine ⟨rfl, ?_⟩
  rw [decide_eq_true rfl]
  exact q
/-- [odd for odd in bad_partings() if word(..) != 'parting'] != [] is false -/
theorem bad_none {ws : List (Value × Str)} {t : XK → TE} {c : Value} (hT : Tabs (lawT Pt) H) (hw : wordOf K ws c "parting") (hwi : ∀ x, wipe ((wipe σ [10]).set 10 (some x)) [10] = wipe σ [10])
    (ht : ∀ d ∈ bad1 ++ bad2, ∀ x H1, ExtN H H1 → Dp K H1 x d → ∀ (E : XK) (Q' : VK), (∀ H2, Ex H1 H2 → E c none H2) → t E ((wipe σ [10]).set 10 (some x)) H1 Q') (Q : Bool → Hp → Prop) (q : ∀ H2, ExtN H H2 → Tabs (lawT Pt) H2 → Q false H2) :
    tTest (tOp (rNeD K) (tLc (iList K (tCall (spL K 0 preBad) [] E0 tNil)) (gName 10) (tTest (tOp rNe (tLam (lawT Pt) (TTw K ws) t) (tC (.str "parting")))) (tVar 10) [10]) (tLst tNil)) σ H Q := by
  refine ⟨rfl, [], _, .nil, ⟨rfl, rfl⟩, fun p xs H1 e1 hp hxs => ⟨p, rfl, ⟨xs, Evl.sq_of hp⟩, fun D hD => ?_⟩⟩
  have T1 := tabs_ex hT e1
  have hsrc : SrcD K (Itl K p) (bare H1) (bad1 ++ bad2) := src_list (sqL_bare (Evl.sq_of hp)) (dpA_bare hxs)
  refine lc_it (n := (bad1 ++ bad2).length) (G := Ex (bare H1)) (Y := YD K (bad1 ++ bad2)) hsrc (fun i H' => ExtN H1 H' ∧ Tabs (lawT Pt) H' ∧ H' D = some (.lst [])) ⟨.of (Ex.new hD), tabs_ex T1 (Ex.new hD), upd_same⟩ (fun i H' _ h => bare_ext h.1) (fun i x H2 H3 hi hP hy => ?_) (fun H2 hP => ?_)
  · obtain ⟨h1, h2, h3⟩ := hP
    obtain ⟨y1, d, y2, y3⟩ := hy
    refine ⟨hwi x, ?_⟩
    have eH : ExtN H H3 := (ExtN.of e1).trans (h1.trans (.of y1))
    refine word_ev (tabs_ex h2 y1) hw (fun H4 e4 E Q' hE => ht d (List.mem_of_getElem? y2) x H4 (eH.trans e4) (dp_extN y3 e4) E Q' hE) _ fun H4 e4 t4 => ?_
    dsimp only [tC]
    refine ne_str _ H4 ⟨false, rfl, ?_⟩
    refine iteF ⟨h1.trans ((ExtN.of y1).trans e4), t4, e4 D _ (y1 D _ h3) fun _ z => by cases z⟩
  · obtain ⟨h1, h2, h3⟩ := hP
    refine ⟨Nat.zero_le _, fun p2 hp2 => ⟨.list [], .list [], .lst (Evl.sq_of (Ex.new hp2 D _ h3)) .nil, .lst (Evl.sq_of upd_same) .nil, sh_lN [], sh_lN [], ?_⟩⟩
    have : (!PyData.eqv (.list []) (.list [])) = false := by decide +kernel
    rw [this]
    exact ⟨false, rfl, q _ (((ExtN.of e1).trans h1).trans (.of (Ex.new hp2))) (tabs_ex h2 (Ex.new hp2))⟩
end
end PR
set_option maxHeartbeats 1000000
namespace PR
def sameB (p : Part) (x y : Nat) : Bool := p.any fun l => hasL l x && hasL l y
theorem sameB_iff {p : Part} {x y : Nat} : sameB p x y = true ↔ Same p x y := by
  unfold sameB
  rw [List.any_eq_true]
  constructor
  · rintro ⟨l, hl, h⟩
    rw [Bool.and_eq_true, hasL_iff, hasL_iff] at h
    exact ⟨l, hl, h.1, h.2⟩
  · rintro ⟨l, hl, a, b⟩
    exact ⟨l, hl, by rw [hasL_iff.mpr a, hasL_iff.mpr b]; rfl⟩
theorem canon_rel {n : Nat} {p q : Part} (hp : Canon n p) (hq : Canon n q) (R : Nat → Nat → Bool) (h1 : ∀ x y, x < n → y < n → (Same p x y ↔ R x y = true)) (h2 : ((List.range n).all fun x => (List.range n).all fun y => R x y == sameB q x y) = true) : p = q := by
  refine canon_ext hp hq fun x y => ?_
  have key : ∀ x y, x < n → y < n → (Same p x y ↔ Same q x y) := fun x y hx hy => by
    have a := List.all_eq_true.mp (List.all_eq_true.mp h2 x (List.mem_range.mpr hx)) y (List.mem_range.mpr hy)
    have b : R x y = sameB q x y := by simpa using a
    rw [h1 x y hx hy, b, sameB_iff]
  constructor
  · intro s
    exact (key x y (hp.parts.eqv.lt x y s) (hp.parts.eqv.lt2 s)).mp s
  · intro s
    exact (key x y (hq.parts.eqv.lt x y s) (hq.parts.eqv.lt2 s)).mpr s
def pA : Part := [[0, 3], [1, 2]]
def pB : Part := [[0], [1, 3], [2]]
def pW : Part := [[0, 1, 2, 3]]
def pC : Part := [[0, 2], [1], [3]]
def pS : Part := [[0], [1], [2], [3]]
theorem gA : Good 4 pA := every_good (by decide) (by decide) (by decide +kernel)
theorem gB : Good 4 pB := every_good (by decide) (by decide) (by decide +kernel)
theorem gW : Good 4 pW := every_good (by decide) (by decide) (by decide +kernel)
theorem gC : Good 4 pC := every_good (by decide) (by decide) (by decide +kernel)
theorem gS : Good 4 pS := every_good (by decide) (by decide) (by decide +kernel)
def krB (p : Part) (x y : Nat) : Bool := p.all fun l => l.all fun a => l.all fun b => sep x y a == sep x y b
theorem krB_iff {n : Nat} {p : Part} {x y : Nat} (hx : x < n) (hy : y < n) : KR n (Same p) x y ↔ krB p x y = true := by
  constructor
  · intro h
    refine List.all_eq_true.mpr fun l hl => List.all_eq_true.mpr fun a ha => List.all_eq_true.mpr fun b hb => ?_
    rw [h.2.2 a b ⟨l, hl, ha, hb⟩]
    exact beq_self_eq_true _
  · intro h
    refine ⟨hx, hy, ?_⟩
    rintro a b ⟨l, hl, ha, hb⟩
    have := List.all_eq_true.mp (List.all_eq_true.mp (List.all_eq_true.mp h l hl) a ha) b hb
    simpa using this
theorem cpl_dec {n : Nat} {p q : Part} (hq : Canon n q) (h : ((List.range n).all fun x => (List.range n).all fun y => krB p x y == sameB q x y) = true) : Cpl n p q := by
  obtain ⟨C, c⟩ := cpl_ex n p
  have e : C = q := canon_rel c.canon hq (krB p) (fun x y hx hy => (c.same x y).trans (krB_iff hx hy)) h
  exact e ▸ c
theorem cA : Cpl 4 pA pC := cpl_dec gC.canon (by decide +kernel)
theorem cB : Cpl 4 pB pA := cpl_dec gA.canon (by decide +kernel)
theorem tB : srtL (turnedRaw pB 1) = pC := canon_rel (srtL_canon (turned_parts gB.canon.parts (by decide) 1)) gC.canon (fun x y => sameB pB (shN 4 (-1) x) (shN 4 (-1) y))
  (fun x y hx hy => by
    rw [srtL_same, turned_same gB.canon.parts (by decide), sameB_iff]
    exact ⟨fun h => h.2.2, fun h => ⟨hx, hy, h⟩⟩) (by decide +kernel)
theorem mAB : srtL (meetRaw pA pB) = pS := canon_rel (meet_good gA gB).canon gS.canon (fun x y => sameB pA x y && sameB pB x y) (fun x y hx hy => by rw [meet_eq gA gB, Bool.and_eq_true, sameB_iff, sameB_iff]) (by decide +kernel)
theorem fBA : decide (srtL (meetRaw pB pA) = pB) = false := by
  rw [decide_eq_false_iff_not, meet_is gB gA]
  intro h
  have := h 1 3 (sameB_iff.mp (by decide +kernel))
  rw [← sameB_iff] at this
  exact absurd this (by decide +kernel)
theorem all4 {x y : Nat} (hx : x < 4) (hy : y < 4) : Same pW x y := by
  refine ⟨[0, 1, 2, 3], List.mem_singleton.mpr rfl, ?_, ?_⟩
  · match x, hx with
    | 0, _ => decide
    | 1, _ => decide
    | 2, _ => decide
    | 3, _ => decide
  · match y, hy with
    | 0, _ => decide
    | 1, _ => decide
    | 2, _ => decide
    | 3, _ => decide
theorem fAW : decide (srtL (meetRaw pA pW) = pA) = true := by
  rw [decide_eq_true_iff, meet_is gA gW]
  exact fun x y h => all4 (gA.canon.parts.eqv.lt x y h) (gA.canon.parts.eqv.lt2 h)
theorem whole_of {J : Part} (hJ : Canon 4 J) (h1 : Same J 0 1) (h2 : Same J 0 2) (h3 : Same J 0 3) : J = pW := by
  have E := hJ.parts.eqv
  have z : ∀ x, x < 4 → Same J 0 x := fun x hx => by
    match x, hx with
    | 0, _ => exact E.rfl' 0 (by decide)
    | 1, _ => exact h1
    | 2, _ => exact h2
    | 3, _ => exact h3
  exact canon_ext hJ gW.canon fun x y => ⟨fun s => all4 (E.lt x y s) (E.lt2 s), fun s => E.tr _ _ _ (E.sym _ _ (z x (gW.canon.parts.eqv.lt x y s))) (z y (gW.canon.parts.eqv.lt2 s))⟩
theorem jCB {J : Part} (hJ : Canon 4 J) (L : Lub 4 (Same pC) (Same pB) (Same J)) : J = pW := by
  have h02 := L.one 0 2 (sameB_iff.mp (by decide +kernel))
  have h13 := L.two 1 3 (sameB_iff.mp (by decide +kernel))
  have h01 := L.nc 0 1 2 3 (by decide) (by decide) (by decide) h02 h13
  exact whole_of hJ h01 h02 (hJ.parts.eqv.tr _ _ _ h01 h13)
theorem jAB {J : Part} (hJ : Canon 4 J) (L : Lub 4 (Same pA) (Same pB) (Same J)) : J = pW := by
  have h03 := L.one 0 3 (sameB_iff.mp (by decide +kernel))
  have h12 := L.one 1 2 (sameB_iff.mp (by decide +kernel))
  have h13 := L.two 1 3 (sameB_iff.mp (by decide +kernel))
  have E := hJ.parts.eqv
  have h01 := E.tr _ _ _ h03 (E.sym _ _ h13)
  exact whole_of hJ h01 (E.tr _ _ _ h01 h12) h03
theorem lCB : Lub 4 (Same pC) (Same pB) (Same pW) := by
  obtain ⟨J, hJ, L⟩ := lub_ex gC.canon.parts gB.canon.parts
  exact jCB hJ L ▸ L
theorem lAB : Lub 4 (Same pA) (Same pB) (Same pW) := by
  obtain ⟨J, hJ, L⟩ := lub_ex gA.canon.parts gB.canon.parts
  exact jAB hJ L ▸ L
end PR
set_option maxHeartbeats 1000000
namespace PR
open PySem PySem.Spec PyProof.Rows L2
open Evl (Ex EvT)
theorem sc_law : FnScope ["_law_script", "_law_drum_here", "_law_few", "_law_every_here", "_law_one", "_law_other_so", "_law_many", "_law_great", "_law_more", "_law_call_so", "_law_odd", "_law_a", "_law_b", "_law_whole"] ["_law_script"] (defScope (top 58)) := ⟨rfl, rfl, rfl, by decide +kernel, rfl, by decide +kernel, by decide +kernel⟩
/-- a local name that holds one of several defs, called; they may raise -/
def tCallF (i : Nat) (S : Addr → Prop) (sp : Sp) (E : L2.St → XK) (t : TA) : TE := fun σ H Q => ∃ f, σ[i]? = some (some (.ref f)) ∧ S f ∧ t σ H fun vs H1 => sp vs H1 Q (E σ)
theorem pe_callF {X : Cx} {CX : CXT} {k i : Nat} {S : Addr → Prop} {sp : Sp} {E : L2.St → XK} {x : Str} {p pos : Pos} {e : Expr} {es : List Expr} {t : TA}
    (hS : ∀ f, S f → ∃ fd ps, FnOk X.prog X.w X.K X.mg X.base CX k f fd ps sp ∧ PySem.W.keepIn X.K (.ref f) = true ∧ Binds X.K fd ps []) (hr : Room k X.A) (hN : X.N[i]? = some x) (hv : Vis X.env.scope x) (hx : ∀ σ, PassesAt CX X σ (E σ)) (ha : PA X (e :: es) t)
    (hd : (x == ("__debug__" : Str)) = false := by decide) (hcd : (x == ("__classdict__" : Str)) = false := by decide)
    (he : starEach (e :: es) X.env = (false, eval e X.env) :: starEach es X.env := by rfl) (hpl : (backTo pos (starEach es X.env)).any (·.1) = false := by rfl) :
    PE X (.Call (.Name x p) (e :: es) [] pos) (tCallF i S sp E t) := by
  refine ⟨fun pins s σ H Q I h => ?_⟩
  obtain ⟨f, hs, hf, h⟩ := h
  obtain ⟨fd, ps, F, kp, b⟩ := hS f hf
  refine wpAny_Call_Name_kw (thn ((pe_var (pos := p) hN hv hd hcd).run pins s σ H (fun v H1 => v = .ref f ∧ H1 = H) I ⟨.ref f, hs, rfl, rfl⟩) fun u s1 ⟨v, H1, I1, r1, q1⟩ => ?_)
  obtain ⟨rfl, rfl⟩ := q1
  cases r1
  exact PySem.W.callWith_K (h₀ := X.base) I.ok.mod.kin kp (thn (ha.run pos pins s1 σ _ _ I1 h) fun us s2 ⟨vs, H2, I2, r, q⟩ => ⟨I2.kIn, run_fnS F hr b (hx σ) I2 r q⟩) he hpl
def spLaw (K : PySem.W.Frag) (Pt : Addr) : Sp := fun vs H Q _ => ∃ (a : Addr) (ns : List Int), vs = [.ref a] ∧ SqL K H a (ns.map V.int) ∧ ns.length ≤ 50000 ∧ H Pt = some (.tbl #[]) ∧ ∀ H', Q (.bl true) H'
theorem seq_fin {t u : TS} {D : Ends} {σ : L2.St} {H : Hp} (S : L2.St → Prop) (hu : ∀ σ' H', S σ' → u D σ' H') (ht : ∀ nx : L2.St → Hp → Prop, (∀ σ' H', S σ' → nx σ' H') → t { D with nx := nx } σ H) : tSeq t u D σ H := ht (u D) hu
section
variable {K : PySem.W.Frag}
theorem rollI {σ : L2.St} {H : Hp} {te : TE} {d : Addr} {i m : Nat} (h0 : σ[i]? = some (some (.ref d))) (he : EvD K te σ H (nD m)) (D : Drum H d) (hm : 0 < m) (hm2 : m ≤ 1000) (Q : VK) (k : ∀ (r : Nat) H1, r < m → ExB d H H1 → Drum H1 d → Q (.int r) H1) :
    tCall (spRoll K) [] E0 (tCons (tVar i) (tCons te tNil)) σ H Q :=
  ⟨_, h0, he H (Ex.refl _) _ fun v H1 e1 hv => ⟨d, m, by rw [Dp.int_eq hv]; rfl, D.ex e1, hm, hm2, fun r H2 hr xb D2 => k r H2 hr ((ExB.of e1).trans xb) D2⟩⟩
theorem rollE {σ : L2.St} {H : Hp} {te : TE} {d : Addr} {i m : Nat} (h0 : σ[i]? = some (some (.ref d))) (he : EvD K te σ H (nD m)) (D : Drum H d) (hm : 0 < m) (hm2 : m ≤ 1000) (Q : Bool → Hp → Prop) (k : ∀ (r : Nat) H1, r < m → ExB d H H1 → Drum H1 d → Q (decide (r = 0)) H1) :
    tTest (tOp rEq (tCall (spRoll K) [] E0 (tCons (tVar i) (tCons te tNil))) (tC (.int 0))) σ H Q :=
  rollI h0 he D hm hm2 _ fun r H1 hr xb D2 => ⟨rfl, _, rfl, by
    have : decide (V.int (r : Int) = V.int 0) = decide (r = 0) := decide_eq_decide.mpr ⟨fun e => by have := V.int.inj e; omega, fun e => by rw [e]; rfl⟩
    rw [this]
    exact k r H1 hr xb D2⟩
theorem q_asgRoll {σ : L2.St} {H : Hp} {te : TE} {d : Addr} {i j m : Nat} {D : Ends} {tz : TS} (c : Nat) (h0 : σ[i]? = some (some (.ref d))) (he : EvD K te σ H (nD m)) (Dr : Drum H d) (hm : 0 < m) (hm2 : m ≤ 1000)
    (k : ∀ (n : Nat) H1, c ≤ n → n < c + m → ExB d H H1 → Drum H1 d → tz D (σ.set j (some (.int n))) H1) :
    tSeq (tAsg (tOp (rI0 fun i j => .int (i + j)) (tC (.int (c : Int))) (tCall (spRoll K) [] E0 (tCons (tVar i) (tCons te tNil)))) (gName j)) tz D σ H :=
  rollI h0 he Dr hm hm2 _ fun r H1 hr xb D2 => ⟨c, r, rfl, rfl, by
    have := k (c + r) H1 (by omega) (by omega) xb D2
    rw [Int.natCast_add] at this
    exact this⟩
end
theorem g01 : Good 2 [[0, 1]] := every_good (by decide) (by decide) (by decide +kernel)
theorem g012 : Good 3 [[0, 1, 2]] := every_good (by decide) (by decide) (by decide +kernel)
section
variable {K : PySem.W.Frag} {H : Hp}
theorem litA {σ : L2.St} : EvD K (tTup (tCons (tTup (tCons (tC (.int 0)) (tCons (tC (.int 3)) tNil))) (tCons (tTup (tCons (tC (.int 1)) (tCons (tC (.int 2)) tNil))) tNil))) σ H (eP pA) := evd_is (evd_tup (eda_cons (evd_tup (eda_cons evd_int (eda_cons evd_int eda_nil)) (by decide)) (eda_cons (evd_tup (eda_cons evd_int (eda_cons evd_int eda_nil)) (by decide)) eda_nil)) (by decide)) rfl
theorem litB {σ : L2.St} : EvD K (tTup (tCons (tTup (tCons (tC (.int 0)) tNil)) (tCons (tTup (tCons (tC (.int 1)) (tCons (tC (.int 3)) tNil))) (tCons (tTup (tCons (tC (.int 2)) tNil)) tNil)))) σ H (eP pB) := evd_is (evd_tup (eda_cons (evd_tup (eda_cons evd_int eda_nil) (by decide)) (eda_cons (evd_tup (eda_cons evd_int (eda_cons evd_int eda_nil)) (by decide)) (eda_cons (evd_tup (eda_cons evd_int eda_nil) (by decide)) eda_nil))) (by decide)) rfl
theorem litW {σ : L2.St} : EvD K (tTup (tCons (tTup (tCons (tC (.int 0)) (tCons (tC (.int 1)) (tCons (tC (.int 2)) (tCons (tC (.int 3)) tNil))))) tNil)) σ H (eP pW) := evd_is (evd_tup (eda_cons (evd_tup (eda_cons evd_int (eda_cons evd_int (eda_cons evd_int (eda_cons evd_int eda_nil)))) (by decide)) eda_nil) (by decide)) rfl
theorem litC {σ : L2.St} : EvD K (tTup (tCons (tTup (tCons (tC (.int 0)) (tCons (tC (.int 2)) tNil))) (tCons (tTup (tCons (tC (.int 1)) tNil)) (tCons (tTup (tCons (tC (.int 3)) tNil)) tNil)))) σ H (eP pC) := evd_is (evd_tup (eda_cons (evd_tup (eda_cons evd_int (eda_cons evd_int eda_nil)) (by decide)) (eda_cons (evd_tup (eda_cons evd_int eda_nil) (by decide)) (eda_cons (evd_tup (eda_cons evd_int eda_nil) (by decide)) eda_nil))) (by decide)) rfl
theorem litS {σ : L2.St} : EvD K (tTup (tCons (tTup (tCons (tC (.int 0)) tNil)) (tCons (tTup (tCons (tC (.int 1)) tNil)) (tCons (tTup (tCons (tC (.int 2)) tNil)) (tCons (tTup (tCons (tC (.int 3)) tNil)) tNil))))) σ H (eP pS) := evd_is (evd_tup (eda_cons (evd_tup (eda_cons evd_int eda_nil) (by decide)) (eda_cons (evd_tup (eda_cons evd_int eda_nil) (by decide)) (eda_cons (evd_tup (eda_cons evd_int eda_nil) (by decide)) (eda_cons (evd_tup (eda_cons evd_int eda_nil) (by decide)) eda_nil)))) (by decide)) rfl
theorem tg_triple {σ : L2.St} {i j k : Nat} {x : V} {d e f : PyData} {Q : L2.St → Hp → Prop} (hx : Dp K H x (.tuple [d, e, f])) (h : ∀ y z u, Dp K H y d → Dp K H z e → Dp K H u f → Q (((σ.set i (some y)).set j (some z)).set k (some u)) H) : gTup K 3 (gCons (gName i) (gCons (gName j) (gCons (gName k) gNil))) x σ H Q := by
  obtain ⟨a, xs, rfl, s, hd⟩ := hx.tup_at
  obtain ⟨y, z, u, rfl, hy, hz, hu⟩ := arg3 hd
  exact ⟨a, _, rfl, s, rfl, _, _, rfl, _, _, rfl, _, _, rfl, rfl, h _ _ _ hy hz hu⟩
theorem q_asgT3 {σ : L2.St} {te : TE} {D : Ends} {tz : TS} {K' : PySem.W.Frag} {n i j k : Nat} {d e f : PyData} (hK : K' = K) (hn : n = 3) (h : EvD K te σ H (.tuple [d, e, f])) (kk : ∀ y z u H1, Ex H H1 → Dp K H1 y d → Dp K H1 z e → Dp K H1 u f → tz D (((σ.set i (some y)).set j (some z)).set k (some u)) H1) :
    tSeq (tAsg te (gTup K' n (gCons (gName i) (gCons (gName j) (gCons (gName k) gNil))))) tz D σ H := by
  subst hK hn
  exact h H (Ex.refl _) _ fun x H1 e1 hx => tg_triple hx fun y z u hy hz hu => kk y z u H1 e1 hy hz hu
theorem evd_niB {σ : L2.St} {ta tb : TE} {a b : Bool} (ha : EvD K ta σ H (.bool a)) (hb : EvD K tb σ H (.bool b)) : EvD K (tOp rNotB ta tb) σ H (.bool (!decide (a = b))) :=
  evd_op ha hb fun H1 x y _ hx hy Q q => ⟨a, b, hx.bl_eq, hy.bl_eq, q _ H1 (Ex.refl _) (.bl _)⟩
theorem not_ev {d ev : Addr} {xs : List V} {ps : List Part} (D : Drum H d) (h : H ev = some (.lst xs)) (hx : DpAll K H xs (ps.map eP)) (h0 : 0 < ps.length) : ev ≠ d := fun e => by
  subst e
  obtain ⟨a, b, q, _⟩ := D
  rw [q] at h
  cases h
  cases ps with
  | nil => cases h0
  | cons p ps =>
    cases hx with
    | cons a b =>
      obtain ⟨_, _, e, _⟩ := Dp.tup_at (ds := p.map eL) a
      cases e
end
section
variable {P : Program} {w : World} {K : PySem.W.Frag} {mg : Str → Option Value} {base : Heap} {C CU : Addr}
theorem ok_law {fL g cc Pt : Addr} {oc dV kV doc pm cdW ct ocL dVL kVL docL pmL ctL : Value} {an od anL odL : Option Addr} {osl oslL : Array (Option Value)} (N : Fr mg)
    (lkL : K.lookup fL = some ⟨ocL, odL, .func (PySem.W.fnOf "law" "law" (defArgs (top 58)) (defBody (top 58)) (defScope (top 58)) dVL kVL docL pmL anL (.ref cc) ctL), oslL⟩) (hcL : PySem.W.codeIn K (.ref cc) "law" = true) (TB : LamX.TabB base mg cc Pt)
    (hW : Wd K mg C CU) (gW : mg "_law_word" = some (.ref g)) (kW : PySem.W.keepIn K (.ref g) = true) (lkW : K.lookup g = some ⟨oc, od, .func (PySem.W.fnOf "_law_word" "_law_word" (defArgs (top 52)) (defBody (top 52)) (defScope (top 52)) dV kV doc pm an cdW ct), osl⟩) (hcdW : PySem.W.codeIn K cdW "_law_word" = true)
    (bW : Binds K (PySem.W.fnOf "_law_word" "_law_word" (defArgs (top 52)) (defBody (top 52)) (defScope (top 52)) dV kV doc pm an cdW ct) ["_law_call"] [])
    {f1 f2 f3 : Addr} (gf1 : mg "is_finer" = some (.ref f1)) (gf2 : mg "parting_meet" = some (.ref f2)) (gf3 : mg "parting_join" = some (.ref f3))
    (hS : ∀ f, (f = f1 ∨ f = f2 ∨ f = f3) → ∃ fd ps, FnOk P w K mg base (L2.CX P w) 6 f fd ps (spBothX K C CU) ∧ PySem.W.keepIn K (.ref f) = true ∧ Binds K fd ps [])
    (hX_complement : Has P w K mg base (L2.CX P w) 5 "complement" ["parting"] (spComplX K C))
    (h__law_drum : Has P w K mg base CX0 1 "_law_drum" ["_law_script", "_law_k"] (spDrum K)) (h__law_roll : Has P w K mg base CX0 1 "_law_roll" ["_law_drum_here", "_law_many"] (spRoll K)) (h__law_every : Has P w K mg base CX0 2 "_law_every" ["_law_points"] (spEvery K))
    (h__law_parting : Has P w K mg base CX0 2 "_law_parting" ["_law_drum_here", "_law_points"] (spParting K)) (h__law_pick : Has P w K mg base CX0 2 "_law_pick" ["_law_drum_here", "_law_things"] (spPick K))
    (h__law_small_right : Has P w K mg base CX0 7 "_law_small_right" ["_law_one", "_law_other_so", "_law_every_here"] (spD K 3 preSmall)) (h__law_great_right : Has P w K mg base CX0 7 "_law_great_right" ["_law_one", "_law_other_so"] (spD K 2 preGreat))
    (h__law_bad_partings : Has P w K mg base CX0 1 "_law_bad_partings" [] (spL K 0 preBad)) (h_complement : Has P w K mg base CX0 5 "complement" ["parting"] (spD K 1 preComplP)) (h_parting_turned : Has P w K mg base CX0 5 "parting_turned" ["parting", "steps"] (spD K 2 preTurnedP))
    (h_is_finer : Has P w K mg base CX0 6 "is_finer" ["parting", "other"] (spD K 2 preFiner)) (h_parting_meet : Has P w K mg base CX0 6 "parting_meet" ["parting", "other"] (spD K 2 preMeetP)) (h_parting_join : Has P w K mg base CX0 6 "parting_join" ["parting", "other"] (spD K 2 preJoinP)) :
    FnOk P w K mg base CX0 10 fL (PySem.W.fnOf "law" "law" (defArgs (top 58)) (defBody (top 58)) (defScope (top 58)) dVL kVL docL pmL anL (.ref cc) ctL) ["_law_script"] (spLaw K Pt) := by
  refine fn_of lkL hcL sc_law (fun vs H Q E h => by obtain ⟨a, ns, rfl, _⟩ := h; rfl) fun A outer s H vs Q E hr h => ?_
  refine ⟨_, PSs.nox (pss_cons (ps_set (i := 1) (sc_law).nd (by rfl) (by first | exact Or.inl rfl | exact Or.inr rfl) (pe_fn h__law_drum hr (by decide) (by rfl) pass0 (pa_cons (pv 0) (pa_cons pe_int pa_nil)))) (pss_cons (ps_set (i := 2) (sc_law).nd (by rfl) (by first | exact Or.inl rfl | exact Or.inr rfl) (pe_op op_add pe_int (pe_fn h__law_roll hr (by decide) (by rfl) pass0 (pa_cons (pv 1) (pa_cons pe_int pa_nil))))) (pss_cons (ps_set (i := 3) (sc_law).nd (by rfl) (by first | exact Or.inl rfl | exact Or.inr rfl) (pe_fn h__law_every hr (by decide) (by rfl) pass0 (pa_cons (pv 2) pa_nil))) (pss_cons (ps_asg (pe_tup (pa_cons (pe_fn h__law_parting hr (by decide) (by rfl) pass0 (pa_cons (pv 1) (pa_cons (pv 2) pa_nil))) (pa_cons (pe_fn h__law_pick hr (by decide) (by rfl) pass0 (pa_cons (pv 1) (pa_cons (pv 3) pa_nil))) pa_nil))) (pg_tup rfl (pgs_cons (pg_name (i := 4) (sc_law).nd rfl (by first | exact Or.inl rfl | exact Or.inr rfl)) (pgs_cons (pg_name (i := 5) (sc_law).nd rfl (by first | exact Or.inl rfl | exact Or.inr rfl)) pgs_nil)))) (pss_cons (ps_if (PW.pt (pw_or (pt_not (pt_val (pe_fn h__law_small_right hr (by decide) (by rfl) pass0 (pa_cons (pv 4) (pa_cons (pv 5) (pa_cons (pv 3) pa_nil)))))) (pw_or1 (pt_not (pt_val (pe_fn h__law_great_right hr (by decide) (by rfl) pass0 (pa_cons (pv 4) (pa_cons (pv 5) pa_nil)))))))) (pss_one (ps_ret pe_bl)) pss_nil) (pss_cons (ps_set (i := 6) (sc_law).nd (by rfl) (by first | exact Or.inl rfl | exact Or.inr rfl) (pe_op op_add pe_int (pe_fn h__law_roll hr (by decide) (by rfl) pass0 (pa_cons (pv 1) (pa_cons pe_int pa_nil))))) (pss_cons (ps_par (i := 7) (j := 8) rfl (sc_law).nd (by rfl) (by rfl) (by decide) (by rfl) (by rfl) (pa_cons (pe_fn h__law_parting hr (by decide) (by rfl) pass0 (pa_cons (pv 1) (pa_cons (pv 6) pa_nil))) (pa_cons (pe_fn h__law_parting hr (by decide) (by rfl) pass0 (pa_cons (pv 1) (pa_cons (pv 6) pa_nil))) pa_nil)) (by rfl)) (pss_cons (ps_if (PW.pt (pw_or (pt_not (pt_val (pe_fn h__law_great_right hr (by decide) (by rfl) pass0 (pa_cons (pv 7) (pa_cons (pv 8) pa_nil))))) (pw_or1 (pt_not (pt_val (pe_fn h__law_great_right hr (by decide) (by rfl) pass0 (pa_cons (pe_fn h_parting_meet hr (by decide) (by rfl) pass0 (pa_cons (pv 7) (pa_cons (pv 8) pa_nil))) (pa_cons (pv 7) pa_nil)))))))) (pss_one (ps_ret pe_bl)) pss_nil) (pss_cons (ps_if (pt_cmpR op_eq (pe_fn h__law_roll hr (by decide) (by rfl) pass0 (pa_cons (pv 1) (pa_cons pe_int pa_nil))) pe_int (nomark _)) (pss_cons (ps_for PassesOwn.never rfl (show PI _ _ _ (iTup K _) from pi_tup (pe_tup (pa_cons (pe_glob (v := .ref f1) (by rfl) gf1 rfl) (pa_cons (pe_glob (v := .ref f2) (by rfl) gf2 rfl) (pa_cons (pe_glob (v := .ref f3) (by rfl) gf3 rfl) pa_nil))))) (pg_name (i := 9) (sc_law).nd rfl (by first | exact Or.inl rfl | exact Or.inr rfl)) (pss_cons (ps_if (pt_cmpR (r := rNeD K) (op_neD hr.units) (pe_lc (own := [("_law_odd", 10)]) (g := gName 10) rfl (sc_law).nd (show PI _ _ _ (iList K _) from pi_list (pe_fn0 h__law_bad_partings hr (by decide) (by rfl) pass0)) (blkOk_by (own := [("_law_odd", 10)]) (N := ["_law_script", "_law_drum_here", "_law_few", "_law_every_here", "_law_one", "_law_other_so", "_law_many", "_law_great", "_law_more", "_law_call_so", "_law_odd", "_law_a", "_law_b", "_law_whole"]) (sc := defScope (top 58)) (by decide +kernel)) (fun _ _ _ _ _ => (pg_name (i := 10) (sc_law).nd rfl (by first | exact Or.inl rfl | exact Or.inr rfl))) (fun _ _ _ _ _ => (pts_one (pt_cmpR op_ne (LamX.pe_lamcall (T := lawT Pt) (TT := TTw K hW.ws) (P := Pt) (c := cc) (k := 7) (Ng := ["_law_call", "_law_found"]) (by rfl) gW kW lkW hcdW bW sc__law_word (by rfl) (Or.inl rfl) (word_givesK (K := K) (mg := mg) rfl rfl hW) TB rfl List.mem_cons_self (fun p hp _ => by cases List.mem_singleton.mp hp; rfl) (hr.mono (by decide)) (LamX.lamS_by (sc := relS _ (defScope (top 58))) (by decide +kernel)) rfl (fun _ _ _ _ _ => rfl) (fun A outer s H E f c2 hr2 => (pe_callF hS (hr2.mono (by decide)) (i := 9) (by rfl) (by first | exact Or.inl rfl | exact Or.inr (Or.inl rfl) | exact Or.inr (Or.inr rfl)) (fun σ => passAt (takes_of (E := E) rfl rfl rfl rfl) σ) (pa_cons (pv 10) (pa_cons pe_non pa_nil))))) pe_str (nomark _)))) (fun _ _ _ _ _ => (pv 10))) (pe_lst pa_nil) (nomark _)) (pss_one (ps_ret pe_bl)) pss_nil) (pss_cons (ps_if (pt_cmpR (r := rNeD K) (op_neD hr.units) (pe_lc (own := [("_law_odd", 10)]) (g := gName 10) rfl (sc_law).nd (show PI _ _ _ (iList K _) from pi_list (pe_fn0 h__law_bad_partings hr (by decide) (by rfl) pass0)) (blkOk_by (own := [("_law_odd", 10)]) (N := ["_law_script", "_law_drum_here", "_law_few", "_law_every_here", "_law_one", "_law_other_so", "_law_many", "_law_great", "_law_more", "_law_call_so", "_law_odd", "_law_a", "_law_b", "_law_whole"]) (sc := defScope (top 58)) (by decide +kernel)) (fun _ _ _ _ _ => (pg_name (i := 10) (sc_law).nd rfl (by first | exact Or.inl rfl | exact Or.inr rfl))) (fun _ _ _ _ _ => (pts_one (pt_cmpR op_ne (LamX.pe_lamcall (T := lawT Pt) (TT := TTw K hW.ws) (P := Pt) (c := cc) (k := 7) (Ng := ["_law_call", "_law_found"]) (by rfl) gW kW lkW hcdW bW sc__law_word (by rfl) (Or.inl rfl) (word_givesK (K := K) (mg := mg) rfl rfl hW) TB rfl List.mem_cons_self (fun p hp _ => by cases List.mem_singleton.mp hp; rfl) (hr.mono (by decide)) (LamX.lamS_by (sc := relS _ (defScope (top 58))) (by decide +kernel)) rfl (fun _ _ _ _ _ => rfl) (fun A outer s H E f c2 hr2 => (pe_callF hS (hr2.mono (by decide)) (i := 9) (by rfl) (by first | exact Or.inl rfl | exact Or.inr (Or.inl rfl) | exact Or.inr (Or.inr rfl)) (fun σ => passAt (takes_of (E := E) rfl rfl rfl rfl) σ) (pa_cons (pv 4) (pa_cons (pv 10) pa_nil))))) pe_str (nomark _)))) (fun _ _ _ _ _ => (pv 10))) (pe_lst pa_nil) (nomark _)) (pss_one (ps_ret pe_bl)) pss_nil) (pss_one (ps_if (pt_cmpR op_ne (LamX.pe_lamcall (T := lawT Pt) (TT := TTw K hW.ws) (P := Pt) (c := cc) (k := 7) (Ng := ["_law_call", "_law_found"]) (by rfl) gW kW lkW hcdW bW sc__law_word (by rfl) (Or.inl rfl) (word_givesK (K := K) (mg := mg) rfl rfl hW) TB rfl List.mem_cons_self (fun p hp _ => by cases List.mem_singleton.mp hp; rfl) (hr.mono (by decide)) (LamX.lamS_by (sc := defScope (top 58)) (by decide +kernel)) rfl (fun _ _ _ _ _ => rfl) (fun A outer s H E f c2 hr2 => (pe_callF hS (hr2.mono (by decide)) (i := 9) (by rfl) (by first | exact Or.inl rfl | exact Or.inr (Or.inl rfl) | exact Or.inr (Or.inr rfl)) (fun σ => passAt (takes_of (E := E) rfl rfl rfl rfl) σ) (pa_cons (pe_tup (pa_cons (pe_tup (pa_cons pe_int (pa_cons pe_int pa_nil))) pa_nil)) (pa_cons (pe_tup (pa_cons (pe_tup (pa_cons pe_int (pa_cons pe_int (pa_cons pe_int pa_nil)))) pa_nil)) pa_nil))))) pe_str (nomark _)) (pss_one (ps_ret pe_bl)) pss_nil))))) (pss_one (ps_if (pt_cmpR (r := rNeD K) (op_neD hr.units) (pe_lc (own := [("_law_odd", 10)]) (g := gName 10) rfl (sc_law).nd (show PI _ _ _ (iList K _) from pi_list (pe_fn0 h__law_bad_partings hr (by decide) (by rfl) pass0)) (blkOk_by (own := [("_law_odd", 10)]) (N := ["_law_script", "_law_drum_here", "_law_few", "_law_every_here", "_law_one", "_law_other_so", "_law_many", "_law_great", "_law_more", "_law_call_so", "_law_odd", "_law_a", "_law_b", "_law_whole"]) (sc := defScope (top 58)) (by decide +kernel)) (fun _ _ _ _ _ => (pg_name (i := 10) (sc_law).nd rfl (by first | exact Or.inl rfl | exact Or.inr rfl))) (fun _ _ _ _ _ => (pts_one (pt_cmpR op_ne (LamX.pe_lamcall (T := lawT Pt) (TT := TTw K hW.ws) (P := Pt) (c := cc) (k := 7) (Ng := ["_law_call", "_law_found"]) (by rfl) gW kW lkW hcdW bW sc__law_word (by rfl) (Or.inl rfl) (word_givesK (K := K) (mg := mg) rfl rfl hW) TB rfl List.mem_cons_self (fun p hp _ => by cases List.mem_singleton.mp hp; rfl) (hr.mono (by decide)) (LamX.lamS_by (sc := relS _ (defScope (top 58))) (by decide +kernel)) rfl (fun _ _ _ _ _ => rfl) (fun A outer s H E f c2 hr2 => (pe_fnX hX_complement hr2 (by decide) (by rfl) (fun σ => passAt (takes_of (E := E) rfl rfl rfl rfl) σ) (pa_cons (pv 10) pa_nil)))) pe_str (nomark _)))) (fun _ _ _ _ _ => (pv 10))) (pe_lst pa_nil) (nomark _)) (pss_one (ps_ret pe_bl)) pss_nil))) pss_nil) (pss_cons (ps_asg (pe_tup (pa_cons (pe_tup (pa_cons (pe_tup (pa_cons pe_int (pa_cons pe_int pa_nil))) (pa_cons (pe_tup (pa_cons pe_int (pa_cons pe_int pa_nil))) pa_nil))) (pa_cons (pe_tup (pa_cons (pe_tup (pa_cons pe_int pa_nil)) (pa_cons (pe_tup (pa_cons pe_int (pa_cons pe_int pa_nil))) (pa_cons (pe_tup (pa_cons pe_int pa_nil)) pa_nil)))) (pa_cons (pe_tup (pa_cons (pe_tup (pa_cons pe_int (pa_cons pe_int (pa_cons pe_int (pa_cons pe_int pa_nil))))) pa_nil)) pa_nil)))) (pg_tup rfl (pgs_cons (pg_name (i := 11) (sc_law).nd rfl (by first | exact Or.inl rfl | exact Or.inr rfl)) (pgs_cons (pg_name (i := 12) (sc_law).nd rfl (by first | exact Or.inl rfl | exact Or.inr rfl)) (pgs_cons (pg_name (i := 13) (sc_law).nd rfl (by first | exact Or.inl rfl | exact Or.inr rfl)) pgs_nil))))) (pss_cons (ps_if (PW.pt (pw_or (pt_cmpR (r := rNeD K) (op_neD hr.units) (pe_fn h_complement hr (by decide) (by rfl) pass0 (pa_cons (pv 11) pa_nil)) (pe_tup (pa_cons (pe_tup (pa_cons pe_int (pa_cons pe_int pa_nil))) (pa_cons (pe_tup (pa_cons pe_int pa_nil)) (pa_cons (pe_tup (pa_cons pe_int pa_nil)) pa_nil)))) (nomark _)) (pw_or (pt_cmpR (r := rNeD K) (op_neD hr.units) (pe_fn h_complement hr (by decide) (by rfl) pass0 (pa_cons (pv 12) pa_nil)) (pe_tup (pa_cons (pe_tup (pa_cons pe_int (pa_cons pe_int pa_nil))) (pa_cons (pe_tup (pa_cons pe_int (pa_cons pe_int pa_nil))) pa_nil))) (nomark _)) (pw_or1 (pt_cmpR (r := rNeD K) (op_neD hr.units) (pe_fn h_parting_turned hr (by decide) (by rfl) pass0 (pa_cons (pv 12) (pa_cons pe_int pa_nil))) (pe_tup (pa_cons (pe_tup (pa_cons pe_int (pa_cons pe_int pa_nil))) (pa_cons (pe_tup (pa_cons pe_int pa_nil)) (pa_cons (pe_tup (pa_cons pe_int pa_nil)) pa_nil)))) (nomark _)))))) (pss_one (ps_ret pe_bl)) pss_nil) (pss_cons (ps_if (PW.pt (pw_or (pt_cmpR op_notBl (pe_fn h_is_finer hr (by decide) (by rfl) pass0 (pa_cons (pv 12) (pa_cons (pv 11) pa_nil))) pe_bl (nomark _)) (pw_or (pt_cmpR op_notBl (pe_fn h_is_finer hr (by decide) (by rfl) pass0 (pa_cons (pv 11) (pa_cons (pv 13) pa_nil))) pe_bl (nomark _)) (pw_or1 (pt_cmpR (r := rNeD K) (op_neD hr.units) (pe_fn h_parting_join hr (by decide) (by rfl) pass0 (pa_cons (pe_tup (pa_cons (pe_tup (pa_cons pe_int (pa_cons pe_int pa_nil))) (pa_cons (pe_tup (pa_cons pe_int pa_nil)) (pa_cons (pe_tup (pa_cons pe_int pa_nil)) pa_nil)))) (pa_cons (pv 12) pa_nil))) (pv 13) (nomark _)))))) (pss_one (ps_ret pe_bl)) pss_nil) (pss_one (ps_ret (pe_and (pe_cmpR (r := rEqD K) (op_eqD hr.units) (pe_fn h_parting_meet hr (by decide) (by rfl) pass0 (pa_cons (pv 11) (pa_cons (pv 12) pa_nil))) (pe_tup (pa_cons (pe_tup (pa_cons pe_int pa_nil)) (pa_cons (pe_tup (pa_cons pe_int pa_nil)) (pa_cons (pe_tup (pa_cons pe_int pa_nil)) (pa_cons (pe_tup (pa_cons pe_int pa_nil)) pa_nil))))) (nomark _)) (pe_one (pe_cmpR (r := rEqD K) (op_eqD hr.units) (pe_fn h_parting_join hr (by decide) (by rfl) pass0 (pa_cons (pv 11) (pa_cons (pv 12) pa_nil))) (pv 13) (nomark _)))))))))))))))))), ?_⟩
  obtain ⟨a, ns, rfl, hs, hl, hP, q⟩ := h
  refine ⟨_, rfl, a, ns, rfl, hs, hl, fun d H1 hd0 e1 D1 => ?_⟩
  have hP1 := e1 _ _ hP
  have nP : Pt ≠ d := fun e => by rw [e, hd0] at hP; cases hP
  clear hs e1
  -- few
  refine q_asgRoll (m := 4) 2 rfl evd_int D1 (by decide) (by decide) fun n H2 hn2 hn6 x2 D2 => ?_
  have hP2 := x2 _ _ nP hP1
  have hn5 : n ≤ 5 := by omega
  clear x2 D1 hP1 hn6
  -- every
  refine ⟨_, rfl, n, rfl, by omega, hn5, fun ps ev xs H3 hps e3 hev hxs => ?_⟩
  have D3 := D2.ex e3
  have hP3 := e3 _ _ hP2
  have hlen : ps.length ≤ 42 := by rw [hps.length_eq]; exact every_len n hn5
  have hpos : 0 < ps.length := by
    have : ([] : Part).length = 0 := rfl
    cases hq : ps with
    | cons _ _ => simp
    | nil =>
      exfalso
      obtain ⟨C0, h1, h2⟩ : ∃ C0, Canon n C0 ∧ ∀ x y, Same C0 x y ↔ (x = y ∧ x < n) := ⟨_, classes_canon (R := fun x y => x = y ∧ x < n) ⟨fun x y h => h.2, fun x h => ⟨rfl, h⟩, fun x y h => ⟨h.1.symm, h.1 ▸ h.2⟩, fun x y z h g => ⟨h.1.trans g.1, h.2⟩⟩⟩
      have g : Good n C0 := ⟨h1, fun a b c d h1 h2' h3 r s => absurd ((h2 a c).mp r).1 (by omega), hn2, by omega⟩
      have := hps.mem_iff.mpr (good_every hn5 g)
      rw [hq] at this
      cases this
  have ne := not_ev D3 hev hxs hpos
  clear e3 D2 hP2
  -- one, other
  refine ⟨_, rfl, _, rfl, d, n, rfl, D3, hn2, by omega, fun p v H4 gp x4 D4 hv => ⟨_, rfl, _, rfl, d, ev, xs, ps, rfl, D4, ne, x4 _ _ ne hev, ?_, hpos, by omega, fun m u H5 hm x5 D5 hu => ?_⟩⟩
  · exact DpAll.tex (x4.tex D3) _ (tupOs_all.mpr fun z hz => by obtain ⟨m, _, rfl⟩ := List.mem_map.mp hz; exact tupO_eP m) hxs
  have hxs4 : DpAll K H4 xs (ps.map eP) := DpAll.tex (x4.tex D3) _ (tupOs_all.mpr fun z hz => by obtain ⟨m, _, rfl⟩ := List.mem_map.mp hz; exact tupO_eP m) hxs
  have hv5 : Dp K H5 v (eP p) := Dp.tex (x5.tex D4) _ (tupO_eP p) hv
  have hxs5 : DpAll K H5 xs (ps.map eP) := DpAll.tex (x5.tex D4) _ (tupOs_all.mpr fun z hz => by obtain ⟨m, _, rfl⟩ := List.mem_map.mp hz; exact tupO_eP m) hxs4
  have hev5 := x5 _ _ ne (x4 _ _ ne hev)
  have hP5 := x5 _ _ nP (x4 _ _ nP hP3)
  have gm := every_good hn2 hn5 (hps.mem_iff.mp hm)
  clear hv hxs4 hxs x4 x5 D3 D4 hP3
  refine ⟨Evl.sz_of (by simp), fun t ht => tg_pair' (.tup (Evl.st_of upd_same) (.cons (hv5.ex (Ex.new ht)) (.cons (hu.ex (Ex.new ht)) .nil))) fun v' u' hv' hu' => ?_⟩
  have D6 := D5.ex (Ex.new (o := .tup [v, u]) ht)
  have hP6 := Ex.new (o := .tup [v, u]) ht _ _ hP5
  have hev6 := Ex.new (o := .tup [v, u]) ht _ _ hev5
  have hxs6 := hxs5.ex (Ex.new (o := .tup [v, u]) ht)
  generalize upd H5 t (.tup [v, u]) = H6 at hv' hu' D6 hP6 hev6 hxs6 ⊢
  clear hv5 hu hxs5 hev5 hP5 D5 ht
  -- the small and the great law
  refine Evl.q_when (b := false) (Evl.et_or (b := false) (Evl.et_is (Evl.et_not (evt_B (evd_fn (d := .bool true) (eda_cons (evd_var rfl hv') (eda_cons (evd_var rfl hu') (eda_one (evd_var (d := .list (ps.map eP)) rfl (.lst (Evl.sq_of hev6) hxs6))))) rfl ⟨n, p, m, ps, rfl, hn5, gp, gm, hps, rfl⟩))) rfl) fun _ => Evl.et_is (Evl.et_not (evt_B (evd_fn (d := .bool true) (eda_cons (evd_var rfl hv') (eda_one (evd_var rfl hu'))) rfl ⟨n, p, m, rfl, gp, gm, rfl⟩))) rfl) (fun hb => by cases hb) fun _ H7 e7 => ?_
  have D7 := D6.ex e7
  have hv7 := hv'.ex e7
  have hP7 := e7 _ _ hP6
  clear hu' hxs6 hev6 D6 hP6 hv' e7
  -- many
  refine q_asgRoll (m := 9) 5 rfl evd_int D7 (by decide) (by decide) fun nn H8 hN5 hN14 x8 D8 => ?_
  have hv8 := Dp.tex (x8.tex D7) _ (tupO_eP p) hv7
  have hP8 := x8 _ _ nP hP7
  have hN13 : nn ≤ 13 := by omega
  clear x8 D7 hv7 hP7 hN14
  -- great, more
  refine ⟨_, rfl, _, rfl, d, nn, rfl, D8, by omega, hN13, fun p2 v2 H9 g2 x9 D9 hv2 => ⟨_, rfl, _, rfl, d, nn, rfl, D9, by omega, hN13, fun p3 v3 H10 g3 x10 D10 hv3 => ⟨_, _, rfl, ?_⟩⟩⟩
  have hv10 := Dp.tex (x10.tex D9) _ (tupO_eP p) (Dp.tex (x9.tex D8) _ (tupO_eP p) hv8)
  have hv2' := Dp.tex (x10.tex D9) _ (tupO_eP p2) hv2
  have hP10 := x10 _ _ nP (x9 _ _ nP hP8)
  clear hv8 hv2 x9 x10 D8 D9 hP8
  have gM := meet_good g2 g3
  refine Evl.q_when (b := false) (Evl.et_or (b := false) (Evl.et_is (Evl.et_not (evt_B (evd_fn (d := .bool true) (eda_cons (evd_var rfl hv2') (eda_one (evd_var rfl hv3))) rfl ⟨nn, p2, p3, rfl, g2, g3, rfl⟩))) rfl) fun _ => Evl.et_is (Evl.et_not (evt_B (evd_fn (d := .bool true) (eda_cons (evd_meetP (evd_var rfl hv2') (evd_var rfl hv3) g2 g3) (eda_one (evd_var rfl hv2'))) rfl ⟨nn, _, p2, rfl, gM, g2, rfl⟩))) rfl) (fun hb => by cases hb) fun _ H11 e11 => ?_
  have D11 := D10.ex e11
  have hv11 := hv10.ex e11
  have hP11 := e11 _ _ hP10
  clear hv10 hv2' hv3 hP10 D10 e11
  -- the refusals, then the written ones
  refine seq_fin (fun σ' => ∃ y9 y10, σ' = [some (.ref a), some (.ref d), some (.int n), some (.ref ev), some v', some u', some (.int nn), some v2, some v3, y9, y10, none, none, none]) (fun σ' H' hσ => ?_) (fun nx hnx => ?_)
  · obtain ⟨y9, y10, rfl⟩ := hσ
    refine q_asgT3 (K := K) rfl rfl (evd_tup (eda_cons litA (eda_cons litB (eda_one litW))) (by simp)) fun va vb vw H12 e12 ha hb hw => ?_
    have no : ∀ {a b : Part}, a = b → (!decide (a = b)) = false := fun h => by rw [decide_eq_true h]; rfl
    refine Evl.q_when (b := false) ?_ (fun hb => by cases hb) fun _ H13 e13 => ?_
    · refine Evl.et_or (b := false) (evt_no (evd_neP (evd_cpl (evd_var rfl ha) gA cA) litC) (no rfl)) fun _ => Evl.et_or (b := false) (evt_no (evd_neP (evd_cpl (evd_var rfl hb) gB cB) litA) (no rfl)) fun _ => evt_no (evd_neP (evd_turnP (s := 1) (evd_var rfl hb) evd_int gB (by decide) (by decide)) litC) (no tB)
    have ha := ha.ex e13
    have hb := hb.ex e13
    have hw := hw.ex e13
    refine Evl.q_when (b := false) ?_ (fun hb => by cases hb) fun _ H14 e14 => ?_
    · refine Evl.et_or (b := false) (evt_no (evd_niB (evd_finP (evd_var rfl hb) (evd_var rfl ha) gB gA) evd_bl) (by rw [fBA]; rfl)) fun _ => Evl.et_or (b := false) (evt_no (evd_niB (evd_finP (evd_var rfl ha) (evd_var rfl hw) gA PR.gW) evd_bl) (by rw [fAW]; rfl)) fun _ => evt_no (evd_neP (evd_joinP litC (evd_var rfl hb) gC gB PR.gW.canon lCB) (evd_var rfl hw)) (no rfl)
    have ha := ha.ex e14
    have hb := hb.ex e14
    have hw := hw.ex e14
    refine ret_bool (K := K) (b := true) ?_ fun H15 e15 => q H15
    refine evd_is (evd_andV (a := true) (b := true) (evd_is (evd_eqP (evd_meetP (evd_var rfl ha) (evd_var rfl hb) gA gB) litS) ?_) fun _ => evd_is (evd_eqP (evd_joinP (evd_var rfl ha) (evd_var rfl hb) gA gB PR.gW.canon lAB) (evd_var rfl hw)) ?_) rfl
    · rw [mAB, decide_eq_true rfl]
    · rw [decide_eq_true rfl]
  · refine rollE (m := 5) rfl evd_int D11 (by decide) (by decide) _ fun r H12 hr12 x12 D12 => ?_
    by_cases er : r = 0
    case neg =>
      rw [decide_eq_false er]
      exact iteF (hnx _ _ ⟨none, none, rfl⟩)
    rw [decide_eq_true er]
    refine iteT ?_
    have hv12 : Dp K H12 v' (eP p) := Dp.tex (x12.tex D11) _ (tupO_eP p) hv11
    have T12 := tabs0 (x12 _ _ nP hP11)
    clear D11 hv11 hP11 D12 x12
    refine ⟨Evl.sz_of (by simp), fun t ht => ⟨t, rfl, ⟨_, Evl.st_of upd_same⟩, ?_⟩⟩
    have hv13 := hv12.ex (Ex.new (o := .tup [.ref f1, .ref f2, .ref f3]) ht)
    have T13 := tabs_ex T12 (Ex.new (o := .tup [.ref f1, .ref f2, .ref f3]) ht)
    have ht13 : (upd H12 t (.tup [.ref f1, .ref f2, .ref f3])) t = some (.tup [.ref f1, .ref f2, .ref f3]) := upd_same
    generalize upd H12 t (.tup [.ref f1, .ref f2, .ref f3]) = H13 at hv13 T13 ht13 ⊢
    clear hv12 T12 ht
    refine for_tup (xs := [.ref f1, .ref f2, .ref f3]) (fun i σ' H' => (∃ y9 y10, σ' = [some (.ref a), some (.ref d), some (.int n), some (.ref ev), some v', some u', some (.int nn), some v2, some v3, y9, y10, none, none, none]) ∧ LamX.ExtN H13 H' ∧ LamX.Tabs (lawT Pt) H') ⟨⟨_, _, rfl⟩, LamX.ExtN.refl _, T13⟩ (fun i σ' H' _ h => Evl.st_of (h.2.1 _ _ ht13 fun _ z => by cases z)) (fun i x σ' H' hi hP => ?_) (fun σ' H' hP => ?_)
    · obtain ⟨⟨y9, y10, rfl⟩, eN, T⟩ := hP
      obtain ⟨fi, rfl, hfi⟩ : ∃ fi, x = .ref fi ∧ (fi = f1 ∨ fi = f2 ∨ fi = f3) := by
        match i, hi with
        | 0, hi => exact ⟨f1, (Option.some.inj hi).symm, .inl rfl⟩
        | 1, hi => exact ⟨f2, (Option.some.inj hi).symm, .inr (.inl rfl)⟩
        | 2, hi => exact ⟨f3, (Option.some.inj hi).symm, .inr (.inr rfl)⟩
        | k + 3, hi => cases hi
      refine bad_none T (word_parting hW) (fun x => rfl) (fun od hod x H1 e1 hx E Q' hE => ⟨fi, rfl, hfi, x, rfl, x, .non, od, false, rfl, hx, bads od hod, fun _ H2 e2 => hE H2 e2, fun h => by cases h⟩) _ fun H14 e14 T14 => iteF ?_
      refine bad_none T14 (word_parting hW) (fun x => rfl) (fun od hod x H1 e1 hx E Q' hE => ⟨fi, rfl, hfi, v', rfl, x, rfl, v', x, eP p, true, rfl, dp_extN hv13 (eN.trans (e14.trans e1)), gp.fits, fun h => (by cases h), fun _ => ⟨n, p, od, false, rfl, gp, hx, bads od hod, fun _ H2 e2 => hE H2 e2, fun h => by cases h⟩⟩) _ fun H15 e15 T15 => iteF ?_
      refine word_ev T15 (word_unlike hW) (fun H1 e1 E Q' hE => ⟨fi, rfl, hfi, ?_⟩) _ fun H16 e16 T16 => ?_
      · dsimp only [tC]
        refine ne_str _ H16 ⟨false, rfl, iteF ?_⟩
        exact ⟨⟨_, _, rfl⟩, eN.trans (e14.trans (e15.trans e16)), T16⟩
      · refine (eda_cons (K := K) (d := eP [[0, 1]]) (evd_is (evd_tup (eda_one (evd_tup (eda_cons evd_int (eda_one evd_int)) (by decide))) (by decide)) rfl) (eda_one (d := eP [[0, 1, 2]]) (evd_is (evd_tup (eda_one (evd_tup (eda_cons evd_int (eda_cons evd_int (eda_one evd_int))) (by decide))) (by decide)) rfl))) H1 (Ex.refl _) _ fun vs H2 e2 hvs => ?_
        obtain ⟨w1, w2, rfl, h1, h2⟩ := arg2 hvs
        exact ⟨w1, w2, eP [[0, 1]], true, rfl, h1, g01.fits, fun h => (by cases h), fun _ => ⟨2, [[0, 1]], eP [[0, 1, 2]], true, rfl, g01, h2, g012.fits, fun h => (by cases h), fun _ => ⟨3, [[0, 1, 2]], rfl, g012, by decide, fun H3 e3 => hE H3 (e2.trans e3)⟩⟩⟩
    · obtain ⟨⟨y9, y10, rfl⟩, eN, T⟩ := hP
      refine bad_none T (word_parting hW) (fun x => rfl) (fun od hod x H1 e1 hx E Q' hE => ⟨x, rfl, x, od, rfl, hx, bads od hod, fun H2 e2 => hE H2 e2⟩) _ fun H14 e14 T14 => iteF ?_
      exact hnx _ _ ⟨_, _, rfl⟩
end
end PR
set_option maxHeartbeats 0
namespace PR
open PySem PySem.Spec PyProof.Rows L2
abbrev DD (x : Str) (i : Nat) : He.DefD := ⟨(x, none), x, x, defArgs (top i), defBody (top i), defScope (top i), [], []⟩
def fn : List He.DefD := [DD "is_whole" 15, DD "rises_on" 18, DD "fits_lot" 19, DD "do_cross" 20, DD "cross_free" 21, DD "fits_parting" 22, DD "size_in" 23, DD "turn_by" 24, DD "lots_by" 25, DD "least_with" 26, DD "put_together" 27, DD "mended_once" 28, DD "pairs_in" 29, DD "join_of" 30, DD "meet_of" 31, DD "turned_lots" 32, DD "complement_by" 33, DD "need_parting" 34, DD "need_both" 35, DD "need_steps" 36, DD "parting_turned" 37, DD "complement" 38, DD "is_finer" 39, DD "parting_meet" 40, DD "parting_join" 41, DD "_law_drum" 43, DD "_law_roll" 44, DD "_law_pick" 45, DD "_law_parting" 46, DD "_law_any_cross" 47, DD "_law_turn" 48, DD "_law_lots" 49, DD "_law_every" 50, DD "_law_finer" 51, DD "_law_word" 52, DD "_law_bad_partings" 53, DD "_law_where" 54, DD "_law_completed" 55, DD "_law_small_right" 56, DD "_law_great_right" 57, DD "law" 58]
def fa : List He.Fa := [.glo "is_whole", .glo "rises_on", .glo "fits_lot", .glo "do_cross", .glo "cross_free", .glo "fits_parting", .glo "size_in", .glo "turn_by", .glo "lots_by", .glo "least_with", .glo "put_together", .glo "mended_once", .glo "pairs_in", .glo "join_of", .glo "meet_of", .glo "turned_lots", .glo "complement_by", .glo "need_parting", .glo "need_both", .glo "need_steps", .glo "parting_turned", .glo "complement", .glo "is_finer", .glo "parting_meet", .glo "parting_join", .glo "_law_drum", .glo "_law_roll", .glo "_law_pick", .glo "_law_parting", .glo "_law_any_cross", .glo "_law_turn", .glo "_law_lots", .glo "_law_every", .glo "_law_finer", .glo "_law_word", .glo "_law_bad_partings", .glo "_law_where", .glo "_law_completed", .glo "_law_small_right", .glo "_law_great_right", .glo "law", .glo "ParkError", .glo "InvalidRow", .glo "InvalidCars", .glo "InvalidNumber", .glo "InvalidParting", .glo "InvalidPoints", .glo "InvalidTurn", .glo "InvalidChain", .glo "InvalidExchanges", .glo "InvalidExchange", .glo "Unlike", .glo "TooMany", .free "isinstance", .free "int", .free "bool", .free "tuple", .free "list", .free "len", .free "all", .free "any", .free "set", .free "sorted", .free "sum", .free "range", .free "zip", .free "enumerate", .free "abs", .free "dict", .free "str", .int "CARS" 12, .int "FAR_STEPS" 1000, .exc "InvalidParting", .exc "Unlike", .exm "InvalidParting" "InvalidParting" true, .exm "Unlike" "InvalidParting" false, .exm "Unlike" "InvalidPoints" false, .exm "Unlike" "InvalidTurn" false, .exm "Unlike" "InvalidChain" false, .exm "Unlike" "InvalidExchanges" false, .exm "Unlike" "InvalidExchange" false, .exm "Unlike" "InvalidRow" false, .exm "Unlike" "InvalidNumber" false, .exm "Unlike" "InvalidCars" false, .exm "Unlike" "Unlike" true]
def lo0 : List PySem.Str := ["ParkError", "InvalidRow", "InvalidCars", "InvalidNumber", "InvalidParting", "InvalidPoints", "InvalidTurn", "InvalidChain", "InvalidExchanges", "InvalidExchange", "Unlike", "TooMany", "CARS", "FAR_STEPS", "is_whole", "rises_on", "fits_lot", "do_cross", "cross_free", "fits_parting", "size_in", "turn_by", "lots_by", "least_with", "put_together", "mended_once", "pairs_in", "join_of", "meet_of", "turned_lots"]
def lo1 : List PySem.Str := ["complement_by", "need_parting", "need_both", "need_steps", "parting_turned", "complement", "is_finer", "parting_meet", "parting_join", "_law_drum", "_law_roll", "_law_pick", "_law_parting", "_law_any_cross", "_law_turn", "_law_lots", "_law_every", "_law_finer", "_law_word", "_law_bad_partings", "_law_where", "_law_completed", "_law_small_right", "_law_great_right"]
def loose : List PySem.Str := lo0 ++ lo1
abbrev RR : PySem.W.OpenRow := PySem.W.OpenLaw.row PySem.Challenge.rw_parkedrows_k33_whole_complements_meets_a
def tf : List He.Defn := [("law", none)]
def exx (K : PySem.W.Frag) : Bool := true
abbrev hk : PySem.W.Hook := He.hookX 5 fa fn [] tf exx
def ob (s : PySem.W.SharedT) : He.AlX := He.obsX 5 fa fn [] tf exx (HandSHeadRun.getT s)
theorem ob_eq (s : PySem.W.SharedT) : ob s = hk.obs s.abs := He.obsX_eq (HandSHeadRun.getT_eq s)
theorem run (w : World) : HandSHeadRun.RunEq RR (PySem.W.view RR.prog [58]) hk ob 4000 loose w := by
  intro os
  kernel_rfl
end PR
set_option maxHeartbeats 4000000
namespace PR
open PySem PySem.Spec PyProof.Rows L2
section
variable {w : World} {h : Heap} {K : PySem.W.Frag} {mg : Str → Option Value}
theorem isD_at (X : K.In h) (G : h.Ns mainGlobals mg) (c : He.SaysD fa fn K) (x : Str) (i k : Nat) (h1 : fn[k]? = some (DD x i)) (h2 : fa[k]? = some (.glo x)) : IsD K mg x i := by
  obtain ⟨fd, F⟩ := c.def_ k (d := DD x i) h1
  exact ⟨_, fd, F, He.glo_ok X G (c.fact k (f := .glo x) h2)⟩
theorem fr_at (X : K.In h) (G : h.Ns mainGlobals mg) (c : He.SaysD fa fn K) : Fr mg where
  f_isinstance := He.free_ok X G (c.fact 53 (f := .free "isinstance") rfl)
  f_int := He.free_ok X G (c.fact 54 (f := .free "int") rfl)
  f_bool := He.free_ok X G (c.fact 55 (f := .free "bool") rfl)
  f_tuple := He.free_ok X G (c.fact 56 (f := .free "tuple") rfl)
  f_list := He.free_ok X G (c.fact 57 (f := .free "list") rfl)
  f_len := He.free_ok X G (c.fact 58 (f := .free "len") rfl)
  f_all := He.free_ok X G (c.fact 59 (f := .free "all") rfl)
  f_any := He.free_ok X G (c.fact 60 (f := .free "any") rfl)
  f_set := He.free_ok X G (c.fact 61 (f := .free "set") rfl)
  f_sorted := He.free_ok X G (c.fact 62 (f := .free "sorted") rfl)
  f_sum := He.free_ok X G (c.fact 63 (f := .free "sum") rfl)
  f_range := He.free_ok X G (c.fact 64 (f := .free "range") rfl)
  f_zip := He.free_ok X G (c.fact 65 (f := .free "zip") rfl)
  f_enumerate := He.free_ok X G (c.fact 66 (f := .free "enumerate") rfl)
  f_abs := He.free_ok X G (c.fact 67 (f := .free "abs") rfl)
  f_dict := He.free_ok X G (c.fact 68 (f := .free "dict") rfl)
  f_str := He.free_ok X G (c.fact 69 (f := .free "str") rfl)
  cars := He.int_ok X G (c.fact 70 (f := .int "CARS" 12) rfl)
  far := He.int_ok X G (c.fact 71 (f := .int "FAR_STEPS" 1000) rfl)
theorem exc_ip (X : K.In h) (G : h.Ns mainGlobals mg) (c : He.SaysD fa fn K) : ExcC K mg "InvalidParting" (He.ga K "InvalidParting") := by
  obtain ⟨h1, h2, h3, h4⟩ := He.exc_ok (c.fact 72 (f := .exc "InvalidParting") rfl)
  exact ⟨He.glo_ok X G (c.fact 45 (f := .glo "InvalidParting") rfl), h1, h2, h3, h4⟩
theorem exc_ul (X : K.In h) (G : h.Ns mainGlobals mg) (c : He.SaysD fa fn K) : ExcC K mg "Unlike" (He.ga K "Unlike") := by
  obtain ⟨h1, h2, h3, h4⟩ := He.exc_ok (c.fact 73 (f := .exc "Unlike") rfl)
  exact ⟨He.glo_ok X G (c.fact 51 (f := .glo "Unlike") rfl), h1, h2, h3, h4⟩
def wd_at (X : K.In h) (G : h.Ns mainGlobals mg) (c : He.SaysD fa fn K) : Wd K mg (He.ga K "InvalidParting") (He.ga K "Unlike") where
  c1 := He.ga K "InvalidPoints"
  c2 := He.ga K "InvalidTurn"
  c3 := He.ga K "InvalidChain"
  c4 := He.ga K "InvalidExchanges"
  c5 := He.ga K "InvalidExchange"
  c6 := He.ga K "InvalidRow"
  c7 := He.ga K "InvalidNumber"
  c8 := He.ga K "InvalidCars"
  g0 := He.glo_ok X G (c.fact 45 (f := .glo "InvalidParting") rfl)
  g1 := He.glo_ok X G (c.fact 46 (f := .glo "InvalidPoints") rfl)
  g2 := He.glo_ok X G (c.fact 47 (f := .glo "InvalidTurn") rfl)
  g3 := He.glo_ok X G (c.fact 48 (f := .glo "InvalidChain") rfl)
  g4 := He.glo_ok X G (c.fact 49 (f := .glo "InvalidExchanges") rfl)
  g5 := He.glo_ok X G (c.fact 50 (f := .glo "InvalidExchange") rfl)
  g6 := He.glo_ok X G (c.fact 42 (f := .glo "InvalidRow") rfl)
  g7 := He.glo_ok X G (c.fact 44 (f := .glo "InvalidNumber") rfl)
  g8 := He.glo_ok X G (c.fact 43 (f := .glo "InvalidCars") rfl)
  g9 := He.glo_ok X G (c.fact 51 (f := .glo "Unlike") rfl)
  e0 := He.exm_ok (c.fact 74 (f := .exm "InvalidParting" "InvalidParting" true) rfl)
  u0 := He.exm_ok (c.fact 75 (f := .exm "Unlike" "InvalidParting" false) rfl)
  u1 := He.exm_ok (c.fact 76 (f := .exm "Unlike" "InvalidPoints" false) rfl)
  u2 := He.exm_ok (c.fact 77 (f := .exm "Unlike" "InvalidTurn" false) rfl)
  u3 := He.exm_ok (c.fact 78 (f := .exm "Unlike" "InvalidChain" false) rfl)
  u4 := He.exm_ok (c.fact 79 (f := .exm "Unlike" "InvalidExchanges" false) rfl)
  u5 := He.exm_ok (c.fact 80 (f := .exm "Unlike" "InvalidExchange" false) rfl)
  u6 := He.exm_ok (c.fact 81 (f := .exm "Unlike" "InvalidRow" false) rfl)
  u7 := He.exm_ok (c.fact 82 (f := .exm "Unlike" "InvalidNumber" false) rfl)
  u8 := He.exm_ok (c.fact 83 (f := .exm "Unlike" "InvalidCars" false) rfl)
  u9 := He.exm_ok (c.fact 84 (f := .exm "Unlike" "Unlike" true) rfl)
end
theorem law_at {P : Program} {w : World} {h : Heap} {K : PySem.W.Frag} {mg : Str → Option Value} {fl : Addr} (X : K.In h) (G : h.Ns mainGlobals mg) (hfa : mg ("law" : Str) = some (.ref fl)) (cx : He.SaysX fa fn [] tf exx w h K) :
    ∃ (fd : FuncData) (cs : List (Addr × Addr)) (sp : Sp), (∀ p ∈ cs, h.get? p.2 = some { cls := .none, data := .fields #[] }) ∧ (∀ p ∈ cs, K.lookup p.2 = none) ∧ (∀ p ∈ cs, PySem.W.CodeHd h p.1 p.2) ∧ (∀ (s : Shared) (u : Value), BindsTo s fd ⟨[u], []⟩ [("_law_script", u)]) ∧
    (∀ (H : Hp) (a : Addr) (ns : List Int), ns.length ≤ 63 → (∀ z ∈ ns, Builtin.Int.intBits z ≤ 1048576) → (∀ p ∈ cs, H p.2 = some (.tbl #[])) → SqL K H a (ns.map V.int) → sp [.ref a] H (fun v _ => v = .bl true) fun _ _ _ => False) ∧
    ∀ base : Heap, K.In base → base.Ns mainGlobals mg → (∀ p ∈ cs, LamX.TabB base mg p.1 p.2) → FnOk P w K mg base CX0 10 fl fd ["_law_script"] sp := by
  have c := cx.t.d
  have N := fr_at X G c
  obtain ⟨fd, F⟩ := c.def_ 40 (d := DD "law" 58) rfl
  have e := hfa.symm.trans (He.glo_ok X G (c.fact 40 (f := .glo "law") rfl))
  have e2 : fl = He.ga K "law" := by
    have := Option.some.inj e
    cases this
    rfl
  subst e2
  have b := FunD.bindsA (ps := ["_law_script"]) F fun _ _ _ _ _ _ us hl => match us, hl with | [_], _ => rfl
  obtain ⟨oc, od, dV, kV, doc, pm, an, cdv, ct, osl, rfl, lk, hcd, hD, hK⟩ := F.ex
  obtain ⟨cc, rfl⟩ := He.codeIn_ref hcd
  have hc : He.codeOf K ("law", none) = cc := He.codeOf_eq lk rfl
  have hdV : dV = .none := by
    rcases hD with ⟨_, z⟩ | ⟨z, _⟩
    · exact z
    · exact absurd rfl z
  obtain ⟨fdW, FW⟩ := c.def_ 34 (d := DD "_law_word" 52) rfl
  have bW := FW.bindsN (ps := ["_law_call"]) fun _ _ _ _ _ _ us hl => match us, hl with | [_], _ => rfl
  have kW := FW.kp
  obtain ⟨oc', od', dV', kV', doc', pm', an', cdv', ct', osl', rfl, lk', hcd', _, _⟩ := FW.ex
  have gW := He.glo_ok X G (c.fact 34 (f := .glo "_law_word") rfl)
  refine ⟨_, [He.cT K ("law", none)], spLaw K (He.cT K ("law", none)).2, fun p hp => ?_, fun p hp => ?_, fun p hp => ?_, fun s u => b s [u] rfl, fun H a ns hl _ hT hS => ?_, fun base hB hBn hTB => ?_⟩
  · cases List.mem_singleton.mp hp
    exact cx.empty _ (List.mem_singleton.mpr rfl)
  · cases List.mem_singleton.mp hp
    exact cx.out _ (List.mem_singleton.mpr rfl)
  · cases List.mem_singleton.mp hp
    exact PySem.W.codeHd_of_K X (cx.hd _ (List.mem_singleton.mpr rfl))
  · exact ⟨a, ns, rfl, hS, by omega, hT _ (List.mem_singleton.mpr rfl), fun _ => rfl⟩
  have TB := hTB _ (List.mem_singleton.mpr rfl)
  have TB' : LamX.TabB base mg cc (He.cT K ("law", none)).2 := by
    have e3 : (He.cT K ("law", none)).1 = cc := hc
    rw [← e3]
    exact TB
  have h_is_whole := ok_is_whole (P := P) (w := w) (base := base) N (isD_at X G c "is_whole" 15 0 rfl rfl)
  have h_risesI := ok_risesI (P := P) (w := w) (base := base) N (isD_at X G c "rises_on" 18 1 rfl rfl)
  have h_risesL := ok_risesL (P := P) (w := w) (base := base) N (isD_at X G c "rises_on" 18 1 rfl rfl)
  have h_fits_lot := ok_fits_lot (P := P) (w := w) (base := base) N (isD_at X G c "fits_lot" 19 2 rfl rfl) h_is_whole h_risesI
  have h_do_cross := ok_do_cross (P := P) (w := w) (base := base) N (isD_at X G c "do_cross" 20 3 rfl rfl)
  have h_freeT := ok_freeT (P := P) (w := w) (base := base) N (isD_at X G c "cross_free" 21 4 rfl rfl) h_do_cross
  have h_freeL := ok_freeL (P := P) (w := w) (base := base) N (isD_at X G c "cross_free" 21 4 rfl rfl) h_do_cross
  have h_fits_parting := ok_fits (P := P) (w := w) (base := base) N (isD_at X G c "fits_parting" 22 5 rfl rfl) h_fits_lot h_risesL h_freeT
  have h_size_in := ok_size (P := P) (w := w) (base := base) N (isD_at X G c "size_in" 23 6 rfl rfl)
  have h_put_together := ok_put (P := P) (w := w) (base := base) N (isD_at X G c "put_together" 27 10 rfl rfl)
  have h_mended_once := ok_mended (P := P) (w := w) (base := base) N (isD_at X G c "mended_once" 28 11 rfl rfl) h_do_cross h_put_together
  have h_pairs_in := ok_pairs (P := P) (w := w) (base := base) N (isD_at X G c "pairs_in" 29 12 rfl rfl)
  have h_meet_of := ok_meet (P := P) (w := w) (base := base) N (isD_at X G c "meet_of" 31 14 rfl rfl)
  have h_turned_lots := ok_turned (P := P) (w := w) (base := base) N (isD_at X G c "turned_lots" 32 15 rfl rfl) h_size_in
  have h_turn_by := ok_turn_by (P := P) (w := w) (base := base) N (isD_at X G c "turn_by" 24 7 rfl rfl) h_size_in
  have h_lots_by := ok_lots_by (P := P) (w := w) (base := base) N (isD_at X G c "lots_by" 25 8 rfl rfl)
  have h_complement_by := ok_compl (P := P) (w := w) (base := base) N (isD_at X G c "complement_by" 33 16 rfl rfl) h_turn_by h_lots_by
  have h_least_with := ok_least (P := P) (w := w) (base := base) N (isD_at X G c "least_with" 26 9 rfl rfl) h_put_together h_freeL h_mended_once
  have h_join_of := ok_join (P := P) (w := w) (base := base) N (isD_at X G c "join_of" 30 13 rfl rfl) h_pairs_in h_least_with
  have h_need_parting := ok_need (P := P) (w := w) (base := base) N (isD_at X G c "need_parting" 34 17 rfl rfl) h_fits_parting
  have h_need_both := ok_both (P := P) (w := w) (base := base) N (isD_at X G c "need_both" 35 18 rfl rfl) h_need_parting h_size_in
  have h_need_steps := ok_steps (P := P) (w := w) (base := base) N (isD_at X G c "need_steps" 36 19 rfl rfl) h_is_whole
  have h_parting_turned := ok_turnedP (P := P) (w := w) (base := base) N (isD_at X G c "parting_turned" 37 20 rfl rfl) h_need_parting h_need_steps h_turned_lots
  have h_complement := ok_complP (P := P) (w := w) (base := base) N (isD_at X G c "complement" 38 21 rfl rfl) h_need_parting h_complement_by
  have h_is_finer := ok_finer (P := P) (w := w) (base := base) N (isD_at X G c "is_finer" 39 22 rfl rfl) h_need_both h_meet_of
  have h_parting_meet := ok_meetP (P := P) (w := w) (base := base) N (isD_at X G c "parting_meet" 40 23 rfl rfl) h_need_both h_meet_of
  have h_parting_join := ok_joinP (P := P) (w := w) (base := base) N (isD_at X G c "parting_join" 41 24 rfl rfl) h_need_both h_join_of
  have h__law_finer := ok_law_finer (P := P) (w := w) (base := base) N (isD_at X G c "_law_finer" 51 33 rfl rfl)
  have h__law_turn := ok_law_turn (P := P) (w := w) (base := base) N (isD_at X G c "_law_turn" 48 30 rfl rfl)
  have h__law_lots := ok_law_lots (P := P) (w := w) (base := base) N (isD_at X G c "_law_lots" 49 31 rfl rfl)
  have h__law_completed := ok_law_completed (P := P) (w := w) (base := base) N (isD_at X G c "_law_completed" 55 37 rfl rfl) h__law_turn h__law_lots
  have h__law_where := ok_where (P := P) (w := w) (base := base) N (isD_at X G c "_law_where" 54 36 rfl rfl)
  have h__law_any_cross := ok_any_cross (P := P) (w := w) (base := base) N (isD_at X G c "_law_any_cross" 47 29 rfl rfl)
  have h__law_every := ok_every (P := P) (w := w) (base := base) N (isD_at X G c "_law_every" 50 32 rfl rfl) h__law_any_cross h__law_where
  have h__law_drum := ok_drum (P := P) (w := w) (base := base) N (isD_at X G c "_law_drum" 43 25 rfl rfl)
  have h__law_roll := ok_roll (P := P) (w := w) (base := base) N (isD_at X G c "_law_roll" 44 26 rfl rfl)
  have h__law_pick := ok_pick (P := P) (w := w) (base := base) N (isD_at X G c "_law_pick" 45 27 rfl rfl) h__law_roll
  have h__law_parting := ok_parting (P := P) (w := w) (base := base) N (isD_at X G c "_law_parting" 46 28 rfl rfl) h__law_roll
  have h__law_great_right := ok_great (P := P) (w := w) (base := base) N (isD_at X G c "_law_great_right" 57 39 rfl rfl) h_parting_meet h_parting_join h_complement h__law_completed h_parting_turned h_is_finer h__law_finer
  have h__law_small_right := ok_small (P := P) (w := w) (base := base) N (isD_at X G c "_law_small_right" 56 38 rfl rfl) h_parting_meet h_parting_join h_is_finer h__law_finer
  have h__law_bad_partings := ok_bad (P := P) (w := w) (base := base) N (isD_at X G c "_law_bad_partings" 53 35 rfl rfl)
  have xI := exc_ip X G c
  have xU := exc_ul X G c
  have hX_need_parting := ok_needX (P := P) (w := w) (base := base) N (isD_at X G c "need_parting" 34 17 rfl rfl) xI h_fits_parting
  have hX_need_both := ok_bothX (P := P) (w := w) (base := base) N (isD_at X G c "need_both" 35 18 rfl rfl) xU hX_need_parting h_size_in
  obtain ⟨f1, fd1, ok1, g1, k1, b1⟩ := ok_finerX (P := P) (w := w) (base := base) N (isD_at X G c "is_finer" 39 22 rfl rfl) hX_need_both
  obtain ⟨f2, fd2, ok2, g2, k2, b2⟩ := ok_meetX (P := P) (w := w) (base := base) N (isD_at X G c "parting_meet" 40 23 rfl rfl) hX_need_both
  obtain ⟨f3, fd3, ok3, g3, k3, b3⟩ := ok_joinX (P := P) (w := w) (base := base) N (isD_at X G c "parting_join" 41 24 rfl rfl) hX_need_both
  have hX_complement := ok_complX (P := P) (w := w) (base := base) N (isD_at X G c "complement" 38 21 rfl rfl) hX_need_parting
  subst hdV
  exact ok_law N lk hcd TB' (wd_at X G c) gW kW lk' hcd' bW g1 g2 g3 (fun f hf => by
    rcases hf with rfl | rfl | rfl
    · exact ⟨fd1, _, ok1, k1, b1⟩
    · exact ⟨fd2, _, ok2, k2, b2⟩
    · exact ⟨fd3, _, ok3, k3, b3⟩) hX_complement h__law_drum h__law_roll h__law_every h__law_parting h__law_pick h__law_small_right h__law_great_right h__law_bad_partings h_complement h_parting_turned h_is_finer h_parting_meet h_parting_join
end PR
open PySem PySem.W PySem.Calls PyProof.Rows
theorem PySem.Challenge.cw_parkedrows_k33_whole_complements_meets_a_holds : PySem.Challenge.rw_parkedrows_k33_whole_complements_meets_a.Holds := by
  w_on; o_law
  refine HandSHeadRun.head_any (r := OpenLaw.row PySem.Challenge.rw_parkedrows_k33_whole_complements_meets_a) (q := view (OpenLaw.row PySem.Challenge.rw_parkedrows_k33_whole_complements_meets_a).prog [58]) (H := PR.hk) (ob := PR.ob) (M := 4000) (loose := PR.loose) (d := HandSHeadRun.topDef (OpenLaw.row PySem.Challenge.rw_parkedrows_k33_whole_complements_meets_a).prog 58) (kwd := []) PR.ob_eq
    (by kernel_rfl) (fun s => by kernel_rfl) PR.run (by kernel_rfl) (by kernel_rfl) (by kernel_rfl) (by rfl) (by first | assumption | decide +kernel) (by decide +kernel) ⟨rfl, rfl, rfl, rfl, rfl, by decide +kernel⟩ ?hw ?hc
  case hw => w_witness2
  case hc =>
    refine LamX.walk_ofTsE (l := PySem.Challenge.rw_parkedrows_k33_whole_complements_meets_a) (n := 63) (k := 10) (x := "_law_script") (CX := fun _ => L2.CX0) rfl (by decide) (by kernel_rfl) ⟨rfl, by decide, by decide⟩ ?F (fun _ _ _ _ _ z => z)
    intro w mg fl h Y G hmg0
    obtain ⟨K, KX, c⟩ := Y
    have hmg : mg ("law" : PySem.Str) = some (.ref fl) := by
      have e : (HandSHeadRun.topDef (OpenLaw.row PySem.Challenge.rw_parkedrows_k33_whole_complements_meets_a).prog 58).name = ("law" : PySem.Str) := by kernel_rfl
      rw [← e]
      exact hmg0
    exact ⟨K, KX, PR.law_at KX G hmg c⟩
