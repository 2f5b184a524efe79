import PyProof.Rows.All
import HandS.Conv
import HandS.EndBits
import HandS.EndTab
import HandS.Ends
import HandS.ForMost
import HandS.Head0
import HandS.Head1
import HandS.Head2
import HandS.HeadEnd
import HandS.HeadHook4
import HandS.IsInst
import HandS.Lambda
import HandS.More
import HandS.NamedTupSort
import HandS.Nested
import HandS.RaiseMore
import HandS.SetFor
import HandS.SortInts
import HandS.SortKw
import HandS.SortRule
import HandS.Strs
import HandS.Style
import HandS.TupAny
import HandS.TupLe
import HandS.Walk
import HandS.Words
import HandS.WordsExc
import KE.GoesEnum
import KE.KSortKeyAny
import KE.KStateDown
import Lean
import OpenK.AllK
import Wide.All
import Wide.FinOn
import PySem.Challenge.RW_seenasone_k23_whole_one_of_three_kinds
section
set_option Elab.async false
set_option linter.all false
set_option maxRecDepth 100000
set_option maxHeartbeats 4000000
/-! T1: sorted of tuples of ints of any lengths, none empty. -/
namespace SN
open PySem L2 PyProof.Rows
section
variable {prog : Program} {w : World} {A : Around} {E : Value → Shared → Prop} {s : Shared}
/-- v is a tuple of these ints -/
def IsTp (h : Heap) (v : Value) (ns : List Int) : Prop := ∃ (a : Addr) (o : Obj) (its : List Value) (n : Nat), v = .ref a ∧ h.get? a = some o ∧ o.cls = .type "tuple" ∧ o.data = .seq its.toArray n ∧ IntsAre its ns
theorem IsTp.keeps {h h' : Heap} {v : Value} {ns : List Int} (x : IsTp h v ns) (k : ∀ b o, h.get? b = some o → o.cls = .type "tuple" → h'.get? b = some o) : IsTp h' v ns := by
  obtain ⟨a, o, its, n, e, ho, hc, hd, hi⟩ := x
  exact ⟨a, o, its, n, e, k a o ho hc, hc, hd, hi⟩
theorem lex_kat {fin : Bool} {Q : Bool → Shared → Prop} : ∀ {vs us : List Value} {ns ms : List Int} (i : Nat), IntsAre vs ns → IntsAre us ms → fin = decide (ns.length < ms.length) → Q (HT.lexLt ns ms) s → PySem.W.KatLex prog w A true fin Q (vs.zip us) i s
  | _, _, _, _, i, .nil, .nil, hf, hq => by
    rw [HT.lexLt_nil_nil] at hq
    refine PySem.W.kat_nil ?_
    rw [hf]
    exact hq
  | _, _, _, _, i, .nil, .cons y u hm, hf, hq => by
    rw [HT.lexLt_nil_cons] at hq
    refine PySem.W.kat_nil ?_
    rw [hf, decide_eq_true (by simp)]
    exact hq
  | _, _, _, _, i, .cons x t hn, .nil, hf, hq => by
    rw [HT.lexLt_cons_nil] at hq
    refine PySem.W.kat_nil ?_
    rw [hf, decide_eq_false (by simp)]
    exact hq
  | _, _, _, _, i, .cons (vs := vs) (ns := ns) x t hn, .cons (vs := us) (ns := ms) y u hm, hf, hq => by
    rw [HT.lexLt_cons] at hq
    rw [List.zip_cons_cons]
    refine PySem.W.kat_cons (SeqAt.EqAt.int_int x t y u prog w _ _ ?_)
    refine PySem.W.kat_go (fun e1 => ?_) (fun e1 => ?_)
    · have ex : x = y := by simpa using e1
      rw [if_pos ex] at hq
      exact PySem.W.kat_yes (lex_kat (i + 1) hn hm (by rw [hf]; simp) hq)
    · have ex : ¬ x = y := by simpa using e1
      rw [if_neg ex] at hq
      refine PySem.W.kat_no ?_
      cases (true && i == 0) with
      | true => exact oneLt_int hq
      | false => exact PySem.W.kat_one _ _ (PyProof.Rows.lt_int hq)
theorem tp_cmp {vs : List Value} {k : Value → List Int} (hp : ∀ v ∈ vs, IsTp s.heap v (k v)) : SrtO.Cmp prog w A s (tuples' true) (fun p => p.1 ∈ vs) (SrtO.lt2 fun v u => HT.lexLt (k v) (k u)) := by
  intro p q hm hm'
  have h1 := hp _ hm
  have h2 := hp _ hm'
  show wpAny (model prog w) A (keyLt' (tuples' true) p.1 q.1) (fun r s' => s' = s ∧ r = HT.lexLt (k p.1) (k q.1)) (fun _ _ => False) s
  generalize k p.1 = ns at h1 ⊢
  generalize k q.1 = ms at h2 ⊢
  obtain ⟨a, o, its, n, e, ho, hc, hd, hi⟩ := h1
  obtain ⟨a', o', its', n', e', ho', hc', hd', hi'⟩ := h2
  rw [e, e']
  refine PySem.W.kat_lt ho hd ho' hd' ?_
  have l1 := hi.length
  have l2 := hi'.length
  exact lex_kat 0 hi hi' (by simp [l1, l2]) ⟨rfl, rfl⟩
theorem firsts_tp {h : Heap} : ∀ {vs : List Value} {k : Value → List Int}, (∀ v ∈ vs, IsTp h v (k v) ∧ k v ≠ []) → ∃ fs : List Value, PySem.W.KatTups h vs fs ∧ fs.length = vs.length ∧ ∀ f ∈ fs, ∃ x t, f = .int x t
  | [], k, _ => ⟨[], trivial, rfl, fun f hf => by cases hf⟩
  | v :: vs, k, hp => by
    obtain ⟨fs, h1, h2, h3⟩ := firsts_tp (vs := vs) (k := k) fun u hu => hp u (List.mem_cons_of_mem _ hu)
    obtain ⟨⟨a, o, its, n, e, ho, hc, hd, hi⟩, hne⟩ := hp v List.mem_cons_self
    generalize k v = ns at hi hne
    cases hi with
    | nil => exact absurd rfl hne
    | cons x t hi =>
      refine ⟨.int x t :: fs, ?_, by rw [List.length_cons, List.length_cons, h2], fun f hf => ?_⟩
      · rw [e]
        exact .cons ho hc hd (by simp) h1
      · rcases List.mem_cons.mp hf with rfl | hf
        · exact ⟨x, t, rfl⟩
        · exact h3 f hf
theorem tp_sortable {a : Addr} {vs : List Value} {k : Value → List Int} (h0 : 0 < vs.length) (hp : ∀ v ∈ vs, IsTp s.heap v (k v) ∧ k v ≠ []) (ha : ∀ o, s.heap.get? a = some o → o.cls ≠ .type "tuple") : SrtO.SortableO prog w A s a vs fun v u => HT.lexLt (k v) (k u) := by
  intro h' keep
  have hp' : ∀ v ∈ vs, IsTp h' v (k v) ∧ k v ≠ [] := fun v hm => ⟨(hp v hm).1.keeps fun b o e c => keep b o (fun z => by subst z; exact ha o e c) e, (hp v hm).2⟩
  obtain ⟨fs, h1, h2, h3⟩ := firsts_tp hp'
  refine ⟨tuples' true, fun Q E hq => ?_, tp_cmp fun v hm => (hp' v hm).1⟩
  refine PySem.W.kat_kind (T := .type "int") h1 (by omega) (fun f hm => ?_) (by rfl) ?_
  · obtain ⟨x, t, rfl⟩ := h3 f hm
    exact PySem.W.Looks.now
  · have e : (Value.type "int" != Value.type "tuple") = true := by first | decide +kernel | rfl | decide
    rw [e]
    exact hq
theorem sorted_tp {l : Addr} {vs : List Value} {k : Value → List Int} {Q : Value → Shared → Prop} (hl : s.heap.IsList l vs.toArray) (hz : vs.length ≤ sizeLine) (hp : ∀ v ∈ vs, IsTp s.heap v (k v) ∧ k v ≠ [])
    (h : ∀ (h' : Heap) (d : Addr) (out : List Value), SrtO.Srtd (fun v u => HT.lexLt (k v) (k u)) out → SrtO.Stb (fun v u => HT.lexLt (k v) (k u)) out vs → (∀ b o, s.heap.get? b = some o → h'.get? b = some o) → s.heap.objs.size ≤ d → (∃ n, h'.get? d = some (seqObj "list" out.toArray n)) → Q (.ref d) { s with heap := h' }) :
    wpAny (model prog w) A (call (.builtin "sorted") [.ref l]) Q E s := by
  refine SrtO.sorted_ord (NtL.swo_lexL k) hl hz (fun h2 h₁ a ha kk => ?_) fun out hs hb => ?_
  · refine tp_sortable (s := { s with heap := h₁ }) (by omega) (fun v hm => ⟨(hp v hm).1.keeps fun b o e _ => (kk b o e).2, (hp v hm).2⟩) fun o e => ?_
    have e' : some o = some (seqObj "list" vs.toArray 0) := e.symm.trans ha
    cases e'
    intro c
    exact absurd (Value.type.inj c) (by decide)
  · exact h _ _ out hs hb (fun b o e => sortedAll_old e) (Nat.le_succ _) (sortedAll_at s.heap vs out.toArray)
end
/-- sorted(xs), xs a list of tuples of ints, none empty (k says which) -/
def rSortTp (K : PySem.W.Frag) : List V → Hp → VK → Prop := fun vs H Q => ∃ (a : Addr) (xs : List V) (k : V → List Int), vs = [V.ref a] ∧ SqL K H a xs ∧ (∀ x ∈ xs, (∃ t, x = V.ref t ∧ H t = some (.tup ((k x).map V.int))) ∧ k x ≠ []) ∧
  ∀ ys p, ys.Pairwise (fun x y => HT.lexLt (k y) (k x) = false) → ys.Perm xs → H p = none → Q (.ref p) (upd H p (.lst ys))
theorem cr_sortTp {X : Cx} : CallR X (.builtin "sorted") (rSortTp X.K) := by
  intro pins s σ H vs us Q I r h
  obtain ⟨a, xs, k, rfl, hs, hx, q⟩ := h
  obtain ⟨its, rv, hl, hz⟩ := I.list hs
  obtain ⟨u, rfl, ru⟩ := vals1 r
  obtain rfl : u = Value.ref a := ru
  obtain ⟨e1, e2⟩ := refs_back rv fun x m => by
    obtain ⟨⟨t, e, _⟩, _⟩ := hx x m
    exact ⟨t, e⟩
  refine sorted_tp (k := fun u => k (backV u)) hl.isList (by rw [← rv.length]; exact hz) (fun v hv => ?_) fun h' d out h1 h2 kp hd hn => ?_
  · obtain ⟨t, rfl⟩ := e2 v hv
    have hm : V.ref t ∈ xs := by rw [e1]; exact List.mem_map.mpr ⟨_, hv, rfl⟩
    obtain ⟨⟨t', e, ht⟩, hne⟩ := hx _ hm
    cases e
    obtain ⟨_, its2, r2, o, ho, hc, n, hd⟩ := I.hok _ _ ht
    exact ⟨⟨t, o, its2, n, rfl, ho, hc, hd, r2.ints⟩, hne⟩
  · have h3 : ∀ u ∈ out, ∃ a, u = Value.ref a := fun u hu => e2 u (h2.perm.mem_iff.mp hu)
    obtain ⟨n, hn⟩ := hn
    have hb : (out.map backV).Perm xs := by
      rw [e1]
      exact h2.perm.map backV
    refine ⟨.ref d, upd H d (.lst (out.map backV)), I.laid (t' := s.toks) kp hd ⟨?_, out, n, vals_back h3, hn⟩, rfl, q _ d (List.pairwise_map.mpr (h1.imp fun z => z)) hb (I.hok.fresh hd)⟩
    rw [hb.length_eq]
    exact hz
end SN
end
section
set_option Elab.async false
set_option linter.all false
set_option maxRecDepth 100000
set_option maxHeartbeats 4000000
/-! T4: the sorted list is one; repr of data. -/
namespace SN
open PySem L2 PyProof.Rows
def isortI (ns : List Int) : List Int := ns.mergeSort fun a b => decide (a ≤ b)
theorem isortI_uniq {ns ms : List Int} (p : ms.Perm ns) (s : ms.Pairwise (· ≤ ·)) : ms = isortI ns := by
  have h1 : (isortI ns).Pairwise fun a b => decide (a ≤ b) = true := List.pairwise_mergeSort (fun a b c h1 h2 => by
    simp only [decide_eq_true_eq] at *
    omega) (fun a b => by
    simp only [Bool.or_eq_true, decide_eq_true_eq]
    omega) ns
  refine List.Perm.eq_of_pairwise (le := fun a b => a ≤ b) (fun a b _ _ x y => by omega) s (h1.imp fun x => of_decide_eq_true x) (p.trans (List.mergeSort_perm ns _).symm)
theorem isortI_perm (ns : List Int) : (isortI ns).Perm ns := List.mergeSort_perm ns _
theorem isortI_sorted (ns : List Int) : (isortI ns).Pairwise (· ≤ ·) := by
  have h1 : (isortI ns).Pairwise fun a b => decide (a ≤ b) = true := List.pairwise_mergeSort (fun a b c h1 h2 => by
    simp only [decide_eq_true_eq] at *
    omega) (fun a b => by
    simp only [Bool.or_eq_true, decide_eq_true_eq]
    omega) ns
  exact h1.imp fun x => of_decide_eq_true x
def tsortL (ts : List (List Int)) : List (List Int) := ts.mergeSort fun a b => !HT.lexLt b a
theorem lex_anti : ∀ {a b : List Int}, HT.lexLt a b = false → HT.lexLt b a = false → a = b
  | [], [], _, _ => rfl
  | [], y :: ys, h, _ => by rw [HT.lexLt_nil_cons] at h; cases h
  | x :: xs, [], _, h => by rw [HT.lexLt_nil_cons] at h; cases h
  | x :: xs, y :: ys, h1, h2 => by
    rw [HT.lexLt_cons] at h1 h2
    by_cases e : x = y
    · rw [if_pos e] at h1
      rw [if_pos e.symm] at h2
      rw [e, lex_anti h1 h2]
    · rw [if_neg e] at h1
      rw [if_neg (Ne.symm e)] at h2
      have a := of_decide_eq_false h1
      have b := of_decide_eq_false h2
      omega
theorem tsortL_sorted (ts : List (List Int)) : (tsortL ts).Pairwise fun a b => HT.lexLt b a = false := by
  have h1 : (tsortL ts).Pairwise fun a b => (!HT.lexLt b a) = true := List.pairwise_mergeSort (fun a b c h1 h2 => by
    simp only [Bool.not_eq_true'] at *
    exact NtL.lex_tr a b c h1 h2) (fun a b => by
    cases q : HT.lexLt b a with
    | false => rfl
    | true => rw [NtL.lex_asym b a q]; rfl) ts
  exact h1.imp fun x => by simpa using x
theorem tsortL_perm (ts : List (List Int)) : (tsortL ts).Perm ts := List.mergeSort_perm ts _
theorem tsortL_uniq {ts us : List (List Int)} (p : us.Perm ts) (s : us.Pairwise fun a b => HT.lexLt b a = false) : us = tsortL ts :=
  List.Perm.eq_of_pairwise (le := fun a b => HT.lexLt b a = false) (fun a b _ _ x y => (lex_anti x y).symm) s (tsortL_sorted ts) (p.trans (tsortL_perm ts).symm)

/-! ### repr -/
def pyRepr : PyData → Option Str
  | .none => some "None"
  | .int i => if i.natAbs < 2 ^ 64 then some (toString i) else none
  | .list ds => if (PyData.list ds).showable && (!(PyData.list ds).hasDict && (decide ((PyData.list ds).depth ≤ 60) && decide ((PyData.list ds).shown.length ≤ 100000))) then some (PyData.list ds).shown else none
  | .tuple ds => if (PyData.tuple ds).showable && (!(PyData.tuple ds).hasDict && (decide ((PyData.tuple ds).depth ≤ 60) && decide ((PyData.tuple ds).shown.length ≤ 100000))) then some (PyData.tuple ds).shown else none
  | _ => none
def rRepr (K : PySem.W.Frag) : List V → Hp → VK → Prop := fun vs H Q => ∃ (v : V) (d : PyData) (x : Str), vs = [v] ∧ Dp K H v d ∧ pyRepr d = some x ∧ Q (.str x) H
theorem cr_repr {X : Cx} (gd : X.A.guards = some []) (hu : X.A.units + 64 < cLine) : CallR X (.builtin "repr") (rRepr X.K) := by
  intro pins s σ H vs us Q I r h
  obtain ⟨v, d, x, rfl, dv, hx, q⟩ := h
  obtain ⟨u, rfl, ru⟩ := vals1 r
  have go : ∀ {a : Addr}, u = .ref a → d.showable = true → d.hasDict = false → d.depth ≤ 60 → d.shown.length ≤ 100000 → x = d.shown → wpAny (model X.prog X.w) X.A (call (.builtin "repr") [u]) (EP X pins σ Q) X.xe s := fun {a} e k1 k2 k3 k4 k5 => by
    obtain ⟨as, rd⟩ := Dp.reads I d v u dv ru
    subst e
    refine repr_of_reads' rd k1 (fun z => by rw [k2] at z; cases z) gd (by omega) (fun _ _ e => e) (fun h' u2 tk kp => ?_) (by rw [sizeLine_eq]; omega)
    rw [← k5]
    exact ⟨.str x, H, I.kept (t' := tk) kp, ⟨_, rfl⟩, q⟩
  have bits : ∀ {a b c e : Bool}, (a && (b && (c && e))) = true → a = true ∧ b = true ∧ c = true ∧ e = true := fun {a b c e} z => by
    simp only [Bool.and_eq_true] at z
    exact z
  cases dv with
  | non =>
    cases ru
    cases hx
    exact PySem.P.repr_of_none ⟨.str _, H, I.tok _, ⟨_, rfl⟩, q⟩
  | int i =>
    obtain ⟨t, rfl⟩ := ru
    simp only [pyRepr] at hx
    split at hx
    · rename_i hi
      cases hx
      have hl : i.natAbs.log2 < 1920 := by
        by_cases z : i.natAbs = 0
        · rw [z]; decide
        · have : i.natAbs.log2 < 64 := (Nat.log2_lt z).mpr hi
          omega
      exact PySem.P.repr_of_int hl ⟨.str _, H, I.tok _, ⟨_, rfl⟩, q⟩
    · cases hx
  | lst h1 h2 =>
    cases ru
    simp only [pyRepr] at hx
    split at hx
    · rename_i hc
      cases hx
      obtain ⟨b1, b2, b3, b4⟩ := bits hc
      exact go rfl b1 (by simpa using b2) (of_decide_eq_true b3) (of_decide_eq_true b4) rfl
    · cases hx
  | tup h1 h2 =>
    cases ru
    simp only [pyRepr] at hx
    split at hx
    · rename_i hc
      cases hx
      obtain ⟨b1, b2, b3, b4⟩ := bits hc
      exact go rfl b1 (by simpa using b2) (of_decide_eq_true b3) (of_decide_eq_true b4) rfl
    · cases hx
  | bl b => cases hx
  | str z => cases hx
end SN
end
section
set_option Elab.async false
set_option linter.all false
set_option maxRecDepth 100000
set_option maxHeartbeats 8000000
/-! T2: sorted(set(xs)), xs a list of ints. -/
namespace SN
open PySem L2 PyProof.Rows
/-- an empty set as it is made -/
abbrev es0 (w : World) : Obj := { cls := .type "set", dict := none, data := .set #[] 0 (.fresh 0 0 (!w.params.followText "set-order")) }
section
variable {P : Program} {w : World} {A : Around} {E : Value → Shared → Prop} {s : Shared}
/-- what set(xs) leaves -/
def SetMade (w : World) (s : Shared) (zs : List Int) (s2 : Shared) : Prop := ∃ (h2 : Heap) (k c : Nat), s2 = { s with heap := h2, toks := k } ∧ SetR w h2 s.heap.objs.size (fun j => decide (j ∈ zs)) c ∧ c ≤ zs.length ∧ ∀ b o, s.heap.get? b = some o → h2.get? b = some o
set_option maxHeartbeats 16000000 in
/-- __init__ of the empty set with a list of ints -/
theorem set_init_list {q : Addr} {ws : Array Value} {zs : List Int} (hh : A.handled = none) (hq : s.heap.IsList q ws) (hi : IntsAre ws.toList zs) (hb : zs.length + 1 < scanBound) :
    wpAny (model P w) A (Builtin.«set.__init__» ⟨[.ref s.heap.objs.size, .ref q], []⟩) (fun fin s2 => fin = .done (.ret .none) ∧ SetMade w s zs s2) E { s with heap := s.heap.push (es0 w) } := by
  have hz : ws.size = zs.length := by
    have e := IntsAre.length hi
    rwa [Array.length_toList] at e
  have g0 : (s.heap.push (es0 w)).get? s.heap.objs.size = some (es0 w) := Heap.get?_push_size _ rfl
  have hT : Shared.TypeIs { s with heap := s.heap.push (es0 w) } (.ref s.heap.objs.size) "set" := ⟨_, g0, rfl⟩
  obtain ⟨⟨oc, od, dt, os⟩, ho, hc, m, hd⟩ := hq
  simp only at hc hd
  subst hc hd
  have go : (s.heap.push (es0 w)).get? q = some { cls := .type "list", dict := od, data := .seq ws m, slots := os } := Heap.get?_push_of_some _ ho
  have f1 := PySem.F.sub_list_set
  have f2 := PySem.F.sub_list_frozenset
  have f3 : (Value.type "list" == Value.type "dict") = false := by decide
  have L1 : (s.heap.push (es0 w)).IsList q ws := ⟨_, go, rfl, m, rfl⟩
  unfold Builtin.«set.__init__» noKeywords Builtin.Frozenset.updateFrom
  generalize hPI : pyIter = PI
  wp_walk
  subst hPI
  refine wpAny_pyIter_list L1 (wpAny_bind (wpAny_runValue ?_))
  have lq : q < s.heap.objs.size := Heap.lt_size ho
  have z1 : (s.heap.push (es0 w)).objs.size = s.heap.objs.size + 1 := Heap.size_push ..
  have ne1 : q ≠ (s.heap.push (es0 w)).objs.size := by
    rw [z1]
    exact Nat.ne_of_lt (Nat.lt_succ_of_lt lq)
  have nf : s.heap.objs.size ∉ [(s.heap.push (es0 w)).objs.size, q] := by
    rw [z1]
    simp only [List.mem_cons, List.not_mem_nil, or_false, not_or]
    exact ⟨Nat.ne_of_lt (Nat.lt_succ_self _), Nat.ne_of_gt lq⟩
  have at_ : ∀ (i : Nat) (v : Value), ws[i]? = some v → ∃ k t, zs[i]? = some k ∧ v = .int k t := fun i v hv => by
    have li : i < zs.length := by rw [← hz]; exact (Array.getElem?_eq_some_iff.mp hv).1
    obtain ⟨t, ht⟩ := hi.get i _ (List.getElem?_eq_getElem li)
    refine ⟨_, t, List.getElem?_eq_getElem li, ?_⟩
    have e := (Array.getElem?_toList (xs := ws) (i := i)).trans hv
    rw [ht] at e
    exact (Option.some.inj e).symm
  refine L2.set_update_ints ((Walks.list (by simp [hh]) _ q ne1 ws).toS) s.heap.objs.size nf zs hz hb at_ (ws.size - 0) 0 _ (by omega) (Nat.zero_le _) ⟨⟨_, Heap.get?_push_size _ rfl, rfl, rfl⟩, L1.push _⟩ ⟨0, Nat.le_refl 0, L2.setR_new_at (Heap.get?_push_of_some _ g0)⟩ fun s3 c mv lc R => ?_
  obtain ⟨h3, g3, d3, k3, o3⟩ := s3
  have y1 : g3 = s.gens := mv.gens
  have y2 : d3 = s.drawn := mv.drawn
  have y3 : o3 = s.os := mv.os
  subst y1 y2 y3
  show wpAny _ _ _ _ _ _
  refine wpAny_pure ?_
  show wpAny _ _ (ret Value.none) _ _ _
  refine wpAny_pure ⟨rfl, h3, k3, c, rfl, R, by omega, fun b o e => mv.heap b o ?_ (Heap.get?_push_of_some _ (Heap.get?_push_of_some _ e))⟩
  have lb := Heap.lt_size e
  simp only [List.mem_cons, List.not_mem_nil, or_false, not_or]
  rw [z1]
  exact ⟨Nat.ne_of_lt lb, Nat.ne_of_lt (Nat.lt_succ_of_lt lb)⟩
set_option maxHeartbeats 16000000 in
theorem call_setL {q : Addr} {ws : Array Value} {zs : List Int} {Q : Value → Shared → Prop} (hh : A.handled = none) (hq : s.heap.IsList q ws) (hi : IntsAre ws.toList zs) (hb : zs.length + 1 < scanBound) (h : ∀ s2, SetMade w s zs s2 → Q (.ref s.heap.objs.size) s2) :
    wpAny (model P w) A (call (.type "set") [.ref q]) Q E s := by
  obtain ⟨c0, c1, mro⟩ := PySem.F.called_set.mro
  have mk := PySem.F.called_set.made
  have sb := PySem.F.called_set.sub
  refine wpAny_call (codeAny_of_tree ?_)
  show wpAny _ _ (callAny (.type "set") _) _ _ _
  refine wpAny_pure ⟨Code.quiet_builtin _ (by decide +kernel), codeAny_builtin PySem.F.entry_type_call ?_⟩
  rw [Around.under_plain (weight_type_call_type "set" [.ref q] []) rfl]
  have k1 := PySem.F.called_set.notType
  have k2 := PySem.F.called_set.canCreate
  have k3 := PySem.F.typeCall_set_1 (.ref q)
  repeat (any_goals (first | assumption | wp_step))
  refine codeAny_mono (L2.code_set_led1 (.ref q) (E := E) (Q₁ := fun u s1 => u = .ref s.heap.objs.size ∧ s1 = { s with heap := s.heap.push (es0 w) }) ⟨rfl, rfl⟩) fun r s1 hr => ?_
  match r, hr with
  | .error e, hr => exact hr
  | .ok (.ret u), hr =>
    obtain ⟨rfl, rfl⟩ := hr
    have g0 : (s.heap.push (es0 w)).get? s.heap.objs.size = some (es0 w) := Heap.get?_push_size _ rfl
    have hT : Shared.TypeIs { s with heap := s.heap.push (es0 w) } (.ref s.heap.objs.size) "set" := ⟨_, g0, rfl⟩
    have i1 := PySem.F.called_set.init.lookup
    have i2 := PySem.F.called_set.init.bind (.ref s.heap.objs.size)
    repeat (any_goals (first | assumption | wp_step))
    refine codeAny_mono (codeAny_call_builtin (R := wants (fun r s2 => r = .none ∧ SetMade w s zs s2) E) PySem.F.called_set.init.plain PySem.F.entry_set_init (check_set_init_1 hT ?_)) fun r2 s2 hr2 => ?_
    · refine wpAny_mono (set_init_list (A := A.in1.in1) (by simp [hh]) hq hi hb) (fun fin s2 q => ?_) fun _ _ z => z
      obtain ⟨rfl, m⟩ := q
      exact ⟨rfl, m⟩
    · match r2, hr2 with
      | .error e, hr2 => exact hr2
      | .ok (.ret u), hr2 =>
        obtain ⟨rfl, m⟩ := hr2
        repeat (any_goals (first | assumption | wp_step))
        exact h _ m
end
theorem sub_len : ∀ {l m : List Int}, l.Nodup → (∀ x ∈ l, x ∈ m) → l.length ≤ m.length
  | [], _, _, _ => Nat.zero_le _
  | x :: l, m, nd, h => by
    rw [List.nodup_cons] at nd
    have hx := h x List.mem_cons_self
    have := sub_len (l := l) (m := m.erase x) nd.2 fun y hy => (List.mem_erase_of_ne fun z => nd.1 (by rw [← z]; exact hy)).mpr (h y (List.mem_cons_of_mem _ hy))
    rw [List.length_erase_of_mem hx] at this
    have pos := List.length_pos_of_mem hx
    rw [List.length_cons]
    omega
/-- sorted(set(xs)): small ints -/
def tSset (K : PySem.W.Frag) (ta : TE) : TE := fun σ H Q => ta σ H fun x H1 => ∃ (q : Addr) (zs : List Int), x = .ref q ∧ SqL K H1 q (zs.map V.int) ∧ zs.length ≤ 4000 ∧ (∀ z ∈ zs, 0 ≤ z ∧ z < 60) ∧
  ∀ (out : List Int) (p : Addr), out.Pairwise (· < ·) → (∀ k, k ∈ out ↔ k ∈ zs) → H1 p = none → Q (.ref p) (upd H1 p (.lst (out.map V.int)))
theorem pe_sset {X : Cx} {a : Expr} {ta : TE} {p p2 q pos : Pos} (hc : X.calm = true) (hg : Gl X "sorted") (hm : X.mg "sorted" = none) (hg2 : Gl X "set") (hm2 : X.mg "set" = none) (ha : PE X a ta) (na : starEach [a] X.env = (false, eval a X.env) :: starEach [] X.env) :
    PE X (.Call (.Name "sorted" p) [.Call (.Name "set" p2) [a] [] q] [] pos) (tSset X.K ta) := by
  refine ⟨fun pins s0 σ H Q I h => ?_⟩
  refine Call_ (ld_blt I hg hm boot_sorted ?_)
  refine PyProof.Rows.callWith_builtin1 (PyProof.Rows.args_cons ?_ rfl) rfl rfl
  refine Call_ (ld_blt I hg2 hm2 boot_set ?_)
  refine PyProof.Rows.callWith_type1 (PyProof.Rows.args_cons (thn (ha.run pins s0 σ H _ I h) fun v s1 ⟨x, H1, I1, r1, q1⟩ => PyProof.Rows.args_nil ?_) na) na rfl
  obtain ⟨b, zs, rfl, hq, hl, hr, q1⟩ := q1
  cases r1
  obtain ⟨its, r, pl, hz⟩ := I1.list hq
  refine call_setL (zs := zs) (I1.ok.hd hc) pl.isList (by simpa using r.ints) (by unfold scanBound; omega) fun s2 ⟨h2, k2, c, e2, R, lc, kp⟩ => ?_
  subst e2
  refine PyProof.Rows.args_nil ?_
  have c64 : c < 64 := by
    obtain ⟨o, es, ep, t, _, _, _, _, nd, mem, _, _, en, _⟩ := R
    have le : (es.toList.map keyOf).length ≤ ((List.range 60).map fun (i : Nat) => (i : Int)).length := sub_len nd fun z hz => by
      have hm := (mem z).mpr hz
      have hm' : z ∈ zs := by simpa using hm
      obtain ⟨b1, b2⟩ := hr z hm'
      exact List.mem_map.mpr ⟨z.toNat, List.mem_range.mpr (by omega), by omega⟩
    rw [List.length_map, List.length_map, List.length_range, Array.length_toList] at le
    omega
  have I2 : Inv X pins σ H1 { s1 with heap := h2, toks := k2 } := I1.kept kp
  refine sorted_set R (I2.ok.hd hc) c64 fun s' p out c2 ns k g o hp hg2 hi hs hm hl2 => ?_
  have hlen : (ns.map V.int).length ≤ sizeLine := by rw [List.length_map, hl2, sizeLine_eq]; omega
  have hn : H1 p = none := I2.hok.fresh hp
  have J :=
    I2.call (h' := s'.heap) (g' := s'.gens) (d' := s'.drawn) (t' := s'.toks) (H' := upd H1 p (.lst (ns.map V.int))) (ch := []) (Un.laid k hp hn) (I2.hok.laid k hp ⟨hlen, out.toList, c2, vals_of_ints hi, hg2⟩) (by rw [g]; exact I2.bare) (fun _ z => nomatch z)
  have e : s' = { s1 with heap := s'.heap, gens := s'.gens, drawn := s'.drawn, toks := s'.toks } := by
    cases s'
    cases s1
    cases o
    rfl
  rw [e]
  exact ⟨.ref p, _, J, rfl, q1 ns p hs (fun k => by rw [hm k]; simp) hn⟩
end SN
end
section
set_option Elab.async false
set_option linter.all false
set_option maxRecDepth 100000
set_option maxHeartbeats 8000000
/-! T3: enumerate(t), t a tuple. -/
namespace SN
open PySem L2 PyProof.Rows
theorem enum_new1 {v : Value} {o : Obj} {G : Heap → Prop} (B : PySem.Begins v o G) :
    Meets (Builtin.«enumerate.__new__» ⟨[.type "enumerate", v], []⟩) (fun _ R s => G s.heap ∧
      R (.ok (.ret (.ref (s.heap.push o).objs.size))) { s with heap := (s.heap.push o).push { cls := .type "enumerate", data := .fields #[.none, .bool false, .ref s.heap.objs.size, rawInt 0, .none, .none] } }) :=
  .of_wp fun pr w A R s0 z => by
    obtain ⟨hp, gn, dr, tk, oz⟩ := s0
    obtain ⟨z1, z2⟩ := z
    have sbt := PySem.sub_enumerate
    have go : ∀ {A2 : Around} {E : Value → Shared → Prop} {Q : Value → Shared → Prop}, Q (.ref hp.objs.size) ⟨hp.push o, gn, dr, tk, oz⟩ → wpAny (model pr w) A2 (pyIter v) Q E ⟨hp, gn, dr, tk, oz⟩ := fun y => B.iter pr w _ _ ⟨hp, gn, dr, tk, oz⟩ _ z1 y
    wp_walk using go
    refine wpAny_stack_any fun _ => wpAny_pure ?_
    split
    · rename_i cl _ _ _ _ _
      cases (cl == Value.type "enumerate") <;> (wp_walk using go; exact ⟨_, rfl, z2⟩)
    · wp_walk using go
      exact ⟨_, rfl, z2⟩
section
variable {prog : Program} {w : World} {A : Around} {E : Value → Shared → Prop} {s : Shared}
theorem call_enumT {t : Addr} {items : Array Value} {Q : Value → Shared → Prop} (ht : s.heap.IsTuple t items)
    (k : ∀ h2, IsEnum h2 (s.heap.objs.size + 1) s.heap.objs.size 0 .none → h2.IsTupleIter s.heap.objs.size t 0 → (∀ b o, s.heap.get? b = some o → h2.get? b = some o) → Q (.ref (s.heap.objs.size + 1)) { s with heap := h2 }) :
    wpAny (model prog w) A (call (.type "enumerate") [.ref t]) Q E s := by
  have B := PySem.begins_tuple t items
  refine callType_new PySem.F.called_enumerate (by decide) (PySem.F.typeCall_enumerate_1 _) (PySem.F.newCall_enumerate_1 _) (fun u => PySem.F.args_object_init_2 u _) PySem.F.entry_enumerate_new (enum_new1 B) ⟨ht, ?_⟩
  generalize ho : ({ cls := .type "tuple_iterator", data := .fields #[.ref t, .int 0 0] } : Obj) = o at B ⊢
  have z1 : (s.heap.push o).objs.size = s.heap.objs.size + 1 := Heap.size_push ..
  show _ ∧ _
  rw [z1]
  have e1 : IsEnum ((s.heap.push o).push { cls := .type "enumerate", data := .fields #[.none, .bool false, .ref s.heap.objs.size, rawInt 0, .none, .none] }) (s.heap.objs.size + 1) s.heap.objs.size 0 .none := by
    have y := Heap.get?_push_size (s.heap.push o) (o := { cls := .type "enumerate", data := .fields #[.none, .bool false, .ref s.heap.objs.size, rawInt 0, .none, .none] }) rfl
    rwa [z1] at y
  refine ⟨⟨_, e1, rfl⟩, k _ e1 ⟨o, Heap.get?_push_of_some _ (Heap.get?_push_size _ B.free), by rw [← ho] <;> rfl, by rw [← ho] <;> rfl⟩ fun b u y => Heap.get?_push_of_some _ (Heap.get?_push_of_some _ y)⟩
end
/-- the tuple at a, each item in a new pair -/
def Itet (K : PySem.W.Frag) (a : Addr) : It :=
  ⟨fun i H => ∃ (xs : List V) (x : V), SqT K H a xs ∧ xs[i]? = some x, fun i H v H' => ∃ T x, v = .ref T ∧ H T = none ∧ H' = upd H T (.tup [.int (i : Nat), x]) ∧ ∀ xs, SqT K H a xs → xs[i]? = some x, fun i H => ∃ xs : List V, SqT K H a xs ∧ xs.length ≤ i⟩
theorem tup_ne {h : Heap} {a it : Addr} {xs : Array Value} {i : Nat} (h1 : h.IsTuple a xs) (h2 : h.IsTupleIter it a i) : a ≠ it := fun z => by
  obtain ⟨o, e1, c1, _⟩ := h1
  obtain ⟨o', e2, c2, _⟩ := h2
  rw [z, e2] at e1
  cases e1
  rw [c1] at c2
  exact absurd (Value.type.inj c2) (by decide)
theorem turn_et {P : Program} {w : World} {K : PySem.W.Frag} {elts : List Expr} {kk : Nat} {tp : Pos} (a e it : Addr) :
    Turn P w K (.Tuple elts kk tp) (Itet K a) [e, it] e (fun i h => (∃ old, IsEnum h e it ((i : Nat) : Int) old) ∧ h.IsTupleIter it a i ∧ e ≠ it) where
  mem := by simp
  obj := fun i h st b hb => by
    obtain ⟨⟨old, k1⟩, ⟨o, k2, _, k4⟩, _⟩ := st
    rcases (by simpa using hb : b = e ∨ b = it) with z | z
    · rw [z]; exact ⟨_, k1, fun v q => nomatch q⟩
    · rw [z]; exact ⟨o, k2, fun v q => by rw [k4] at q; cases q⟩
  keep := fun i h h' st k => by
    obtain ⟨⟨old, k1⟩, k2, k3⟩ := st
    exact ⟨⟨old, k e (by simp) _ k1⟩, k2.at fun o q => k it (by simp) o q, k3⟩
  item := by
    intro X hP hw hK hc i pins s0 σ H E I hf st hg
    subst hP hw hK
    obtain ⟨⟨old, k1⟩, k2, k3⟩ := st
    obtain ⟨xs, x, hq, hx⟩ := hg
    obtain ⟨its, rv, tp0, _⟩ := I.tuple hq
    have tp : s0.heap.IsTuple a its.toArray := tp0
    obtain ⟨u, hu, ru⟩ := rv.get hx
    have le : e < s0.heap.objs.size := Heap.lt_size k1
    have li : it < s0.heap.objs.size := by
      obtain ⟨_, q, _⟩ := k2
      exact Heap.lt_size q
    have na := tup_ne tp k2
    have ea : e ≠ a := fun z => by
      obtain ⟨o, q, c, _⟩ := tp
      rw [← z] at q
      rw [show s0.heap.get? e = _ from k1] at q
      cases q
      exact absurd (Value.type.inj c) (by decide)
    have D := PySem.Draws.tuple (prog := X.prog) (w := X.w) (A := X.A.in1) (by simp [I.ok.hd hc]) it a na its.toArray
    have lt : i < its.toArray.size := by
      have := (List.getElem?_eq_some_iff.mp hu).1
      simpa using this
    refine wpAny_pyNext_enum_itemD D k1 ⟨k2, tp⟩ lt k3 (by simp [k3, ea]) fun y h2 tk py ho st2 hT sz kp => ?_
    obtain rfl : y = u := by
      have q : its.toArray[i]? = some u := by simpa using hu
      rw [q] at py
      exact (Option.some.inj py).symm
    refine ⟨_, rfl, wpAny_letOwnedTupleGo_enum (s := { s0 with heap := h2, toks := tk + 1 }) ho fun h3 he sb => ?_⟩
    have hT2 : h3.get? s0.heap.objs.size = some { cls := .type "tuple", data := .seq #[.int i tk, y] } := (sb.2 _ (Nat.ne_of_gt le)).trans hT
    have nw : ObjOk X.prog X.w (upd H s0.heap.objs.size (.tup [.int (i : Nat), x])) h3 s0.heap.objs.size (.tup [.int (i : Nat), x]) :=
      ⟨by show 2 ≤ sizeLine; decide, [.int i tk, y], .cons ⟨_, rfl⟩ (.cons ru .nil), ⟨_, hT2, rfl, _, rfl⟩⟩
    have J : Inv X pins σ (upd H s0.heap.objs.size (.tup [.int (i : Nat), x])) { s0 with heap := h3, toks := tk + 1 } :=
      I.turnedNew (ch := [e, it]) (fun b ob hb q => (sb.2 b (fun z => hb (by simp [z]))).trans (kp b ob (fun z => hb (by simp [z])) (fun z => hb (by simp [z])) q)) hf (Nat.le_refl _) nw
    refine ⟨.ref s0.heap.objs.size, _, J, rfl, ⟨_, x, rfl, I.hok.fresh (Nat.le_refl _), rfl, fun ys hy => by rw [I.tuple_inj hy hq]; exact hx⟩, ⟨⟨y, ?_⟩, st2.1.at fun o q => (sb.2 it (Ne.symm k3)).trans q, k3⟩, fun b hb => ?_⟩
    · have z : ((i + 1 : Nat) : Int) = (i : Int) + 1 := by omega
      rw [z]
      exact he
    · have lb : b < s0.heap.objs.size := by
        rcases (by simpa using hb : b = e ∨ b = it) with z | z
        · rw [z]; exact le
        · rw [z]; exact li
      rw [upd_ne (Nat.ne_of_lt lb)]
      exact (hf b hb).1
  done := by
    intro X hP hw hK hc i pins s0 σ H E I hf st hg
    subst hP hw hK
    obtain ⟨⟨old, k1⟩, k2, k3⟩ := st
    obtain ⟨xs, hq, hx⟩ := hg
    obtain ⟨its, rv, tp0, _⟩ := I.tuple hq
    have tp : s0.heap.IsTuple a its.toArray := tp0
    obtain ⟨f0, f1, f2, f3, f4, f5⟩ := hf it (by simp)
    have hl := rv.length
    have hT : s0.TypeIs (.ref e) "enumerate" := ⟨_, k1, rfl⟩
    unfold pyNext
    refine wpAny_bind (wpAny_attempt (wpAny_callSpecial?_slot (name := Str.ofString "__next__") hT PySem.F.slot_enumerate_next
      (wpAny_call_entry PySem.F.slot_enumerate_next hT PySem.F.entry_enumerate_next ?_ (PySem.F.args_enumerate_next_1 _))))
    show wpAny _ _ (field (.ref e) 2 >>= _) _ _ _
    refine wpAny_bind (wpAny_field k1 rfl (x := .ref it) rfl ?_)
    refine wpAny_bind (wpAny_nextOf_tuple_end (by simp [I.ok.hd hc]) k2 tp (by simp; omega) fun h2 x0 eb cx => ?_)
    obtain ⟨ox, c1, c2⟩ := cx
    refine wpAny_bind (wpAny_isInstance (T := "StopIteration") (b := true) ⟨ox, c1, c2⟩ isSubtype_stop ?_)
    exact wpAny_pure ⟨rfl, I.turned (t' := s0.toks) (fun b o hb q => eb b o hb q) f0 f1 f3 f4 f5⟩
  self := fun A i s0 Q E st h => by
    obtain ⟨⟨_, k1⟩, _⟩ := st
    exact wpAny_pyIter_enum k1 h
def iEnumT (K : PySem.W.Frag) (ta : TA) : TI := fun σ H R => ta σ H fun vs H1 => ∃ a xs, vs = [.ref a] ∧ SqT K H1 a xs ∧ R (Itet K a) H1
theorem pi_enumT {X : Cx} {e : Expr} {ta : TA} {p pos tp : Pos} {elts : List Expr} {kk : Nat} (hg : Gl X "enumerate") (hm : X.mg "enumerate" = none) (ha : PA X [e] ta) (hs : starEach [e] X.env = [(false, eval e X.env)]) :
    PI X (.Tuple elts kk tp) (.Call (.Name "enumerate" p) [e] [] pos) (iEnumT X.K ta) := ⟨fun pins s0 σ H R I h => by
  refine Call_ (ld_blt I hg hm boot_enumerate (PyProof.Rows.callWith_type1 (thn (ha.run pos pins s0 σ H _ I h) fun us s1 ⟨vs, H1, J, r1, q1⟩ => ?_) hs rfl))
  obtain ⟨a, xs, ex, hq, q⟩ := q1
  subst ex
  obtain ⟨u, rfl, ru⟩ := vals1 r1
  obtain rfl : u = Value.ref a := ru
  obtain ⟨its, rv, tp, _⟩ := J.tuple hq
  refine call_enumT (show s1.heap.IsTuple a its.toArray from tp) fun h2 he ht kp => wpAny_pyIter_enum he ?_
  refine ⟨s1.heap.objs.size + 1, [s1.heap.objs.size + 1, s1.heap.objs.size], _, _, H1, rfl, J.kept (t' := s1.toks) kp, turn_et a (s1.heap.objs.size + 1) s1.heap.objs.size, ⟨⟨.none, he⟩, ht, Nat.succ_ne_self _⟩, fun b hb => ?_, q⟩
  have lb : s1.heap.objs.size ≤ b := by
    rcases (by simpa using hb : b = s1.heap.objs.size + 1 ∨ b = s1.heap.objs.size) with z | z
    · rw [z]; exact Nat.le_add_right _ _
    · rw [z]; exact Nat.le_refl _
  exact J.fpOk lb (J.hok.fresh lb)⟩
theorem walk_et {K : PySem.W.Frag} {a : Addr} {xs : List V} : Walk (Itet K a) xs.length (fun H => SqT K H a xs) (YPair (fun i => some (.int (i : Nat))) (fun i => xs[i]?)) :=
  ⟨fun i _ hi q => ⟨xs, xs[i], q, by simp [hi]⟩, fun _ q => ⟨xs, q, Nat.le_refl _⟩, fun i H v H' _ q y => by
    obtain ⟨T, x, h1, h2, h3, h4⟩ := y
    exact ⟨T, .int (i : Nat), x, h1, h2, h3, rfl, h4 xs q⟩⟩
end SN
end
section
set_option Elab.async false
set_option linter.all false
set_option maxRecDepth 100000
set_option maxHeartbeats 4000000
/-! S1: data in the abstract heap, what stays, the judgement "evaluates to data". -/
namespace SN
open PySem L2 LamX

abbrev PD := PySem.PyData

/-! ### what stays -/
/-- nothing tracked there, or a table of code objects (tables may grow) -/
def nt : Option HO → Bool
  | none => true
  | some (.tbl _) => true
  | some _ => false
theorem nt_none : nt none = true := rfl
theorem nt_lst {xs : List V} : nt (some (.lst xs)) = false := rfl
theorem nt_tup {xs : List V} : nt (some (.tup xs)) = false := rfl
/-- all that is tracked, but tables and the well, stands as it was -/
def Ex (w : Option Addr) (H H' : Hp) : Prop := ∀ a, nt (H a) = false → w ≠ some a → H' a = H a
theorem Ex.refl {w : Option Addr} (H : Hp) : Ex w H H := fun _ _ _ => rfl
theorem Ex.trans {w : Option Addr} {H H1 H2 : Hp} (e : Ex w H H1) (f : Ex w H1 H2) : Ex w H H2 := fun a n h => by
  have q := e a n h
  rw [f a (by rw [q]; exact n) h, q]
theorem Ex.weak {w : Option Addr} {H H' : Hp} (e : Ex none H H') : Ex w H H' := fun a n _ => e a n (by simp)
theorem Ex.at {w : Option Addr} {H H' : Hp} {a : Addr} {o : HO} (e : Ex w H H') (h : H a = some o) (n : nt (some o) = false) (hw : w ≠ some a) : H' a = some o := by
  rw [e a (by rw [h]; exact n) hw, h]
theorem Ex.nt {w : Option Addr} {H H' : Hp} {a : Addr} (e : Ex w H H') (h : nt (H' a) = true) (hw : w ≠ some a) : nt (H a) = true := by
  cases q : SN.nt (H a) with
  | true => rfl
  | false =>
    rw [e a q hw, q] at h
    cases h
theorem ex_new {H : Hp} {p : Addr} {o : HO} (h : SN.nt (H p) = true) : Ex none H (upd H p o) := fun a n _ => by
  have hne : a ≠ p := fun z => by rw [z, h] at n; cases n
  exact upd_ne hne
theorem ex_new' {H : Hp} {p : Addr} {o : HO} (h : H p = none) : Ex none H (upd H p o) := ex_new (by rw [h]; rfl)
theorem ex_of_extN {H H' : Hp} (e : ExtN H H') : Ex none H H' := fun a n _ => by
  cases q : H a with
  | none => rw [q] at n; cases n
  | some o => exact e a o q fun ps z => by rw [q, z] at n; cases n
/-- the heap at the addresses that B allows -/
def rs (B : Addr → Bool) (H : Hp) : Hp := fun a => if B a = true then H a else none
theorem rs_ex {B : Addr → Bool} {H : Hp} : Ex none (rs B H) H := fun a n _ => by
  unfold rs at n ⊢
  by_cases h : B a = true
  · rw [if_pos h]
  · rw [if_neg h] at n; cases n
theorem rs_mono {B B' : Addr → Bool} {w : Option Addr} {H H' : Hp} (hB : ∀ a, SN.nt (H a) = false → B a = true → B' a = true) (e : Ex w H H') (hw : ∀ a, w = some a → B a = false ∨ SN.nt (H a) = true) : Ex none (rs B H) (rs B' H') := fun a n _ => by
  unfold rs at n ⊢
  by_cases h : B a = true
  · rw [if_pos h] at n ⊢
    rw [if_pos (hB a n h)]
    refine e a n fun z => ?_
    rcases hw a z with q | q
    · rw [q] at h; cases h
    · rw [q] at n; cases n
  · rw [if_neg h] at n; cases n

/-! ### data in the heap -/
mutual
inductive Da (H : Hp) : V → PD → Prop
  | non : Da H .non .none
  | bl (b : Bool) : Da H (.bl b) (.bool b)
  | int (i : Int) : Da H (.int i) (.int i)
  | str (x : Str) : Da H (.str x) (.str x)
  | lst {a : Addr} {xs : List V} {ds : List PD} : H a = some (.lst xs) → Das H xs ds → Da H (.ref a) (.list ds)
  | tup {a : Addr} {xs : List V} {ds : List PD} : H a = some (.tup xs) → Das H xs ds → Da H (.ref a) (.tuple ds)
inductive Das (H : Hp) : List V → List PD → Prop
  | nil : Das H [] []
  | cons {v : V} {vs : List V} {d : PD} {ds : List PD} : Da H v d → Das H vs ds → Das H (v :: vs) (d :: ds)
end
mutual
theorem Da.ex {H H' : Hp} (e : Ex none H H') : ∀ {v : V} {d : PD}, Da H v d → Da H' v d
  | _, _, .non => .non
  | _, _, .bl b => .bl b
  | _, _, .int i => .int i
  | _, _, .str x => .str x
  | _, _, .lst h t => .lst (e.at h rfl (by simp)) (Das.ex e t)
  | _, _, .tup h t => .tup (e.at h rfl (by simp)) (Das.ex e t)
theorem Das.ex {H H' : Hp} (e : Ex none H H') : ∀ {vs : List V} {ds : List PD}, Das H vs ds → Das H' vs ds
  | _, _, .nil => .nil
  | _, _, .cons h t => .cons (Da.ex e h) (Das.ex e t)
end
mutual
theorem Da.dp {K : PySem.W.Frag} {H : Hp} : ∀ {v : V} {d : PD}, Da H v d → Dp K H v d
  | _, _, .non => .non
  | _, _, .bl b => .bl b
  | _, _, .int i => .int i
  | _, _, .str x => .str x
  | _, _, .lst h t => .lst (SqL.of h) (Das.dp t)
  | _, _, .tup h t => .tup (SqT.of h) (Das.dp t)
theorem Das.dp {K : PySem.W.Frag} {H : Hp} : ∀ {vs : List V} {ds : List PD}, Das H vs ds → DpAll K H vs ds
  | _, _, .nil => .nil
  | _, _, .cons h t => .cons (Da.dp h) (Das.dp t)
end
section
variable {H H' : Hp} {v : V} {vs xs : List V} {d : PD} {ds es : List PD}
theorem Da.int_inv {i : Int} (h : Da H v (.int i)) : v = .int i := by cases h; rfl
theorem Da.bool_inv {b : Bool} (h : Da H v (.bool b)) : v = .bl b := by cases h; rfl
theorem Da.none_inv (h : Da H v .none) : v = .non := by cases h; rfl
theorem Da.str_inv {x : Str} (h : Da H v (.str x)) : v = .str x := by cases h; rfl
theorem Da.list_inv (h : Da H v (.list ds)) : ∃ a xs, v = .ref a ∧ H a = some (.lst xs) ∧ Das H xs ds := by cases h with | lst a b => exact ⟨_, _, rfl, a, b⟩
theorem Da.tuple_inv (h : Da H v (.tuple ds)) : ∃ a xs, v = .ref a ∧ H a = some (.tup xs) ∧ Das H xs ds := by cases h with | tup a b => exact ⟨_, _, rfl, a, b⟩
theorem Das.length : ∀ {vs : List V} {ds : List PD}, Das H vs ds → vs.length = ds.length
  | _, _, .nil => rfl
  | _, _, .cons _ t => congrArg (· + 1) (Das.length t)
theorem Das.get : ∀ {vs : List V} {ds : List PD} {i : Nat} {d : PD}, Das H vs ds → ds[i]? = some d → ∃ v, vs[i]? = some v ∧ Da H v d
  | _, _, _, _, .nil, h => by simp at h
  | _, _, 0, _, .cons a _, h => by
    simp at h; subst h
    exact ⟨_, rfl, a⟩
  | _, _, i + 1, _, .cons _ t, h => by
    obtain ⟨v, h1, h2⟩ := Das.get (i := i) t (by simpa using h)
    exact ⟨v, by simpa using h1, h2⟩
theorem Das.get' : ∀ {vs : List V} {ds : List PD} {i : Nat} {v : V}, Das H vs ds → vs[i]? = some v → ∃ d, ds[i]? = some d ∧ Da H v d
  | _, _, _, _, .nil, h => by simp at h
  | _, _, 0, _, .cons a _, h => by
    simp at h; subst h
    exact ⟨_, rfl, a⟩
  | _, _, i + 1, _, .cons _ t, h => by
    obtain ⟨v, h1, h2⟩ := Das.get' (i := i) t (by simpa using h)
    exact ⟨v, by simpa using h1, h2⟩
theorem Das.append : ∀ {vs us : List V} {ds es : List PD}, Das H vs ds → Das H us es → Das H (vs ++ us) (ds ++ es)
  | _, _, _, _, .nil, h => h
  | _, _, _, _, .cons a t, h => .cons a (Das.append t h)
theorem Das.one {v : V} {d : PD} (h : Da H v d) : Das H [v] [d] := .cons h .nil
theorem Das.set {v : V} {d : PD} (h : Da H v d) : ∀ {vs : List V} {ds : List PD} (i : Nat), Das H vs ds → Das H (vs.set i v) (ds.set i d)
  | _, _, _, .nil => .nil
  | _, _, 0, .cons _ t => .cons h t
  | _, _, i + 1, .cons a t => .cons a (Das.set h i t)
theorem Das.ints : ∀ {vs : List V} {ns : List Int}, Das H vs (ns.map .int) → vs = ns.map .int
  | _, [], .nil => rfl
  | _, n :: ns, .cons a t => by rw [a.int_inv, Das.ints t]; rfl
theorem Das.of_ints : ∀ (ns : List Int), Das H (ns.map .int) (ns.map .int)
  | [] => .nil
  | n :: ns => .cons (.int n) (Das.of_ints ns)
theorem Das.bools : ∀ {vs : List V} {bs : List Bool}, Das H vs (bs.map .bool) → vs = bs.map .bl
  | _, [], .nil => rfl
  | _, n :: ns, .cons a t => by rw [a.bool_inv, Das.bools t]; rfl
theorem Das.take : ∀ {vs : List V} {ds : List PD} (n : Nat), Das H vs ds → Das H (vs.take n) (ds.take n)
  | _, _, 0, _ => .nil
  | _, _, _ + 1, .nil => .nil
  | _, _, n + 1, .cons a t => .cons a (Das.take n t)
theorem Das.drop : ∀ {vs : List V} {ds : List PD} (n : Nat), Das H vs ds → Das H (vs.drop n) (ds.drop n)
  | _, _, 0, h => h
  | _, _, _ + 1, .nil => .nil
  | _, _, n + 1, .cons _ t => Das.drop n t
theorem Das.reverse : ∀ {vs : List V} {ds : List PD}, Das H vs ds → Das H vs.reverse ds.reverse
  | _, _, .nil => .nil
  | _, _, .cons a t => by
    rw [List.reverse_cons, List.reverse_cons]
    exact (Das.reverse t).append (.one a)
end
/-- data without parts -/
def scal : PD → Bool
  | .none => true
  | .bool _ => true
  | .int _ => true
  | .str _ => true
  | _ => false
theorem Da.scal {H H' : Hp} {v : V} {d : PD} (h : Da H v d) (s : scal d = true) : Da H' v d := by
  cases h with
  | non => exact .non
  | bl b => exact .bl b
  | int i => exact .int i
  | str x => exact .str x
  | lst _ _ => cases s
  | tup _ _ => cases s

/-! ### tables and the well -/
def WellIs (w : Option Addr) (W : List Int) (H : Hp) : Prop := ∀ a, w = some a → H a = some (.lst (W.map .int))
structure Hs (T : List (Addr × Str)) (w : Option Addr) (W : List Int) (H : Hp) : Prop where
  tabs : Tabs T H
  well : WellIs w W H
theorem codeO_nt {c : Addr} {q : Str} : nt (some (CodeO c q)) = false := rfl
/-- an untracked address written, or one that is not table or code -/
theorem tabs_upd {T : List (Addr × Str)} {H : Hp} {p : Addr} {o : HO} (t : Tabs T H) (h : H p = none ∨ (∃ xs, H p = some (.lst xs)) ∨ ∃ kvs, H p = some (.dK kvs)) : Tabs T (upd H p o) := fun q hq => by
  obtain ⟨ps, h1, h2, h3⟩ := t q hq
  have n1 : q.1 ≠ p := fun z => by
    rw [z] at h1
    rcases h with h | ⟨xs, h⟩ | ⟨xs, h⟩ <;> (rw [h] at h1; cases h1)
  refine ⟨ps, by rw [upd_ne n1]; exact h1, h2, fun pos cv hc => ?_⟩
  obtain ⟨c, e1, e2⟩ := h3 pos cv hc
  have n2 : c ≠ p := fun z => by
    rw [z] at e2
    unfold CodeO at e2
    rcases h with h | ⟨xs, h⟩ | ⟨xs, h⟩ <;> (rw [h] at e2; cases e2)
  exact ⟨c, e1, by rw [upd_ne n2]; exact e2⟩
theorem tabs_new {T : List (Addr × Str)} {H : Hp} {p : Addr} {o : HO} (t : Tabs T H) (h : H p = none) : Tabs T (upd H p o) := tabs_upd t (.inl h)
theorem hs_new {T : List (Addr × Str)} {w : Option Addr} {W : List Int} {H : Hp} {p : Addr} {o : HO} (t : Hs T w W H) (h : H p = none) : Hs T w W (upd H p o) :=
  ⟨tabs_new t.tabs h, fun a e => by
    rw [upd_ne (fun z => by rw [← z] at h; rw [t.well a e] at h; cases h)]
    exact t.well a e⟩
/-- the well is none of the addresses in B -/
def Off (w : Option Addr) (B : Addr → Bool) (H : Hp) : Prop := ∀ a, w = some a → B a = false ∧ nt (H a) = true
/-- what may be named by a result: B, and what is new since H -/
def al (B : Addr → Bool) (H : Hp) : Addr → Bool := fun a => B a || nt (H a)
theorem al_new {B : Addr → Bool} {H : Hp} {a : Addr} (h : nt (H a) = true) : al B H a = true := by unfold al; rw [h]; simp
theorem al_B {B : Addr → Bool} {H : Hp} {a : Addr} (h : B a = true) : al B H a = true := by unfold al; rw [h]; simp
section
variable {T : List (Addr × Str)} {w : Option Addr} {W W1 W2 W3 : List Int} {B : Addr → Bool} {Ha H1 H2 H3 : Hp}
theorem al_off (o : Off w B Ha) (h1 : WellIs w W H1) : ∀ a, w = some a → al B H1 a = false ∨ nt (H2 a) = true := fun a e => by
  refine .inl ?_
  unfold al
  rw [(o a e).1, h1 a e]
  rfl
/-- what a result is made of stays behind a further step -/
theorem rs_step (o : Off w B Ha) (h1 : WellIs w W H1) (e : Ex w H2 H3) : Ex none (rs (al B H1) H2) (rs (al B H1) H3) := rs_mono (fun _ _ h => h) e (al_off o h1)
/-- what is new since later is new since earlier -/
theorem rs_left (h1 : WellIs w W1 H1) (h2 : WellIs w W2 H2) (e : Ex w H1 H2) : Ex none (rs (al B H2) H3) (rs (al B H1) H3) := by
  refine rs_mono (w := none) (fun a _ h => ?_) (Ex.refl H3) (fun a z => by cases z)
  unfold al at h ⊢
  rw [Bool.or_eq_true] at h ⊢
  rcases h with h | h
  · exact .inl h
  · by_cases hw : w = some a
    · rw [h2 a hw] at h; cases h
    · exact .inr (e.nt h hw)
/-- what is known ahead is kept -/
theorem rs_known (o : Off w B Ha) (e : Ex none Ha H1) (f : Ex w H1 H2) (h1 : WellIs w W H1) : Ex none (rs B Ha) (rs (al B H1) H2) := fun a n _ => by
  unfold rs at n ⊢
  by_cases h : B a = true
  · rw [if_pos h] at n ⊢
    rw [if_pos (al_B h)]
    have hw : w ≠ some a := fun z => by rw [(o a z).1] at h; cases h
    have q := e a n (by simp)
    rw [f a (by rw [q]; exact n) hw, q]
  · rw [if_neg h] at n; cases n
theorem ha_step (o : Off w B Ha) (e : Ex none Ha H1) (f : Ex w H1 H2) : Ex none Ha H2 := fun a n _ => by
  have hw : w ≠ some a := fun z => by rw [(o a z).2] at n; cases n
  have q := e a n (by simp)
  rw [f a (by rw [q]; exact n) hw, q]
end
end SN
end
section
set_option Elab.async false
set_option linter.all false
set_option maxRecDepth 100000
set_option maxHeartbeats 4000000
/-! S2: the judgement EvD (an expression evaluates to data), tests, arguments, operations. -/
namespace SN
open PySem L2 LamX

/-- what is fixed through the whole law -/
structure Gs where
  P : Program
  w : World
  K : PySem.W.Frag
  mg : Str → Option Value
  base : Heap
  k : Nat
  N : List Str
  T : List (Addr × Str)
  wl : Option Addr
  ws : Nat

/-- a context over it, in a scope -/
structure GX (g : Gs) (sc : Scope) (X : Cx) : Prop where
  prog : X.prog = g.P
  w : X.w = g.w
  K : X.K = g.K
  mg : X.mg = g.mg
  base : X.base = g.base
  N : X.N = g.N
  nd : X.N.Nodup
  sc : X.env.scope = sc
  calm : X.calm = true
  room : Room g.k X.A
  code : X.env.scope.kind = .function
  gd : X.A.guards = some []
  nv : X.xe = fun _ _ => False

/-- a name of the def's own, a global one, by the scope's text -/
def visB (sc : Scope) (n : Str) : Bool := match sc.names.lookup n with
  | some .local => true
  | some .cell => true
  | some .free => true
  | _ => false
def glB (sc : Scope) (n : Str) : Bool := match sc.names.lookup n with
  | some .globalImplicit => true
  | _ => false
theorem vis_of {sc : Scope} {n : Str} (h : visB sc n = true) : Vis sc n := by
  unfold visB at h
  unfold Vis
  split at h <;> first | exact .inl (by assumption) | exact .inr (.inl (by assumption)) | exact .inr (.inr (by assumption)) | cases h
theorem gl_of {sc : Scope} {n : Str} {X : Cx} (e : X.env.scope = sc) (h : glB sc n = true) : Gl X n := by
  unfold glB at h
  rw [← e] at h
  split at h
  · assumption
  · cases h

def wA (g : Gs) (sc : Scope) (e : Expr) : TE := fun σ H Q => ∀ X, GX g sc X → ∀ pins s, Inv X pins σ H s → wpAny (model X.prog X.w) X.A (eval e X.env) (EP X pins σ Q) X.xe s
def wT (g : Gs) (sc : Scope) (e : Expr) : TT := fun σ H Q => ∀ X, GX g sc X → ∀ pins s, Inv X pins σ H s → wpAny (model X.prog X.w) X.A (isTrue e X.env (eval e X.env)) (TP X pins σ Q) X.xe s
def wAs (g : Gs) (sc : Scope) : List Expr → TA
  | [] => tNil
  | e :: es => tCons (wA g sc e) (wAs g sc es)
section
variable {g : Gs} {sc : Scope} {X : Cx} {e : Expr} {es : List Expr} {σ : L2.St} {H : Hp} {Q Q' : VK}
theorem wA.pe (gx : GX g sc X) : PE X e (wA g sc e) := ⟨fun pins s σ H Q I h => h X gx pins s I⟩
theorem wT.pt (gx : GX g sc X) : PT X e (wT g sc e) := ⟨fun pins s σ H Q I h => h X gx pins s I⟩
theorem wA.of (h : ∀ X, GX g sc X → ∃ t : TE, PE X e t ∧ t σ H Q) : wA g sc e σ H Q := fun X gx pins s I => by
  obtain ⟨t, p, q⟩ := h X gx
  exact p.run pins s σ H Q I q
theorem wT.of {Q : Bool → Hp → Prop} (h : ∀ X, GX g sc X → ∃ t : TT, PT X e t ∧ t σ H Q) : wT g sc e σ H Q := fun X gx pins s I => by
  obtain ⟨t, p, q⟩ := h X gx
  exact p.run pins s σ H Q I q
theorem wA.mono (h : wA g sc e σ H Q) (k : ∀ v H', Q v H' → Q' v H') : wA g sc e σ H Q' := fun X gx pins s I =>
  thn (h X gx pins s I) fun u s' ⟨v, H', I', r, q⟩ => ⟨v, H', I', r, k v H' q⟩
def nostar : Expr → Bool
  | .Starred _ _ => false
  | _ => true
theorem star_no (env : Env) (h : nostar e = true) : starEach (e :: es) env = (false, eval e env) :: starEach es env := by
  cases e <;> first | rfl | cases h
theorem backTo_plain (pos : Pos) (env : Env) : ∀ {es : List Expr}, es.all nostar = true → (backTo pos (starEach es env)).any (·.1) = false
  | [], _ => rfl
  | e :: es, h => by
    rw [List.all_cons, Bool.and_eq_true] at h
    rw [star_no env h.1]
    show ((false, _) :: backTo pos (starEach es env)).any (·.1) = false
    rw [List.any_cons, backTo_plain pos env h.2]
    rfl
theorem wAs.pa (gx : GX g sc X) : ∀ {es : List Expr}, es.all nostar = true → PA X es (wAs g sc es)
  | [], _ => pa_nil
  | e :: es, h => by
    rw [List.all_cons, Bool.and_eq_true] at h
    exact pa_cons (wA.pe gx) (wAs.pa gx h.2) (star_no _ h.1)
end

/-- a step of the machine that lays new objects alone -/
def New (H H' : Hp) : Prop := Ex none H H' ∧ ∀ (T : List (Addr × Str)) (w : Option Addr) (W : List Int), Hs T w W H → Hs T w W H'
theorem New.refl (H : Hp) : New H H := ⟨Ex.refl H, fun _ _ _ h => h⟩
theorem New.trans {H H1 H2 : Hp} (a : New H H1) (b : New H1 H2) : New H H2 := ⟨a.1.trans b.1, fun T w W h => b.2 T w W (a.2 T w W h)⟩
theorem New.upd {H : Hp} {p : Addr} {o : HO} (h : H p = none) : New H (upd H p o) := ⟨ex_new' h, fun _ _ _ t => hs_new t h⟩

/-! ### evaluates to data -/
/-- what a caller wants behind an evaluation that began in H1 and may name B and what is new -/
def Aft (g : Gs) (B : Addr → Bool) (H1 : Hp) (d : PD) (W' : List Int) (Q : VK) : Prop := ∀ v H2, Ex g.wl H1 H2 → Hs g.T g.wl W' H2 → Da (rs (al B H1) H2) v d → Q v H2
def EvD (g : Gs) (sc : Scope) (σ : L2.St) (Ha : Hp) (B : Addr → Bool) (W : List Int) (e : Expr) (d : PD) (W' : List Int) : Prop :=
  ∀ H1, Ex none Ha H1 → Hs g.T g.wl W H1 → ∀ Q : VK, Aft g B H1 d W' Q → wA g sc e σ H1 Q
def EvT (g : Gs) (sc : Scope) (σ : L2.St) (Ha : Hp) (W : List Int) (e : Expr) (b : Bool) (W' : List Int) : Prop :=
  ∀ H1, Ex none Ha H1 → Hs g.T g.wl W H1 → ∀ Q : Bool → Hp → Prop, (∀ H2, Ex g.wl H1 H2 → Hs g.T g.wl W' H2 → Q b H2) → wT g sc e σ H1 Q
def AftS (g : Gs) (B : Addr → Bool) (H1 : Hp) (ds : List PD) (W' : List Int) (Q : List V → Hp → Prop) : Prop := ∀ vs H2, Ex g.wl H1 H2 → Hs g.T g.wl W' H2 → Das (rs (al B H1) H2) vs ds → Q vs H2
def EvS (g : Gs) (sc : Scope) (σ : L2.St) (Ha : Hp) (B : Addr → Bool) (W : List Int) (es : List Expr) (ds : List PD) (W' : List Int) : Prop :=
  ∀ H1, Ex none Ha H1 → Hs g.T g.wl W H1 → ∀ Q : List V → Hp → Prop, AftS g B H1 ds W' Q → wAs g sc es σ H1 Q
section
variable {g : Gs} {sc : Scope} {σ : L2.St} {Ha H1 : Hp} {B : Addr → Bool} {W W1 W2 W3 : List Int} {a b c e : Expr} {es : List Expr} {x y z d : PD} {ds : List PD}
/-- what is new since H1 where B and H1 speak -/
theorem al_of_nt {H2 : Hp} (f : Ex g.wl H1 H2) (h2 : Hs g.T g.wl W2 H2) {p : Addr} (n : nt (H2 p) = true) : al B H1 p = true := by
  refine al_new (f.nt n fun z => ?_)
  rw [h2.well p z] at n
  cases n
/-- the loose reading: a result may name all that is known -/
theorem EvD.scal {B' : Addr → Bool} (h : EvD g sc σ Ha B' W e d W') (s : SN.scal d = true) : EvD g sc σ Ha B W e d W' := fun H1 e hs Q q =>
  h H1 e hs Q fun v H2 f hs2 dv => q v H2 f hs2 (dv.scal s)
theorem ed_var {i : Nat} {n : Str} {pos : Pos} {v : V} (o : Off g.wl B Ha) (hN : g.N[i]? = some n) (hv : visB sc n = true) (h1 : (n == ("__debug__" : Str)) = false) (h2 : (n == ("__classdict__" : Str)) = false)
    (hs : σ[i]? = some (some v)) (hd : Da (rs B Ha) v d) : EvD g sc σ Ha B W (.Name n pos) d W := fun H1 e t Q q => wA.of fun X gx =>
  ⟨_, pe_var (i := i) (by rw [gx.N]; exact hN) (by rw [gx.sc]; exact vis_of hv) h1 h2, v, hs, q v H1 (Ex.refl H1) t (hd.ex (rs_known o e (Ex.refl H1) t.well))⟩
theorem ed_int {i : Int} {j : Nat} {pos : Pos} : EvD g sc σ Ha B W (.Constant (.int i) j pos) (.int i) W := fun H1 e t Q q => wA.of fun X gx => ⟨_, pe_int, q _ H1 (Ex.refl H1) t (.int i)⟩
theorem ed_bool {i : Bool} {j : Nat} {pos : Pos} : EvD g sc σ Ha B W (.Constant (.bool i) j pos) (.bool i) W := fun H1 e t Q q => wA.of fun X gx => ⟨_, pe_bl, q _ H1 (Ex.refl H1) t (.bl i)⟩
theorem ed_none {j : Nat} {pos : Pos} : EvD g sc σ Ha B W (.Constant .none j pos) .none W := fun H1 e t Q q => wA.of fun X gx => ⟨_, pe_non, q _ H1 (Ex.refl H1) t .non⟩
theorem ed_str {i : Str} {j : Nat} {pos : Pos} : EvD g sc σ Ha B W (.Constant (.str i) j pos) (.str i) W := fun H1 e t Q q => wA.of fun X gx => ⟨_, pe_str, q _ H1 (Ex.refl H1) t (.str i)⟩
/-- a module's int -/
theorem ed_gint {i : Int} {n : Str} {t : Tok} {pos : Pos} (hg : glB sc n = true) (hm : g.mg n = some (.int i t)) (hd : (n == ("__debug__" : Str)) = false) : EvD g sc σ Ha B W (.Name n pos) (.int i) W := fun H1 e t Q q => wA.of fun X gx =>
  ⟨_, pe_glob (v := .int i) (gl_of gx.sc hg) (by rw [gx.mg]; exact hm) ⟨_, rfl⟩ hd, q _ H1 (Ex.refl H1) t (.int i)⟩

/-! ### two, three in a row -/
theorem two (o : Off g.wl B Ha) (ha : EvD g sc σ Ha B W a x W1) (hb : EvD g sc σ Ha B W1 b y W2) (e : Ex none Ha H1) (t : Hs g.T g.wl W H1) {R : V → V → Hp → Prop}
    (k : ∀ v u H2, Ex g.wl H1 H2 → Hs g.T g.wl W2 H2 → Da (rs (al B H1) H2) v x → Da (rs (al B H1) H2) u y → R v u H2) : wA g sc a σ H1 fun v H2 => wA g sc b σ H2 fun u H3 => R v u H3 :=
  ha H1 e t _ fun v H2 f t2 dv => hb H2 (ha_step o e f) t2 _ fun u H3 f3 t3 du => k v u H3 (f.trans f3) t3 (dv.ex (rs_step o t.well f3)) (du.ex (rs_left t.well t2.well f))
theorem es_nil : EvS g sc σ Ha B W [] [] W := fun H1 e t Q q => q [] H1 (Ex.refl H1) t .nil
theorem es_cons (o : Off g.wl B Ha) (ha : EvD g sc σ Ha B W a x W1) (hb : EvS g sc σ Ha B W1 es ds W2) : EvS g sc σ Ha B W (a :: es) (x :: ds) W2 := fun H1 e t Q q =>
  ha H1 e t _ fun v H2 f t2 dv => hb H2 (ha_step o e f) t2 _ fun us H3 f3 t3 du => q (v :: us) H3 (f.trans f3) t3 (.cons (dv.ex (rs_step o t.well f3)) (du.ex (rs_left t.well t2.well f)))

/-! ### operations on data -/
/-- from operands that may be named by B', the step gives d, named by B' or new -/
def R2D (r : R2) (x y d : PD) : Prop := ∀ (v u : V) (H : Hp) (B' : Addr → Bool) (Q : VK), (∀ p, nt (H p) = true → B' p = true) → Da (rs B' H) v x → Da (rs B' H) u y → (∀ z H', New H H' → Da (rs B' H') z d → Q z H') → r v u H Q
def R1D (r : V → Hp → VK → Prop) (x d : PD) : Prop := ∀ (v : V) (H : Hp) (B' : Addr → Bool) (Q : VK), (∀ p, nt (H p) = true → B' p = true) → Da (rs B' H) v x → (∀ z H', New H H' → Da (rs B' H') z d → Q z H') → r v H Q
def RSD (r : List V → Hp → VK → Prop) (xs : List PD) (d : PD) : Prop := ∀ (vs : List V) (H : Hp) (B' : Addr → Bool) (Q : VK), (∀ p, nt (H p) = true → B' p = true) → Das (rs B' H) vs xs → (∀ z H', New H H' → Da (rs B' H') z d → Q z H') → r vs H Q
def OpD (g : Gs) (f : Value → Value → Sem Value) (x y d : PD) : Prop := ∀ X sc, GX g sc X → ∃ r, OpR X f r ∧ R2D r x y d
def UnD (g : Gs) (f : Value → Sem Value) (x d : PD) : Prop := ∀ X sc, GX g sc X → ∃ r, UnR X f r ∧ R1D r x d
def IxD (g : Gs) (x y d : PD) : Prop := ∀ X sc, GX g sc X → ∃ r, IxR X r ∧ R2D r x y d
def CaD (g : Gs) (f : Value) (xs : List PD) (d : PD) : Prop := ∀ X sc, GX g sc X → ∃ r, CallR X f r ∧ RSD r xs d
theorem aft_new {H2 : Hp} {Q : VK} (t : Hs g.T g.wl W H1) (f : Ex g.wl H1 H2) (t2 : Hs g.T g.wl W2 H2) (q : Aft g B H1 d W2 Q) : ∀ z H', New H2 H' → Da (rs (al B H1) H') z d → Q z H' := fun z H' n dz =>
  q z H' (f.trans n.1.weak) (n.2 _ _ _ t2) dz
theorem ed_bin {op : Operator} {pos : Pos} (o : Off g.wl B Ha) (ha : EvD g sc σ Ha B W a x W1) (hb : EvD g sc σ Ha B W1 b y W2) (h : OpD g (binaryOp op) x y d) : EvD g sc σ Ha B W (.BinOp a op b pos) d W2 := fun H1 e t Q q => wA.of fun X gx => by
  obtain ⟨r, ho, hr⟩ := h X sc gx
  exact ⟨_, pe_op ho (wA.pe gx) (wA.pe gx), two o ha hb e t fun v u H2 f t2 dv du => hr v u H2 (al B H1) Q (fun p n => al_of_nt f t2 n) dv du (aft_new t f t2 q)⟩
theorem ed_cmp {op : CmpOp} {pos : Pos} (o : Off g.wl B Ha) (hm : behindInMarks op b = false) (ha : EvD g sc σ Ha B W a x W1) (hb : EvD g sc σ Ha B W1 b y W2) (h : OpD g (compareOp op) x y d) : EvD g sc σ Ha B W (.Compare a [op] [b] pos) d W2 := fun H1 e t Q q => wA.of fun X gx => by
  obtain ⟨r, ho, hr⟩ := h X sc gx
  exact ⟨_, pe_cmpR ho (wA.pe gx) (wA.pe gx) hm, two o ha hb e t fun v u H2 f t2 dv du => hr v u H2 (al B H1) Q (fun p n => al_of_nt f t2 n) dv du (aft_new t f t2 q)⟩
theorem ed_un {op : UnaryOp} {pos : Pos} (ha : EvD g sc σ Ha B W a x W1) (h : UnD g (unaryOp op) x d) : EvD g sc σ Ha B W (.UnaryOp op a pos) d W1 := fun H1 e t Q q => wA.of fun X gx => by
  obtain ⟨r, ho, hr⟩ := h X sc gx
  exact ⟨_, pe_un ho (wA.pe gx), ha H1 e t _ fun v H2 f t2 dv => hr v H2 (al B H1) Q (fun p n => al_of_nt f t2 n) dv (aft_new t f t2 q)⟩
theorem ed_ix {pos : Pos} (o : Off g.wl B Ha) (hs : PlainIx b) (ha : EvD g sc σ Ha B W a x W1) (hb : EvD g sc σ Ha B W1 b y W2) (h : IxD g x y d) : EvD g sc σ Ha B W (.Subscript a b pos) d W2 := fun H1 e t Q q => wA.of fun X gx => by
  obtain ⟨r, ho, hr⟩ := h X sc gx
  exact ⟨_, pe_ix ho (wA.pe gx) (wA.pe gx) hs, two o ha hb e t fun v u H2 f t2 dv du => hr v u H2 (al B H1) Q (fun p n => al_of_nt f t2 n) dv du (aft_new t f t2 q)⟩
theorem ed_callB {n : Str} {id : String} {p pos : Pos} (hn : n ≠ "__name__") (hdb : (n == ("__debug__" : Str)) = false) (hg : glB sc n = true) (hm : g.mg n = none) (hv : bootBuiltins n = some (.builtin id)) (hst : (a :: es).all nostar = true)
    (ha : EvS g sc σ Ha B W (a :: es) ds W1) (h : CaD g (.builtin id) ds d) : EvD g sc σ Ha B W (.Call (.Name n p) (a :: es) [] pos) d W1 := fun H1 e t Q q => wA.of fun X gx => by
  obtain ⟨r, ho, hr⟩ := h X sc gx
  have hst' := hst
  rw [List.all_cons, Bool.and_eq_true] at hst'
  exact ⟨_, pe_callB ho (gl_of gx.sc hg) (by rw [gx.mg]; exact hm) hv (wAs.pa gx hst) hn hdb (star_no _ hst'.1) (backTo_plain _ _ hst'.2), ha H1 e t _ fun vs H2 f t2 dv => hr vs H2 (al B H1) Q (fun p n => al_of_nt f t2 n) dv (aft_new t f t2 q)⟩
theorem ed_callTy {n : Str} {id : String} {p pos : Pos} (hn : n ≠ "__name__") (hdb : (n == ("__debug__" : Str)) = false) (hg : glB sc n = true) (hm : g.mg n = none) (hv : bootBuiltins n = some (.type id)) (hst : (a :: es).all nostar = true)
    (ha : EvS g sc σ Ha B W (a :: es) ds W1) (h : CaD g (.type id) ds d) : EvD g sc σ Ha B W (.Call (.Name n p) (a :: es) [] pos) d W1 := fun H1 e t Q q => wA.of fun X gx => by
  obtain ⟨r, ho, hr⟩ := h X sc gx
  have hst' := hst
  rw [List.all_cons, Bool.and_eq_true] at hst'
  exact ⟨_, pe_callTy ho (gl_of gx.sc hg) (by rw [gx.mg]; exact hm) hv (wAs.pa gx hst) hn hdb (star_no _ hst'.1) (backTo_plain _ _ hst'.2), ha H1 e t _ fun vs H2 f t2 dv => hr vs H2 (al B H1) Q (fun p n => al_of_nt f t2 n) dv (aft_new t f t2 q)⟩
/-- a tuple, a list of written items -/
theorem ed_tup {k : Nat} {pos : Pos} (hst : es.all nostar = true) (hl : ds.length ≤ 1000) (ha : EvS g sc σ Ha B W es ds W1) : EvD g sc σ Ha B W (.Tuple es k pos) (.tuple ds) W1 := fun H1 e t Q q => wA.of fun X gx =>
  ⟨_, pe_tup (wAs.pa gx hst), ha H1 e t _ fun vs H2 f t2 dv => ⟨by rw [dv.length]; exact Nat.le_of_lt (small1000 hl), fun p hp => q _ _ (f.trans (New.upd hp).1.weak) ((New.upd hp).2 _ _ _ t2) (by
    have hB : al B H1 p = true := al_of_nt f t2 (by rw [hp]; rfl)
    refine .tup (a := p) (xs := vs) ?_ (dv.ex ?_)
    · unfold rs
      rw [if_pos hB, upd_same]
    · exact rs_step (w := none) (Ha := fun _ => none) (W := []) (fun _ z => by cases z) (fun _ z => by cases z) (New.upd hp).1)⟩⟩
theorem ed_lst {pos : Pos} (hst : es.all nostar = true) (hl : ds.length ≤ 1000) (ha : EvS g sc σ Ha B W es ds W1) : EvD g sc σ Ha B W (.List es pos) (.list ds) W1 := fun H1 e t Q q => wA.of fun X gx =>
  ⟨_, pe_lst (wAs.pa gx hst), ha H1 e t _ fun vs H2 f t2 dv => ⟨by rw [dv.length]; exact Nat.le_of_lt (small1000 hl), fun p hp => q _ _ (f.trans (New.upd hp).1.weak) ((New.upd hp).2 _ _ _ t2) (by
    have hB : al B H1 p = true := al_of_nt f t2 (by rw [hp]; rfl)
    refine .lst (a := p) (xs := vs) ?_ (dv.ex ?_)
    · unfold rs
      rw [if_pos hB, upd_same]
    · exact rs_step (w := none) (Ha := fun _ => none) (W := []) (fun _ z => by cases z) (fun _ z => by cases z) (New.upd hp).1)⟩⟩
end
end SN
end
section
set_option Elab.async false
set_option linter.all false
set_option maxRecDepth 100000
set_option maxHeartbeats 4000000
/-! S3: Python's operations as functions on data, and that the model does what they say. -/
namespace SN
open PySem L2 LamX

def big : Nat := 100000
theorem big_le {n : Nat} (h : n ≤ big) : n ≤ sizeLine := Nat.le_trans h (by decide)
theorem big_lt {n : Nat} (h : n ≤ big) : n < sizeLine := Nat.lt_of_le_of_lt h (by decide)

/-! ### the functions -/
def pyBin (op : Operator) (x y : PD) : Option PD :=
  match op, x, y with
  | .Add, .int i, .int j => some (.int (i + j))
  | .Add, .list a, .list b => if a.length + b.length ≤ big then some (.list (a ++ b)) else none
  | .Add, .tuple a, .tuple b => if a.length + b.length ≤ big then some (.tuple (a ++ b)) else none
  | .Sub, .int i, .int j => some (.int (i - j))
  | .Mult, .int i, .int j => if (-(2 ^ 64) < i ∧ i < 2 ^ 64) ∨ (-(2 ^ 64) < j ∧ j < 2 ^ 64) then some (.int (i * j)) else none
  | .Mult, .list [a], .int k => if 0 ≤ k ∧ k ≤ 1000 then some (.list (List.replicate k.toNat a)) else none
  | .Mod, .int i, .int j => if 0 < j then some (.int (i % j)) else none
  | .FloorDiv, .int i, .int j => if 0 < j ∧ j < 1073741824 then some (.int (i / j)) else none
  | .Pow, .int i, .int j => if 0 ≤ j ∧ j ≤ 1000000 ∧ i.natAbs < 2 ^ 64 then some (.int (i ^ j.toNat)) else none
  | .LShift, .int i, .int j => if 0 ≤ j ∧ j ≤ 1000000 ∧ i.natAbs < 2 ^ 64 then some (.int (i * 2 ^ j.toNat)) else none
  | .RShift, .int i, .int j => if 0 ≤ j then some (.int (i / 2 ^ j.toNat)) else none
  | .BitAnd, .int i, .int j => some (.int (Builtin.bitAnd i j))
  | .BitOr, .int i, .int j => some (.int (Builtin.bitOr i j))
  | _, _, _ => none
/-- flat data, as a value -/
def flat : PD → Option V
  | .none => some .non
  | .bool b => some (.bl b)
  | .int i => some (.int i)
  | .str s => some (.str s)
  | _ => none
def flats : List PD → Option (List V)
  | [] => some []
  | d :: ds => match flat d, flats ds with
    | some v, some vs => some (v :: vs)
    | _, _ => none
def pyIn (x y : PD) : Option Bool :=
  match flat x, y with
  | some v, .list ds => (flats ds).map fun vs => inV v vs
  | some v, .tuple ds => (flats ds).map fun vs => inV v vs
  | _, _ => none
def isNone : PD → Bool
  | .none => true
  | _ => false
def pyCmp (op : CmpOp) (x y : PD) : Option PD :=
  match op with
  | .Eq => if SeqAt.shaped x && SeqAt.shaped y then some (.bool (PyData.eqv x y)) else none
  | .NotEq => if SeqAt.shaped x && SeqAt.shaped y then some (.bool (!PyData.eqv x y)) else none
  | .Lt => match x, y with
    | .int i, .int j => some (.bool (decide (i < j)))
    | _, _ => none
  | .LtE => match x, y with
    | .int i, .int j => some (.bool (decide (i ≤ j)))
    | _, _ => none
  | .Gt => match x, y with
    | .int i, .int j => some (.bool (decide (j < i)))
    | _, _ => none
  | .GtE => match x, y with
    | .int i, .int j => some (.bool (decide (j ≤ i)))
    | _, _ => none
  | .In => (pyIn x y).map .bool
  | .NotIn => (pyIn x y).map fun b => .bool (!b)
  | .Is => match y with
    | .none => some (.bool (isNone x))
    | _ => none
  | .IsNot => match y with
    | .none => some (.bool (!isNone x))
    | _ => none
def pyIx (x y : PD) : Option PD :=
  match x, y with
  | .list ds, .int i => atI ds i
  | .tuple ds, .int i => atI ds i
  | _, _ => none
def pyTruth : PD → Option Bool
  | .bool b => some b
  | .int i => some (i != 0)
  | .none => some false
  | .list ds => some (!ds.isEmpty)
  | .tuple ds => some (!ds.isEmpty)
  | _ => none
def asInts : List PD → Option (List Int)
  | [] => some []
  | .int i :: ds => (asInts ds).map (i :: ·)
  | _ :: _ => none
def asBools : List PD → Option (List Bool)
  | [] => some []
  | .bool i :: ds => (asBools ds).map (i :: ·)
  | _ :: _ => none
theorem asInts_eq : ∀ {ds : List PD} {ns : List Int}, asInts ds = some ns → ds = ns.map .int
  | [], ns, h => by cases h; rfl
  | d :: ds, ns, h => by
    cases d with
    | int i =>
      unfold asInts at h
      cases q : asInts ds with
      | none => rw [q] at h; cases h
      | some ms =>
        rw [q] at h
        cases h
        rw [asInts_eq q]; rfl
    | _ => cases h
theorem asBools_eq : ∀ {ds : List PD} {ns : List Bool}, asBools ds = some ns → ds = ns.map .bool
  | [], ns, h => by cases h; rfl
  | d :: ds, ns, h => by
    cases d with
    | bool i =>
      unfold asBools at h
      cases q : asBools ds with
      | none => rw [q] at h; cases h
      | some ms =>
        rw [q] at h
        cases h
        rw [asBools_eq q]; rfl
    | _ => cases h
theorem asInts_map : ∀ ns : List Int, asInts (ns.map .int) = some ns
  | [] => rfl
  | n :: ns => by show (asInts (ns.map .int)).map _ = _; rw [asInts_map ns]; rfl
theorem asBools_map : ∀ ns : List Bool, asBools (ns.map .bool) = some ns
  | [] => rfl
  | n :: ns => by show (asBools (ns.map .bool)).map _ = _; rw [asBools_map ns]; rfl

/-! ### the model does so -/
section
variable {g : Gs} {x y d : PD}
theorem rs_at {B : Addr → Bool} {H : Hp} {p : Addr} {o : HO} (h : rs B H p = some o) : H p = some o ∧ B p = true := by
  unfold rs at h
  by_cases q : B p = true
  · rw [if_pos q] at h; exact ⟨h, q⟩
  · rw [if_neg q] at h; cases h
theorem rs_put {B : Addr → Bool} {H : Hp} {p : Addr} {o : HO} (h : H p = some o) (q : B p = true) : rs B H p = some o := by
  unfold rs
  rw [if_pos q]
  exact h
theorem rs_new {B : Addr → Bool} {H H' : Hp} (n : New H H') : Ex none (rs B H) (rs B H') := rs_mono (fun _ _ h => h) n.1 fun _ z => by cases z
/-- a new list -/
theorem new_lst {B : Addr → Bool} {H : Hp} {p : Addr} {vs : List V} {ds : List PD} (hB : ∀ p, nt (H p) = true → B p = true) (hp : H p = none) (h : Das (rs B H) vs ds) : Da (rs B (upd H p (.lst vs))) (.ref p) (.list ds) :=
  .lst (rs_put upd_same (hB p (by rw [hp]; rfl))) (h.ex (rs_new (New.upd hp)))
theorem new_tup {B : Addr → Bool} {H : Hp} {p : Addr} {vs : List V} {ds : List PD} (hB : ∀ p, nt (H p) = true → B p = true) (hp : H p = none) (h : Das (rs B H) vs ds) : Da (rs B (upd H p (.tup vs))) (.ref p) (.tuple ds) :=
  .tup (rs_put upd_same (hB p (by rw [hp]; rfl))) (h.ex (rs_new (New.upd hp)))
theorem opd_I0 {f : Value → Value → Sem Value} {h : Int → Int → Int} {i j : Int} (r : ∀ X : Cx, OpR X f (rI0 fun i j => .int (h i j))) : OpD g f (.int i) (.int j) (.int (h i j)) := fun X sc gx => ⟨_, r X, fun v u H B Q hB dv du q => by
  rw [dv.int_inv, du.int_inv]
  exact ⟨i, j, rfl, rfl, q _ H (New.refl H) (.int _)⟩⟩
theorem opd_I {f : Value → Value → Sem Value} {C : Int → Int → Prop} {h : Int → Int → Int} {i j : Int} (hc : C i j) (r : ∀ X : Cx, OpR X f (rI C fun i j => .int (h i j))) : OpD g f (.int i) (.int j) (.int (h i j)) := fun X sc gx => ⟨_, r X, fun v u H B Q hB dv du q => by
  rw [dv.int_inv, du.int_inv]
  exact ⟨i, j, rfl, rfl, hc, q _ H (New.refl H) (.int _)⟩⟩
theorem opd_B0 {f : Value → Value → Sem Value} {h : Int → Int → Bool} {i j : Int} (r : ∀ X : Cx, OpR X f (rI0 fun i j => .bl (h i j))) : OpD g f (.int i) (.int j) (.bool (h i j)) := fun X sc gx => ⟨_, r X, fun v u H B Q hB dv du q => by
  rw [dv.int_inv, du.int_inv]
  exact ⟨i, j, rfl, rfl, q _ H (New.refl H) (.bl _)⟩⟩
theorem opd_cat {a b : List PD} (hl : a.length + b.length ≤ big) : OpD g (binaryOp .Add) (.list a) (.list b) (.list (a ++ b)) := fun X sc gx => ⟨_, op_cat, fun v u H B Q hB dv du q => by
  obtain ⟨p1, xs, rfl, h1, d1⟩ := dv.list_inv
  obtain ⟨p2, ys, rfl, h2, d2⟩ := du.list_inv
  exact ⟨p1, p2, xs, ys, rfl, rfl, (rs_at h1).1, (rs_at h2).1, by rw [d1.length, d2.length]; exact big_le hl, fun p hp => q _ _ (New.upd hp) (new_lst hB hp (d1.append d2))⟩⟩
theorem opd_catT {a b : List PD} (hl : a.length + b.length ≤ big) : OpD g (binaryOp .Add) (.tuple a) (.tuple b) (.tuple (a ++ b)) := fun X sc gx => ⟨_, op_catA, fun v u H B Q hB dv du q => by
  obtain ⟨p1, xs, rfl, h1, d1⟩ := dv.tuple_inv
  obtain ⟨p2, ys, rfl, h2, d2⟩ := du.tuple_inv
  refine ⟨p1, p2, xs, ys, rfl, rfl, SqT.of (rs_at h1).1, SqT.of (rs_at h2).1, by rw [d1.length, d2.length]; exact big_le hl, fun e => ?_, fun e e2 => ?_, fun e e2 p hp => q _ _ (New.upd hp) (new_tup hB hp (d1.append d2))⟩
  · have ea : a = [] := List.eq_nil_of_length_eq_zero (by rw [← d1.length, e]; rfl)
    rw [ea] at q
    exact q _ H (New.refl H) (.tup h2 d2)
  · have eb : b = [] := List.eq_nil_of_length_eq_zero (by rw [← d2.length, e2]; rfl)
    rw [eb, List.append_nil] at q
    exact q _ H (New.refl H) (.tup h1 d1)⟩
theorem Das.rep {H : Hp} {v : V} {d : PD} (h : Da H v d) : ∀ n : Nat, Das H (List.replicate n v) (List.replicate n d)
  | 0 => .nil
  | n + 1 => .cons h (Das.rep h n)
theorem opd_rep {a : PD} {k : Int} (hk : 0 ≤ k ∧ k ≤ 1000) : OpD g (binaryOp .Mult) (.list [a]) (.int k) (.list (List.replicate k.toNat a)) := fun X sc gx => ⟨_, op_rep, fun v u H B Q hB dv du q => by
  obtain ⟨p1, xs, rfl, h1, d1⟩ := dv.list_inv
  rw [du.int_inv]
  cases d1 with
  | cons d1 d2 =>
    cases d2
    rename_i w
    refine ⟨p1, k, [w], rfl, rfl, (rs_at h1).1, by omega, by omega, by
      rw [List.length_singleton]
      exact big_le (by unfold big; omega), fun p hp => q _ _ (New.upd hp) ?_⟩
    have e : (List.replicate k.toNat [w]).flatten = List.replicate k.toNat w := by
      induction k.toNat with
      | zero => rfl
      | succ n ih => rw [List.replicate_succ, List.flatten_cons, ih, List.replicate_succ]; rfl
    rw [e]
    exact new_lst hB hp (Das.rep d1 _)⟩
theorem pyBin_ok {op : Operator} (h : pyBin op x y = some d) : OpD g (binaryOp op) x y d := by
  unfold pyBin at h
  split at h
  · cases h; exact opd_I0 fun X => op_add
  · split at h
    · cases h; exact opd_cat (by assumption)
    · cases h
  · split at h
    · cases h; exact opd_catT (by assumption)
    · cases h
  · cases h; exact opd_I0 fun X => op_sub
  · split at h
    · cases h; exact opd_I (C := CMul) (by assumption) fun X => op_mul
    · cases h
  · split at h
    · cases h; exact opd_rep (by assumption)
    · cases h
  · split at h
    · cases h; exact opd_I (C := fun _ j => 0 < j) (by assumption) fun X => op_mod
    · cases h
  · split at h
    · cases h; exact opd_I (C := CDiv) (by assumption) fun X => op_fdiv
    · cases h
  · split at h
    · cases h; exact opd_I (C := CPow) (by assumption) fun X => op_pow
    · cases h
  · split at h
    · cases h; exact opd_I (C := CPow) (by assumption) fun X => op_shl
    · cases h
  · split at h
    · cases h; exact opd_I (C := fun _ j => 0 ≤ j) (by assumption) fun X => op_shr
    · cases h
  · cases h; exact opd_I0 fun X => op_and
  · cases h; exact opd_I0 fun X => op_or
  · cases h

/-! ### comparisons -/
theorem flat_da {H : Hp} {v u : V} (dv : Da H v x) (h : flat x = some u) : v = u ∧ flatV v = true := by
  cases dv with
  | non => cases h; exact ⟨rfl, rfl⟩
  | bl b => cases h; exact ⟨rfl, rfl⟩
  | int b => cases h; exact ⟨rfl, rfl⟩
  | str b => cases h; exact ⟨rfl, rfl⟩
  | lst _ _ => cases h
  | tup _ _ => cases h
theorem flats_da {H : Hp} : ∀ {vs us : List V} {ds : List PD}, Das H vs ds → flats ds = some us → vs = us ∧ vs.all flatV = true
  | _, _, [], .nil, h => by cases h; exact ⟨rfl, rfl⟩
  | _, _, d :: ds, .cons a t, h => by
    unfold flats at h
    cases q1 : flat d with
    | none => rw [q1] at h; cases h
    | some u =>
      cases q2 : flats ds with
      | none => rw [q1, q2] at h; cases h
      | some us =>
        rw [q1, q2] at h
        cases h
        obtain ⟨e1, f1⟩ := flat_da a q1
        obtain ⟨e2, f2⟩ := flats_da t q2
        rw [List.all_cons, f1, f2, e1, e2]
        exact ⟨rfl, rfl⟩
theorem opd_in {neg : Bool} {b : Bool} {f : Value → Value → Sem Value} (r : ∀ X : Cx, OpR X f (rIn X.K neg)) (h : pyIn x y = some b) : OpD g f x y (.bool (if neg then !b else b)) := fun X sc gx => ⟨_, r X, fun v u H B Q hB dv du q => by
  unfold pyIn at h
  split at h
  · rename_i w ds hf
    cases q2 : flats ds with
    | none => rw [q2] at h; cases h
    | some us =>
      rw [q2] at h
      cases h
      obtain ⟨e1, f1⟩ := flat_da dv hf
      obtain ⟨p, xs, rfl, h1, d1⟩ := du.list_inv
      obtain ⟨e2, f2⟩ := flats_da d1 q2
      refine ⟨p, xs, rfl, .inl (SqL.of (rs_at h1).1), f1, f2, q _ H (New.refl H) ?_⟩
      rw [e1, e2]
      exact .bl _
  · rename_i w ds hf
    cases q2 : flats ds with
    | none => rw [q2] at h; cases h
    | some us =>
      rw [q2] at h
      cases h
      obtain ⟨e1, f1⟩ := flat_da dv hf
      obtain ⟨p, xs, rfl, h1, d1⟩ := du.tuple_inv
      obtain ⟨e2, f2⟩ := flats_da d1 q2
      refine ⟨p, xs, rfl, .inr (SqT.of (rs_at h1).1), f1, f2, q _ H (New.refl H) ?_⟩
      rw [e1, e2]
      exact .bl _
  · cases h⟩
theorem GX.u64 {sc : Scope} {X : Cx} (gx : GX g sc X) : X.A.units + 64 < cLine := by
  have := gx.room.un
  omega
theorem opd_eq (hx : SeqAt.shaped x = true) (hy : SeqAt.shaped y = true) : OpD g (compareOp .Eq) x y (.bool (PyData.eqv x y)) := fun X sc gx => ⟨_, op_eqD gx.u64, fun v u H B Q hB dv du q =>
  ⟨x, y, (dv.ex rs_ex).dp, (du.ex rs_ex).dp, hx, hy, q _ H (New.refl H) (.bl _)⟩⟩
theorem opd_ne (hx : SeqAt.shaped x = true) (hy : SeqAt.shaped y = true) : OpD g (compareOp .NotEq) x y (.bool (!PyData.eqv x y)) := fun X sc gx => ⟨_, op_neD gx.u64, fun v u H B Q hB dv du q =>
  ⟨x, y, (dv.ex rs_ex).dp, (du.ex rs_ex).dp, hx, hy, q _ H (New.refl H) (.bl _)⟩⟩
theorem da_non {H : Hp} {v : V} (dv : Da H v x) : decide (v = .non) = isNone x := by cases dv <;> rfl
theorem pyCmp_ok {op : CmpOp} (h : pyCmp op x y = some d) : OpD g (compareOp op) x y d := by
  cases op with
  | Eq =>
    simp only [pyCmp] at h
    split at h
    · rename_i c
      rw [Bool.and_eq_true] at c
      cases h; exact opd_eq c.1 c.2
    · cases h
  | NotEq =>
    simp only [pyCmp] at h
    split at h
    · rename_i c
      rw [Bool.and_eq_true] at c
      cases h; exact opd_ne c.1 c.2
    · cases h
  | Lt =>
    simp only [pyCmp] at h
    split at h
    · cases h; exact opd_B0 fun X => op_lt
    · cases h
  | LtE =>
    simp only [pyCmp] at h
    split at h
    · cases h; exact opd_B0 fun X => op_le
    · cases h
  | Gt =>
    simp only [pyCmp] at h
    split at h
    · cases h; exact opd_B0 fun X => op_gt
    · cases h
  | GtE =>
    simp only [pyCmp] at h
    split at h
    · cases h; exact opd_B0 fun X => op_ge
    · cases h
  | In =>
    simp only [pyCmp] at h
    cases q : pyIn x y with
    | none => rw [q] at h; cases h
    | some b => rw [q] at h; cases h; exact opd_in (neg := false) (fun X => op_in_seq) q
  | NotIn =>
    simp only [pyCmp] at h
    cases q : pyIn x y with
    | none => rw [q] at h; cases h
    | some b => rw [q] at h; cases h; exact opd_in (neg := true) (fun X => op_notIn_seq) q
  | Is =>
    simp only [pyCmp] at h
    split at h
    · cases h
      refine fun X sc gx => ⟨_, op_isN, fun v u H B Q hB dv du q => ⟨du.none_inv, q _ H (New.refl H) ?_⟩⟩
      rw [da_non dv]
      exact .bl _
    · cases h
  | IsNot =>
    simp only [pyCmp] at h
    split at h
    · cases h
      refine fun X sc gx => ⟨_, op_notN, fun v u H B Q hB dv du q => ⟨du.none_inv, q _ H (New.refl H) ?_⟩⟩
      rw [da_non dv]
      exact .bl _
    · cases h

/-! ### places -/
theorem Das.atI {H : Hp} {vs : List V} {ds : List PD} {i : Int} (h : Das H vs ds) (e : L2.atI ds i = some d) : ∃ v, L2.atI vs i = some v ∧ Da H v d := by
  unfold L2.atI at e ⊢
  rw [h.length]
  cases q : ixN ds.length i with
  | none => rw [q] at e; cases e
  | some j =>
    rw [q] at e
    exact h.get e
theorem pyIx_ok (h : pyIx x y = some d) : IxD g x y d := fun X sc gx => by
  unfold pyIx at h
  split at h
  · refine ⟨_, ix_list, fun v u H B Q hB dv du q => ?_⟩
    obtain ⟨p, xs, rfl, h1, d1⟩ := dv.list_inv
    obtain ⟨w, e, dw⟩ := d1.atI h
    exact ⟨p, xs, _, w, rfl, du.int_inv, SqL.of (rs_at h1).1, e, q _ H (New.refl H) dw⟩
  · refine ⟨_, ix_tup, fun v u H B Q hB dv du q => ?_⟩
    obtain ⟨p, xs, rfl, h1, d1⟩ := dv.tuple_inv
    obtain ⟨w, e, dw⟩ := d1.atI h
    exact ⟨p, xs, _, w, rfl, du.int_inv, SqT.of (rs_at h1).1, e, q _ H (New.refl H) dw⟩
  · cases h
theorem neg_ok {i : Int} : UnD g (unaryOp .USub) (.int i) (.int (-i)) := fun X sc gx => ⟨_, un_neg, fun v H B Q hB dv q => ⟨i, dv.int_inv, q _ H (New.refl H) (.int _)⟩⟩

/-! ### truth -/
theorem pyTruth_ok {K : PySem.W.Frag} {H : Hp} {v : V} {b : Bool} (dv : Da H v x) (h : pyTruth x = some b) : TruV K v H b := by
  cases dv with
  | non => cases h; rfl
  | bl b => cases h; rfl
  | int i => cases h; rfl
  | str s => cases h
  | lst h1 t =>
    cases h
    refine .inl ⟨_, SqL.of h1, ?_⟩
    cases t <;> rfl
  | tup h1 t =>
    cases h
    refine .inr (.inl ⟨_, SqT.of h1, ?_⟩)
    cases t <;> rfl

/-! ### built-ins -/
/-- the built-ins that are called with data -/
inductive Bi where
  | len | all | any | sum | abs | min | max | int | tuple | list | sorted | repr
  deriving DecidableEq
def Bi.nm : Bi → String
  | .len => "len" | .all => "all" | .any => "any" | .sum => "sum" | .abs => "abs" | .min => "min" | .max => "max" | .int => "int" | .tuple => "tuple" | .list => "list" | .sorted => "sorted" | .repr => "repr"
def Bi.ty : Bi → Bool
  | .int => true | .tuple => true | .list => true | _ => false
def asTups : List PD → Option (List (List Int))
  | [] => some []
  | .tuple xs :: ds => (asInts xs).bind fun t => (asTups ds).map (t :: ·)
  | _ :: _ => none
def tupD (t : List Int) : PD := .tuple (t.map .int)
theorem asTups_eq : ∀ {ds : List PD} {ts : List (List Int)}, asTups ds = some ts → ds = ts.map tupD
  | [], ts, h => by cases h; rfl
  | d :: ds, ts, h => by
    cases d with
    | tuple xs =>
      unfold asTups at h
      cases q1 : asInts xs with
      | none => rw [q1] at h; cases h
      | some t =>
        cases q2 : asTups ds with
        | none => rw [q1, q2] at h; cases h
        | some us =>
          rw [q1, q2] at h
          cases h
          rw [List.map_cons, ← asTups_eq q2, asInts_eq q1]; rfl
    | _ => cases h
def fnVal (id : String) (isTy : Bool) : Value := if isTy then .type id else .builtin id
def pyFn (f : Bi) (xs : List PD) : Option PD :=
  match f, xs with
  | .len, [.list ds] => some (.int ds.length)
  | .len, [.tuple ds] => some (.int ds.length)
  | .all, [.list ds] => (asBools ds).map fun bs => .bool (bs.all id)
  | .any, [.list ds] => (asBools ds).map fun bs => .bool (bs.any id)
  | .sum, [.list ds] => (asInts ds).map fun ns => .int ns.sum
  | .abs, [.int i] => some (.int (if i < 0 then -i else i))
  | .min, [.int i, .int j] => some (.int (if j < i then j else i))
  | .max, [.int i, .int j] => some (.int (if j > i then j else i))
  | .int, [.int i] => some (.int i)
  | .int, [.bool b] => some (.int (if b then 1 else 0))
  | .tuple, [.list ds] => some (.tuple ds)
  | .tuple, [.tuple ds] => some (.tuple ds)
  | .list, [.list ds] => some (.list ds)
  | .list, [.tuple ds] => some (.list ds)
  | .sorted, [.list ds] => match asInts ds with
    | some ns => some (.list ((isortI ns).map .int))
    | none => (asTups ds).bind fun ts => if ts.all (fun t => !t.isEmpty) then some (.list ((tsortL ts).map tupD)) else none
  | .repr, [d] => (pyRepr d).map .str
  | _, _ => none
/-- the ints of a tuple in the heap -/
def kOf (H : Hp) : V → List Int
  | .ref a => match H a with
    | some (.tup vs) => vs.filterMap fun v => match v with
      | .int i => some i
      | _ => none
    | _ => []
  | _ => []
theorem ints_back : ∀ ns : List Int, ((ns.map V.int).filterMap fun v => match v with
      | .int i => some i
      | _ => none) = ns
  | [] => rfl
  | n :: ns => by
    rw [List.map_cons, List.filterMap_cons]
    show n :: _ = _
    rw [ints_back ns]
theorem das_tups {H H' : Hp} (e : ∀ a o, H a = some o → H' a = some o) : ∀ {xs : List V} {ts : List (List Int)}, Das H xs (ts.map tupD) → xs.map (kOf H') = ts ∧ ∀ x ∈ xs, (∃ t, x = V.ref t ∧ H' t = some (.tup ((kOf H' x).map V.int))) ∧ Da H x (tupD (kOf H' x))
  | [], [], _ => ⟨rfl, fun x h => by cases h⟩
  | x :: xs, [], h => by cases h
  | [], t :: ts, h => by cases h
  | x :: xs, t :: ts, h => by
    cases h with
    | cons h1 h2 =>
      obtain ⟨k1, k2⟩ := das_tups e h2
      obtain ⟨p, vs, rfl, hp, dv⟩ := (show Da H x (.tuple (t.map .int)) from h1).tuple_inv
      have ev := dv.ints
      have ek : kOf H' (.ref p) = t := by
        show (match H' p with
          | some (.tup vs) => vs.filterMap fun v => match v with
            | .int i => some i
            | _ => none
          | _ => []) = t
        rw [e p _ hp, ev]
        exact ints_back t
      refine ⟨by rw [List.map_cons, ek, k1], fun y hy => ?_⟩
      rcases List.mem_cons.mp hy with rfl | hy
      · rw [ek]
        exact ⟨⟨p, rfl, by rw [e p _ hp, ev]⟩, h1⟩
      · exact k2 y hy
theorem das_of {H : Hp} {k : V → List Int} : ∀ {ys : List V}, (∀ y ∈ ys, Da H y (tupD (k y))) → Das H ys ((ys.map k).map tupD)
  | [], _ => .nil
  | y :: ys, h => .cons (h y List.mem_cons_self) (das_of fun z hz => h z (List.mem_cons_of_mem _ hz))
theorem das1 {H : Hp} {vs : List V} (h : Das H vs [x]) : ∃ v, vs = [v] ∧ Da H v x := by
  cases h with
  | cons a t => cases t; exact ⟨_, rfl, a⟩
theorem das2 {H : Hp} {vs : List V} (h : Das H vs [x, y]) : ∃ v u, vs = [v, u] ∧ Da H v x ∧ Da H u y := by
  cases h with
  | cons a t => cases t with | cons b t => cases t; exact ⟨_, _, rfl, a, b⟩
theorem pyFn_ok {f : Bi} {xs : List PD} (h : pyFn f xs = some d) : CaD g (fnVal f.nm f.ty) xs d := fun X sc gx => by
  unfold pyFn at h
  split at h
  · cases h
    refine ⟨_, call_len_seq, fun vs H B Q hB dvs q => ?_⟩
    obtain ⟨v, rfl, dv⟩ := das1 dvs
    obtain ⟨p, xs, rfl, h1, d1⟩ := dv.list_inv
    exact ⟨p, xs, rfl, .inl (SqL.of (rs_at h1).1), q _ H (New.refl H) (by rw [d1.length]; exact .int _)⟩
  · cases h
    refine ⟨_, call_len_seq, fun vs H B Q hB dvs q => ?_⟩
    obtain ⟨v, rfl, dv⟩ := das1 dvs
    obtain ⟨p, xs, rfl, h1, d1⟩ := dv.tuple_inv
    exact ⟨p, xs, rfl, .inr (SqT.of (rs_at h1).1), q _ H (New.refl H) (by rw [d1.length]; exact .int _)⟩
  · rename_i ds
    refine ⟨_, cr_all gx.calm, fun vs H B Q hB dvs q => ?_⟩
    cases e : asBools ds with
    | none => rw [e] at h; cases h
    | some bs =>
      rw [e] at h; cases h
      obtain ⟨v, rfl, dv⟩ := das1 dvs
      obtain ⟨p, xs, rfl, h1, d1⟩ := dv.list_inv
      rw [asBools_eq e] at d1
      rw [d1.bools] at h1
      exact ⟨p, bs, rfl, SqL.of (rs_at h1).1, q _ H (New.refl H) (.bl _)⟩
  · rename_i ds
    refine ⟨_, cr_any gx.calm, fun vs H B Q hB dvs q => ?_⟩
    cases e : asBools ds with
    | none => rw [e] at h; cases h
    | some bs =>
      rw [e] at h; cases h
      obtain ⟨v, rfl, dv⟩ := das1 dvs
      obtain ⟨p, xs, rfl, h1, d1⟩ := dv.list_inv
      rw [asBools_eq e] at d1
      rw [d1.bools] at h1
      exact ⟨p, bs, rfl, SqL.of (rs_at h1).1, q _ H (New.refl H) (.bl _)⟩
  · rename_i ds
    refine ⟨_, cr_sum gx.calm, fun vs H B Q hB dvs q => ?_⟩
    cases e : asInts ds with
    | none => rw [e] at h; cases h
    | some bs =>
      rw [e] at h; cases h
      obtain ⟨v, rfl, dv⟩ := das1 dvs
      obtain ⟨p, xs, rfl, h1, d1⟩ := dv.list_inv
      rw [asInts_eq e] at d1
      rw [d1.ints] at h1
      exact ⟨p, bs, rfl, SqL.of (rs_at h1).1, q _ H (New.refl H) (.int _)⟩
  · cases h
    refine ⟨_, call_abs, fun vs H B Q hB dvs q => ?_⟩
    obtain ⟨v, rfl, dv⟩ := das1 dvs
    rw [dv.int_inv]
    exact ⟨_, rfl, q _ H (New.refl H) (.int _)⟩
  · cases h
    refine ⟨_, call_min2 gx.calm, fun vs H B Q hB dvs q => ?_⟩
    obtain ⟨v, u, rfl, dv, du⟩ := das2 dvs
    rw [dv.int_inv, du.int_inv]
    exact ⟨_, _, rfl, q _ H (New.refl H) (.int _)⟩
  · cases h
    refine ⟨_, call_max2 gx.calm, fun vs H B Q hB dvs q => ?_⟩
    obtain ⟨v, u, rfl, dv, du⟩ := das2 dvs
    rw [dv.int_inv, du.int_inv]
    exact ⟨_, _, rfl, q _ H (New.refl H) (.int _)⟩
  · cases h
    refine ⟨_, call_int1, fun vs H B Q hB dvs q => ?_⟩
    obtain ⟨v, rfl, dv⟩ := das1 dvs
    rw [dv.int_inv]
    exact .inl ⟨_, rfl, q _ H (New.refl H) (.int _)⟩
  · cases h
    refine ⟨_, call_int1, fun vs H B Q hB dvs q => ?_⟩
    obtain ⟨v, rfl, dv⟩ := das1 dvs
    rw [dv.bool_inv]
    exact .inr ⟨_, rfl, q _ H (New.refl H) (.int _)⟩
  · cases h
    refine ⟨_, call_tuple_of, fun vs H B Q hB dvs q => ?_⟩
    obtain ⟨v, rfl, dv⟩ := das1 dvs
    obtain ⟨p, xs, rfl, h1, d1⟩ := dv.list_inv
    exact ⟨p, xs, rfl, .inl ⟨SqL.of (rs_at h1).1, fun l hl => q _ _ (New.upd hl) (new_tup hB hl d1)⟩⟩
  · cases h
    refine ⟨_, call_tuple_of, fun vs H B Q hB dvs q => ?_⟩
    obtain ⟨v, rfl, dv⟩ := das1 dvs
    obtain ⟨p, xs, rfl, h1, d1⟩ := dv.tuple_inv
    exact ⟨p, xs, rfl, .inr ⟨SqT.of (rs_at h1).1, q _ H (New.refl H) (.tup h1 d1)⟩⟩
  · cases h
    refine ⟨_, call_list_of, fun vs H B Q hB dvs q => ?_⟩
    obtain ⟨v, rfl, dv⟩ := das1 dvs
    obtain ⟨p, xs, rfl, h1, d1⟩ := dv.list_inv
    exact ⟨p, xs, rfl, .inl (SqL.of (rs_at h1).1), fun l hl => q _ _ (New.upd hl) (new_lst hB hl d1)⟩
  · cases h
    refine ⟨_, call_list_of, fun vs H B Q hB dvs q => ?_⟩
    obtain ⟨v, rfl, dv⟩ := das1 dvs
    obtain ⟨p, xs, rfl, h1, d1⟩ := dv.tuple_inv
    exact ⟨p, xs, rfl, .inr (SqT.of (rs_at h1).1), fun l hl => q _ _ (New.upd hl) (new_lst hB hl d1)⟩
  · rename_i ds
    split at h
    · rename_i ns hn
      cases h
      refine ⟨_, cr_sortedI, fun vs H B Q hB dvs q => ?_⟩
      obtain ⟨v, rfl, dv⟩ := das1 dvs
      obtain ⟨p, xs, rfl, h1, d1⟩ := dv.list_inv
      rw [asInts_eq hn] at d1
      rw [d1.ints] at h1
      refine ⟨p, ns, rfl, SqL.of (rs_at h1).1, fun ns' l hp hs hl => q _ _ (New.upd hl) ?_⟩
      rw [isortI_uniq hp hs]
      exact new_lst hB hl (Das.of_ints _)
    · cases hn : asTups ds with
      | none => rw [hn] at h; cases h
      | some ts =>
        rw [hn] at h
        have h' : (if ts.all (fun t => !t.isEmpty) then some (PySem.PyData.list ((tsortL ts).map tupD)) else none) = some d := h
        split at h'
        · rename_i hne
          cases h'
          refine ⟨_, cr_sortTp, fun vs H B Q hB dvs q => ?_⟩
          obtain ⟨v, rfl, dv⟩ := das1 dvs
          obtain ⟨p, xs, rfl, h1, d1⟩ := dv.list_inv
          rw [asTups_eq hn] at d1
          obtain ⟨k1, k2⟩ := das_tups (H' := H) (fun a o z => (rs_at z).1) d1
          refine ⟨p, xs, kOf H, rfl, SqL.of (rs_at h1).1, fun x hx => ⟨(k2 x hx).1, fun z => ?_⟩, fun ys l hs hp hl => q _ _ (New.upd hl) ?_⟩
          · have : kOf H x ∈ ts := by rw [← k1]; exact List.mem_map.mpr ⟨x, hx, rfl⟩
            have := List.all_eq_true.mp hne _ this
            rw [z] at this
            cases this
          · have e : tsortL ts = ys.map (kOf H) := by
              refine (tsortL_uniq ?_ (List.pairwise_map.mpr hs)).symm
              rw [← k1]
              exact hp.map _
            rw [e]
            exact new_lst hB hl (das_of fun y hy => (k2 y (hp.mem_iff.mp hy)).2)
        · cases h'
  · rename_i d'
    cases hx : pyRepr d' with
    | none => rw [hx] at h; cases h
    | some x =>
      rw [hx] at h
      cases h
      refine ⟨_, cr_repr gx.gd (by have := gx.room.un; omega), fun vs H B Q hB dvs q => ?_⟩
      obtain ⟨v, rfl, dv⟩ := das1 dvs
      exact ⟨v, d', x, rfl, (dv.ex rs_ex).dp, hx, q _ H (New.refl H) (.str _)⟩
  · cases h
end
end SN
end
section
set_option Elab.async false
set_option linter.all false
set_option maxRecDepth 100000
set_option maxHeartbeats 4000000
/-! S4: what is walked, targets, list comprehensions. -/
namespace SN
open PySem L2 LamX

/-! ### an iterable -/
def wI (g : Gs) (sc : Scope) (tg iter : Expr) : TI := fun σ H R => ∀ X, GX g sc X → ∀ pins s, Inv X pins σ H s → wpAny (model X.prog X.w) X.A (eval iter X.env) (fun v s1 => wpAny (model X.prog X.w) X.A (pyIter v) (PIE X pins σ tg R) X.xe s1) X.xe s
section
variable {g : Gs} {sc : Scope} {σ : L2.St} {Ha H1 : Hp} {B : Addr → Bool} {W W1 W2 W3 : List Int} {a b c e tg iter : Expr} {es : List Expr} {x y z d : PD} {ds : List PD} {X : Cx}
theorem wI.pi (gx : GX g sc X) : PI X tg iter (wI g sc tg iter) := ⟨fun pins s σ H R I h => h X gx pins s I⟩
theorem wI.of {H : Hp} {R : It → Hp → Prop} (h : ∀ X, GX g sc X → ∃ t : TI, PI X tg iter t ∧ t σ H R) : wI g sc tg iter σ H R := fun X gx pins s I => by
  obtain ⟨t, p, q⟩ := h X gx
  exact p.run pins s σ H R I q
/-- named by B and there in H -/
def kn (B : Addr → Bool) (H : Hp) : Addr → Bool := fun a => B a && !nt (H a)
theorem kn_rs {B1 : Addr → Bool} {H H2 : Hp} {v : V} {d : PD} (e : Ex none (rs B1 H2) H) (h : Da (rs B1 H2) v d) : Da (rs (al (kn B1 H2) H) H) v d := h.ex fun q n _ => by
  have e2 := e q n (by simp)
  have hB : B1 q = true := by
    unfold rs at n
    by_cases z : B1 q = true
    · exact z
    · rw [if_neg z] at n; cases n
  have n2 : nt (H2 q) = false := by
    unfold rs at n
    rw [if_pos hB] at n
    exact n
  rw [← e2]
  unfold rs
  rw [if_pos (al_B (by unfold kn; rw [hB, n2]; rfl))]
/-- what may be walked: items, from what B names or is new -/
def ItOk (g : Gs) (B1 : Addr → Bool) (H2 : Hp) (items : List PD) (J : It) : Prop := ∃ (G : Hp → Prop) (Y : Nat → Hp → V → Hp → Prop), Walk J items.length G Y ∧ (∀ H3, Ex none (rs B1 H2) H3 → G H3) ∧
  ∀ (i : Nat) d H x H', items[i]? = some d → Ex none (rs B1 H2) H → Y i H x H' → New H H' ∧ Da (rs (al (kn B1 H2) H) H') x d
def ItD (g : Gs) (sc : Scope) (σ : L2.St) (Ha : Hp) (B : Addr → Bool) (W : List Int) (tg iter : Expr) (items : List PD) (W' : List Int) : Prop :=
  ∀ H1, Ex none Ha H1 → Hs g.T g.wl W H1 → ∀ R : It → Hp → Prop, (∀ J H2, Ex g.wl H1 H2 → Hs g.T g.wl W' H2 → ItOk g (al B H1) H2 items J → R J H2) → wI g sc tg iter σ H1 R
theorem al_al {B1 : Addr → Bool} {H : Hp} {a : Addr} (h : B1 a = true) : al B1 H a = true := al_B h
theorem itok_list {B1 : Addr → Bool} {H2 : Hp} {p : Addr} {xs : List V} {K : PySem.W.Frag} (h : rs B1 H2 p = some (.lst xs)) (d1 : Das (rs B1 H2) xs ds) : ItOk g B1 H2 ds (Itl K p) :=
  ⟨_, _, by rw [← d1.length]; exact walk_list, fun H3 e => SqL.of (e.at h rfl (by simp)), fun i d H x H' hi e y => by
    obtain ⟨rfl, hx⟩ := y
    refine ⟨New.refl _, ?_⟩
    obtain ⟨v, hv, dv⟩ := d1.get hi
    rw [hv] at hx
    cases hx
    exact kn_rs e dv⟩
theorem itok_tup {B1 : Addr → Bool} {H2 : Hp} {p : Addr} {xs : List V} {K : PySem.W.Frag} (h : rs B1 H2 p = some (.tup xs)) (d1 : Das (rs B1 H2) xs ds) : ItOk g B1 H2 ds (Itt K p) :=
  ⟨_, _, by rw [← d1.length]; exact walk_tup, fun H3 e => SqT.of (e.at h rfl (by simp)), fun i d H x H' hi e y => by
    obtain ⟨rfl, hx⟩ := y
    refine ⟨New.refl _, ?_⟩
    obtain ⟨v, hv, dv⟩ := d1.get hi
    rw [hv] at hx
    cases hx
    exact kn_rs e dv⟩
theorem itd_list (h : EvD g sc σ Ha B W iter (.list ds) W1) : ItD g sc σ Ha B W tg iter ds W1 := fun H1 e t R q => wI.of fun X gx =>
  ⟨_, pi_list (wA.pe gx), h H1 e t _ fun v H2 f t2 dv => by
    obtain ⟨p, xs, rfl, h1, d1⟩ := dv.list_inv
    exact ⟨p, rfl, ⟨xs, SqL.of (rs_at h1).1⟩, q _ H2 f t2 (itok_list h1 d1)⟩⟩
theorem itd_tup (h : EvD g sc σ Ha B W iter (.tuple ds) W1) : ItD g sc σ Ha B W tg iter ds W1 := fun H1 e t R q => wI.of fun X gx =>
  ⟨_, pi_tup (wA.pe gx), h H1 e t _ fun v H2 f t2 dv => by
    obtain ⟨p, xs, rfl, h1, d1⟩ := dv.tuple_inv
    exact ⟨p, rfl, ⟨xs, SqT.of (rs_at h1).1⟩, q _ H2 f t2 (itok_tup h1 d1)⟩⟩
/-- the ints from lo, n of them -/
def rngD (lo : Int) (n : Nat) : List PD := (List.range n).map fun (i : Nat) => PySem.PyData.int (lo + (i : Int))
theorem rngD_len (lo : Int) (n : Nat) : (rngD lo n).length = n := by unfold rngD; rw [List.length_map, List.length_range]
theorem rngD_get {lo : Int} {n i : Nat} {d : PD} (h : (rngD lo n)[i]? = some d) : d = .int (lo + (i : Int)) ∧ i < n := by
  unfold rngD at h
  rw [List.getElem?_map] at h
  cases q : (List.range n)[i]? with
  | none => rw [q] at h; cases h
  | some j =>
    rw [q] at h
    obtain ⟨h1, h2⟩ := List.getElem?_eq_some_iff.mp q
    rw [List.getElem_range] at h2
    rw [List.length_range] at h1
    cases h
    exact ⟨by rw [h2], h1⟩
theorem itok_range {B1 : Addr → Bool} {H2 : Hp} {lo : Int} {n : Nat} : ItOk g B1 H2 (rngD lo n) (Itr lo n) :=
  ⟨_, _, by rw [rngD_len]; exact walk_range, fun _ _ => trivial, fun i d H x H' hi e y => by
    obtain ⟨rfl, hx⟩ := y
    obtain ⟨e2, _⟩ := rngD_get hi
    rw [e2, hx]
    exact ⟨New.refl _, .int _⟩⟩
theorem itd_range1 {n : Int} {p pos : Pos} (hg : glB sc "range" = true) (hm : g.mg "range" = none) (hst : [a].all nostar = true) (hn : n < 2 ^ 62 ∧ -(2 ^ 62) ≤ n) (h : EvS g sc σ Ha B W [a] [.int n] W1) :
    ItD g sc σ Ha B W tg (.Call (.Name "range" p) [a] [] pos) (rngD 0 n.toNat) W1 := fun H1 e t R q => wI.of fun X gx =>
  ⟨_, pi_range1 (gl_of gx.sc hg) (by rw [gx.mg]; exact hm) (wAs.pa gx hst) (star_no (es := []) _ (by simpa using hst)), h H1 e t _ fun vs H2 f t2 dvs => by
    obtain ⟨v, rfl, dv⟩ := das1 dvs
    rw [dv.int_inv]
    exact ⟨n, rfl, hn.2, hn.1, q _ H2 f t2 itok_range⟩⟩
theorem itd_range2 {m n : Int} {p pos : Pos} (hg : glB sc "range" = true) (hm : g.mg "range" = none) (hst : [a, b].all nostar = true) (hn : n < 2 ^ 62 ∧ -(2 ^ 62) ≤ n ∧ m < 2 ^ 62 ∧ -(2 ^ 62) ≤ m) (h : EvS g sc σ Ha B W [a, b] [.int m, .int n] W1) :
    ItD g sc σ Ha B W tg (.Call (.Name "range" p) [a, b] [] pos) (rngD m (n - m).toNat) W1 := fun H1 e t R q => wI.of fun X gx =>
  ⟨_, pi_range2 (gl_of gx.sc hg) (by rw [gx.mg]; exact hm) (wAs.pa gx hst) (by
      rw [star_no (es := [b]) _ (by simp at hst; exact hst.1), star_no (es := []) _ (by simp at hst; exact hst.2)]; rfl) (by rw [star_no (es := []) _ (by simp at hst; exact hst.2)]; rfl), h H1 e t _ fun vs H2 f t2 dvs => by
    obtain ⟨v, u, rfl, dv, du⟩ := das2 dvs
    rw [dv.int_inv, du.int_inv]
    exact ⟨m, n, rfl, ⟨hn.2.2.2, hn.2.2.1, hn.2.1, hn.1⟩, q _ H2 f t2 itok_range⟩⟩
def enumD (ds : List PD) : List PD := (List.range ds.length).map fun (i : Nat) => PySem.PyData.tuple [.int (i : Int), ds.getD i .none]
theorem enumD_len (ds : List PD) : (enumD ds).length = ds.length := by unfold enumD; rw [List.length_map, List.length_range]
theorem enumD_get {ds : List PD} {i : Nat} {d : PD} (h : (enumD ds)[i]? = some d) : ∃ x, ds[i]? = some x ∧ d = .tuple [.int (i : Int), x] := by
  unfold enumD at h
  rw [List.getElem?_map] at h
  cases q : (List.range ds.length)[i]? with
  | none => rw [q] at h; cases h
  | some j =>
    rw [q] at h
    obtain ⟨h1, h2⟩ := List.getElem?_eq_some_iff.mp q
    rw [List.getElem_range] at h2
    rw [List.length_range] at h1
    cases h
    rw [← h2]
    exact ⟨ds[i], List.getElem?_eq_getElem h1, by simp [List.getD, List.getElem?_eq_getElem h1]⟩
theorem itok_enum {B1 : Addr → Bool} {H2 : Hp} {p : Addr} {xs : List V} {K : PySem.W.Frag} (h : rs B1 H2 p = some (.lst xs)) (d1 : Das (rs B1 H2) xs ds) : ItOk g B1 H2 (enumD ds) (Ite K p) :=
  ⟨_, _, by rw [enumD_len, ← d1.length]; exact walk_enum, fun H3 e => SqL.of (e.at h rfl (by simp)), fun i d H x H' hi e y => by
    obtain ⟨T, u, w, rfl, hT, rfl, h1, h2⟩ := y
    cases h1
    refine ⟨New.upd hT, ?_⟩
    obtain ⟨z, hz, rfl⟩ := enumD_get hi
    obtain ⟨v, hv, dv⟩ := d1.get hz
    have h2' : xs[i]? = some w := h2
    rw [hv] at h2'
    cases h2'
    exact .tup (rs_put upd_same (al_new (by rw [hT]; rfl))) (.cons (.int _) (.one ((kn_rs e dv).ex (rs_new (New.upd hT)))))⟩
theorem itd_enum {p pos tpos : Pos} {elts : List Expr} {kk : Nat} (hg : glB sc "enumerate" = true) (hm : g.mg "enumerate" = none) (hst : [a].all nostar = true) (h : EvS g sc σ Ha B W [a] [.list ds] W1) :
    ItD g sc σ Ha B W (.Tuple elts kk tpos) (.Call (.Name "enumerate" p) [a] [] pos) (enumD ds) W1 := fun H1 e t R q => wI.of fun X gx =>
  ⟨_, pi_enum (gl_of gx.sc hg) (by rw [gx.mg]; exact hm) (wAs.pa gx hst) (star_no (es := []) _ (by simpa using hst)), h H1 e t _ fun vs H2 f t2 dvs => by
    obtain ⟨v, rfl, dv⟩ := das1 dvs
    obtain ⟨p, xs, rfl, h1, d1⟩ := dv.list_inv
    exact ⟨p, xs, rfl, SqL.of (rs_at h1).1, q _ H2 f t2 (itok_enum h1 d1)⟩⟩

theorem itok_enumT {B1 : Addr → Bool} {H2 : Hp} {p : Addr} {xs : List V} {K : PySem.W.Frag} (h : rs B1 H2 p = some (.tup xs)) (d1 : Das (rs B1 H2) xs ds) : ItOk g B1 H2 (enumD ds) (Itet K p) :=
  ⟨_, _, by rw [enumD_len, ← d1.length]; exact walk_et, fun H3 e => SqT.of (e.at h rfl (by simp)), fun i d H x H' hi e y => by
    obtain ⟨T, u, w, rfl, hT, rfl, h1, h2⟩ := y
    cases h1
    refine ⟨New.upd hT, ?_⟩
    obtain ⟨z, hz, rfl⟩ := enumD_get hi
    obtain ⟨v, hv, dv⟩ := d1.get hz
    have h2' : xs[i]? = some w := h2
    rw [hv] at h2'
    cases h2'
    exact .tup (rs_put upd_same (al_new (by rw [hT]; rfl))) (.cons (.int _) (.one ((kn_rs e dv).ex (rs_new (New.upd hT)))))⟩
theorem itd_enumT {p pos tpos : Pos} {elts : List Expr} {kk : Nat} (hg : glB sc "enumerate" = true) (hm : g.mg "enumerate" = none) (hst : [a].all nostar = true) (h : EvS g sc σ Ha B W [a] [.tuple ds] W1) :
    ItD g sc σ Ha B W (.Tuple elts kk tpos) (.Call (.Name "enumerate" p) [a] [] pos) (enumD ds) W1 := fun H1 e t R q => wI.of fun X gx =>
  ⟨_, pi_enumT (gl_of gx.sc hg) (by rw [gx.mg]; exact hm) (wAs.pa gx hst) (star_no (es := []) _ (by simpa using hst)), h H1 e t _ fun vs H2 f t2 dvs => by
    obtain ⟨v, rfl, dv⟩ := das1 dvs
    obtain ⟨p, xs, rfl, h1, d1⟩ := dv.tuple_inv
    exact ⟨p, xs, rfl, SqT.of (rs_at h1).1, q _ H2 f t2 (itok_enumT h1 d1)⟩⟩

/-! ### targets -/
inductive Tg where
  | one (i : Nat)
  | two (i j : Nat)
  deriving DecidableEq
def tgG (K : PySem.W.Frag) : Tg → TG
  | .one i => gName i
  | .two i j => gTup K 2 (gCons (gName i) (gCons (gName j) gNil))
/-- the slots behind the target's store -/
def TgTo (t : Tg) (x : V) (H : Hp) (σ σ' : L2.St) : Prop := match t with
  | .one i => σ' = σ.set i (some x)
  | .two i j => ∃ a v u, x = .ref a ∧ H a = some (.tup [v, u]) ∧ σ' = (σ.set i (some v)).set j (some u)
theorem TgTo.run {K : PySem.W.Frag} {t : Tg} {x : V} {H H' : Hp} {σ σ' : L2.St} {Q : L2.St → Hp → Prop} (h : TgTo t x H σ σ') (e : Ex none H H') (q : Q σ' H') : tgG K t x σ H' Q := by
  cases t with
  | one i =>
    have h' : σ' = σ.set i (some x) := h
    rw [h'] at q
    exact q
  | two i j =>
    obtain ⟨a, v, u, rfl, ha, rfl⟩ := h
    exact ⟨a, [v, u], rfl, SqT.of (e.at ha rfl (by simp)), rfl, v, [u], rfl, u, [], rfl, rfl, q⟩
def Tg.slots : Tg → List Nat
  | .one i => [i]
  | .two i j => [i, j]
theorem set_wipe {i : Nat} {x : Option V} : ∀ {vs : List Nat} (σ : L2.St), i ∈ vs → wipe (σ.set i x) vs = wipe σ vs
  | v :: vs, σ, h => by
    unfold wipe
    by_cases hv : i = v
    · subst hv
      by_cases hm : i ∈ vs
      · rw [set_wipe σ hm]
      · have com : ∀ (l : List Nat) (σ : L2.St) (y : Option V), i ∉ l → wipe (σ.set i y) l = (wipe σ l).set i y := by
          intro l
          induction l with
          | nil => intro σ y _; rfl
          | cons k l ih =>
            intro σ y hk
            rw [List.mem_cons, not_or] at hk
            unfold wipe
            rw [ih σ y hk.2, List.set_comm _ _ (Ne.symm hk.1)]
        rw [com vs σ x hm, List.set_set]
    · have hm : i ∈ vs := by simpa [hv] using h
      rw [set_wipe σ hm]
theorem wipe_wipe (σ : L2.St) (vs : List Nat) : wipe (wipe σ vs) vs = wipe σ vs := by
  have gen : ∀ (us : List Nat), (∀ u ∈ us, u ∈ vs) → wipe (wipe σ us) vs = wipe σ vs := by
    intro us
    induction us with
    | nil => intro _; rfl
    | cons u us ih =>
      intro h
      show wipe ((wipe σ us).set u none) vs = _
      rw [set_wipe _ (h u (by simp)), ih fun w hw => h w (by simp [hw])]
  exact gen vs fun _ h => h
theorem TgTo.wipe {t : Tg} {x : V} {H : Hp} {σ σ' : L2.St} {vs : List Nat} (h : TgTo t x H (wipe σ vs) σ') (hs : ∀ i ∈ t.slots, i ∈ vs) : L2.wipe σ' vs = L2.wipe σ vs := by
  cases t with
  | one i =>
    have h' : σ' = (L2.wipe σ vs).set i (some x) := h
    rw [h', set_wipe _ (hs i (by simp [Tg.slots])), wipe_wipe]
  | two i j =>
    obtain ⟨a, v, u, rfl, ha, rfl⟩ := h
    rw [set_wipe _ (hs j (by simp [Tg.slots])), set_wipe _ (hs i (by simp [Tg.slots])), wipe_wipe]
/-- the target's expression, by the scope's text -/
def locB (sc : Scope) (n : Str) : Bool := match sc.names.lookup n with
  | some .local => true
  | some .cell => true
  | _ => false
def nmB (N : List Str) (sc : Scope) (i : Nat) : Expr → Bool
  | .Name n _ => decide (N[i]? = some n) && locB sc n
  | _ => false
theorem nmB_inv {N : List Str} {sc : Scope} {i : Nat} {e : Expr} (h : nmB N sc i e = true) : ∃ n pos, e = .Name n pos ∧ N[i]? = some n ∧ locB sc n = true := by
  cases e with
  | Name n pos =>
    have h' : (decide (N[i]? = some n) && locB sc n) = true := h
    rw [Bool.and_eq_true, decide_eq_true_eq] at h'
    exact ⟨n, pos, rfl, h'.1, h'.2⟩
  | _ => cases h
def tupB (N : List Str) (sc : Scope) (i j : Nat) : Expr → Bool
  | .Tuple [a, b] _ _ => nmB N sc i a && nmB N sc j b
  | _ => false
theorem tupB_inv {N : List Str} {sc : Scope} {i j : Nat} {e : Expr} (h : tupB N sc i j e = true) : ∃ a b k pos, e = .Tuple [a, b] k pos ∧ nmB N sc i a = true ∧ nmB N sc j b = true := by
  cases e with
  | Tuple es k pos =>
    match es, h with
    | [a, b], h =>
      have h' : (nmB N sc i a && nmB N sc j b) = true := h
      rw [Bool.and_eq_true] at h'
      exact ⟨a, b, k, pos, rfl, h'.1, h'.2⟩
  | _ => cases h
def isTg (N : List Str) (sc : Scope) (tg : Expr) : Tg → Bool
  | .one i => nmB N sc i tg
  | .two i j => tupB N sc i j tg
theorem loc_of {sc : Scope} {n : Str} (h : locB sc n = true) : sc.names.lookup n = some .local ∨ sc.names.lookup n = some .cell := by
  unfold locB at h
  split at h <;> first | exact .inl (by assumption) | exact .inr (by assumption) | cases h
theorem relS_loc {scope sc : Scope} {n : Str} (h : locB scope n = true) : (relS scope sc).names.lookup n = scope.names.lookup n := by
  rcases loc_of h with q | q
  · rw [q]; exact lookup_relS_keep (by decide) q
  · rw [q]; exact lookup_relS_keep (by decide) q
theorem pg_blk {scope : Scope} {t : Tg} {s : Shared} {H : Hp} {C : Addr} {cl : List (Str × Addr)} {fp : List Addr} (gx : GX g sc X) (h : isTg g.N scope tg t = true) : PG (X.blk s H scope (compEnvC scope cl C X.env) fp) tg (tgG X.K t) := by
  have one : ∀ {n : Str} {pos : Pos} {i : Nat}, g.N[i]? = some n → locB scope n = true → PG (X.blk s H scope (compEnvC scope cl C X.env) fp) (.Name n pos) (gName i) := fun {n pos i} h1 h2 => by
    refine pg_name gx.nd (by show X.N[i]? = some n; rw [gx.N]; exact h1) ?_ ?_
    · show (relS scope X.env.scope).names.lookup n = _ ∨ (relS scope X.env.scope).names.lookup n = _
      rw [relS_loc h2]
      exact loc_of h2
    · rcases loc_of h2 with q | q
      · refine .inr ?_
        show (relS scope X.env.scope).names.lookup n = _
        rw [relS_loc h2, q]
      · refine .inl ?_
        show (scope.names.lookup n == some .cell) = true
        rw [q]; rfl
  cases t with
  | one i =>
    obtain ⟨n, pos, rfl, h1, h2⟩ := nmB_inv (show nmB g.N scope i tg = true from h)
    exact one h1 h2
  | two i j =>
    obtain ⟨a, b, k, pos, rfl, ha, hb⟩ := tupB_inv (show tupB g.N scope i j tg = true from h)
    obtain ⟨n, p1, rfl, h1, h2⟩ := nmB_inv ha
    obtain ⟨m, p2, rfl, h3, h4⟩ := nmB_inv hb
    exact pg_tup gx.calm (pgs_cons (one h1 h2) (pgs_cons (one h3 h4) pgs_nil))
theorem gx_blk {scope : Scope} {s : Shared} {H : Hp} {C : Addr} {cl : List (Str × Addr)} {fp : List Addr} (gx : GX g sc X) (hk : scope.kind = .function) : GX g (relS scope sc) (X.blk s H scope (compEnvC scope cl C X.env) fp) :=
  ⟨gx.prog, gx.w, gx.K, gx.mg, gx.base, gx.N, gx.nd, by show relS scope X.env.scope = _; rw [gx.sc], gx.calm, gx.room, by show (relS scope X.env.scope).kind = _; exact hk, gx.gd, rfl⟩

/-! ### comprehensions -/
/-- tests: none, or one -/
def wTs (g : Gs) (sc : Scope) : List Expr → TT
  | [] => tYes
  | c :: _ => wT g sc c
theorem wTs.pts (gx : GX g sc X) {ifs : List Expr} (h : ifs.length ≤ 1) : PTs X ifs (wTs g sc ifs) := by
  match ifs, h with
  | [], _ => exact pts_nil
  | [c], _ => exact pts_one (wT.pt gx)
def EvTs (g : Gs) (sc : Scope) (σ : L2.St) (Ha : Hp) (W : List Int) (ifs : List Expr) (b : Bool) : Prop := match ifs with
  | [] => b = true
  | c :: _ => EvT g sc σ Ha W c b W
theorem EvTs.run {ifs : List Expr} {b : Bool} {H : Hp} {Q : Bool → Hp → Prop} (h : EvTs g sc σ Ha W ifs b) (e : Ex none Ha H) (t : Hs g.T g.wl W H) (q : ∀ H2, Ex g.wl H H2 → Hs g.T g.wl W H2 → Q b H2) : wTs g sc ifs σ H Q := by
  match ifs with
  | [] =>
    have h' : b = true := h
    rw [h'] at q
    exact q H (Ex.refl H) t
  | c :: r =>
    have h' : EvT g sc σ Ha W c b W := h
    exact h' H e t Q q

/-- one turn of a comprehension, from whatever is known then -/
def TurnD (g : Gs) (sc' : Scope) (σ0 : L2.St) (Ha : Hp) (B : Addr → Bool) (W W' : List Int) (t : Tg) (ifs : List Expr) (elt : Expr) (d : PD) (r : Option PD) : Prop :=
  ∀ Hx Bx x, Ex none Ha Hx → Off g.wl Bx Hx → (∀ a, B a = true → nt (Ha a) = false → Bx a = true) → Da (rs Bx Hx) x d →
    ∃ σ', TgTo t x Hx σ0 σ' ∧ EvTs g sc' σ' Hx W ifs r.isSome ∧ (∀ d', r = some d' → EvD g sc' σ' Hx Bx W elt d' W') ∧ (r = none → W' = W)
/-- the heap without D and the well -/
def sub (w : Option Addr) (D : Addr) (H : Hp) : Hp := rs (fun a => decide (a ≠ D) && decide (w ≠ some a)) H
/-- all but D, tables and the well is kept -/
def ExD (w : Option Addr) (D : Addr) (H H' : Hp) : Prop := ∀ a, a ≠ D → nt (H a) = false → w ≠ some a → H' a = H a
theorem ExD.trans {w : Option Addr} {D : Addr} {H H1 H2 : Hp} (e : ExD w D H H1) (f : ExD w D H1 H2) : ExD w D H H2 := fun a d n h => by
  have q := e a d n h
  rw [f a d (by rw [q]; exact n) h, q]
theorem Ex.exD {w : Option Addr} {D : Addr} {H H' : Hp} (e : Ex w H H') : ExD w D H H' := fun a _ n h => e a n h
/-- what D holds -/
def DAt (B1 : Addr → Bool) (D : Addr) (ds : List PD) (H : Hp) : Prop := ∃ acc, H D = some (.lst acc) ∧ Das (rs (fun a => B1 a && decide (a ≠ D)) H) acc ds
theorem DAt.keep {B1 : Addr → Bool} {D : Addr} {H H' : Hp} (h : DAt B1 D ds H) (e : Ex g.wl H H') (wD : g.wl ≠ some D) (wB : ∀ a, g.wl = some a → B1 a = false) : DAt B1 D ds H' := by
  obtain ⟨acc, h1, h2⟩ := h
  exact ⟨acc, e.at h1 rfl wD, h2.ex (rs_mono (fun _ _ h => h) e fun a z => .inl (by show (B1 a && _) = false; rw [wB a z]; rfl))⟩
/-- one turn: target, tests, element, from the heap H' in which the item was given -/
theorem lc_step {W' : List Int} {H' : Hp} {D : Addr} {B1 Bx : Addr → Bool} {t : Tg} {ifs : List Expr} {elt : Expr} {x : V} {r : Option PD} {σ0 : L2.St} {vs : List Nat} {K : PySem.W.Frag} {Nx : Hp → Prop}
    (wD : g.wl ≠ some D) (wB : ∀ a, g.wl = some a → B1 a = false) (t' : Hs g.T g.wl W H') (pD : DAt B1 D ds H') (nB : ∀ a, nt (H' a) = true → g.wl ≠ some a → B1 a = true) (sB : ∀ a, Bx a = true → B1 a = true ∧ a ≠ D) (oBx : Off g.wl Bx (sub g.wl D H'))
    (h : ∃ σ', TgTo t x (sub g.wl D H') (wipe σ0 vs) σ' ∧ EvTs g sc σ' (sub g.wl D H') W ifs r.isSome ∧ (∀ d', r = some d' → EvD g sc σ' (sub g.wl D H') Bx W elt d' W') ∧ (r = none → W' = W)) (hsl : ∀ i ∈ t.slots, i ∈ vs) (hz : ds.length ≤ big)
    (k : ∀ H5, ExD g.wl D H' H5 → Hs g.T g.wl W' H5 → DAt B1 D (ds ++ r.toList) H5 → Nx H5) :
    tgG K t x (wipe σ0 vs) H' fun σ2 H2 => wipe σ2 vs = wipe σ0 vs ∧ wTs g sc ifs σ2 H2 fun b H3 => if b = true then wA g sc elt σ2 H3 fun y H4 => ∃ acc, H4 D = some (.lst acc) ∧ acc.length < sizeLine ∧ Nx (upd H4 D (.lst (acc ++ [y]))) else Nx H3 := by
  obtain ⟨σ', h1, h2, h3, h4⟩ := h
  have hD' : ∃ acc, H' D = some (.lst acc) := let ⟨acc, q, _⟩ := pD; ⟨acc, q⟩
  refine h1.run rs_ex ⟨h1.wipe hsl, h2.run rs_ex t' fun H3 f3 t3 => ?_⟩
  cases hr : r with
  | none =>
    rw [h4 hr, hr] at k
    simp only [Option.isSome_none, Bool.false_eq_true, if_false]
    refine k H3 f3.exD t3 ?_
    simp only [Option.toList_none, List.append_nil]
    exact pD.keep f3 wD wB
  | some d' =>
    rw [hr] at k
    simp only [Option.isSome_some, if_true]
    refine h3 d' hr H3 (ha_step oBx rs_ex f3) t3 _ fun y H4 f4 t4 dy => ?_
    obtain ⟨acc, h4D, pa⟩ := pD.keep (f3.trans f4) wD wB
    refine ⟨acc, h4D, by rw [pa.length]; exact big_lt hz, k _ (fun a hne na hw => ?_) ⟨tabs_upd t4.tabs (.inr (.inl ⟨_, h4D⟩)), fun a z => ?_⟩ ⟨acc ++ [y], upd_same, ?_⟩⟩
    · rw [upd_ne hne]
      exact (f3.trans f4) a na hw
    · rw [upd_ne fun q => wD (by rw [z, q])]
      exact t4.well a z
    · have toD : ∀ {H5 H6 : Hp} {B5 : Addr → Bool}, (∀ a, B5 a = true → B1 a = true ∧ a ≠ D) → H6 = upd H5 D (.lst (acc ++ [y])) → Ex none (rs B5 H5) (rs (fun a => B1 a && decide (a ≠ D)) H6) := fun {H5 H6 B5} hB e6 a na _ => by
        unfold rs at na ⊢
        by_cases z : B5 a = true
        · obtain ⟨q1, q2⟩ := hB a z
          rw [if_pos z, if_pos (by show (B1 a && decide (a ≠ D)) = true; rw [q1]; simp [q2]), e6, upd_ne q2]
        · rw [if_neg z] at na; cases na
      refine (Das.ex (toD (fun a h => ?_) rfl) pa).append (.one (Da.ex (toD (fun a h => ?_) rfl) dy))
      · rw [Bool.and_eq_true, decide_eq_true_eq] at h
        exact h
      · unfold al at h
        rw [Bool.or_eq_true] at h
        rcases h with h | h
        · exact sB a h
        · obtain ⟨acc', q⟩ := hD'
          have hne : a ≠ D := fun z => by rw [z, f3.at q rfl wD] at h; cases h
          have hw : g.wl ≠ some a := fun z => by rw [t3.well a z] at h; cases h
          exact ⟨nB a (f3.nt h hw) hw, hne⟩
/-- what is known where the loop began, and what a turn may name -/
structure Lp (g : Gs) (W W1 : List Int) (Ha : Hp) (B : Addr → Bool) (H1 H2 : Hp) (D : Addr) : Prop where
  o : Off g.wl B Ha
  e : Ex none Ha H1
  t1 : Hs g.T g.wl W1 H1
  f : Ex g.wl H1 H2
  t2 : Hs g.T g.wl W H2
  hD : H2 D = none
section
variable {H2 H H' : Hp} {D : Addr}
theorem Lp.wD (L : Lp g W W1 Ha B H1 H2 D) : g.wl ≠ some D := fun z => by
  have := L.t2.well D z
  rw [L.hD] at this; cases this
theorem Lp.wB (L : Lp g W W1 Ha B H1 H2 D) : ∀ a, g.wl = some a → al B H1 a = false := fun a z => by
  unfold al
  rw [(L.o a z).1, L.t1.well a z]; rfl
theorem Lp.known (L : Lp g W W1 Ha B H1 H2 D) (p : Ex g.wl H2 H) (n : New H H') : ∀ a, nt (Ha a) = false → g.wl ≠ some a ∧ a ≠ D ∧ nt (H2 a) = false ∧ H' a = Ha a := fun a na => by
  have n1D : nt (H1 D) = true := L.f.nt (by rw [L.hD]; rfl) L.wD
  have naD : nt (Ha D) = true := L.e.nt n1D (by simp)
  have hne : a ≠ D := fun z => by rw [z, naD] at na; cases na
  have hw : g.wl ≠ some a := fun z => by rw [(L.o a z).2] at na; cases na
  have q1 := L.e a na (by simp)
  have q2 := L.f a (by rw [q1]; exact na) hw
  have q3 := p a (by rw [q2, q1]; exact na) hw
  have q4 := n.1 a (by rw [q3, q2, q1]; exact na) (by simp)
  exact ⟨hw, hne, by rw [q2, q1]; exact na, by rw [q4, q3, q2, q1]⟩
theorem Lp.eHx (L : Lp g W W1 Ha B H1 H2 D) (p : Ex g.wl H2 H) (n : New H H') : Ex none Ha (sub g.wl D H') := fun a na _ => by
  obtain ⟨hw, hne, _, q⟩ := L.known p n a na
  unfold sub rs
  rw [if_pos (by simp [hne, hw]), q]
theorem Lp.bsub {Wx : List Int} (L : Lp g W W1 Ha B H1 H2 D) (p : Ex g.wl H2 H) (pt : WellIs g.wl Wx H) {acc : List V} (pD : H D = some (.lst acc)) : ∀ a, al (kn (al B H1) H2) H a = true → (al B H1 a = true ∧ a ≠ D) ∧ g.wl ≠ some a := fun a h => by
  have hne : a ≠ D := fun z => by
    rw [z] at h
    unfold al kn at h
    rw [L.hD, pD] at h
    simp [SN.nt] at h
  have hw : g.wl ≠ some a := fun z => by
    have h' : ((al B H1 a && !SN.nt (H2 a)) || SN.nt (H a)) = true := h
    rw [pt a z, L.wB a z] at h'
    cases h'
  refine ⟨⟨?_, hne⟩, hw⟩
  unfold al kn at h
  rw [Bool.or_eq_true, Bool.and_eq_true] at h
  rcases h with h | h
  · exact h.1
  · exact al_new (L.f.nt (p.nt h hw) hw)
theorem Lp.oBx {Wx : List Int} (L : Lp g W W1 Ha B H1 H2 D) (p : Ex g.wl H2 H) (pt : WellIs g.wl Wx H) {acc : List V} (pD : H D = some (.lst acc)) : Off g.wl (al (kn (al B H1) H2) H) (sub g.wl D H') := fun a z => by
  refine ⟨?_, ?_⟩
  · cases q : al (kn (al B H1) H2) H a with
    | false => rfl
    | true => exact absurd z (L.bsub p pt pD a q).2
  · unfold sub rs
    rw [z]; simp [SN.nt]
theorem Lp.nB (L : Lp g W W1 Ha B H1 H2 D) (p : Ex g.wl H2 H) (n : New H H') : ∀ a, nt (H' a) = true → g.wl ≠ some a → al B H1 a = true := fun a na hw => al_new (L.f.nt (p.nt (n.1.nt na (by simp)) hw) hw)
theorem Lp.kB (L : Lp g W W1 Ha B H1 H2 D) (p : Ex g.wl H2 H) (n : New H H') : ∀ a, B a = true → nt (Ha a) = false → al (kn (al B H1) H2) H a = true := fun a hB hn => by
  obtain ⟨hw, hne, n2, q⟩ := L.known p n a hn
  refine al_B ?_
  unfold kn
  rw [al_B hB, n2]; rfl
theorem da_sub {w : Option Addr} {Bx : Addr → Bool} {v : V} (h : Da (rs Bx H) v d) (hB : ∀ a, Bx a = true → a ≠ D ∧ w ≠ some a) : Da (rs Bx (sub w D H)) v d := h.ex fun a na _ => by
  have hx : Bx a = true := by
    unfold rs at na
    by_cases z : Bx a = true
    · exact z
    · rw [if_neg z] at na; cases na
  obtain ⟨h1, h2⟩ := hB a hx
  unfold sub rs
  rw [if_pos hx, if_pos (by simp [h1, h2]), if_pos hx]
end
theorem DAt.step {H H' : Hp} {B1 : Addr → Bool} {D : Addr} (h : DAt B1 D ds H) (n : New H H') : DAt B1 D ds H' := by
  obtain ⟨acc, h1, h2⟩ := h
  exact ⟨acc, n.1.at h1 rfl (by simp), h2.ex (rs_mono (fun _ _ h => h) n.1 fun a z => by cases z)⟩
/-- a new list of these -/
def AftN (g : Gs) (B : Addr → Bool) (H1 : Hp) (ds : List PD) (W' : List Int) (Q : VK) : Prop := ∀ p xs H2, Ex g.wl H1 H2 → Hs g.T g.wl W' H2 → nt (H1 p) = true → g.wl ≠ some p → H2 p = some (.lst xs) → Das (rs (fun a => al B H1 a && decide (a ≠ p)) H2) xs ds → Q (.ref p) H2
def EvN (g : Gs) (sc : Scope) (σ : L2.St) (Ha : Hp) (B : Addr → Bool) (W : List Int) (e : Expr) (ds : List PD) (W' : List Int) : Prop :=
  ∀ H1, Ex none Ha H1 → Hs g.T g.wl W H1 → ∀ Q : VK, AftN g B H1 ds W' Q → wA g sc e σ H1 Q
theorem Aft.toN {Q : VK} (q : Aft g B H1 (.list ds) W1 Q) : AftN g B H1 ds W1 Q := fun p xs H2 f t n w h d => q (.ref p) H2 f t (.lst (rs_put h (al_new n)) (d.ex (rs_mono (w := none) (fun a _ h => by
  rw [Bool.and_eq_true] at h
  exact h.1) (Ex.refl H2) fun _ z => by cases z)))
theorem EvN.ed (h : EvN g sc σ Ha B W e ds W1) : EvD g sc σ Ha B W e (.list ds) W1 := fun H1 e1 t Q q => h H1 e1 t Q q.toN
/-- the reading of a comprehension with one clause -/
theorem lc_rd {K : PySem.W.Frag} {own : List Nat} {t : Tg} {ifs : List Expr} {elt : Expr} {items : List PD} {outs : List (Option PD)} {sc' : Scope} {Ws : Nat → List Int} (o : Off g.wl B Ha)
    (hsl : ∀ i ∈ t.slots, i ∈ own) (hit : ItD g sc σ Ha B W tg iter items (Ws 0)) (hz : items.length ≤ big) (hlen : outs.length = items.length)
    (h : ∀ (i : Nat) d r, items[i]? = some d → outs[i]? = some r → TurnD g sc' (wipe σ own) Ha B (Ws i) (Ws (i + 1)) t ifs elt d r)
    (e : Ex none Ha H1) (t1 : Hs g.T g.wl W H1) {Q : VK} (q : AftN g B H1 (outs.filterMap id) (Ws items.length) Q) :
    tLc (wI g sc tg iter) (tgG K t) (wTs g sc' ifs) (wA g sc' elt) own σ H1 Q := by
  refine hit H1 e t1 _ fun J H2 f t2 ⟨G, Y, wk, hG, hY⟩ D hD => ?_
  have L : Lp g (Ws 0) W Ha B H1 H2 D := ⟨o, e, t1, f, t2, hD⟩
  have small : ∀ i, ((outs.take i).filterMap id).length ≤ big := fun i => Nat.le_trans (List.length_filterMap_le _ _) (Nat.le_trans (by rw [List.length_take]; exact Nat.min_le_right _ _) (by rw [hlen]; exact hz))
  have src : ∀ {H : Hp}, Ex g.wl H2 H → Ex none (rs (al B H1) H2) H := fun {H} p => (rs_mono (B' := al B H1) (fun _ _ h => h) p (al_off o t1.well)).trans rs_ex
  refine lc_it wk (fun i H => Ex g.wl H2 H ∧ Hs g.T g.wl (Ws i) H ∧ DAt (al B H1) D ((outs.take i).filterMap id) H) ⟨(New.upd hD).1.weak, (New.upd hD).2 _ _ _ t2, [], upd_same, .nil⟩ (fun i H _ p => hG H (src p.1)) (fun i x H H' hi p y => ?_) fun H p => ?_
  · obtain ⟨pf, pt, acc, pD, pa⟩ := p
    obtain ⟨n, dx⟩ := hY i items[i] H x H' (List.getElem?_eq_getElem hi) (src pf) y
    have ho : i < outs.length := by rw [hlen]; exact hi
    have bs := L.bsub pf pt.well pD
    refine lc_step L.wD L.wB (n.2 _ _ _ pt) (DAt.step ⟨acc, pD, pa⟩ n) (L.nB pf n) (fun a h => (bs a h).1) (L.oBx pf pt.well pD) (h i _ _ (List.getElem?_eq_getElem hi) (List.getElem?_eq_getElem ho) _ _ x (L.eHx pf n) (L.oBx pf pt.well pD) (L.kB pf n) (da_sub dx fun a h => ⟨(bs a h).1.2, (bs a h).2⟩)) hsl (small i) fun H5 p5 t5 d5 => ⟨fun a na hw => ?_, t5, ?_⟩
    · have hne : a ≠ D := fun z => by rw [z, hD] at na; cases na
      have q := pf a na hw
      have q2 := n.1 a (by rw [q]; exact na) (by simp)
      rw [p5 a hne (by rw [q2, q]; exact na) hw, q2, q]
    · have e5 : (outs.take (i + 1)).filterMap id = (outs.take i).filterMap id ++ outs[i].toList := by
        rw [List.take_succ_eq_append_getElem ho, List.filterMap_append]
        cases outs[i] <;> rfl
      rw [e5]
      exact d5
  · have e6 : outs.take items.length = outs := by rw [← hlen]; exact List.take_length
    rw [e6] at p
    obtain ⟨pf, pt, acc, pD, pa⟩ := p
    exact q D acc H (f.trans pf) pt (L.f.nt (by rw [hD]; rfl) L.wD) L.wD pD pa
/-- a comprehension with one clause -/
theorem ed_lcN {scope : Scope} {own : List (Str × Nat)} {pos : Pos} {t : Tg} {ifs : List Expr} {elt : Expr} {items : List PD} {outs : List (Option PD)} (o : Off g.wl B Ha) (hok : blkC g.N sc scope own = true) (hk : scope.kind = .function) (htg : isTg g.N scope tg t = true) (hif : ifs.length ≤ 1)
    (hsl : ∀ i ∈ t.slots, i ∈ own.map (·.2)) (hfs : ∀ env x, foldedSetIterable iter env x = pure x) (hit : ItD g sc σ Ha B W tg iter items W1) (hz : items.length ≤ big) (hlen : outs.length = items.length)
    (h : ∀ (i : Nat) d r, items[i]? = some d → outs[i]? = some r → TurnD g (relS scope sc) (wipe σ (own.map (·.2))) Ha B W1 W1 t ifs elt d r) :
    EvN g sc σ Ha B W (.ListComp elt [⟨tg, iter, ifs, 0⟩] scope pos) (outs.filterMap id) W1 := fun H1 e t1 Q q => wA.of fun X gx => by
  have tg' := fun (s : Shared) (H : Hp) (C : Addr) (cl : List (Str × Addr)) (fp : List Addr) => pg_blk (s := s) (H := H) (C := C) (cl := cl) (fp := fp) gx htg
  exact ⟨_, pe_lc (own := own) (g := tgG X.K t) (tt := wTs g (relS scope sc) ifs) (te := wA g (relS scope sc) elt) gx.calm gx.nd (wI.pi gx) (blkOk_by (by rw [gx.N, gx.sc]; exact hok)) tg' (fun s H C cl fp => wTs.pts (gx_blk gx hk) hif) (fun s H C cl fp => wA.pe (gx_blk gx hk)) (fun x => hfs _ x), lc_rd (Ws := fun _ => W1) o hsl hit hz hlen h e t1 q⟩
theorem ed_lc {scope : Scope} {own : List (Str × Nat)} {pos : Pos} {t : Tg} {ifs : List Expr} {elt : Expr} {items : List PD} {outs : List (Option PD)} (o : Off g.wl B Ha) (hok : blkC g.N sc scope own = true) (hk : scope.kind = .function) (htg : isTg g.N scope tg t = true) (hif : ifs.length ≤ 1)
    (hsl : ∀ i ∈ t.slots, i ∈ own.map (·.2)) (hfs : ∀ env x, foldedSetIterable iter env x = pure x) (hit : ItD g sc σ Ha B W tg iter items W1) (hz : items.length ≤ big) (hlen : outs.length = items.length)
    (h : ∀ (i : Nat) d r, items[i]? = some d → outs[i]? = some r → TurnD g (relS scope sc) (wipe σ (own.map (·.2))) Ha B W1 W1 t ifs elt d r) :
    EvD g sc σ Ha B W (.ListComp elt [⟨tg, iter, ifs, 0⟩] scope pos) (.list (outs.filterMap id)) W1 := (ed_lcN o hok hk htg hif hsl hfs hit hz hlen h).ed
end
end SN
end
section
set_option Elab.async false
set_option linter.all false
set_option maxRecDepth 100000
set_option maxHeartbeats 4000000
/-! S5: tests, and or not, conditional expressions, chains, calls of the program's own defs, isinstance, list(range(..)), two clauses. -/
namespace SN
open PySem L2 LamX

/-! ### side conditions by the look of the expression -/
/-- no star, no slice, no set -/
def plainE : Expr → Bool
  | .Starred _ _ => false
  | .Slice _ _ _ _ => false
  | .Set _ _ _ => false
  | _ => true
theorem plainE.star {e : Expr} (h : plainE e = true) : nostar e = true := by cases e <;> first | rfl | cases h
theorem plainE.marks {e : Expr} {op : CmpOp} (h : plainE e = true) : behindInMarks op e = false := by cases e <;> first | rfl | cases h
theorem plainE.ix {e : Expr} (h : plainE e = true) : PlainIx e := fun o i => by cases e <;> first | rfl | cases h
theorem plainE.fold {e : Expr} (h : plainE e = true) : ∀ env x, foldedSetIterable e env x = pure x := fun env x => by cases e <;> first | rfl | cases h
theorem plainE.last {b c : Expr} {op op' : CmpOp} (h : plainE c = true) : lastMarks [op, op'] [b, c] = false := by
  show behindInMarks op' c = false
  exact plainE.marks h
theorem plainE.all {es : List Expr} (h : es.all plainE = true) : es.all nostar = true := by
  rw [List.all_eq_true] at h ⊢
  exact fun e he => plainE.star (h e he)
/-- a test that is asked by its value -/
def valT : Expr → Bool
  | .UnaryOp .Not _ _ => false
  | .BoolOp _ _ _ => false
  | .IfExp _ _ _ _ => false
  | .Compare _ _ _ _ => false
  | _ => true
theorem valT.eq {e : Expr} (h : valT e = true) (env : Env) (whole : Sem Value) : isTrue e env whole = (do let v ← whole; standAt e.pos; holding [v] (truthy v)) := by
  cases e with
  | UnaryOp op a pos => cases op <;> first | rfl | cases h
  | BoolOp => cases h
  | IfExp => cases h
  | Compare => cases h
  | _ => rfl
section
variable {g : Gs} {sc : Scope} {σ : L2.St} {Ha H1 : Hp} {B B' : Addr → Bool} {W W1 W2 W3 : List Int} {a b c e tg iter : Expr} {es : List Expr} {x y z d : PD} {ds : List PD} {X : Cx} {p q : Bool} {pos : Pos}

/-! ### tests -/
theorem et_val (hv : valT e = true) (h : EvD g sc σ Ha B W e x W1) (ht : pyTruth x = some p) : EvT g sc σ Ha W e p W1 := fun H1 e1 t Q k => wT.of fun X gx =>
  ⟨_, pt_truth (wA.pe gx) (valT.eq hv _) , h H1 e1 t _ fun v H2 f t2 dv => ⟨p, pyTruth_ok (dv.ex rs_ex) ht, k H2 f t2⟩⟩
theorem et_not (h : EvT g sc σ Ha W a p W1) : EvT g sc σ Ha W (.UnaryOp .Not a pos) (!p) W1 := fun H1 e1 t Q k => wT.of fun X gx =>
  ⟨_, pt_not (wT.pt gx), h H1 e1 t _ fun H2 f t2 => k H2 f t2⟩
/-- a and b, a or b (one written form for each) -/
def wW (g : Gs) (sc : Scope) (e : Expr) : TT := fun σ H Q => ∀ X, GX g sc X → ∀ whole pins s, Inv X pins σ H s → wpAny (model X.prog X.w) X.A (isTrue e X.env whole) (TP X pins σ Q) X.xe s
theorem wW.pw (gx : GX g sc X) : PW X e (wW g sc e) := ⟨fun whole pins s σ H Q I h => h X gx whole pins s I⟩
theorem wW.of {H : Hp} {Q : Bool → Hp → Prop} (h : ∀ X, GX g sc X → ∃ t : TT, PW X e t ∧ t σ H Q) : wW g sc e σ H Q := fun X gx whole pins s I => by
  obtain ⟨t, p, q⟩ := h X gx
  exact p.run whole pins s σ H Q I q
theorem wW.t {H : Hp} {Q : Bool → Hp → Prop} (h : wW g sc e σ H Q) : wT g sc e σ H Q := fun X gx pins s I => h X gx _ pins s I
def EvW (g : Gs) (sc : Scope) (σ : L2.St) (Ha : Hp) (W : List Int) (e : Expr) (b : Bool) (W' : List Int) : Prop :=
  ∀ H1, Ex none Ha H1 → Hs g.T g.wl W H1 → ∀ Q : Bool → Hp → Prop, (∀ H2, Ex g.wl H1 H2 → Hs g.T g.wl W' H2 → Q b H2) → wW g sc e σ H1 Q
theorem EvW.t (h : EvW g sc σ Ha W e p W1) : EvT g sc σ Ha W e p W1 := fun H1 e1 t Q k => (h H1 e1 t Q k).t
theorem ew_and1 (h : EvT g sc σ Ha W a p W1) : EvW g sc σ Ha W (.BoolOp .And [a] pos) p W1 := fun H1 e1 t Q k => wW.of fun X gx => ⟨_, pw_and1 (wT.pt gx), h H1 e1 t _ k⟩
theorem ew_or1 (h : EvT g sc σ Ha W a p W1) : EvW g sc σ Ha W (.BoolOp .Or [a] pos) p W1 := fun H1 e1 t Q k => wW.of fun X gx => ⟨_, pw_or1 (wT.pt gx), h H1 e1 t _ k⟩
theorem ew_andT (o : Off g.wl B Ha) (h : EvT g sc σ Ha W a true W1) (h2 : EvW g sc σ Ha W1 (.BoolOp .And (b :: es) pos) q W2) : EvW g sc σ Ha W (.BoolOp .And (a :: b :: es) pos) q W2 := fun H1 e1 t Q k => wW.of fun X gx =>
  ⟨_, pw_and (wT.pt gx) (wW.pw gx), h H1 e1 t _ fun H2 f t2 => iteT (h2 H2 (ha_step o e1 f) t2 Q fun H3 f3 t3 => k H3 (f.trans f3) t3)⟩
theorem ew_andF (h : EvT g sc σ Ha W a false W1) : EvW g sc σ Ha W (.BoolOp .And (a :: b :: es) pos) false W1 := fun H1 e1 t Q k => wW.of fun X gx =>
  ⟨_, pw_and (tB' := fun _ _ _ => False) (wT.pt gx) ⟨fun _ _ _ _ _ _ _ z => z.elim⟩, h H1 e1 t _ fun H2 f t2 => iteF (k H2 f t2)⟩
theorem ew_orF (o : Off g.wl B Ha) (h : EvT g sc σ Ha W a false W1) (h2 : EvW g sc σ Ha W1 (.BoolOp .Or (b :: es) pos) q W2) : EvW g sc σ Ha W (.BoolOp .Or (a :: b :: es) pos) q W2 := fun H1 e1 t Q k => wW.of fun X gx =>
  ⟨_, pw_or (wT.pt gx) (wW.pw gx), h H1 e1 t _ fun H2 f t2 => iteF (h2 H2 (ha_step o e1 f) t2 Q fun H3 f3 t3 => k H3 (f.trans f3) t3)⟩
theorem ew_orT (h : EvT g sc σ Ha W a true W1) : EvW g sc σ Ha W (.BoolOp .Or (a :: b :: es) pos) true W1 := fun H1 e1 t Q k => wW.of fun X gx =>
  ⟨_, pw_or (tB' := fun _ _ _ => False) (wT.pt gx) ⟨fun _ _ _ _ _ _ _ z => z.elim⟩, h H1 e1 t _ fun H2 f t2 => iteT (k H2 f t2)⟩
theorem et_cmp {op : CmpOp} (o : Off g.wl B Ha) (hm : behindInMarks op b = false) (ha : EvD g sc σ Ha B W a x W1) (hb : EvD g sc σ Ha B W1 b y W2) (h : OpD g (compareOp op) x y (.bool p)) : EvT g sc σ Ha W (.Compare a [op] [b] pos) p W2 := fun H1 e t Q k => wT.of fun X gx => by
  obtain ⟨r, ho, hr⟩ := h X sc gx
  exact ⟨_, pt_cmpR ho (wA.pe gx) (wA.pe gx) hm, two o ha hb e t fun v u H2 f t2 dv du => hr v u H2 (al B H1) _ (fun p n => al_of_nt f t2 n) dv du fun z H3 n dz => ⟨p, dz.bool_inv, k H3 (f.trans n.1.weak) (n.2 _ _ _ t2)⟩⟩
theorem chain_run {op op' : CmpOp} {Q : VK} (o : Off g.wl B Ha) (ha : EvD g sc σ Ha B W a x W) (hb : EvD g sc σ Ha B W b y W) (hc : EvD g sc σ Ha B W c z W) (h : pyCmp op x y = some (.bool p)) (h' : p = true → pyCmp op' y z = some (.bool q))
    (gx : GX g sc X) (e : Ex none Ha H1) (t : Hs g.T g.wl W H1) {r r' : R2} (hr : R2D r x y (.bool p)) (hr' : p = true → R2D r' y z (.bool q)) (k : ∀ H2, Ex g.wl H1 H2 → Hs g.T g.wl W H2 → Q (.bl (p && q)) H2) : tChain r r' (wA g sc a) (wA g sc b) (wA g sc c) σ H1 Q :=
  two o ha hb e t fun v u H2 f t2 dv du => hr v u H2 (al B H1) _ (fun p n => al_of_nt f t2 n) dv du fun w H3 n dw => ⟨p, dw.bool_inv, by
    have t3 := n.2 _ _ _ t2
    have f3 := f.trans n.1.weak
    cases p with
    | false => exact iteF (k H3 f3 t3)
    | true =>
      refine iteT (hc H3 (ha_step o e f3) t3 _ fun w' H4 f4 t4 dw' => ?_)
      exact hr' rfl u w' H4 (al B H1) Q (fun p n => al_of_nt (f3.trans f4) t4 n) (du.ex (rs_step o t.well (n.1.weak.trans f4))) (dw'.ex (rs_left t.well t3.well f3)) fun z' H5 n5 dz => by
        rw [dz.bool_inv]
        exact k H5 ((f3.trans f4).trans n5.1.weak) (n5.2 _ _ _ t4)⟩
theorem ed_chain {op op' : CmpOp} (o : Off g.wl B Ha) (hm : plainE c = true) (ha : EvD g sc σ Ha B W a x W) (hb : EvD g sc σ Ha B W b y W) (hc : EvD g sc σ Ha B W c z W) (h : pyCmp op x y = some (.bool p)) (h' : p = true → pyCmp op' y z = some (.bool q))
    (hq : ∃ q', pyCmp op' y z = some (.bool q')) : EvD g sc σ Ha B W (.Compare a [op, op'] [b, c] pos) (.bool (p && q)) W := fun H1 e t Q k => wA.of fun X gx => by
  obtain ⟨r, ho, hr⟩ := pyCmp_ok h X sc gx
  obtain ⟨q', hq'⟩ := hq
  obtain ⟨r', ho', hr'⟩ := pyCmp_ok hq' X sc gx
  exact ⟨_, pe_chain ho ho' (wA.pe gx) (wA.pe gx) (wA.pe gx) (plainE.last hm), chain_run o ha hb hc h h' gx e t hr (fun hp => by rw [hq'] at h'; have := h' hp; cases this; exact hr') fun H2 f t2 => k _ H2 f t2 (.bl _)⟩
theorem et_chain {op op' : CmpOp} (o : Off g.wl B Ha) (hm : plainE c = true) (ha : EvD g sc σ Ha B W a x W) (hb : EvD g sc σ Ha B W b y W) (hc : EvD g sc σ Ha B W c z W) (h : pyCmp op x y = some (.bool p)) (h' : p = true → pyCmp op' y z = some (.bool q))
    (hq : ∃ q', pyCmp op' y z = some (.bool q')) : EvT g sc σ Ha W (.Compare a [op, op'] [b, c] pos) (p && q) W := fun H1 e t Q k => wT.of fun X gx => by
  obtain ⟨r, ho, hr⟩ := pyCmp_ok h X sc gx
  obtain ⟨q', hq'⟩ := hq
  obtain ⟨r', ho', hr'⟩ := pyCmp_ok hq' X sc gx
  exact ⟨_, pt_chain ho ho' (wA.pe gx) (wA.pe gx) (wA.pe gx) (plainE.last hm), chain_run (Q := fun v H => ∃ k, v = .bl k ∧ Q k H) o ha hb hc h h' gx e t hr (fun hp => by rw [hq'] at h'; have := h' hp; cases this; exact hr') fun H2 f t2 => ⟨_, rfl, k H2 f t2⟩⟩

/-! ### and, or, not as values, a if c else b -/
theorem ed_not (h : EvD g sc σ Ha B W a (.bool p) W1) : EvD g sc σ Ha B W (.UnaryOp .Not a pos) (.bool (!p)) W1 := fun H1 e t Q k => wA.of fun X gx =>
  ⟨_, pe_not (wA.pe gx), h H1 e t _ fun v H2 f t2 dv => ⟨p, dv.bool_inv, k _ H2 f t2 (.bl _)⟩⟩
theorem ed_one {op : BoolOp} (h : EvD g sc σ Ha B W a x W1) : EvD g sc σ Ha B W (.BoolOp op [a] pos) x W1 := fun H1 e t Q k => wA.of fun X gx => ⟨_, pe_one (wA.pe gx), h H1 e t Q k⟩
theorem ed_andT (o : Off g.wl B Ha) (h : EvD g sc σ Ha B W a (.bool true) W1) (h2 : EvD g sc σ Ha B W1 (.BoolOp .And (b :: es) pos) x W2) : EvD g sc σ Ha B W (.BoolOp .And (a :: b :: es) pos) x W2 := fun H1 e t Q k => wA.of fun X gx =>
  ⟨_, pe_and (wA.pe gx) (wA.pe gx), h H1 e t _ fun v H2 f t2 dv => ⟨true, dv.bool_inv, iteT (h2 H2 (ha_step o e f) t2 Q fun u H3 f3 t3 du => k u H3 (f.trans f3) t3 (du.ex (rs_left t.well t2.well f)))⟩⟩
theorem ed_andF (h : EvD g sc σ Ha B W a (.bool false) W1) : EvD g sc σ Ha B W (.BoolOp .And (a :: b :: es) pos) (.bool false) W1 := fun H1 e t Q k => wA.of fun X gx =>
  ⟨_, pe_and (tb := fun _ _ _ => False) (wA.pe gx) ⟨fun _ _ _ _ _ _ z => z.elim⟩, h H1 e t _ fun v H2 f t2 dv => ⟨false, dv.bool_inv, iteF (k _ H2 f t2 (.bl _))⟩⟩
theorem ed_orF (o : Off g.wl B Ha) (h : EvD g sc σ Ha B W a (.bool false) W1) (h2 : EvD g sc σ Ha B W1 (.BoolOp .Or (b :: es) pos) x W2) : EvD g sc σ Ha B W (.BoolOp .Or (a :: b :: es) pos) x W2 := fun H1 e t Q k => wA.of fun X gx =>
  ⟨_, pe_or (wA.pe gx) (wA.pe gx), h H1 e t _ fun v H2 f t2 dv => ⟨false, dv.bool_inv, iteF (h2 H2 (ha_step o e f) t2 Q fun u H3 f3 t3 du => k u H3 (f.trans f3) t3 (du.ex (rs_left t.well t2.well f)))⟩⟩
theorem ed_orT (h : EvD g sc σ Ha B W a (.bool true) W1) : EvD g sc σ Ha B W (.BoolOp .Or (a :: b :: es) pos) (.bool true) W1 := fun H1 e t Q k => wA.of fun X gx =>
  ⟨_, pe_or (tb := fun _ _ _ => False) (wA.pe gx) ⟨fun _ _ _ _ _ _ z => z.elim⟩, h H1 e t _ fun v H2 f t2 dv => ⟨true, dv.bool_inv, iteT (k _ H2 f t2 (.bl _))⟩⟩
theorem ed_ifT (o : Off g.wl B Ha) (hc : EvT g sc σ Ha W c true W1) (h : EvD g sc σ Ha B W1 a x W2) : EvD g sc σ Ha B W (.IfExp c a b pos) x W2 := fun H1 e t Q k => wA.of fun X gx =>
  ⟨_, pe_ifExp (tb := fun _ _ _ => False) (wT.pt gx) (wA.pe gx) ⟨fun _ _ _ _ _ _ z => z.elim⟩, hc H1 e t _ fun H2 f t2 => iteT (h H2 (ha_step o e f) t2 Q fun u H3 f3 t3 du => k u H3 (f.trans f3) t3 (du.ex (rs_left t.well t2.well f)))⟩
theorem ed_ifF (o : Off g.wl B Ha) (hc : EvT g sc σ Ha W c false W1) (h : EvD g sc σ Ha B W1 b x W2) : EvD g sc σ Ha B W (.IfExp c a b pos) x W2 := fun H1 e t Q k => wA.of fun X gx =>
  ⟨_, pe_ifExp (ta := fun _ _ _ => False) (wT.pt gx) ⟨fun _ _ _ _ _ _ z => z.elim⟩ (wA.pe gx), hc H1 e t _ fun H2 f t2 => iteF (h H2 (ha_step o e f) t2 Q fun u H3 f3 t3 du => k u H3 (f.trans f3) t3 (du.ex (rs_left t.well t2.well f)))⟩

/-! ### slices with written ends -/
def cutD (ds : List PD) (lo hi : Option Int) : List PD := (ds.drop (HT.sIx ds.length 0 lo)).take (HT.sIx ds.length ds.length hi - HT.sIx ds.length 0 lo)
theorem Das.cut {H : Hp} {vs : List V} {ds : List PD} {lo hi : Option Int} (h : Das H vs ds) : Das H (cutV vs lo hi) (cutD ds lo hi) := by
  unfold cutV cutD
  rw [h.length]
  exact (h.drop _).take _
def pySl (x : PD) (lo hi : Option Int) : Option PD := match x with
  | .list ds => some (.list (cutD ds lo hi))
  | .tuple ds => some (.tuple (cutD ds lo hi))
  | _ => none
/-- a written end: nothing, or an int -/
def partB : Option Expr → Option (Option Int)
  | none => some none
  | some (.Constant (.int i) _ _) => some (some i)
  | some (.UnaryOp .USub (.Constant (.int i) _ _) _) => some (some (-i))
  | _ => none
theorem po_part {o : Option Expr} {i : Option Int} (h : partB o = some i) : ∃ t, PO X o t ∧ ∀ (σ : L2.St) (H : Hp) (Q : Option Int → Hp → Prop), Q i H → t σ H Q := by
  unfold partB at h
  split at h
  · cases h; exact ⟨_, po_none, fun σ H Q q => q⟩
  · cases h; exact ⟨_, po_some pe_int, fun σ H Q q => ⟨_, rfl, q⟩⟩
  · cases h; exact ⟨_, po_some (pe_un un_neg pe_int), fun σ H Q q => ⟨_, rfl, _, rfl, q⟩⟩
  · cases h
theorem ed_sl {lo hi : Option Expr} {i j : Option Int} {p2 : Pos} (hl : partB lo = some i) (hh : partB hi = some j) (h : EvD g sc σ Ha B W a x W1) (hd : pySl x i j = some d) : EvD g sc σ Ha B W (.Subscript a (.Slice lo hi none p2) pos) d W1 := fun H1 e t Q k => wA.of fun X gx => by
  obtain ⟨tl, pl, ql⟩ := po_part (X := X) hl
  obtain ⟨th, ph, qh⟩ := po_part (X := X) hh
  unfold pySl at hd
  split at hd
  · cases hd
    refine ⟨_, pe_slice sl_list (wA.pe gx) pl ph, h H1 e t _ fun v H2 f t2 dv => ql σ H2 _ (qh σ H2 _ ?_)⟩
    obtain ⟨p, xs, rfl, h1, d1⟩ := dv.list_inv
    exact ⟨p, xs, rfl, SqL.of (rs_at h1).1, fun p hp => aft_new t f t2 k _ _ (New.upd hp) (new_lst (fun p n => al_of_nt f t2 n) hp d1.cut)⟩
  · cases hd
    refine ⟨_, pe_slice sl_tupA (wA.pe gx) pl ph, h H1 e t _ fun v H2 f t2 dv => ql σ H2 _ (qh σ H2 _ ?_)⟩
    obtain ⟨p, xs, rfl, h1, d1⟩ := dv.tuple_inv
    rename_i ds
    refine ⟨p, xs, rfl, SqT.of (rs_at h1).1, fun w => ?_, fun _ p hp => aft_new t f t2 k _ _ (New.upd hp) (new_tup (fun p n => al_of_nt f t2 n) hp d1.cut)⟩
    have e2 : cutD ds i j = ds := by
      unfold cutD
      rw [← d1.length, w.1, w.2, List.drop_zero, Nat.sub_zero, d1.length, List.take_length]
    rw [e2] at k
    exact k _ H2 f t2 (.tup h1 d1)
  · cases hd

/-! ### isinstance -/
inductive Ty where
  | int | bool | tuple
  deriving DecidableEq
def Ty.nm : Ty → String
  | .int => "int" | .bool => "bool" | .tuple => "tuple"
def isTy (t : Ty) (x : PD) : Option Bool := match t, x with
  | .int, .int _ => some true
  | .int, .tuple _ => some false
  | .bool, .int _ => some false
  | .bool, .tuple _ => some false
  | .tuple, .tuple _ => some true
  | .tuple, .int _ => some false
  | _, _ => none
theorem ed_isTy {t : Ty} {n : Str} {p0 p1 p2 : Pos} (hn : n = t.nm) (hg : glB sc "isinstance" = true) (hm : g.mg "isinstance" = none) (hg2 : glB sc n = true) (hm2 : g.mg n = none) (ha : plainE a = true) (h : EvD g sc σ Ha B W a x W1) (hd : isTy t x = some p) :
    EvD g sc σ Ha B W (.Call (.Name "isinstance" p0) [a, .Name n p1] [] p2) (.bool p) W1 := fun H1 e tt Q k => wA.of fun X gx => by
  have st : ∀ {c : Expr}, PE X c (tC (.ty t.nm)) → plainE c = true → PA X [a, c] (tCons (wA g sc a) (tCons (tC (.ty t.nm)) tNil)) := fun {c} hc pc =>
    pa_cons (wA.pe gx) (pa_cons hc pa_nil (star_no _ (plainE.star pc))) (star_no _ (plainE.star ha))
  have hb : bootBuiltins (t.nm : Str) = some (.type t.nm) := by cases t <;> first | decide +kernel | rfl
  have hpe : PE X (.Name n p1) (tC (.ty t.nm)) := by
    rw [hn]
    refine pe_bltn (gl_of gx.sc (by rw [← hn]; exact hg2)) (by rw [gx.mg, ← hn]; exact hm2) hb rfl ?_ ?_
    · cases t <;> decide
    · cases t <;> decide
  refine ⟨_, pe_callB call_isi (gl_of gx.sc hg) (by rw [gx.mg]; exact hm) (by decide +kernel) (st hpe rfl) (by decide) (by decide) (star_no _ (plainE.star ha)) (backTo_plain _ _ (es := [Expr.Name n p1]) rfl), ?_⟩
  refine h H1 e tt _ fun v H2 f t2 dv => ?_
  have kk : k (.bl p) H2 f t2 (.bl _) = k (.bl p) H2 f t2 (.bl _) := rfl
  have fin : ∀ (T : String), TyX X.K H2 v (.type T) → kitB T t.nm = some p → rIsi X.K [v, .ty t.nm] H2 Q := fun T ty kb =>
    ⟨v, .ty t.nm, .type T, .type t.nm, p, rfl, .ty _, ty, kit_ty kb, k (.bl p) H2 f t2 (.bl _)⟩
  cases dv with
  | int i =>
    refine fin "int" (.base (.int _)) ?_
    cases t <;> (cases hd; first | decide +kernel | rfl)
  | tup h1 _ =>
    refine fin "tuple" (.base (.tup (rs_at h1).1)) ?_
    cases t <;> (cases hd; first | decide +kernel | rfl)
  | _ => cases t <;> cases hd
/-! ### list(range(n)) -/
theorem rgV_da {H : Hp} {lo hi : Int} : Das H (rgV lo hi) (rngD lo (hi - lo).toNat) := by
  unfold rgV rngD
  have gen : ∀ l : List Nat, Das H (l.map fun i => V.int (lo + (i : Nat))) (l.map fun (i : Nat) => PySem.PyData.int (lo + (i : Int))) := by
    intro l
    induction l with
    | nil => exact .nil
    | cons i l ih => exact .cons (.int _) ih
  exact gen _
theorem ed_listRng {n : Int} {p0 p1 p2 p3 : Pos} (hg : glB sc "list" = true) (hm : g.mg "list" = none) (hg2 : glB sc "range" = true) (hm2 : g.mg "range" = none) (ha : plainE a = true) (hn : n ≤ 100000 ∧ -100000 ≤ n) (h : EvD g sc σ Ha B W a (.int n) W1) :
    EvD g sc σ Ha B W (.Call (.Name "list" p0) [.Call (.Name "range" p1) [a] [] p2] [] p3) (.list (rngD 0 n.toNat)) W1 := fun H1 e t Q k => wA.of fun X gx => by
  refine ⟨_, pe_listRg gx.calm (gl_of gx.sc hg) (by rw [gx.mg]; exact hm) (prg_1 (gl_of gx.sc hg2) (by rw [gx.mg]; exact hm2) (wA.pe gx) (star_no _ (plainE.star ha))), ?_⟩
  refine h H1 e t _ fun v H2 f t2 dv => ⟨n, dv.int_inv, ⟨by omega, by omega, by omega, by omega, by omega⟩, fun q hq => aft_new t f t2 k _ _ (New.upd hq) (new_lst (fun p n => al_of_nt f t2 n) hq ?_)⟩
  have r := rgV_da (H := rs (al B H1) H2) (lo := 0) (hi := n)
  rw [show n - 0 = n by omega] at r
  exact r
theorem ed_tupRng {n : Int} {p0 p1 p2 p3 : Pos} (hg : glB sc "tuple" = true) (hm : g.mg "tuple" = none) (hg2 : glB sc "range" = true) (hm2 : g.mg "range" = none) (ha : plainE a = true) (hn : n ≤ 100000 ∧ -100000 ≤ n) (h : EvD g sc σ Ha B W a (.int n) W1) :
    EvD g sc σ Ha B W (.Call (.Name "tuple" p0) [.Call (.Name "range" p1) [a] [] p2] [] p3) (.tuple (rngD 0 n.toNat)) W1 := fun H1 e t Q k => wA.of fun X gx => by
  refine ⟨_, pe_tupRg gx.calm (gl_of gx.sc hg) (by rw [gx.mg]; exact hm) (prg_1 (gl_of gx.sc hg2) (by rw [gx.mg]; exact hm2) (wA.pe gx) (star_no _ (plainE.star ha))), ?_⟩
  refine h H1 e t _ fun v H2 f t2 dv => ⟨n, dv.int_inv, ⟨by omega, by omega, by omega, by omega, by omega⟩, fun q hq => aft_new t f t2 k _ _ (New.upd hq) (new_tup (fun p n => al_of_nt f t2 n) hq ?_)⟩
  have r := rgV_da (H := rs (al B H1) H2) (lo := 0) (hi := n)
  rw [show n - 0 = n by omega] at r
  exact r
/-- the ints below 60 among these -/
def ssetI (ns : List Int) : List Int := ((List.range 60).filter fun (i : Nat) => decide ((i : Int) ∈ ns)).map fun (i : Nat) => (i : Int)
def pySset : PD → Option PD
  | .list ds => (asInts ds).bind fun ns => if decide (ns.length ≤ 4000) && ns.all (fun z => decide (0 ≤ z) && decide (z < 60)) then some (.list ((ssetI ns).map .int)) else none
  | _ => none
theorem ssetI_uniq {ns out : List Int} (hr : ∀ z ∈ ns, 0 ≤ z ∧ z < 60) (hs : out.Pairwise (· < ·)) (hm : ∀ k, k ∈ out ↔ k ∈ ns) : out = ssetI ns := by
  have s2 : (ssetI ns).Pairwise (· < ·) := by
    refine List.pairwise_map.mpr ((List.pairwise_lt_range.filter _).imp fun {a b} h => ?_)
    omega
  have nd : ∀ {l : List Int}, l.Pairwise (· < ·) → l.Nodup := fun h => h.imp fun x => by omega
  refine List.Perm.eq_of_pairwise (le := fun a b => a ≤ b) (fun a b _ _ x y => by omega) (hs.imp fun x => by omega) (s2.imp fun x => by omega) ((List.perm_ext_iff_of_nodup (nd hs) (nd s2)).mpr fun k => ?_)
  rw [hm k]
  unfold ssetI
  rw [List.mem_map]
  constructor
  · intro h
    obtain ⟨h1, h2⟩ := hr k h
    have e : ((k.toNat : Nat) : Int) = k := by omega
    refine ⟨k.toNat, List.mem_filter.mpr ⟨List.mem_range.mpr (by omega), ?_⟩, e⟩
    show decide (((k.toNat : Nat) : Int) ∈ ns) = true
    rw [e]
    exact decide_eq_true h
  · rintro ⟨i, hi, rfl⟩
    exact of_decide_eq_true (List.mem_filter.mp hi).2
theorem ed_sset {p0 p1 p2 p3 : Pos} (hg : glB sc "sorted" = true) (hm : g.mg "sorted" = none) (hg2 : glB sc "set" = true) (hm2 : g.mg "set" = none) (ha : plainE a = true) (h : EvD g sc σ Ha B' W a x W1) (hd : pySset x = some d) :
    EvD g sc σ Ha B W (.Call (.Name "sorted" p0) [.Call (.Name "set" p1) [a] [] p2] [] p3) d W1 := fun H1 e t Q k => wA.of fun X gx => by
  cases x with
  | list ds =>
    obtain ⟨ns, h1, h2⟩ := Option.bind_eq_some_iff.mp (show ((asInts ds).bind fun ns => if decide (ns.length ≤ 4000) && ns.all (fun z => decide (0 ≤ z) && decide (z < 60)) then some (PySem.PyData.list ((ssetI ns).map .int)) else none) = some d from hd)
    split at h2
    · rename_i hc
      cases h2
      rw [Bool.and_eq_true, decide_eq_true_eq, List.all_eq_true] at hc
      refine ⟨_, pe_sset gx.calm (gl_of gx.sc hg) (by rw [gx.mg]; exact hm) (gl_of gx.sc hg2) (by rw [gx.mg]; exact hm2) (wA.pe gx) (star_no _ (plainE.star ha)), h H1 e t _ fun v H2 f t2 dv => ?_⟩
      obtain ⟨p, xs, rfl, k1, d1⟩ := dv.list_inv
      rw [asInts_eq h1] at d1
      rw [d1.ints] at k1
      have hr : ∀ z ∈ ns, 0 ≤ z ∧ z < 60 := fun z hz => by
        have := hc.2 z hz
        simpa using this
      refine ⟨p, ns, rfl, SqL.of (rs_at k1).1, hc.1, hr, fun out q hs hmm hq => aft_new t f t2 k _ _ (New.upd hq) (new_lst (fun p n => al_of_nt f t2 n) hq ?_)⟩
      rw [ssetI_uniq hr hs hmm]
      exact Das.of_ints _
    · cases h2
  | _ => cases hd
def pyRev : PD → Option PD
  | .list ds => some (.list ds.reverse)
  | _ => none
theorem ed_rev {k : Nat} {p1 p2 p3 : Pos} (h : EvD g sc σ Ha B W a x W1) (hd : pyRev x = some d) : EvD g sc σ Ha B W (.Subscript a (.Slice none none (some (.UnaryOp .USub (.Constant (.int 1) k p1) p2)) p3) pos) d W1 := fun H1 e t Q q => wA.of fun X gx => by
  cases x with
  | list ds =>
    cases hd
    refine ⟨_, pe_revL (wA.pe gx), h H1 e t _ fun v H2 f t2 dv => ?_⟩
    obtain ⟨p, xs, rfl, k1, d1⟩ := dv.list_inv
    exact ⟨p, xs, rfl, SqL.of (rs_at k1).1, fun l hl => aft_new t f t2 q _ _ (New.upd hl) (new_lst (fun p n => al_of_nt f t2 n) hl d1.reverse)⟩
  | _ => cases hd
end

/-! ### calls of the program's own defs -/
/-- a def that makes data of data, all that was staying as it was -/
def spD (T : List (Addr × Str)) (sem : List PD → Option PD) (ar : Nat) : Sp := fun vs H Q _ => vs.length = ar ∧ ∃ (B : Addr → Bool) (ds : List PD) (d : PD), sem ds = some d ∧ Tabs T H ∧ Das (rs B H) vs ds ∧
  ∀ v H', Ex none H H' → Tabs T H' → Da (rs (al B H) H') v d → Q v H'
/-- a def's promise where no guard of a text being made runs (what repr asks) -/
structure FnG (P : Program) (w : World) (K : PySem.W.Frag) (mg : Str → Option Value) (base : Heap) (k : Nat) (f : Addr) (fd : FuncData) (ps : List Str) (sp : Sp) : Prop where
  len : ∀ vs H Q, sp vs H Q E0 → vs.length = ps.length
  run : ∀ (A : Around) (out : List Env) (s : Shared) (H : Hp) (ar : Args) (us : List Value) (vs : List V) (Q : VK), Room k A → A.guards = some [] → Env0 P w K mg base A out s H → BindsTo s fd ar (ps.zip us) → Vals vs us → sp vs H Q E0 →
    codeAny (model P w) A (.call (.ref f) ar) (CR CX0 out P w H s Q E0) s
theorem FnG.up {P : Program} {w : World} {K : PySem.W.Frag} {mg : Str → Option Value} {base : Heap} {j k : Nat} {f : Addr} {fd : FuncData} {ps : List Str} {sp : Sp} (F : FnG P w K mg base j f fd ps sp) (h : j ≤ k) : FnG P w K mg base k f fd ps sp :=
  ⟨F.len, fun A out s H ar us vs Q hr => F.run A out s H ar us vs Q (hr.mono h)⟩
/-- the def n is there and keeps the promise -/
def FnAt (g : Gs) (n : Str) (sp : Sp) : Prop := ∃ (f : Addr) (fd : FuncData) (ps : List Str), g.mg n = some (.ref f) ∧ FnG g.P g.w g.K g.mg g.base g.k f fd ps sp ∧ Binds g.K fd ps [] ∧ PySem.W.keepIn g.K (.ref f) = true
/-- f(e, ..) by such a promise -/
def tG (sp : Sp) (t : TA) : TE := fun σ H Q => t σ H fun vs H1 => sp vs H1 Q E0
theorem pe_callG {X : Cx} {k : Nat} {f : Addr} {fd : FuncData} {ps : List Str} {sp : Sp} {n : Str} {p0 p1 : Pos} {a : Expr} {es : List Expr} {t : TA} (F : FnG X.prog X.w X.K X.mg X.base k f fd ps sp) (rm : Room k X.A) (gd : X.A.guards = some []) (gl : Gl X n) (m : X.mg n = some (.ref f))
    (kp : PySem.W.keepIn X.K (.ref f) = true) (b : Binds X.K fd ps []) (pa : PA X (a :: es) t) (nd : (n == ("__debug__" : Str)) = false) (h1 : starEach (a :: es) X.env = (false, eval a X.env) :: starEach es X.env) (h2 : (backTo p1 (starEach es X.env)).any (·.1) = false) :
    PE X (.Call (.Name n p0) (a :: es) [] p1) (tG sp t) := ⟨fun pins s0 σ H Q I q0 => wpAny_Call_Name_kw (ld_glob I gl m (by
  refine PySem.W.callWith_K I.ok.mod.kin kp ?_ h1 h2
  refine thn (pa.run p1 pins s0 σ H _ I q0) fun us s1 w => ?_
  obtain ⟨vs, H1, J, r, q⟩ := w
  refine ⟨J.kIn, wpAny_call (codeAny_mono (F.run X.A X.stack s1 H1 ⟨us, []⟩ us vs Q rm gd J.env0 ?_ r q) fun o s2 c => ?_)⟩
  · have b1 := b s1 us J.kIn (by rw [List.append_nil, ← r.length]; exact F.len _ _ _ q)
    rwa [List.append_nil] at b1
  · match o, c with
    | .ok (.ret u), c => exact J.after c) nd)⟩
section
variable {g : Gs} {sc : Scope} {σ : L2.St} {Ha H1 : Hp} {B B' : Addr → Bool} {W W1 W2 W3 : List Int} {a b c e tg iter : Expr} {es : List Expr} {x y z d : PD} {ds : List PD} {X : Cx} {p q : Bool} {pos : Pos}
theorem ed_fn {n : Str} {sem : List PD → Option PD} {ar : Nat} {p1 : Pos} (F : FnAt g n (spD g.T sem ar)) (hg : glB sc n = true) (hdb : (n == ("__debug__" : Str)) = false) (hst : (a :: es).all nostar = true) (hl : ds.length = ar)
    (ha : EvS g sc σ Ha B W (a :: es) ds W1) (hs : sem ds = some d) : EvD g sc σ Ha B W (.Call (.Name n p1) (a :: es) [] pos) d W1 := fun H1 e t Q k => wA.of fun X gx => by
  obtain ⟨f, fd, ps, hm, ok, hb, hk⟩ := F
  have hst' := hst
  rw [List.all_cons, Bool.and_eq_true] at hst'
  refine ⟨_, pe_callG (X := X) (k := g.k) (sp := spD g.T sem ar) (fd := fd) (ps := ps) (by rw [gx.prog, gx.w, gx.K, gx.mg, gx.base]; exact ok) gx.room gx.gd (gl_of gx.sc hg) (by rw [gx.mg]; exact hm) (by rw [gx.K]; exact hk) (by rw [gx.K]; exact hb) (wAs.pa gx hst) hdb (star_no _ hst'.1) (backTo_plain _ _ hst'.2), ?_⟩
  refine ha H1 e t _ fun vs H2 f t2 dv => ?_
  refine ⟨by rw [dv.length]; exact hl, al B H1, ds, d, hs, t2.tabs, dv, fun v H3 f3 t3 dv3 => k v H3 (f.trans f3.weak) ⟨t3, fun p z => ?_⟩ (dv3.ex ?_)⟩
  · exact f3.at (t2.well p z) rfl (by simp)
  · refine rs_mono (w := none) (fun p _ hp => ?_) (Ex.refl H3) fun _ z => by cases z
    unfold al at hp
    rw [Bool.or_eq_true] at hp
    rcases hp with hp | hp
    · exact hp
    · exact al_of_nt f t2 hp
end
end SN
end
section
set_option Elab.async false
set_option linter.all false
set_option maxRecDepth 100000
set_option maxHeartbeats 4000000
/-! S6: comprehensions with two clauses. -/
namespace SN
open PySem L2 LamX
theorem kn_of {B : Addr → Bool} {H : Hp} {a : Addr} (h : B a = true) (n : nt (H a) = false) : kn B H a = true := by
  unfold kn
  rw [h, n]; rfl
section
variable {g : Gs} {sc : Scope} {σ : L2.St} {Ha H1 : Hp} {B : Addr → Bool} {W W1 W2 W3 : List Int} {a b c e tg iter tg1 iter1 : Expr} {es : List Expr} {x y z d : PD} {ds : List PD} {X : Cx}
/-- the loop of the second clause -/
theorem in_it {J : It} {n : Nat} {G : Hp → Prop} {Y : Nat → Hp → V → Hp → Prop} (w : Walk J n G Y) {gg : TG} {tt : TT} {te : TE} {vs1 : List Nat} {σ2 : L2.St} {H4 : Hp} {D : Addr} {Nx : Hp → Prop} (Pv : Nat → Hp → Prop) (h0 : Pv 0 H4) (hG : ∀ i H, i ≤ n → Pv i H → G H)
    (hs : ∀ i x H H', i < n → Pv i H → Y i H x H' → gg x (wipe σ2 vs1) H' fun σ3 H5 => wipe σ3 vs1 = wipe σ2 vs1 ∧ tt σ3 H5 fun b H6 =>
      if b = true then te σ3 H6 fun y H7 => ∃ acc, H7 D = some (.lst acc) ∧ acc.length < sizeLine ∧ Pv (i + 1) (upd H7 D (.lst (acc ++ [y]))) else Pv (i + 1) H6) (hd : ∀ H, Pv n H → Nx H) :
    ∃ W1 : Nat → Nat → Hp → Prop, (∃ m, W1 0 m H4) ∧ ∀ j k H, W1 j k H →
      (J.stop j H ∧ Nx H) ∨ (J.go j H ∧ ∃ Nx1 : Hp → Prop, (∀ H', Nx1 H' → ∃ k', k' < k ∧ W1 (j + 1) k' H') ∧ ∀ x H', J.yld j H x H' → gg x (wipe σ2 vs1) H' fun σ3 H5 => wipe σ3 vs1 = wipe σ2 vs1 ∧ tt σ3 H5 fun b H6 =>
        if b = true then te σ3 H6 fun y H7 => ∃ acc, H7 D = some (.lst acc) ∧ acc.length < sizeLine ∧ Nx1 (upd H7 D (.lst (acc ++ [y]))) else Nx1 H6) := by
  refine ⟨fun j k H => k = n - j ∧ j ≤ n ∧ Pv j H, ⟨n, by simp, Nat.zero_le _, h0⟩, ?_⟩
  rintro j k H ⟨rfl, hj, p⟩
  by_cases hlt : j < n
  · exact .inr ⟨w.goes j H hlt (hG j H hj p), Pv (j + 1), fun H' p' => ⟨n - (j + 1), by omega, rfl, hlt, p'⟩, fun x H' y => hs j x H H' hlt p (w.yields j H x H' hlt (hG j H hj p) y)⟩
  · have e : j = n := by omega
    subst e
    exact .inl ⟨w.stops H (hG j H hj p), hd H p⟩
def Turn2 (g : Gs) (sc' : Scope) (σ0 : L2.St) (Ha : Hp) (B : Addr → Bool) (W : List Int) (t : Tg) (tg1 iter1 : Expr) (t1 : Tg) (vs1 : List Nat) (ifs : List Expr) (elt : Expr) (d : PD) (rs1 : List (Option PD)) : Prop :=
  ∀ Hx Bx x, Ex none Ha Hx → Off g.wl Bx Hx → (∀ a, B a = true → nt (Ha a) = false → Bx a = true) → Da (rs Bx Hx) x d →
    ∃ σ' items1, TgTo t x Hx σ0 σ' ∧ ItD g sc' σ' Hx Bx W tg1 iter1 items1 W ∧ rs1.length = items1.length ∧ ∀ (j : Nat) d1 r1, items1[j]? = some d1 → rs1[j]? = some r1 → TurnD g sc' (wipe σ' vs1) Hx Bx W W t1 ifs elt d1 r1
/-- a comprehension with two clauses -/
theorem ed_lc2N {scope : Scope} {own : List (Str × Nat)} {vs1 : List Nat} {pos : Pos} {t u : Tg} {ifs : List Expr} {elt : Expr} {items : List PD} {outs : List (List (Option PD))} (o : Off g.wl B Ha) (hok : blkC g.N sc scope own = true) (hk : scope.kind = .function)
    (htg : isTg g.N scope tg t = true) (htg1 : isTg g.N scope tg1 u = true) (hif : ifs.length ≤ 1) (hsl : ∀ i ∈ t.slots, i ∈ own.map (·.2)) (hsl1 : ∀ i ∈ u.slots, i ∈ vs1) (hv : ∀ i ∈ vs1, i ∈ own.map (·.2))
    (hfs : plainE iter = true) (hfs1 : plainE iter1 = true) (hit : ItD g sc σ Ha B W tg iter items W1) (hz : (outs.map List.length).sum ≤ big) (hlen : outs.length = items.length)
    (h : ∀ (i : Nat) d r, items[i]? = some d → outs[i]? = some r → Turn2 g (relS scope sc) (wipe σ (own.map (·.2))) Ha B W1 t tg1 iter1 u vs1 ifs elt d r) :
    EvN g sc σ Ha B W (.ListComp elt [⟨tg, iter, [], 0⟩, ⟨tg1, iter1, ifs, 0⟩] scope pos) (outs.flatten.filterMap id) W1 := fun H1 e t1 Q q => wA.of fun X gx => by
  have tg' := fun (s : Shared) (H : Hp) (C : Addr) (cl : List (Str × Addr)) (fp : List Addr) => pg_blk (s := s) (H := H) (C := C) (cl := cl) (fp := fp) gx htg
  have tg1' := fun (s : Shared) (H : Hp) (C : Addr) (cl : List (Str × Addr)) (fp : List Addr) => pg_blk (s := s) (H := H) (C := C) (cl := cl) (fp := fp) gx htg1
  refine ⟨_, pe_lc2 (own := own) (vs1 := vs1) (g := tgG X.K t) (g1 := tgG X.K u) (tt := tYes) (tt1 := wTs g (relS scope sc) ifs) (te := wA g (relS scope sc) elt) (wi1 := wI g (relS scope sc) tg1 iter1) gx.calm gx.nd (wI.pi gx) (blkOk_by (by rw [gx.N, gx.sc]; exact hok)) hv tg' (fun s H C cl fp => pts_nil)
    (fun s H C cl fp => wI.pi (gx_blk gx hk)) tg1' (fun s H C cl fp => wTs.pts (gx_blk gx hk) hif) (fun s H C cl fp => wA.pe (gx_blk gx hk)) (fun x => plainE.fold hfs _ x) (plainE.fold hfs1), ?_⟩
  refine hit H1 e t1 _ fun J H2 f t2 ⟨G, Y, wk, hG, hY⟩ D hD => ?_
  have L : Lp g W1 W Ha B H1 H2 D := ⟨o, e, t1, f, t2, hD⟩
  have src : ∀ {H : Hp}, Ex g.wl H2 H → Ex none (rs (al B H1) H2) H := fun {H} p => (rs_mono (B' := al B H1) (fun _ _ h => h) p (al_off o t1.well)).trans rs_ex
  have exD2 : ∀ {H H' : Hp}, Ex g.wl H2 H → ExD g.wl D H H' → Ex g.wl H2 H' := fun {H H'} p p5 a na hw => by
    have hne : a ≠ D := fun z => by rw [z, hD] at na; cases na
    have q := p a na hw
    rw [p5 a hne (by rw [q]; exact na) hw, q]
  -- the sizes
  have size : ∀ i (hi : i < outs.length) j, (((outs.take i).flatten ++ outs[i].take j).filterMap id).length ≤ big := fun i hi j => by
    refine Nat.le_trans (List.length_filterMap_le _ _) (Nat.le_trans ?_ hz)
    rw [List.length_append, List.length_flatten]
    have e1 : outs = outs.take i ++ outs[i] :: outs.drop (i + 1) := by rw [List.getElem_cons_drop, List.take_append_drop]
    have e2 : (outs.map List.length).sum = ((outs.take i).map List.length).sum + (outs[i].length + ((outs.drop (i + 1)).map List.length).sum) := by
      conv => lhs; rw [e1]
      rw [List.map_append, List.sum_append, List.map_cons, List.sum_cons]
    rw [e2, List.length_take]
    omega
  let Pv : Nat → Hp → Prop := fun i H => Ex g.wl H2 H ∧ Hs g.T g.wl W1 H ∧ DAt (al B H1) D ((outs.take i).flatten.filterMap id) H
  refine ⟨fun i m H => m = items.length - i ∧ i ≤ items.length ∧ Pv i H, ⟨items.length, by simp, Nat.zero_le _, (New.upd hD).1.weak, (New.upd hD).2 _ _ _ t2, [], upd_same, .nil⟩, ?_⟩
  rintro i m H ⟨rfl, hi, p⟩
  by_cases hlt : i < items.length
  · refine .inr ⟨wk.goes i H hlt (hG H (src p.1)), Pv (i + 1), fun H' p' => ⟨items.length - (i + 1), by omega, rfl, hlt, p'⟩, fun x H' y => ?_⟩
    obtain ⟨pf, pt, acc, pD, pa⟩ := p
    obtain ⟨n, dx⟩ := hY i items[i] H x H' (List.getElem?_eq_getElem hlt) (src pf) (wk.yields i H x H' hlt (hG H (src pf)) y)
    have ho : i < outs.length := by rw [hlen]; exact hlt
    have bs := L.bsub pf pt.well pD
    have t' : Hs g.T g.wl W1 H' := n.2 _ _ _ pt
    have oBx := L.oBx (H' := H') pf pt.well pD
    obtain ⟨σ2, items1, to1, it1, len1, turn1⟩ := h i _ _ (List.getElem?_eq_getElem hlt) (List.getElem?_eq_getElem ho) _ _ x (L.eHx pf n) oBx (L.kB pf n) (da_sub dx fun a h => ⟨(bs a h).1.2, (bs a h).2⟩)
    refine to1.run rs_ex ⟨to1.wipe hsl, iteT (B := Pv (i + 1) H') ?_⟩
    refine it1 H' rs_ex t' _ fun J1 H4 f4 t4 ⟨G1, Y1, wk1, hG1, hY1⟩ => ?_
    have pD' : H' D = some (.lst acc) := n.1.at pD rfl (by simp)
    -- what the inner loop may name
    have bsub1 : ∀ {H5 : Hp}, ExD g.wl D H4 H5 → WellIs g.wl W1 H5 → (∃ acc', H5 D = some (.lst acc')) → ∀ a, al (kn (al (al (kn (al B H1) H2) H) H') H4) H5 a = true → (al B H1 a = true ∧ a ≠ D) ∧ g.wl ≠ some a := fun {H5} e5 w5 ⟨acc', q5⟩ a h => by
      have h' : ((al (al (kn (al B H1) H2) H) H' a && !SN.nt (H4 a)) || SN.nt (H5 a)) = true := h
      have hw : g.wl ≠ some a := fun z => by
        rw [w5 a z] at h'
        have : al (al (kn (al B H1) H2) H) H' a = false := by
          have q1 : al (kn (al B H1) H2) H a = false := (oBx a z).1
          unfold al at q1 ⊢
          rw [q1, t'.well a z]; rfl
        rw [this] at h'; cases h'
      have hne : a ≠ D := fun z => by
        rw [z] at h'
        have : al (al (kn (al B H1) H2) H) H' D = false := by
          have q1 : al (kn (al B H1) H2) H D = false := by
            cases q : al (kn (al B H1) H2) H D with
            | false => rfl
            | true => exact absurd rfl (bs D q).1.2
          unfold al at q1 ⊢
          rw [q1, pD']; rfl
        rw [this, q5] at h'; cases h'
      refine ⟨⟨?_, hne⟩, hw⟩
      rw [Bool.or_eq_true, Bool.and_eq_true] at h'
      rcases h' with ⟨h1, _⟩ | h1
      · unfold al at h1
        rw [Bool.or_eq_true] at h1
        rcases h1 with h1 | h1
        · exact (bs a h1).1.1
        · exact L.nB pf n a h1 hw
      · refine L.nB pf n a ?_ hw
        refine f4.nt ?_ hw
        cases q : SN.nt (H4 a) with
        | true => rfl
        | false =>
          rw [e5 a hne q hw, q] at h1
          cases h1
    have srcI : ∀ {H5 : Hp}, ExD g.wl D H4 H5 → Ex none (rs (al (al (kn (al B H1) H2) H) H') H4) H5 := fun {H5} e5 a na _ => by
      have hB : al (al (kn (al B H1) H2) H) H' a = true := by
        unfold rs at na
        by_cases z : al (al (kn (al B H1) H2) H) H' a = true
        · exact z
        · rw [if_neg z] at na; cases na
      have n4 : SN.nt (H4 a) = false := by
        unfold rs at na
        rw [if_pos hB] at na
        exact na
      have q : al (kn (al (al (kn (al B H1) H2) H) H') H4) H4 a = true := al_B (kn_of hB n4)
      obtain ⟨⟨_, hne⟩, hw⟩ := bsub1 (H5 := H4) (fun a _ _ _ => rfl) t4.well ⟨acc, f4.at pD' rfl L.wD⟩ a q
      rw [e5 a hne n4 hw]
      unfold rs
      rw [if_pos hB]
    refine in_it wk1 (fun j H5 => ExD g.wl D H4 H5 ∧ Hs g.T g.wl W1 H5 ∧ DAt (al B H1) D (((outs.take i).flatten ++ outs[i].take j).filterMap id) H5) ?_ (fun j H5 _ p5 => hG1 H5 (srcI p5.1)) (fun j y H5 H5' hj p5 y5 => ?_) fun H5 p5 => ?_
    · refine ⟨fun _ _ _ _ => rfl, t4, ?_⟩
      rw [List.take_zero, List.append_nil]
      exact (DAt.step ⟨acc, pD, pa⟩ n).keep f4 L.wD L.wB
    · obtain ⟨e5, t5, acc5, q5, a5⟩ := p5
      obtain ⟨n5, dy⟩ := hY1 j items1[j] H5 y H5' (List.getElem?_eq_getElem hj) (srcI e5) y5
      have hoj : j < outs[i].length := by rw [len1]; exact hj
      have bs1 := bsub1 e5 t5.well ⟨acc5, q5⟩
      have oBy : Off g.wl (al (kn (al (al (kn (al B H1) H2) H) H') H4) H5) (sub g.wl D H5') := fun a z => by
        refine ⟨?_, ?_⟩
        · cases q : al (kn (al (al (kn (al B H1) H2) H) H') H4) H5 a with
          | false => rfl
          | true => exact absurd z (bs1 a q).2
        · unfold sub rs
          rw [z]; simp [SN.nt]
      have stay : ∀ a, a ≠ D → g.wl ≠ some a → SN.nt (H' a) = false → SN.nt (H4 a) = false ∧ H5' a = H' a := fun a hne hw na => by
        have q1 := f4 a na hw
        have q2 := e5 a hne (by rw [q1]; exact na) hw
        have q3 := n5.1 a (by rw [q2, q1]; exact na) (by simp)
        exact ⟨by rw [q1]; exact na, by rw [q3, q2, q1]⟩
      have subs : ∀ a, SN.nt (sub g.wl D H' a) = false → a ≠ D ∧ g.wl ≠ some a ∧ SN.nt (H' a) = false ∧ sub g.wl D H' a = H' a := fun a na => by
        unfold sub rs at na ⊢
        by_cases z : (decide (a ≠ D) && decide (g.wl ≠ some a)) = true
        · rw [if_pos z] at na ⊢
          rw [Bool.and_eq_true, decide_eq_true_eq, decide_eq_true_eq] at z
          exact ⟨z.1, z.2, na, rfl⟩
        · rw [if_neg z] at na; cases na
      refine lc_step L.wD L.wB (n5.2 _ _ _ t5) (DAt.step ⟨acc5, q5, a5⟩ n5) (fun a na hw => ?_) (fun a h => (bs1 a h).1) oBy
        (turn1 j _ _ (List.getElem?_eq_getElem hj) (List.getElem?_eq_getElem hoj) _ _ y (fun a na _ => ?_) oBy (fun a hB hn => ?_) (da_sub dy fun a h => ⟨(bs1 a h).1.2, (bs1 a h).2⟩)) hsl1 (size i ho j) fun H6 e6 t6 d6 => ⟨fun a hne na hw => ?_, t6, ?_⟩
      · refine L.nB pf n a ?_ hw
        cases q : SN.nt (H' a) with
        | true => rfl
        | false =>
          by_cases hne : a = D
          · rw [hne, n5.1.at q5 rfl (by simp)] at na; cases na
          · rw [(stay a hne hw q).2, q] at na; cases na
      · obtain ⟨hne, hw, n1, q1⟩ := subs a na
        have q2 := (stay a hne hw n1).2
        rw [q1]
        unfold sub rs
        rw [if_pos (by simp [hne, hw]), q2]
      · obtain ⟨hne, hw, n1, q1⟩ := subs a hn
        exact al_B (kn_of (al_B hB) (stay a hne hw n1).1)
      · have q2 := e5 a hne na hw
        have q3 := n5.1 a (by rw [q2]; exact na) (by simp)
        rw [e6 a hne (by rw [q3, q2]; exact na) hw, q3, q2]
      · have e7 : ((outs.take i).flatten ++ outs[i].take (j + 1)).filterMap id = ((outs.take i).flatten ++ outs[i].take j).filterMap id ++ (outs[i][j]).toList := by
          rw [List.take_succ_eq_append_getElem hoj, ← List.append_assoc, List.filterMap_append]
          cases outs[i][j] <;> rfl
        rw [e7]
        exact d6
    · obtain ⟨e5, t5, d5⟩ := p5
      refine ⟨fun a na hw => ?_, t5, ?_⟩
      · have hne : a ≠ D := fun z => by rw [z, hD] at na; cases na
        have q1 := pf a na hw
        have q2 := n.1 a (by rw [q1]; exact na) (by simp)
        have q3 := f4 a (by rw [q2, q1]; exact na) hw
        rw [e5 a hne (by rw [q3, q2, q1]; exact na) hw, q3, q2, q1]
      · rw [← len1, List.take_length] at d5
        rw [List.take_succ_eq_append_getElem ho, List.flatten_append]
        simpa using d5
  · have e0 : i = items.length := by omega
    subst e0
    obtain ⟨pf, pt, acc, pD, pa⟩ := p
    rw [show outs.take items.length = outs by rw [← hlen]; exact List.take_length] at pa
    exact .inl ⟨wk.stops H (hG H (src pf)), q D acc H (f.trans pf) pt (L.f.nt (by rw [hD]; rfl) L.wD) L.wD pD pa⟩
theorem ed_lc2 {scope : Scope} {own : List (Str × Nat)} {vs1 : List Nat} {pos : Pos} {t u : Tg} {ifs : List Expr} {elt : Expr} {items : List PD} {outs : List (List (Option PD))} (o : Off g.wl B Ha) (hok : blkC g.N sc scope own = true) (hk : scope.kind = .function)
    (htg : isTg g.N scope tg t = true) (htg1 : isTg g.N scope tg1 u = true) (hif : ifs.length ≤ 1) (hsl : ∀ i ∈ t.slots, i ∈ own.map (·.2)) (hsl1 : ∀ i ∈ u.slots, i ∈ vs1) (hv : ∀ i ∈ vs1, i ∈ own.map (·.2))
    (hfs : plainE iter = true) (hfs1 : plainE iter1 = true) (hit : ItD g sc σ Ha B W tg iter items W1) (hz : (outs.map List.length).sum ≤ big) (hlen : outs.length = items.length)
    (h : ∀ (i : Nat) d r, items[i]? = some d → outs[i]? = some r → Turn2 g (relS scope sc) (wipe σ (own.map (·.2))) Ha B W1 t tg1 iter1 u vs1 ifs elt d r) :
    EvD g sc σ Ha B W (.ListComp elt [⟨tg, iter, [], 0⟩, ⟨tg1, iter1, ifs, 0⟩] scope pos) (.list (outs.flatten.filterMap id)) W1 := (ed_lc2N o hok hk htg htg1 hif hsl hsl1 hv hfs hfs1 hit hz hlen h).ed
end
end SN
end
section
set_option Elab.async false
set_option linter.all false
set_option maxRecDepth 100000
set_option maxHeartbeats 4000000
/-! S7: a small language of expressions over data, what it computes. -/
namespace SN
open PySem L2 LamX

/-- expressions over data; names are slots -/
inductive IR where
  | var (i : Nat)
  | lit (d : PD)
  | bin (op : Operator) (a b : IR)
  | neg (a : IR)
  | cmp (op : CmpOp) (a b : IR)
  | chain (op op' : CmpOp) (a b c : IR)
  | notV (a : IR)
  | andV (a b : IR)
  | orV (a b : IR)
  | ite (t : IR) (a b : IR)
  | bi1 (f : Bi) (a : IR)
  | bi2 (f : Bi) (a b : IR)
  | isa (t : Ty) (a : IR)
  | fn (n : Str) (args : List IR)
  | ix (a b : IR)
  | sl (a : IR) (lo hi : Option Int)
  | tup (args : List IR)
  | lst (args : List IR)
  | lrng (a : IR)
  | trng (a : IR)
  | sset (a : IR)
  | rev (a : IR)
  | lc (src : IR) (t : Tg) (own : List Nat) (elt : IR)
  | lcIf (src : IR) (t : Tg) (own : List Nat) (c : IR) (elt : IR)
  | lc2 (src : IR) (t : Tg) (own : List Nat) (src1 : IR) (u : Tg) (vs1 : List Nat) (elt : IR)
  | lc2If (src : IR) (t : Tg) (own : List Nat) (src1 : IR) (u : Tg) (vs1 : List Nat) (c : IR) (elt : IR)
  -- what is walked
  | rng1 (a : IR)
  | rng2 (a b : IR)
  | enum (a : IR)
  -- tests
  | tVal (a : IR)
  | tNot (a : IR)
  | tAnd (a b : IR)
  | tOr (a b : IR)
  | tCmp (op : CmpOp) (a b : IR)
  | tChain (op op' : CmpOp) (a b c : IR)

/-- expressions whose value is a new list -/
def fresh : IR → Bool
  | .lst _ => true
  | .bin .Mult (.lst [_]) _ => true
  | .bi1 .list _ => true
  | .lrng _ => true
  | .lc _ _ _ _ => true
  | .lcIf _ _ _ _ _ => true
  | .lc2 _ _ _ _ _ _ _ => true
  | .lc2If _ _ _ _ _ _ _ _ => true
  | _ => false
abbrev Rho := List (Option PD)
def getR (ρ : Rho) (i : Nat) : Option PD := (ρ[i]?).getD none
def wipeR (ρ : Rho) : List Nat → Rho
  | [] => ρ
  | v :: vs => (wipeR ρ vs).set v none
/-- a target's store -/
def putR (t : Tg) (d : PD) (ρ : Rho) : Option Rho := match t with
  | .one i => some (ρ.set i (some d))
  | .two i j => match d with
    | .tuple [a, b] => some ((ρ.set i (some a)).set j (some b))
    | _ => none
def asBool : PD → Option Bool
  | .bool b => some b
  | _ => none
def bigL (n : Nat) (d : PD) : Option PD := if n ≤ big then some d else none

/-- the program's own defs, by name: what they make of data -/
abbrev Fns := Str → Option (List PD → Option PD)

/-- built-ins whose answer has no parts -/
def Bi.sc : Bi → Bool
  | .tuple => false
  | .list => false
  | .sorted => false
  | _ => true

/- ρ: the names that a result may be made of; τ: all names (for tests and answers without parts) -/
mutual
def ev (Φ : Fns) : IR → Rho → Rho → Option PD
  | .var i, ρ, _ => getR ρ i
  | .lit d, _, _ => some d
  | .bin op a b, ρ, τ => (ev Φ a ρ τ).bind fun x => (ev Φ b ρ τ).bind fun y => pyBin op x y
  | .neg a, ρ, τ => (ev Φ a ρ τ).bind fun x => match x with
    | .int i => some (.int (-i))
    | _ => none
  | .cmp op a b, _, τ => (ev Φ a τ τ).bind fun x => (ev Φ b τ τ).bind fun y => (pyCmp op x y).bind fun z => (asBool z).map .bool
  | .chain op op' a b c, _, τ => (ev Φ a τ τ).bind fun x => (ev Φ b τ τ).bind fun y => (ev Φ c τ τ).bind fun z =>
    ((pyCmp op x y).bind asBool).bind fun p => ((pyCmp op' y z).bind asBool).bind fun q => some (.bool (p && q))
  | .notV a, _, τ => ((ev Φ a τ τ).bind asBool).map fun p => .bool (!p)
  | .andV a b, _, τ => ((ev Φ a τ τ).bind asBool).bind fun p => if p then ((ev Φ b τ τ).bind asBool).map .bool else some (.bool false)
  | .orV a b, _, τ => ((ev Φ a τ τ).bind asBool).bind fun p => if p then some (.bool true) else ((ev Φ b τ τ).bind asBool).map .bool
  | .ite t a b, ρ, τ => (evT Φ t τ).bind fun p => if p then ev Φ a ρ τ else ev Φ b ρ τ
  | .bi1 f a, ρ, τ => if f.sc then (ev Φ a τ τ).bind fun x => (pyFn f [x]).bind fun z => if scal z then some z else none else (ev Φ a ρ τ).bind fun x => pyFn f [x]
  | .bi2 f a b, _, τ => (ev Φ a τ τ).bind fun x => (ev Φ b τ τ).bind fun y => (pyFn f [x, y]).bind fun z => if scal z then some z else none
  | .isa t a, _, τ => (ev Φ a τ τ).bind fun x => (isTy t x).map .bool
  | .fn n args, ρ, τ => (Φ n).bind fun f => (evs Φ args ρ τ).bind f
  | .ix a b, ρ, τ => (ev Φ a ρ τ).bind fun x => (ev Φ b τ τ).bind fun y => pyIx x y
  | .sl a lo hi, ρ, τ => (ev Φ a ρ τ).bind fun x => pySl x lo hi
  | .tup args, ρ, τ => (evs Φ args ρ τ).bind fun ds => if ds.length ≤ 1000 then some (.tuple ds) else none
  | .lst args, ρ, τ => (evs Φ args ρ τ).bind fun ds => if ds.length ≤ 1000 then some (.list ds) else none
  | .lrng a, _, τ => (ev Φ a τ τ).bind fun x => match x with
    | .int n => if n ≤ 100000 ∧ -100000 ≤ n then some (.list (rngD 0 n.toNat)) else none
    | _ => none
  | .trng a, _, τ => (ev Φ a τ τ).bind fun x => match x with
    | .int n => if n ≤ 100000 ∧ -100000 ≤ n then some (.tuple (rngD 0 n.toNat)) else none
    | _ => none
  | .sset a, _, τ => (ev Φ a τ τ).bind pySset
  | .rev a, ρ, τ => (ev Φ a ρ τ).bind pyRev
  | .lc src t own elt, ρ, τ => (evI Φ src ρ τ).bind fun items => (items.mapM fun d => (putR t d (wipeR ρ own)).bind fun ρ' => (putR t d (wipeR τ own)).bind fun τ' => ev Φ elt ρ' τ').bind fun outs =>
    bigL items.length (.list outs)
  | .lcIf src t own c elt, ρ, τ => (evI Φ src ρ τ).bind fun items => (items.mapM fun d => (putR t d (wipeR ρ own)).bind fun ρ' => (putR t d (wipeR τ own)).bind fun τ' =>
      (evT Φ c τ').bind fun p => if p then (ev Φ elt ρ' τ').map some else some none).bind fun outs => bigL items.length (.list (outs.filterMap id))
  | .lc2 src t own src1 u vs1 elt, ρ, τ => (evI Φ src ρ τ).bind fun items => (items.mapM fun d => (putR t d (wipeR ρ own)).bind fun ρ' => (putR t d (wipeR τ own)).bind fun τ' =>
      (evI Φ src1 ρ' τ').bind fun items1 => items1.mapM fun d1 => (putR u d1 (wipeR ρ' vs1)).bind fun ρ'' => (putR u d1 (wipeR τ' vs1)).bind fun τ'' => ev Φ elt ρ'' τ'').bind fun outs =>
    bigL (outs.map List.length).sum (.list outs.flatten)
  | .lc2If src t own src1 u vs1 c elt, ρ, τ => (evI Φ src ρ τ).bind fun items => (items.mapM fun d => (putR t d (wipeR ρ own)).bind fun ρ' => (putR t d (wipeR τ own)).bind fun τ' =>
      (evI Φ src1 ρ' τ').bind fun items1 => items1.mapM fun d1 => (putR u d1 (wipeR ρ' vs1)).bind fun ρ'' => (putR u d1 (wipeR τ' vs1)).bind fun τ'' =>
        (evT Φ c τ'').bind fun p => if p then (ev Φ elt ρ'' τ'').map some else some none).bind fun outs =>
    bigL (outs.map List.length).sum (.list (outs.flatten.filterMap id))
  | _, _, _ => none
def evs (Φ : Fns) : List IR → Rho → Rho → Option (List PD)
  | [], _, _ => some []
  | a :: as, ρ, τ => (ev Φ a ρ τ).bind fun d => (evs Φ as ρ τ).map (d :: ·)
/-- what is walked -/
def evI (Φ : Fns) : IR → Rho → Rho → Option (List PD)
  | .rng1 a, _, τ => (ev Φ a τ τ).bind fun x => match x with
    | .int n => if n < 2 ^ 62 ∧ -(2 ^ 62) ≤ n then some (rngD 0 n.toNat) else none
    | _ => none
  | .rng2 a b, _, τ => (ev Φ a τ τ).bind fun x => (ev Φ b τ τ).bind fun y => match x, y with
    | .int m, .int n => if n < 2 ^ 62 ∧ -(2 ^ 62) ≤ n ∧ m < 2 ^ 62 ∧ -(2 ^ 62) ≤ m then some (rngD m (n - m).toNat) else none
    | _, _ => none
  | .enum a, ρ, τ => (ev Φ a ρ τ).bind fun x => match x with
    | .list ds => some (enumD ds)
    | .tuple ds => some (enumD ds)
    | _ => none
  | .tVal a, ρ, τ => (ev Φ a ρ τ).bind fun x => match x with
    | .list ds => some ds
    | .tuple ds => some ds
    | _ => none
  | _, _, _ => none
def evT (Φ : Fns) : IR → Rho → Option Bool
  | .tVal a, τ => (ev Φ a τ τ).bind pyTruth
  | .tNot a, τ => (evT Φ a τ).map fun p => !p
  | .tAnd a b, τ => (evT Φ a τ).bind fun p => if p then evT Φ b τ else some false
  | .tOr a b, τ => (evT Φ a τ).bind fun p => if p then some true else evT Φ b τ
  | .tCmp op a b, τ => (ev Φ a τ τ).bind fun x => (ev Φ b τ τ).bind fun y => (pyCmp op x y).bind asBool
  | .tChain op op' a b c, τ => (ev Φ a τ τ).bind fun x => (ev Φ b τ τ).bind fun y => (ev Φ c τ τ).bind fun z =>
    ((pyCmp op x y).bind asBool).bind fun p => ((pyCmp op' y z).bind asBool).bind fun q => some (p && q)
  | _, _ => none
end
end SN
end
section
set_option Elab.async false
set_option linter.all false
set_option maxRecDepth 100000
set_option maxHeartbeats 4000000
/-! S8: from Python's syntax to the small language, and that the model does what it computes: expressions. -/
namespace SN
open PySem L2 LamX

structure Cc where
  N : List Str
  gi : List (Str × Int)
  fns : List (Str × Nat)
def slot (N : List Str) (x : Str) : Option Nat := (N.findIdx? fun y => decide (y = x)).bind fun i => if N[i]? = some x then some i else none
theorem slot_ok {N : List Str} {x : Str} {i : Nat} (h : slot N x = some i) : N[i]? = some x := by
  unfold slot at h
  cases q : N.findIdx? fun y => decide (y = x) with
  | none => rw [q] at h; cases h
  | some j =>
    rw [q] at h
    have h' : (if N[j]? = some x then some j else none) = some i := h
    split at h'
    · cases h'; assumption
    · cases h'
def okName (x : Str) : Bool := !(x == ("__debug__" : Str)) && (!(x == ("__classdict__" : Str)) && decide (x ≠ ("__name__" : Str)))
theorem okName.d {x : Str} (h : okName x = true) : (x == ("__debug__" : Str)) = false := by
  unfold okName at h
  simp only [Bool.and_eq_true, Bool.not_eq_true'] at h
  exact h.1
theorem okName.c {x : Str} (h : okName x = true) : (x == ("__classdict__" : Str)) = false := by
  unfold okName at h
  simp only [Bool.and_eq_true, Bool.not_eq_true'] at h
  exact h.2.1
theorem okName.n {x : Str} (h : okName x = true) : x ≠ ("__name__" : Str) := by
  unfold okName at h
  simp only [Bool.and_eq_true, Bool.not_eq_true', decide_eq_true_eq] at h
  exact h.2.2
def biL : List Bi := [.len, .all, .any, .sum, .abs, .min, .max, .int, .tuple, .list, .sorted, .repr]
def biOf (x : Str) : Option Bi := biL.find? fun b => decide ((b.nm : Str) = x)
theorem biOf_ok {x : Str} {b : Bi} (h : biOf x = some b) : x = (b.nm : Str) := by
  have := List.find?_some h
  simpa using (of_decide_eq_true this).symm
def tyOf (x : Str) : Option Ty := [Ty.int, .bool, .tuple].find? fun b => decide ((b.nm : Str) = x)
theorem tyOf_ok {x : Str} {b : Ty} (h : tyOf x = some b) : x = (b.nm : Str) := by
  have := List.find?_some h
  simpa using (of_decide_eq_true this).symm
/-- the target's slots -/
def cTg (N : List Str) : Expr → Option Tg
  | .Name x _ => (slot N x).map .one
  | .Tuple [.Name x _, .Name y _] _ _ => (slot N x).bind fun i => (slot N y).map fun j => .two i j
  | _ => none
/-- a comprehension's own names with their slots -/
def ownOf (N : List Str) (scope : Scope) : List (Str × Nat) := scope.names.filterMap fun y => match y.2 with
  | .local => (slot N y.1).map fun i => (y.1, i)
  | .cell => (slot N y.1).map fun i => (y.1, i)
  | _ => none
def fnKind (scope : Scope) : Bool := match scope.kind with
  | .function => true
  | _ => false
theorem fnKind_ok {scope : Scope} (h : fnKind scope = true) : scope.kind = .function := by
  unfold fnKind at h
  split at h
  · assumption
  · cases h
def isTwo : Tg → Bool
  | .one _ => false
  | .two _ _ => true
def isTupE : Expr → Bool
  | .Tuple _ _ _ => true
  | _ => false
/-- list(range(a)) -/
def rngArg (sc : Scope) (f : Str) : Expr → Option Expr
  | .Call (.Name r _) [a] [] _ => if f = "list" ∧ r = "range" ∧ glB sc r = true ∧ plainE a = true then some a else none
  | _ => none
/-- tuple(range(a)) -/
def trngArg (sc : Scope) (f : Str) : Expr → Option Expr
  | .Call (.Name r _) [a] [] _ => if f = "tuple" ∧ r = "range" ∧ glB sc r = true ∧ plainE a = true then some a else none
  | _ => none
/-- sorted(set(a)) -/
def ssetArg (sc : Scope) (f : Str) : Expr → Option Expr
  | .Call (.Name r _) [a] [] _ => if f = "sorted" ∧ r = "set" ∧ glB sc r = true ∧ plainE a = true then some a else none
  | _ => none
/-- -1, written -/
def neg1 : Expr → Bool
  | .UnaryOp .USub (.Constant (.int i) _ _) _ => decide (i = 1)
  | _ => false
mutual
def cE (c : Cc) : Nat → Scope → Expr → Option IR
  | 0, _, _ => none
  | n + 1, sc, e => match e with
    | .Name x _ => if okName x then (if visB sc x then (slot c.N x).map .var else if glB sc x then (c.gi.lookup x).map fun i => .lit (.int i) else none) else none
    | .Constant (.int i) _ _ => some (.lit (.int i))
    | .Constant (.bool i) _ _ => some (.lit (.bool i))
    | .Constant .none _ _ => some (.lit .none)
    | .Constant (.str i) _ _ => some (.lit (.str i))
    | .BinOp a op b _ => (cE c n sc a).bind fun x => (cE c n sc b).map fun y => .bin op x y
    | .UnaryOp .USub a _ => (cE c n sc a).map .neg
    | .UnaryOp .Not a _ => (cE c n sc a).map .notV
    | .BoolOp _ [a] _ => cE c n sc a
    | .BoolOp .And (a :: b :: es) p => (cE c n sc a).bind fun x => (cE c n sc (.BoolOp .And (b :: es) p)).map fun y => .andV x y
    | .BoolOp .Or (a :: b :: es) p => (cE c n sc a).bind fun x => (cE c n sc (.BoolOp .Or (b :: es) p)).map fun y => .orV x y
    | .IfExp t a b _ => (cT c n sc t).bind fun z => (cE c n sc a).bind fun x => (cE c n sc b).map fun y => .ite z x y
    | .Compare a [op] [b] _ => if plainE b then (cE c n sc a).bind fun x => (cE c n sc b).map fun y => .cmp op x y else none
    | .Compare a [op, op'] [b, d] _ => if plainE d then (cE c n sc a).bind fun x => (cE c n sc b).bind fun y => (cE c n sc d).map fun z => .chain op op' x y z else none
    | .Call (.Name f _) args [] _ => if okName f && glB sc f && args.all plainE then (match c.fns.lookup f with
        | some ar => if args.length = ar ∧ 0 < ar then (cEs c n sc args).map fun xs => .fn f xs else none
        | none => match args with
          | [a] => (match rngArg sc f a with
            | some z => (cE c n sc z).map .lrng
            | none => (match trngArg sc f a with
              | some z => (cE c n sc z).map .trng
              | none => (match ssetArg sc f a with
                | some z => (cE c n sc z).map .sset
                | none => (biOf f).bind fun b => (cE c n sc a).map fun x => .bi1 b x)))
          | [a, b] => (match b with
            | .Name ty _ => if f = "isinstance" then (if okName ty && glB sc ty then (tyOf ty).bind fun t => (cE c n sc a).map fun x => .isa t x else none)
                else (biOf f).bind fun bb => (cE c n sc a).bind fun x => (cE c n sc b).map fun y => .bi2 bb x y
            | _ => (biOf f).bind fun bb => (cE c n sc a).bind fun x => (cE c n sc b).map fun y => .bi2 bb x y)
          | _ => none) else none
    | .Subscript a (.Slice lo hi none _) _ => (partB lo).bind fun i => (partB hi).bind fun j => (cE c n sc a).map fun x => .sl x i j
    | .Subscript a (.Slice none none (some st) _) _ => if neg1 st then (cE c n sc a).map .rev else none
    | .Subscript a b _ => if plainE b then (cE c n sc a).bind fun x => (cE c n sc b).map fun y => .ix x y else none
    | .Tuple es _ _ => if es.all plainE then (cEs c n sc es).map .tup else none
    | .List es _ => if es.all plainE then (cEs c n sc es).map .lst else none
    | .ListComp elt [⟨tg, iter, ifs, 0⟩] scope _ =>
      (cTg c.N tg).bind fun t => if blkC c.N sc scope (ownOf c.N scope) && (fnKind scope && (isTg c.N scope tg t && (t.slots.all (fun i => decide (i ∈ (ownOf c.N scope).map (·.2))) && (plainE iter && (!isTwo t || isTupE tg))))) then
        (cI c n sc (isTwo t) iter).bind fun src => (cE c n (relS scope sc) elt).bind fun x => (match ifs with
          | [] => some (.lc src t ((ownOf c.N scope).map (·.2)) x)
          | [d] => (cT c n (relS scope sc) d).map fun y => .lcIf src t ((ownOf c.N scope).map (·.2)) y x
          | _ => none) else none
    | .ListComp elt [⟨tg, iter, [], 0⟩, ⟨tg1, iter1, ifs, 0⟩] scope _ =>
      (cTg c.N tg).bind fun t => (cTg c.N tg1).bind fun u => if blkC c.N sc scope (ownOf c.N scope) && (fnKind scope && (isTg c.N scope tg t && (isTg c.N scope tg1 u && (t.slots.all (fun i => decide (i ∈ (ownOf c.N scope).map (·.2))) && (u.slots.all (fun i => decide (i ∈ (ownOf c.N scope).map (·.2))) && (plainE iter && (plainE iter1 && (!isTwo t && !isTwo u)))))))) then
        (cI c n sc false iter).bind fun src => (cI c n (relS scope sc) false iter1).bind fun src1 => (cE c n (relS scope sc) elt).bind fun x => (match ifs with
          | [] => some (.lc2 src t ((ownOf c.N scope).map (·.2)) src1 u u.slots x)
          | [d] => (cT c n (relS scope sc) d).map fun y => .lc2If src t ((ownOf c.N scope).map (·.2)) src1 u u.slots y x
          | _ => none) else none
    | _ => none
def cEs (c : Cc) : Nat → Scope → List Expr → Option (List IR)
  | 0, _, _ => none
  | _ + 1, _, [] => some []
  | n + 1, sc, a :: es => (cE c n sc a).bind fun x => (cEs c n sc es).map fun xs => x :: xs
def cI (c : Cc) : Nat → Scope → Bool → Expr → Option IR
  | 0, _, _, _ => none
  | n + 1, sc, two, e => match e with
    | .Call (.Name f p0) args [] p1 => if f = "range" then (if glB sc f && !two then (match args with
          | [a] => if plainE a then (cE c n sc a).map .rng1 else none
          | [a, b] => if plainE a && plainE b then (cE c n sc a).bind fun x => (cE c n sc b).map fun y => .rng2 x y else none
          | _ => none) else none)
        else if f = "enumerate" then (if glB sc f && two then (match args with
          | [a] => if plainE a then (cE c n sc a).map .enum else none
          | _ => none) else none)
        else (cE c n sc (.Call (.Name f p0) args [] p1)).map .tVal
    | e => (cE c n sc e).map .tVal
def cT (c : Cc) : Nat → Scope → Expr → Option IR
  | 0, _, _ => none
  | n + 1, sc, e => match e with
    | .UnaryOp .Not a _ => (cT c n sc a).map .tNot
    | .BoolOp _ [a] _ => cT c n sc a
    | .BoolOp .And (a :: b :: es) p => (cT c n sc a).bind fun x => (cT c n sc (.BoolOp .And (b :: es) p)).map fun y => .tAnd x y
    | .BoolOp .Or (a :: b :: es) p => (cT c n sc a).bind fun x => (cT c n sc (.BoolOp .Or (b :: es) p)).map fun y => .tOr x y
    | .Compare a [op] [b] _ => if plainE b then (cE c n sc a).bind fun x => (cE c n sc b).map fun y => .tCmp op x y else none
    | .Compare a [op, op'] [b, d] _ => if plainE d then (cE c n sc a).bind fun x => (cE c n sc b).bind fun y => (cE c n sc d).map fun z => .tChain op op' x y z else none
    | e => if valT e then (cE c n sc e).map .tVal else none
end
end SN
end
section
set_option Elab.async false
set_option linter.all false
set_option maxRecDepth 100000
set_option maxHeartbeats 8000000
/-! S9: the model does what the small language computes: expressions. -/
namespace SN
open PySem L2 LamX

/-- the slots hold these data, named by B -/
structure Sl (B : Addr → Bool) (Ha : Hp) (ρ : Rho) (σ : L2.St) : Prop where
  len : σ.length = ρ.length
  at_ : ∀ i d, getR ρ i = some d → ∃ v, σ[i]? = some (some v) ∧ Da (rs B Ha) v d
def allB (Ha : Hp) : Addr → Bool := fun a => !nt (Ha a)
theorem off_all {w : Option Addr} {B : Addr → Bool} {Ha : Hp} (o : Off w B Ha) : Off w (allB Ha) Ha := fun a z => ⟨by unfold allB; rw [(o a z).2]; rfl, (o a z).2⟩
theorem getR_set {ρ : Rho} {i j : Nat} {x : Option PD} {d : PD} (h : getR (ρ.set i x) j = some d) : (i = j ∧ x = some d) ∨ (i ≠ j ∧ getR ρ j = some d) := by
  unfold getR at h ⊢
  rw [List.getElem?_set] at h
  by_cases e : i = j
  · subst e
    rw [if_pos rfl] at h
    by_cases hl : i < ρ.length
    · rw [if_pos hl] at h; exact .inl ⟨rfl, h⟩
    · rw [if_neg hl] at h; cases h
  · rw [if_neg e] at h
    exact .inr ⟨e, h⟩
theorem getR_lt {ρ : Rho} {i : Nat} {d : PD} (h : getR ρ i = some d) : i < ρ.length := by
  unfold getR at h
  by_cases hl : i < ρ.length
  · exact hl
  · rw [List.getElem?_eq_none (by omega)] at h; cases h
theorem wipeR_len (ρ : Rho) : ∀ vs : List Nat, (wipeR ρ vs).length = ρ.length
  | [] => rfl
  | v :: vs => by unfold wipeR; rw [List.length_set, wipeR_len ρ vs]
theorem Sl.wipe {B : Addr → Bool} {Ha : Hp} {ρ : Rho} {σ : L2.St} (s : Sl B Ha ρ σ) : ∀ vs : List Nat, Sl B Ha (wipeR ρ vs) (L2.wipe σ vs)
  | [] => s
  | v :: vs => by
    have ih := s.wipe vs
    refine ⟨by unfold wipeR L2.wipe; rw [List.length_set, List.length_set, ih.len], fun i d h => ?_⟩
    unfold wipeR at h
    rcases getR_set h with ⟨_, h⟩ | ⟨hne, h⟩
    · cases h
    · obtain ⟨u, h1, h2⟩ := ih.at_ i d h
      unfold L2.wipe
      rw [List.getElem?_set_ne hne]
      exact ⟨u, h1, h2⟩
theorem Sl.set {B : Addr → Bool} {Ha : Hp} {ρ : Rho} {σ : L2.St} (s : Sl B Ha ρ σ) (i : Nat) {v : V} {d : PD} (h : Da (rs B Ha) v d) : Sl B Ha (ρ.set i (some d)) (σ.set i (some v)) := by
  refine ⟨by rw [List.length_set, List.length_set, s.len], fun j d' h' => ?_⟩
  rcases getR_set h' with ⟨rfl, h2⟩ | ⟨hne, h2⟩
  · cases h2
    have hl := getR_lt h'
    rw [List.length_set] at hl
    rw [List.getElem?_set_self (by rw [s.len]; exact hl)]
    exact ⟨v, rfl, h⟩
  · rw [List.getElem?_set_ne hne]
    exact s.at_ j d' h2
theorem Sl.mono {B B' : Addr → Bool} {Ha Hx : Hp} {ρ : Rho} {σ : L2.St} (s : Sl B Ha ρ σ) (e : Ex none (rs B Ha) (rs B' Hx)) : Sl B' Hx ρ σ := ⟨s.len, fun i d h => by
  obtain ⟨v, h1, h2⟩ := s.at_ i d h
  exact ⟨v, h1, h2.ex e⟩⟩
theorem rs_up {w : Option Addr} {B B' : Addr → Bool} {Ha Hx : Hp} (e : Ex none Ha Hx) (hB : ∀ a, B a = true → nt (Ha a) = false → B' a = true) : Ex none (rs B Ha) (rs B' Hx) := rs_mono (fun a n h => hB a h n) e fun _ z => by cases z
theorem all_up {Ha Hx : Hp} (e : Ex none Ha Hx) : Ex none (rs (allB Ha) Ha) (rs (allB Hx) Hx) := rs_up (w := none) e fun a _ n => by
  unfold allB
  rw [e a n (by simp), n]; rfl
theorem putR_two {i j : Nat} {d : PD} {ρ ρ' : Rho} (h : putR (.two i j) d ρ = some ρ') : ∃ a b, d = .tuple [a, b] ∧ ρ' = (ρ.set i (some a)).set j (some b) := by
  cases d with
  | tuple ds =>
    match ds, h with
    | [a, b], h => cases h; exact ⟨a, b, rfl, rfl⟩
  | _ => cases h
/-- a target's store on both sides -/
theorem put_two {t : Tg} {x : V} {d : PD} {B : Addr → Bool} {Hx : Hp} {ρ τ ρ' τ' : Rho} {σ : L2.St} (s : Sl B Hx ρ σ) (s2 : Sl (allB Hx) Hx τ σ) (hd : Da (rs B Hx) x d) (h1 : putR t d ρ = some ρ') (h2 : putR t d τ = some τ') :
    ∃ σ', TgTo t x Hx σ σ' ∧ Sl B Hx ρ' σ' ∧ Sl (allB Hx) Hx τ' σ' := by
  have up : ∀ {v : V} {d : PD}, Da (rs B Hx) v d → Da (rs (allB Hx) Hx) v d := fun h => (h.ex rs_ex).ex fun a n _ => by
    unfold rs allB
    rw [n]; rfl
  cases t with
  | one i =>
    cases h1; cases h2
    exact ⟨_, rfl, s.set i hd, s2.set i (up hd)⟩
  | two i j =>
    obtain ⟨a, b, rfl, rfl⟩ := putR_two h1
    obtain ⟨a', b', e, rfl⟩ := putR_two h2
    cases e
    obtain ⟨p, xs, rfl, hp, da⟩ := hd.tuple_inv
    obtain ⟨v, u, rfl, dv, du⟩ := das2 da
    exact ⟨_, ⟨p, v, u, rfl, (rs_at hp).1, rfl⟩, (s.set i dv).set j du, (s2.set i (up dv)).set j (up du)⟩
section
variable {g : Gs} {Φ : Fns}
/-- what is known of the module's names -/
structure Mok (c : Cc) (g : Gs) (Φ : Fns) : Prop where
  N : g.N = c.N
  gi : ∀ x i, c.gi.lookup x = some i → ∃ t, g.mg x = some (.int i t)
  bi : ∀ f : Bi, g.mg f.nm = none
  ty : ∀ f : Ty, g.mg f.nm = none
  isi : g.mg "isinstance" = none
  rng : g.mg "range" = none
  enu : g.mg "enumerate" = none
  set_ : g.mg "set" = none
  fns : ∀ x ar sem, c.fns.lookup x = some ar → Φ x = some sem → FnAt g x (spD g.T sem ar)
def SoundE (g : Gs) (Φ : Fns) (sc : Scope) (e : Expr) (ir : IR) : Prop := ∀ (σ : L2.St) (ρ τ : Rho) (Ha : Hp) (B : Addr → Bool) (d : PD) (W : List Int), Off g.wl B Ha → Sl B Ha ρ σ → Sl (allB Ha) Ha τ σ → ev Φ ir ρ τ = some d → EvD g sc σ Ha B W e d W
def SoundS (g : Gs) (Φ : Fns) (sc : Scope) (es : List Expr) (irs : List IR) : Prop := ∀ (σ : L2.St) (ρ τ : Rho) (Ha : Hp) (B : Addr → Bool) (ds : List PD) (W : List Int), Off g.wl B Ha → Sl B Ha ρ σ → Sl (allB Ha) Ha τ σ → evs Φ irs ρ τ = some ds → EvS g sc σ Ha B W es ds W ∧ ds.length = es.length
def SoundI (g : Gs) (Φ : Fns) (sc : Scope) (tg e : Expr) (ir : IR) : Prop := ∀ (σ : L2.St) (ρ τ : Rho) (Ha : Hp) (B : Addr → Bool) (ds : List PD) (W : List Int), Off g.wl B Ha → Sl B Ha ρ σ → Sl (allB Ha) Ha τ σ → evI Φ ir ρ τ = some ds → ItD g sc σ Ha B W tg e ds W
def SoundT (g : Gs) (Φ : Fns) (sc : Scope) (e : Expr) (ir : IR) : Prop := ∀ (σ : L2.St) (τ : Rho) (Ha : Hp) (B : Addr → Bool) (p : Bool) (W : List Int), Off g.wl B Ha → Sl (allB Ha) Ha τ σ → evT Φ ir τ = some p → EvT g sc σ Ha W e p W
/-- its value is a new list -/
def SoundN (g : Gs) (Φ : Fns) (sc : Scope) (e : Expr) (ir : IR) : Prop := ∀ (σ : L2.St) (ρ τ : Rho) (Ha : Hp) (B : Addr → Bool) (d : PD) (W : List Int), Off g.wl B Ha → Sl B Ha ρ σ → Sl (allB Ha) Ha τ σ → ev Φ ir ρ τ = some d → ∃ ds, d = .list ds ∧ EvN g sc σ Ha B W e ds W
theorem SoundN.e {sc : Scope} {e : Expr} {ir : IR} (h : SoundN g Φ sc e ir) : SoundE g Φ sc e ir := fun σ ρ τ Ha B d W o s s2 k => by
  obtain ⟨ds, rfl, q⟩ := h σ ρ τ Ha B d W o s s2 k
  exact q.ed
variable {c : Cc} {sc : Scope} {e a b : Expr} {x y : IR} {pos : Pos}
theorem SoundE.loose (h : SoundE g Φ sc e x) {σ : L2.St} {τ : Rho} {Ha : Hp} {B : Addr → Bool} {d : PD} {W : List Int} (o : Off g.wl B Ha) (s : Sl (allB Ha) Ha τ σ) (he : ev Φ x τ τ = some d) : EvD g sc σ Ha (allB Ha) W e d W := h σ τ τ Ha _ d W (off_all o) s s he
theorem asBool_inv {z : PD} {p : Bool} (h : asBool z = some p) : z = .bool p := by
  cases z <;> first | (cases h; rfl) | cases h
theorem obind {α β : Type} {o : Option α} {f : α → Option β} {b : β} (h : o.bind f = some b) : ∃ a, o = some a ∧ f a = some b := by
  cases o with
  | none => cases h
  | some a => exact ⟨a, rfl, h⟩
theorem omap {α β : Type} {o : Option α} {f : α → β} {b : β} (h : o.map f = some b) : ∃ a, o = some a ∧ f a = b := by
  cases o with
  | none => cases h
  | some a => exact ⟨a, rfl, Option.some.inj h⟩
theorem mapM_at {α β : Type} {f : α → Option β} : ∀ {l : List α} {r : List β}, l.mapM f = some r → r.length = l.length ∧ ∀ (i : Nat) a b, l[i]? = some a → r[i]? = some b → f a = some b
  | [], r, h => by
    rw [List.mapM_nil] at h
    cases h
    exact ⟨rfl, fun i a b h => by simp at h⟩
  | x :: l, r, h => by
    rw [List.mapM_cons] at h
    obtain ⟨b, h1, h2⟩ := obind h
    obtain ⟨bs, h3, h4⟩ := obind h2
    cases h4
    obtain ⟨e1, e2⟩ := mapM_at h3
    refine ⟨by rw [List.length_cons, List.length_cons, e1], fun i a b' ha hb => ?_⟩
    cases i with
    | zero => cases ha; cases hb; exact h1
    | succ i => exact e2 i a b' (by simpa using ha) (by simpa using hb)

/-! ### the simple forms -/
theorem so_bin {op : Operator} (ha : SoundE g Φ sc a x) (hb : SoundE g Φ sc b y) : SoundE g Φ sc (.BinOp a op b pos) (.bin op x y) := fun σ ρ τ Ha B d W o s s2 h => by
  unfold ev at h
  obtain ⟨u, h1, h⟩ := obind h
  obtain ⟨v, h2, h⟩ := obind h
  exact ed_bin o (ha σ ρ τ Ha B u W o s s2 h1) (hb σ ρ τ Ha B v W o s s2 h2) (pyBin_ok h)
theorem so_neg (ha : SoundE g Φ sc a x) : SoundE g Φ sc (.UnaryOp .USub a pos) (.neg x) := fun σ ρ τ Ha B d W o s s2 h => by
  unfold ev at h
  obtain ⟨u, h1, h⟩ := obind h
  split at h
  · cases h
    exact ed_un (ha σ ρ τ Ha B _ W o s s2 h1) neg_ok
  · cases h
theorem so_notV (ha : SoundE g Φ sc a x) : SoundE g Φ sc (.UnaryOp .Not a pos) (.notV x) := fun σ ρ τ Ha B d W o s s2 h => by
  unfold ev at h
  obtain ⟨p, h1, h⟩ := omap h
  obtain ⟨u, h1, h2⟩ := obind h1
  cases h
  rw [asBool_inv h2] at h1
  exact (ed_not (ha.loose o s2 h1)).scal rfl
theorem so_cmp {op : CmpOp} (hp : plainE b = true) (ha : SoundE g Φ sc a x) (hb : SoundE g Φ sc b y) : SoundE g Φ sc (.Compare a [op] [b] pos) (.cmp op x y) := fun σ ρ τ Ha B d W o s s2 h => by
  unfold ev at h
  obtain ⟨u, h1, h⟩ := obind h
  obtain ⟨v, h2, h⟩ := obind h
  obtain ⟨z, h3, h⟩ := obind h
  obtain ⟨p, h4, h⟩ := omap h
  cases h
  rw [asBool_inv h4] at h3
  exact (ed_cmp (off_all o) (plainE.marks hp) (ha.loose o s2 h1) (hb.loose o s2 h2) (pyCmp_ok h3)).scal rfl
theorem to_cmp {op : CmpOp} (hp : plainE b = true) (ha : SoundE g Φ sc a x) (hb : SoundE g Φ sc b y) : SoundT g Φ sc (.Compare a [op] [b] pos) (.tCmp op x y) := fun σ τ Ha B p W o s2 h => by
  unfold evT at h
  obtain ⟨u, h1, h⟩ := obind h
  obtain ⟨v, h2, h⟩ := obind h
  obtain ⟨z, h3, h⟩ := obind h
  rw [asBool_inv h] at h3
  exact et_cmp (off_all o) (plainE.marks hp) (ha.loose o s2 h1) (hb.loose o s2 h2) (pyCmp_ok h3)
theorem so_chain {op op' : CmpOp} {d' : Expr} {z' : IR} (hp : plainE d' = true) (ha : SoundE g Φ sc a x) (hb : SoundE g Φ sc b y) (hd : SoundE g Φ sc d' z') : SoundE g Φ sc (.Compare a [op, op'] [b, d'] pos) (.chain op op' x y z') := fun σ ρ τ Ha B d W o s s2 h => by
  unfold ev at h
  obtain ⟨u, h1, h⟩ := obind h
  obtain ⟨v, h2, h⟩ := obind h
  obtain ⟨w, h3, h⟩ := obind h
  obtain ⟨p, h4, h⟩ := obind h
  obtain ⟨q, h5, h⟩ := obind h
  obtain ⟨p', h4, h6⟩ := obind h4
  obtain ⟨q', h5, h7⟩ := obind h5
  rw [asBool_inv h6] at h4
  rw [asBool_inv h7] at h5
  cases h
  exact (ed_chain (off_all o) hp (ha.loose o s2 h1) (hb.loose o s2 h2) (hd.loose o s2 h3) h4 (fun _ => h5) ⟨_, h5⟩).scal rfl
theorem to_chain {op op' : CmpOp} {d' : Expr} {z' : IR} (hp : plainE d' = true) (ha : SoundE g Φ sc a x) (hb : SoundE g Φ sc b y) (hd : SoundE g Φ sc d' z') : SoundT g Φ sc (.Compare a [op, op'] [b, d'] pos) (.tChain op op' x y z') := fun σ τ Ha B d W o s2 h => by
  unfold evT at h
  obtain ⟨u, h1, h⟩ := obind h
  obtain ⟨v, h2, h⟩ := obind h
  obtain ⟨w, h3, h⟩ := obind h
  obtain ⟨p, h4, h⟩ := obind h
  obtain ⟨q, h5, h⟩ := obind h
  obtain ⟨p', h4, h6⟩ := obind h4
  obtain ⟨q', h5, h7⟩ := obind h5
  rw [asBool_inv h6] at h4
  rw [asBool_inv h7] at h5
  cases h
  exact et_chain (off_all o) hp (ha.loose o s2 h1) (hb.loose o s2 h2) (hd.loose o s2 h3) h4 (fun _ => h5) ⟨_, h5⟩
theorem so_and {es : List Expr} (ha : SoundE g Φ sc a x) (hb : SoundE g Φ sc (.BoolOp .And (b :: es) pos) y) : SoundE g Φ sc (.BoolOp .And (a :: b :: es) pos) (.andV x y) := fun σ ρ τ Ha B d W o s s2 h => by
  unfold ev at h
  obtain ⟨p, h1, h⟩ := obind h
  obtain ⟨u, h1, h2⟩ := obind h1
  rw [asBool_inv h2] at h1
  cases p with
  | false =>
    cases h
    exact (ed_andF (ha.loose o s2 h1)).scal rfl
  | true =>
    obtain ⟨q, h3, h⟩ := omap h
    obtain ⟨v, h3, h4⟩ := obind h3
    rw [asBool_inv h4] at h3
    cases h
    exact (ed_andT (off_all o) (ha.loose o s2 h1) (hb.loose o s2 h3)).scal rfl
theorem so_or {es : List Expr} (ha : SoundE g Φ sc a x) (hb : SoundE g Φ sc (.BoolOp .Or (b :: es) pos) y) : SoundE g Φ sc (.BoolOp .Or (a :: b :: es) pos) (.orV x y) := fun σ ρ τ Ha B d W o s s2 h => by
  unfold ev at h
  obtain ⟨p, h1, h⟩ := obind h
  obtain ⟨u, h1, h2⟩ := obind h1
  rw [asBool_inv h2] at h1
  cases p with
  | true =>
    cases h
    exact (ed_orT (ha.loose o s2 h1)).scal rfl
  | false =>
    obtain ⟨q, h3, h⟩ := omap h
    obtain ⟨v, h3, h4⟩ := obind h3
    rw [asBool_inv h4] at h3
    cases h
    exact (ed_orF (off_all o) (ha.loose o s2 h1) (hb.loose o s2 h3)).scal rfl
theorem so_ite {t : Expr} {z : IR} (ht : SoundT g Φ sc t z) (ha : SoundE g Φ sc a x) (hb : SoundE g Φ sc b y) : SoundE g Φ sc (.IfExp t a b pos) (.ite z x y) := fun σ ρ τ Ha B d W o s s2 h => by
  unfold ev at h
  obtain ⟨p, h1, h⟩ := obind h
  cases p with
  | true => exact ed_ifT o (ht σ τ Ha B true W o s2 h1) (ha σ ρ τ Ha B d W o s s2 h)
  | false => exact ed_ifF o (ht σ τ Ha B false W o s2 h1) (hb σ ρ τ Ha B d W o s s2 h)
theorem so_ix (hp : plainE b = true) (ha : SoundE g Φ sc a x) (hb : SoundE g Φ sc b y) : SoundE g Φ sc (.Subscript a b pos) (.ix x y) := fun σ ρ τ Ha B d W o s s2 h => by
  unfold ev at h
  obtain ⟨u, h1, h⟩ := obind h
  obtain ⟨v, h2, h⟩ := obind h
  have sv : scal v = true := by
    unfold pyIx at h
    split at h
    · rfl
    · rfl
    · cases h
  exact ed_ix o (plainE.ix hp) (ha σ ρ τ Ha B u W o s s2 h1) ((hb.loose o s2 h2).scal sv) (pyIx_ok h)
theorem so_sl {lo hi : Option Expr} {i j : Option Int} {p2 : Pos} (hl : partB lo = some i) (hh : partB hi = some j) (ha : SoundE g Φ sc a x) : SoundE g Φ sc (.Subscript a (.Slice lo hi none p2) pos) (.sl x i j) := fun σ ρ τ Ha B d W o s s2 h => by
  unfold ev at h
  obtain ⟨u, h1, h⟩ := obind h
  exact ed_sl hl hh (ha σ ρ τ Ha B u W o s s2 h1) h
theorem so_tup {es : List Expr} {xs : List IR} {k : Nat} (hp : es.all plainE = true) (ha : SoundS g Φ sc es xs) : SoundE g Φ sc (.Tuple es k pos) (.tup xs) := fun σ ρ τ Ha B d W o s s2 h => by
  unfold ev at h
  obtain ⟨u, h1, h⟩ := obind h
  split at h
  · cases h
    exact ed_tup (plainE.all hp) (by assumption) (ha σ ρ τ Ha B u W o s s2 h1).1
  · cases h
theorem so_lst {es : List Expr} {xs : List IR} (hp : es.all plainE = true) (ha : SoundS g Φ sc es xs) : SoundE g Φ sc (.List es pos) (.lst xs) := fun σ ρ τ Ha B d W o s s2 h => by
  unfold ev at h
  obtain ⟨u, h1, h⟩ := obind h
  split at h
  · cases h
    exact ed_lst (plainE.all hp) (by assumption) (ha σ ρ τ Ha B u W o s s2 h1).1
  · cases h
theorem boot_bi (f : Bi) : bootBuiltins (f.nm : Str) = some (fnVal f.nm f.ty) := by cases f <;> decide +kernel
theorem nm_ne (f : Bi) : (f.nm : Str) ≠ ("__name__" : Str) ∧ ((f.nm : Str) == ("__debug__" : Str)) = false := by cases f <;> (constructor <;> decide +kernel)
/-- a built-in of data -/
theorem ed_bi {m : Mok c g Φ} {f : Bi} {n : Str} {es : List Expr} {σ : L2.St} {Ha : Hp} {B : Addr → Bool} {W : List Int} {ds : List PD} {d : PD} {p0 : Pos} (hn : n = (f.nm : Str)) (hg : glB sc n = true) (hst : (a :: es).all plainE = true) (ha : EvS g sc σ Ha B W (a :: es) ds W) (h : pyFn f ds = some d) :
    EvD g sc σ Ha B W (.Call (.Name n p0) (a :: es) [] pos) d W := by
  subst hn
  have q := pyFn_ok (g := g) h
  have bt := boot_bi f
  unfold fnVal at q bt
  cases hty : f.ty with
  | true =>
    rw [hty, if_pos rfl] at q bt
    exact ed_callTy (nm_ne f).1 (nm_ne f).2 hg (m.bi f) bt (plainE.all hst) ha q
  | false =>
    rw [hty, if_neg (by simp)] at q bt
    exact ed_callB (nm_ne f).1 (nm_ne f).2 hg (m.bi f) bt (plainE.all hst) ha q
theorem so_bi1 (m : Mok c g Φ) {f : Bi} {n : Str} {p0 : Pos} (hn : n = (f.nm : Str)) (hg : glB sc n = true) (hp : plainE a = true) (ha : SoundE g Φ sc a x) : SoundE g Φ sc (.Call (.Name n p0) [a] [] pos) (.bi1 f x) := fun σ ρ τ Ha B d W o s s2 h => by
  unfold ev at h
  split at h
  · obtain ⟨u, h1, h⟩ := obind h
    obtain ⟨z, h2, h⟩ := obind h
    split at h
    · cases h
      exact (ed_bi (m := m) hn hg (by simp [hp]) (es_cons (off_all o) (ha.loose o s2 h1) es_nil) h2).scal (by assumption)
    · cases h
  · obtain ⟨u, h1, h⟩ := obind h
    exact ed_bi (m := m) hn hg (by simp [hp]) (es_cons o (ha σ ρ τ Ha B u W o s s2 h1) es_nil) h
theorem so_bi2 (m : Mok c g Φ) {f : Bi} {n : Str} {p0 : Pos} (hn : n = (f.nm : Str)) (hg : glB sc n = true) (hp : plainE a = true) (hp2 : plainE b = true) (ha : SoundE g Φ sc a x) (hb : SoundE g Φ sc b y) : SoundE g Φ sc (.Call (.Name n p0) [a, b] [] pos) (.bi2 f x y) := fun σ ρ τ Ha B d W o s s2 h => by
  unfold ev at h
  obtain ⟨u, h1, h⟩ := obind h
  obtain ⟨v, h2, h⟩ := obind h
  obtain ⟨z, h3, h⟩ := obind h
  split at h
  · cases h
    exact (ed_bi (m := m) hn hg (by simp [hp, hp2]) (es_cons (off_all o) (ha.loose o s2 h1) (es_cons (off_all o) (hb.loose o s2 h2) es_nil)) h3).scal (by assumption)
  · cases h
theorem so_isa (m : Mok c g Φ) {t : Ty} {n : Str} {p0 p1 : Pos} (hn : n = (t.nm : Str)) (hg : glB sc "isinstance" = true) (hg2 : glB sc n = true) (hp : plainE a = true) (ha : SoundE g Φ sc a x) : SoundE g Φ sc (.Call (.Name "isinstance" p0) [a, .Name n p1] [] pos) (.isa t x) := fun σ ρ τ Ha B d W o s s2 h => by
  unfold ev at h
  obtain ⟨u, h1, h⟩ := obind h
  obtain ⟨q, h2, h⟩ := omap h
  cases h
  exact (ed_isTy hn hg m.isi hg2 (by rw [hn]; exact m.ty t) hp (ha.loose o s2 h1) h2).scal rfl
theorem so_fn (m : Mok c g Φ) {n : Str} {ar : Nat} {es : List Expr} {xs : List IR} {p0 : Pos} (hf : c.fns.lookup n = some ar) (hn : okName n = true) (hg : glB sc n = true) (hp : (a :: es).all plainE = true) (hl : (a :: es).length = ar) (ha : SoundS g Φ sc (a :: es) xs) :
    SoundE g Φ sc (.Call (.Name n p0) (a :: es) [] pos) (.fn n xs) := fun σ ρ τ Ha B d W o s s2 h => by
  unfold ev at h
  obtain ⟨f, h1, h⟩ := obind h
  obtain ⟨ds, h2, h⟩ := obind h
  obtain ⟨q1, q2⟩ := ha σ ρ τ Ha B ds W o s s2 h2
  exact ed_fn (m.fns n ar f hf h1) hg (okName.d hn) (plainE.all hp) (by rw [q2, hl]) q1 h
theorem so_lrng (m : Mok c g Φ) {p0 p1 p2 : Pos} (hg : glB sc "list" = true) (hg2 : glB sc "range" = true) (hp : plainE a = true) (ha : SoundE g Φ sc a x) : SoundE g Φ sc (.Call (.Name "list" p0) [.Call (.Name "range" p1) [a] [] p2] [] pos) (.lrng x) := fun σ ρ τ Ha B d W o s s2 h => by
  unfold ev at h
  obtain ⟨u, h1, h⟩ := obind h
  split at h
  · split at h
    · cases h
      exact ed_listRng hg (m.bi .list) hg2 m.rng hp (by assumption) ((ha.loose o s2 h1).scal rfl)
    · cases h
  · cases h
theorem so_trng (m : Mok c g Φ) {p0 p1 p2 : Pos} (hg : glB sc "tuple" = true) (hg2 : glB sc "range" = true) (hp : plainE a = true) (ha : SoundE g Φ sc a x) : SoundE g Φ sc (.Call (.Name "tuple" p0) [.Call (.Name "range" p1) [a] [] p2] [] pos) (.trng x) := fun σ ρ τ Ha B d W o s s2 h => by
  unfold ev at h
  obtain ⟨u, h1, h⟩ := obind h
  split at h
  · split at h
    · cases h
      exact ed_tupRng hg (m.bi .tuple) hg2 m.rng hp (by assumption) ((ha.loose o s2 h1).scal rfl)
    · cases h
  · cases h
theorem so_sset (m : Mok c g Φ) {p0 p1 p2 : Pos} (hg : glB sc "sorted" = true) (hg2 : glB sc "set" = true) (hp : plainE a = true) (ha : SoundE g Φ sc a x) : SoundE g Φ sc (.Call (.Name "sorted" p0) [.Call (.Name "set" p1) [a] [] p2] [] pos) (.sset x) := fun σ ρ τ Ha B d W o s s2 h => by
  unfold ev at h
  obtain ⟨u, h1, h⟩ := obind h
  exact ed_sset hg (m.bi .sorted) hg2 m.set_ hp (ha.loose o s2 h1) h
theorem so_rev {k : Nat} {p1 p2 p3 : Pos} (ha : SoundE g Φ sc a x) : SoundE g Φ sc (.Subscript a (.Slice none none (some (.UnaryOp .USub (.Constant (.int 1) k p1) p2)) p3) pos) (.rev x) := fun σ ρ τ Ha B d W o s s2 h => by
  unfold ev at h
  obtain ⟨u, h1, h⟩ := obind h
  exact ed_rev (ha σ ρ τ Ha B u W o s s2 h1) h
end
end SN
end
section
set_option Elab.async false
set_option linter.all false
set_option maxRecDepth 100000
set_option maxHeartbeats 8000000
/-! S10: the model does what the small language computes: comprehensions, all expressions. -/
namespace SN
open PySem L2 LamX
section
variable {g : Gs} {Φ : Fns} {c : Cc} {sc : Scope} {e a b elt iter tg iter1 tg1 : Expr} {x y src src1 : IR} {pos : Pos} {scope : Scope} {own : List (Str × Nat)} {t u : Tg}
theorem fm_some {α : Type} (l : List α) : (l.map some).filterMap id = l := by
  rw [List.filterMap_map]
  show l.filterMap (fun a => some a) = l
  exact List.filterMap_some
/-- one turn -/
theorem turn_of {σ0 : L2.St} {ρ0 τ0 : Rho} {Ha : Hp} {B : Addr → Bool} {W : List Int} {ifs : List Expr} {d : PD} {r : Option PD} (s : Sl B Ha ρ0 σ0) (s2 : Sl (allB Ha) Ha τ0 σ0) {ρ' τ' : Rho} (h1 : putR t d ρ0 = some ρ') (h2 : putR t d τ0 = some τ')
    (k : ∀ σ' Hx Bx, Off g.wl Bx Hx → Sl Bx Hx ρ' σ' → Sl (allB Hx) Hx τ' σ' → EvTs g sc σ' Hx W ifs r.isSome ∧ ∀ d', r = some d' → EvD g sc σ' Hx Bx W elt d' W) : TurnD g sc σ0 Ha B W W t ifs elt d r := fun Hx Bx x e o' hB dx => by
  obtain ⟨σ', q1, q2, q3⟩ := put_two (s.mono (rs_up (w := none) e hB)) (s2.mono (all_up e)) dx h1 h2
  obtain ⟨q4, q5⟩ := k σ' Hx Bx o' q2 q3
  exact ⟨σ', q1, q4, q5, fun _ => rfl⟩
theorem sn_lc (m : Mok c g Φ) (hok : blkC g.N sc scope own = true) (hk : scope.kind = .function) (htg : isTg g.N scope tg t = true) (hsl : ∀ i ∈ t.slots, i ∈ own.map (·.2)) (hp : plainE iter = true)
    (hi : SoundI g Φ sc tg iter src) (he : SoundE g Φ (relS scope sc) elt x) : SoundN g Φ sc (.ListComp elt [⟨tg, iter, [], 0⟩] scope pos) (.lc src t (own.map (·.2)) x) := fun σ ρ τ Ha B d W o s s2 h => by
  unfold ev at h
  obtain ⟨items, h1, h⟩ := obind h
  obtain ⟨outs, h2, h⟩ := obind h
  unfold bigL at h
  split at h
  · rename_i hz
    cases h
    obtain ⟨hl, hat⟩ := mapM_at h2
    have q := ed_lcN (outs := outs.map some) (ifs := []) (elt := elt) (pos := pos) o hok hk htg (Nat.zero_le 1) hsl (plainE.fold hp) (hi σ ρ τ Ha B items W o s s2 h1) hz (by rw [List.length_map, hl]) fun i d r hd hr => ?_
    · rw [fm_some] at q
      exact ⟨_, rfl, q⟩
    · rw [List.getElem?_map] at hr
      obtain ⟨r', hr', rfl⟩ := omap hr
      have hf := hat i d r' hd hr'
      obtain ⟨ρ', k1, hf⟩ := obind hf
      obtain ⟨τ', k2, hf⟩ := obind hf
      refine turn_of (s.wipe _) (s2.wipe _) k1 k2 fun σ' Hx Bx o' q2 q3 => ⟨rfl, fun d' e => ?_⟩
      cases e
      exact he σ' ρ' τ' Hx Bx _ W o' q2 q3 hf
  · cases h
theorem sn_lcIf (m : Mok c g Φ) {cd : Expr} (hok : blkC g.N sc scope own = true) (hk : scope.kind = .function) (htg : isTg g.N scope tg t = true) (hsl : ∀ i ∈ t.slots, i ∈ own.map (·.2)) (hp : plainE iter = true)
    (hi : SoundI g Φ sc tg iter src) (ht : SoundT g Φ (relS scope sc) cd y) (he : SoundE g Φ (relS scope sc) elt x) : SoundN g Φ sc (.ListComp elt [⟨tg, iter, [cd], 0⟩] scope pos) (.lcIf src t (own.map (·.2)) y x) := fun σ ρ τ Ha B d W o s s2 h => by
  unfold ev at h
  obtain ⟨items, h1, h⟩ := obind h
  obtain ⟨outs, h2, h⟩ := obind h
  unfold bigL at h
  split at h
  · rename_i hz
    cases h
    obtain ⟨hl, hat⟩ := mapM_at h2
    refine ⟨_, rfl, ed_lcN (outs := outs) (ifs := [cd]) (elt := elt) (pos := pos) o hok hk htg (Nat.le_refl 1) hsl (plainE.fold hp) (hi σ ρ τ Ha B items W o s s2 h1) hz hl fun i d r hd hr => ?_⟩
    have hf := hat i d r hd hr
    obtain ⟨ρ', k1, hf⟩ := obind hf
    obtain ⟨τ', k2, hf⟩ := obind hf
    obtain ⟨p, k3, hf⟩ := obind hf
    refine turn_of (s.wipe _) (s2.wipe _) k1 k2 fun σ' Hx Bx o' q2 q3 => ?_
    have et : EvT g (relS scope sc) σ' Hx W cd p W := ht σ' τ' Hx Bx p W o' q3 k3
    cases p with
    | true =>
      obtain ⟨d', k4, rfl⟩ := omap hf
      refine ⟨et, fun d'' e => ?_⟩
      cases e
      exact he σ' ρ' τ' Hx Bx _ W o' q2 q3 k4
    | false =>
      cases hf
      exact ⟨et, fun d'' e => by cases e⟩
  · cases h
theorem sn_lc2 (m : Mok c g Φ) (hok : blkC g.N sc scope own = true) (hk : scope.kind = .function) (htg : isTg g.N scope tg t = true) (htg1 : isTg g.N scope tg1 u = true) (hsl : ∀ i ∈ t.slots, i ∈ own.map (·.2)) (hsl1 : ∀ i ∈ u.slots, i ∈ own.map (·.2)) (hp : plainE iter = true) (hp1 : plainE iter1 = true)
    (hi : SoundI g Φ sc tg iter src) (hi1 : SoundI g Φ (relS scope sc) tg1 iter1 src1) (he : SoundE g Φ (relS scope sc) elt x) :
    SoundN g Φ sc (.ListComp elt [⟨tg, iter, [], 0⟩, ⟨tg1, iter1, [], 0⟩] scope pos) (.lc2 src t (own.map (·.2)) src1 u u.slots x) := fun σ ρ τ Ha B d W o s s2 h => by
  unfold ev at h
  obtain ⟨items, h1, h⟩ := obind h
  obtain ⟨outs, h2, h⟩ := obind h
  unfold bigL at h
  split at h
  · rename_i hz
    cases h
    obtain ⟨hl, hat⟩ := mapM_at h2
    have q := ed_lc2N (outs := outs.map fun l => l.map some) (ifs := []) (elt := elt) (pos := pos) o hok hk htg htg1 (Nat.zero_le 1) hsl (fun i hi => hi) hsl1 hp hp1 (hi σ ρ τ Ha B items W o s s2 h1) (by
        rw [List.map_map]
        have e : (List.length ∘ fun (l : List PD) => l.map some) = List.length := by funext l; exact List.length_map _
        rw [e]
        exact hz) (by rw [List.length_map, hl]) fun i d r hd hr => ?_
    · have e : (outs.map fun l => l.map some).flatten = outs.flatten.map some := by rw [List.map_flatten]
      rw [e, fm_some] at q
      exact ⟨_, rfl, q⟩
    · rw [List.getElem?_map] at hr
      obtain ⟨r', hr', rfl⟩ := omap hr
      have hf := hat i d r' hd hr'
      obtain ⟨ρ', k1, hf⟩ := obind hf
      obtain ⟨τ', k2, hf⟩ := obind hf
      obtain ⟨items1, k3, hf⟩ := obind hf
      obtain ⟨hl1, hat1⟩ := mapM_at hf
      intro Hx Bx x e o' hB dx
      obtain ⟨σ', q1, q2, q3⟩ := put_two ((s.wipe _).mono (rs_up (w := none) e hB)) ((s2.wipe _).mono (all_up e)) dx k1 k2
      refine ⟨σ', items1, q1, hi1 σ' ρ' τ' Hx Bx items1 W o' q2 q3 k3, by rw [List.length_map, hl1], fun j d1 r1 hd1 hr1 => ?_⟩
      rw [List.getElem?_map] at hr1
      obtain ⟨r2, hr2, rfl⟩ := omap hr1
      have hf1 := hat1 j d1 r2 hd1 hr2
      obtain ⟨ρ2, k4, hf1⟩ := obind hf1
      obtain ⟨τ2, k5, hf1⟩ := obind hf1
      refine turn_of (q2.wipe _) (q3.wipe _) k4 k5 fun σ2 Hy By o2 q4 q5 => ⟨rfl, fun d' e => ?_⟩
      cases e
      exact he σ2 ρ2 τ2 Hy By _ W o2 q4 q5 hf1
  · cases h
theorem sn_lc2If (m : Mok c g Φ) {cd : Expr} (hok : blkC g.N sc scope own = true) (hk : scope.kind = .function) (htg : isTg g.N scope tg t = true) (htg1 : isTg g.N scope tg1 u = true) (hsl : ∀ i ∈ t.slots, i ∈ own.map (·.2)) (hsl1 : ∀ i ∈ u.slots, i ∈ own.map (·.2)) (hp : plainE iter = true) (hp1 : plainE iter1 = true)
    (hi : SoundI g Φ sc tg iter src) (hi1 : SoundI g Φ (relS scope sc) tg1 iter1 src1) (ht : SoundT g Φ (relS scope sc) cd y) (he : SoundE g Φ (relS scope sc) elt x) :
    SoundN g Φ sc (.ListComp elt [⟨tg, iter, [], 0⟩, ⟨tg1, iter1, [cd], 0⟩] scope pos) (.lc2If src t (own.map (·.2)) src1 u u.slots y x) := fun σ ρ τ Ha B d W o s s2 h => by
  unfold ev at h
  obtain ⟨items, h1, h⟩ := obind h
  obtain ⟨outs, h2, h⟩ := obind h
  unfold bigL at h
  split at h
  · rename_i hz
    cases h
    obtain ⟨hl, hat⟩ := mapM_at h2
    refine ⟨_, rfl, ed_lc2N (outs := outs) (ifs := [cd]) (elt := elt) (pos := pos) o hok hk htg htg1 (Nat.le_refl 1) hsl (fun i hi => hi) hsl1 hp hp1 (hi σ ρ τ Ha B items W o s s2 h1) hz hl fun i d r hd hr => ?_⟩
    have hf := hat i d r hd hr
    obtain ⟨ρ', k1, hf⟩ := obind hf
    obtain ⟨τ', k2, hf⟩ := obind hf
    obtain ⟨items1, k3, hf⟩ := obind hf
    obtain ⟨hl1, hat1⟩ := mapM_at hf
    intro Hx Bx x e o' hB dx
    obtain ⟨σ', q1, q2, q3⟩ := put_two ((s.wipe _).mono (rs_up (w := none) e hB)) ((s2.wipe _).mono (all_up e)) dx k1 k2
    refine ⟨σ', items1, q1, hi1 σ' ρ' τ' Hx Bx items1 W o' q2 q3 k3, hl1, fun j d1 r1 hd1 hr1 => ?_⟩
    have hf1 := hat1 j d1 r1 hd1 hr1
    obtain ⟨ρ2, k4, hf1⟩ := obind hf1
    obtain ⟨τ2, k5, hf1⟩ := obind hf1
    obtain ⟨p, k6, hf1⟩ := obind hf1
    refine turn_of (q2.wipe _) (q3.wipe _) k4 k5 fun σ2 Hy By o2 q4 q5 => ?_
    have et : EvT g (relS scope sc) σ2 Hy W cd p W := ht σ2 τ2 Hy By p W o2 q5 k6
    cases p with
    | true =>
      obtain ⟨d', k7, rfl⟩ := omap hf1
      refine ⟨et, fun d'' e => ?_⟩
      cases e
      exact he σ2 ρ2 τ2 Hy By _ W o2 q4 q5 k7
    | false =>
      cases hf1
      exact ⟨et, fun d'' e => by cases e⟩
  · cases h

/-! ### what is walked -/
theorem si_val (ha : SoundE g Φ sc a x) : SoundI g Φ sc tg a (.tVal x) := fun σ ρ τ Ha B ds W o s s2 h => by
  unfold evI at h
  obtain ⟨u, h1, h⟩ := obind h
  split at h
  · cases h; exact itd_list (ha σ ρ τ Ha B _ W o s s2 h1)
  · cases h; exact itd_tup (ha σ ρ τ Ha B _ W o s s2 h1)
  · cases h
theorem si_rng1 (m : Mok c g Φ) {p0 : Pos} (hg : glB sc "range" = true) (hp : plainE a = true) (ha : SoundE g Φ sc a x) : SoundI g Φ sc tg (.Call (.Name "range" p0) [a] [] pos) (.rng1 x) := fun σ ρ τ Ha B ds W o s s2 h => by
  unfold evI at h
  obtain ⟨u, h1, h⟩ := obind h
  split at h
  · split at h
    · cases h
      exact itd_range1 hg m.rng (by simp [plainE.star hp]) (by assumption) (es_cons o ((ha.loose o s2 h1).scal rfl) es_nil)
    · cases h
  · cases h
theorem si_rng2 (m : Mok c g Φ) {p0 : Pos} (hg : glB sc "range" = true) (hp : plainE a = true) (hp2 : plainE b = true) (ha : SoundE g Φ sc a x) (hb : SoundE g Φ sc b y) : SoundI g Φ sc tg (.Call (.Name "range" p0) [a, b] [] pos) (.rng2 x y) := fun σ ρ τ Ha B ds W o s s2 h => by
  unfold evI at h
  obtain ⟨u, h1, h⟩ := obind h
  obtain ⟨v, h2, h⟩ := obind h
  split at h
  · split at h
    · cases h
      exact itd_range2 hg m.rng (by simp [plainE.star hp, plainE.star hp2]) (by assumption) (es_cons o ((ha.loose o s2 h1).scal rfl) (es_cons o ((hb.loose o s2 h2).scal rfl) es_nil))
    · cases h
  · cases h
theorem si_enum (m : Mok c g Φ) {p0 p1 : Pos} {elts : List Expr} {kk : Nat} (hg : glB sc "enumerate" = true) (hp : plainE a = true) (ha : SoundE g Φ sc a x) : SoundI g Φ sc (.Tuple elts kk p1) (.Call (.Name "enumerate" p0) [a] [] pos) (.enum x) := fun σ ρ τ Ha B ds W o s s2 h => by
  unfold evI at h
  obtain ⟨u, h1, h⟩ := obind h
  split at h
  · cases h
    exact itd_enum hg m.enu (by simp [plainE.star hp]) (es_cons o (ha σ ρ τ Ha B _ W o s s2 h1) es_nil)
  · cases h
    exact itd_enumT hg m.enu (by simp [plainE.star hp]) (es_cons o (ha σ ρ τ Ha B _ W o s s2 h1) es_nil)
  · cases h

/-! ### tests -/
theorem st_val (hv : valT a = true) (ha : SoundE g Φ sc a x) : SoundT g Φ sc a (.tVal x) := fun σ τ Ha B p W o s2 h => by
  unfold evT at h
  obtain ⟨u, h1, h⟩ := obind h
  exact et_val hv (ha.loose o s2 h1) h
theorem st_not (ha : SoundT g Φ sc a x) : SoundT g Φ sc (.UnaryOp .Not a pos) (.tNot x) := fun σ τ Ha B p W o s2 h => by
  unfold evT at h
  obtain ⟨q, h1, rfl⟩ := omap h
  exact et_not (ha σ τ Ha B q W o s2 h1)
/-- a test of and, or: the syntax itself gives wW -/
def SoundW (g : Gs) (Φ : Fns) (sc : Scope) (e : Expr) (ir : IR) : Prop := ∀ (σ : L2.St) (τ : Rho) (Ha : Hp) (B : Addr → Bool) (p : Bool) (W : List Int), Off g.wl B Ha → Sl (allB Ha) Ha τ σ → evT Φ ir τ = some p → EvW g sc σ Ha W e p W
theorem SoundW.tt (h : SoundW g Φ sc e x) : SoundT g Φ sc e x := fun σ τ Ha B p W o s2 q => (h σ τ Ha B p W o s2 q).t
theorem sw_one {op : BoolOp} (ha : SoundT g Φ sc a x) : SoundW g Φ sc (.BoolOp op [a] pos) x := fun σ τ Ha B p W o s2 h => by
  cases op with
  | And => exact ew_and1 (ha σ τ Ha B p W o s2 h)
  | Or => exact ew_or1 (ha σ τ Ha B p W o s2 h)
theorem sw_and {es : List Expr} (ha : SoundT g Φ sc a x) (hb : SoundW g Φ sc (.BoolOp .And (b :: es) pos) y) : SoundW g Φ sc (.BoolOp .And (a :: b :: es) pos) (.tAnd x y) := fun σ τ Ha B p W o s2 h => by
  unfold evT at h
  obtain ⟨q, h1, h⟩ := obind h
  cases q with
  | true => exact ew_andT o (ha σ τ Ha B true W o s2 h1) (hb σ τ Ha B p W o s2 h)
  | false => cases h; exact ew_andF (ha σ τ Ha B false W o s2 h1)
theorem sw_or {es : List Expr} (ha : SoundT g Φ sc a x) (hb : SoundW g Φ sc (.BoolOp .Or (b :: es) pos) y) : SoundW g Φ sc (.BoolOp .Or (a :: b :: es) pos) (.tOr x y) := fun σ τ Ha B p W o s2 h => by
  unfold evT at h
  obtain ⟨q, h1, h⟩ := obind h
  cases q with
  | true => cases h; exact ew_orT (ha σ τ Ha B true W o s2 h1)
  | false => exact ew_orF o (ha σ τ Ha B false W o s2 h1) (hb σ τ Ha B p W o s2 h)

/-! ### all of them -/
theorem ba2 {p q : Bool} (h : (p && q) = true) : p = true ∧ q = true := by rw [Bool.and_eq_true] at h; exact h
def isBoolOp : Expr → Bool
  | .BoolOp _ _ _ => true
  | _ => false
structure AllS (c : Cc) (g : Gs) (Φ : Fns) (n : Nat) : Prop where
  E2 : ∀ sc e ir, cE c n sc e = some ir → SoundE g Φ sc e ir ∧ (fresh ir = true → SoundN g Φ sc e ir)
  S : ∀ sc es irs, cEs c n sc es = some irs → SoundS g Φ sc es irs
  I : ∀ sc two tg e ir, (two = true → isTupE tg = true) → cI c n sc two e = some ir → SoundI g Φ sc tg e ir
  T : ∀ sc e ir, cT c n sc e = some ir → SoundT g Φ sc e ir ∧ (isBoolOp e = true → SoundW g Φ sc e ir)
theorem AllS.E {n : Nat} (h : AllS c g Φ n) : ∀ sc e ir, cE c n sc e = some ir → SoundE g Φ sc e ir := fun sc e ir k => (h.E2 sc e ir k).1
theorem nf {ir : IR} (h : SoundE g Φ sc e ir) (f : fresh ir = false) : SoundE g Φ sc e ir ∧ (fresh ir = true → SoundN g Φ sc e ir) := ⟨h, fun z => by rw [f] at z; cases z⟩
theorem yf {ir : IR} (h : SoundN g Φ sc e ir) : SoundE g Φ sc e ir ∧ (fresh ir = true → SoundN g Φ sc e ir) := ⟨h.e, fun _ => h⟩
/-! new lists -/
theorem new_das {H1 H2 : Hp} {B : Addr → Bool} {w : Option Addr} {T : List (Addr × Str)} {W : List Int} {p : Addr} {vs : List V} {ds : List PD} (hp : H2 p = none) (d : Das (rs (al B H1) H2) vs ds) : Das (rs (fun a => al B H1 a && decide (a ≠ p)) (upd H2 p (.lst vs))) vs ds := d.ex fun a n _ => by
  unfold rs at n ⊢
  by_cases h : al B H1 a = true
  · rw [if_pos h] at n ⊢
    have hne : a ≠ p := fun z => by rw [z, hp] at n; cases n
    rw [if_pos (by show (al B H1 a && decide (a ≠ p)) = true; rw [h]; simp [hne]), upd_ne hne]
  · rw [if_neg h] at n; cases n
/-- the new list's address -/
theorem AftN.go {Q : VK} {H1 H2 : Hp} {B : Addr → Bool} {W W1 : List Int} {p : Addr} {vs : List V} {ds : List PD} (q : AftN g B H1 ds W1 Q) (t : Hs g.T g.wl W H1) (f : Ex g.wl H1 H2) (t2 : Hs g.T g.wl W1 H2) (hp : H2 p = none) (d : Das (rs (al B H1) H2) vs ds) : Q (.ref p) (upd H2 p (.lst vs)) := by
  have hw : g.wl ≠ some p := fun z => by
    have := t2.well p z
    rw [hp] at this; cases this
  exact q p vs _ (f.trans (New.upd hp).1.weak) ((New.upd hp).2 _ _ _ t2) (f.nt (by rw [hp]; rfl) hw) hw upd_same (new_das (w := g.wl) (T := g.T) (W := W) hp d)
theorem sn_lst {es : List Expr} {xs : List IR} (hp : es.all plainE = true) (ha : SoundS g Φ sc es xs) : SoundN g Φ sc (.List es pos) (.lst xs) := fun σ ρ τ Ha B d W o s s2 h => by
  unfold ev at h
  obtain ⟨u, h1, h⟩ := obind h
  split at h
  · rename_i hl
    cases h
    refine ⟨u, rfl, fun H1 e t Q q => wA.of fun X gx => ⟨_, pe_lst (wAs.pa gx (plainE.all hp)), (ha σ ρ τ Ha B u W o s s2 h1).1 H1 e t _ fun vs H2 f t2 dv => ⟨by rw [dv.length]; exact Nat.le_of_lt (small1000 hl), fun p hp2 => q.go t f t2 hp2 dv⟩⟩⟩
  · cases h
theorem sn_mul {z : IR} (ha : SoundE g Φ sc a (.lst [z])) (hb : SoundE g Φ sc b y) : SoundN g Φ sc (.BinOp a .Mult b pos) (.bin .Mult (.lst [z]) y) := fun σ ρ τ Ha B d W o s s2 h => by
  unfold ev at h
  obtain ⟨u, h1, h⟩ := obind h
  obtain ⟨v, h2, h⟩ := obind h
  have hu : ∃ w, u = .list [w] := by
    unfold ev evs at h1
    obtain ⟨ws, k1, k2⟩ := obind h1
    obtain ⟨w, k3, k4⟩ := obind k1
    obtain ⟨r, k5, rfl⟩ := omap k4
    unfold evs at k5
    cases k5
    split at k2
    · cases k2; exact ⟨w, rfl⟩
    · cases k2
  obtain ⟨w, rfl⟩ := hu
  have hv : ∃ k, v = .int k ∧ (0 ≤ k ∧ k ≤ 1000) ∧ d = .list (List.replicate k.toNat w) := by
    cases v with
    | int k =>
      simp only [pyBin] at h
      split at h
      · cases h; exact ⟨k, rfl, by assumption, rfl⟩
      · cases h
    | _ => simp [pyBin] at h
  obtain ⟨k, rfl, hk, rfl⟩ := hv
  refine ⟨_, rfl, fun H1 e t Q q => wA.of fun X gx => ⟨_, pe_op op_rep (wA.pe gx) (wA.pe gx), two o (ha σ ρ τ Ha B _ W o s s2 h1) (hb σ ρ τ Ha B _ W o s s2 h2) e t fun v u H2 f t2 dv du => ?_⟩⟩
  obtain ⟨p1, xs, rfl, k1, d1⟩ := dv.list_inv
  rw [du.int_inv]
  cases d1 with
  | cons d1 d2 =>
    cases d2
    rename_i w'
    refine ⟨p1, k, [w'], rfl, rfl, (rs_at k1).1, by omega, by omega, by
      rw [List.length_singleton]
      exact big_le (by unfold big; omega), fun p hp => ?_⟩
    have e3 : (List.replicate k.toNat [w']).flatten = List.replicate k.toNat w' := by
      induction k.toNat with
      | zero => rfl
      | succ n ih => rw [List.replicate_succ, List.flatten_cons, ih, List.replicate_succ]; rfl
    rw [e3]
    exact q.go t f t2 hp (Das.rep d1 _)
theorem sn_list (m : Mok c g Φ) {n : Str} {p0 : Pos} (hn : n = (Bi.list.nm : Str)) (hg : glB sc n = true) (hp : plainE a = true) (ha : SoundE g Φ sc a x) : SoundN g Φ sc (.Call (.Name n p0) [a] [] pos) (.bi1 .list x) := fun σ ρ τ Ha B d W o s s2 h => by
  unfold ev at h
  rw [if_neg (by simp [Bi.sc])] at h
  obtain ⟨u, h1, h⟩ := obind h
  subst hn
  have go : ∀ ds, d = .list ds → (u = .list ds ∨ u = .tuple ds) → ∃ ds, d = .list ds ∧ EvN g sc σ Ha B W (.Call (.Name (Bi.list.nm : Str) p0) [a] [] pos) ds W := fun ds e1 e2 => by
    refine ⟨ds, e1, fun H1 e t Q q => wA.of fun X gx => ⟨_, pe_callTy (call_list_of) (gl_of gx.sc hg) (by rw [gx.mg]; exact m.bi .list) (boot_bi .list) (wAs.pa (es := [a]) gx (by simp [plainE.star hp])) (nm_ne .list).1 (nm_ne .list).2 (star_no _ (plainE.star hp)) (backTo_plain _ _ (es := []) rfl), es_cons o (ha σ ρ τ Ha B u W o s s2 h1) es_nil H1 e t _ fun vs H2 f t2 dvs => ?_⟩⟩
    obtain ⟨v, rfl, dv⟩ := das1 dvs
    rcases e2 with rfl | rfl
    · obtain ⟨p, xs, rfl, k1, d1⟩ := dv.list_inv
      exact ⟨p, xs, rfl, .inl (SqL.of (rs_at k1).1), fun l hl => q.go t f t2 hl d1⟩
    · obtain ⟨p, xs, rfl, k1, d1⟩ := dv.tuple_inv
      exact ⟨p, xs, rfl, .inr (SqT.of (rs_at k1).1), fun l hl => q.go t f t2 hl d1⟩
  cases u with
  | list ds => simp only [pyFn] at h; cases h; exact go ds rfl (.inl rfl)
  | tuple ds => simp only [pyFn] at h; cases h; exact go ds rfl (.inr rfl)
  | _ => simp [pyFn] at h
theorem sn_lrng (m : Mok c g Φ) {p0 p1 p2 : Pos} (hg : glB sc "list" = true) (hg2 : glB sc "range" = true) (hp : plainE a = true) (ha : SoundE g Φ sc a x) : SoundN g Φ sc (.Call (.Name "list" p0) [.Call (.Name "range" p1) [a] [] p2] [] pos) (.lrng x) := fun σ ρ τ Ha B d W o s s2 h => by
  unfold ev at h
  obtain ⟨u, h1, h⟩ := obind h
  split at h
  · rename_i n
    split at h
    · rename_i hn
      cases h
      refine ⟨_, rfl, fun H1 e t Q q => wA.of fun X gx => ⟨_, pe_listRg gx.calm (gl_of gx.sc hg) (by rw [gx.mg]; exact m.bi .list) (prg_1 (gl_of gx.sc hg2) (by rw [gx.mg]; exact m.rng) (wA.pe gx) (star_no _ (plainE.star hp))), ?_⟩⟩
      refine ((ha.loose o s2 h1).scal (B := B) rfl) H1 e t _ fun v H2 f t2 dv => ⟨n, dv.int_inv, ⟨by omega, by omega, by omega, by omega, by omega⟩, fun p hq => q.go t f t2 hq ?_⟩
      have r := rgV_da (H := rs (al B H1) H2) (lo := 0) (hi := n)
      rw [show n - 0 = n by omega] at r
      exact r
    · cases h
  · cases h
theorem en_one {op : BoolOp} {σ : L2.St} {Ha : Hp} {B : Addr → Bool} {W W1 : List Int} {ds : List PD} (h : EvN g sc σ Ha B W a ds W1) : EvN g sc σ Ha B W (.BoolOp op [a] pos) ds W1 := fun H1 e t Q k => wA.of fun X gx => ⟨_, pe_one (wA.pe gx), h H1 e t Q k⟩
theorem all_sound (m : Mok c g Φ) : ∀ n, AllS c g Φ n
  | 0 => ⟨fun _ _ _ h => by simp [cE] at h, fun _ _ _ h => by simp [cEs] at h, fun _ _ _ _ _ _ h => by simp [cI] at h, fun _ _ _ h => by simp [cT] at h⟩
  | n + 1 => by
    have ih := all_sound m n
    refine ⟨fun sc e ir h => ?_, fun sc es irs h => ?_, fun sc two tg e ir ht h => ?_, fun sc e ir h => ?_⟩
    · unfold cE at h
      split at h
      · -- names
        rename_i x pos
        split at h
        · rename_i hn
          split at h
          · rename_i hv
            obtain ⟨i, h1, rfl⟩ := omap h
            refine nf ?_ rfl
            intro σ ρ τ Ha B d W o s s2 h2
            unfold ev at h2
            obtain ⟨v, h3, h4⟩ := s.at_ i d h2
            exact ed_var o (by rw [m.N]; exact slot_ok h1) hv (okName.d hn) (okName.c hn) h3 h4
          · split at h
            · rename_i hg
              obtain ⟨i, h1, rfl⟩ := omap h
              obtain ⟨t, h2⟩ := m.gi _ _ h1
              refine nf ?_ rfl
              intro σ ρ τ Ha B d W o s s2 h3
              unfold ev at h3
              cases h3
              exact ed_gint hg h2 (okName.d hn)
            · cases h
        · cases h
      · cases h; refine nf ?_ rfl; intro σ ρ τ Ha B d W o s s2 h; unfold ev at h; cases h; exact ed_int
      · cases h; refine nf ?_ rfl; intro σ ρ τ Ha B d W o s s2 h; unfold ev at h; cases h; exact ed_bool
      · cases h; refine nf ?_ rfl; intro σ ρ τ Ha B d W o s s2 h; unfold ev at h; cases h; exact ed_none
      · cases h; refine nf ?_ rfl; intro σ ρ τ Ha B d W o s s2 h; unfold ev at h; cases h; exact ed_str
      · obtain ⟨x, h1, h⟩ := obind h
        obtain ⟨y, h2, rfl⟩ := omap h
        refine ⟨so_bin (ih.E _ _ _ h1) (ih.E _ _ _ h2), fun z => ?_⟩
        unfold fresh at z
        split at z <;> first | (cases z; done) | skip
        all_goals first | (rename_i heq; cases heq; exact sn_mul (ih.E _ _ _ h1) (ih.E _ _ _ h2)) | (exfalso; simp at *; done)
      · obtain ⟨x, h1, rfl⟩ := omap h
        exact nf (so_neg (ih.E _ _ _ h1)) rfl
      · obtain ⟨x, h1, rfl⟩ := omap h
        exact nf (so_notV (ih.E _ _ _ h1)) rfl
      · refine ⟨fun σ ρ τ Ha B d W o s s2 h2 => ed_one (ih.E _ _ _ h σ ρ τ Ha B d W o s s2 h2), fun z σ ρ τ Ha B d W o s s2 h2 => ?_⟩
        obtain ⟨ds, k1, k2⟩ := (ih.E2 _ _ _ h).2 z σ ρ τ Ha B d W o s s2 h2
        exact ⟨ds, k1, en_one k2⟩
      · obtain ⟨x, h1, h⟩ := obind h
        obtain ⟨y, h2, rfl⟩ := omap h
        exact nf (so_and (ih.E _ _ _ h1) (ih.E _ _ _ h2)) rfl
      · obtain ⟨x, h1, h⟩ := obind h
        obtain ⟨y, h2, rfl⟩ := omap h
        exact nf (so_or (ih.E _ _ _ h1) (ih.E _ _ _ h2)) rfl
      · obtain ⟨z, h0, h⟩ := obind h
        obtain ⟨x, h1, h⟩ := obind h
        obtain ⟨y, h2, rfl⟩ := omap h
        exact nf (so_ite (ih.T _ _ _ h0).1 (ih.E _ _ _ h1) (ih.E _ _ _ h2)) rfl
      · split at h
        · obtain ⟨x, h1, h⟩ := obind h
          obtain ⟨y, h2, rfl⟩ := omap h
          exact nf (so_cmp (by assumption) (ih.E _ _ _ h1) (ih.E _ _ _ h2)) rfl
        · cases h
      · split at h
        · obtain ⟨x, h1, h⟩ := obind h
          obtain ⟨y, h2, h⟩ := obind h
          obtain ⟨z, h3, rfl⟩ := omap h
          exact nf (so_chain (by assumption) (ih.E _ _ _ h1) (ih.E _ _ _ h2) (ih.E _ _ _ h3)) rfl
        · cases h
      · -- calls
        split at h
        · rename_i f p0 args p1 hc
          obtain ⟨hc, hpl⟩ := ba2 hc
          obtain ⟨hn, hg⟩ := ba2 hc
          split at h
          · rename_i ar hf
            split at h
            · rename_i hl
              obtain ⟨xs, h1, rfl⟩ := omap h
              match args, hl, hpl, h1 with
              | [], hl, _, _ => exact absurd hl.2 (by rw [← hl.1]; simp)
              | a :: es, hl, hpl, h1 => exact nf (so_fn m hf hn hg hpl hl.1 (ih.S _ _ _ h1)) rfl
            · cases h
          · split at h
            · rename_i a
              have hpa : plainE a = true := by simpa using hpl
              split at h
              · rename_i z hz
                obtain ⟨x, h1, rfl⟩ := omap h
                unfold rngArg at hz
                split at hz
                · split at hz
                  · rename_i hcond
                    cases hz
                    obtain ⟨rfl, rfl, hg2, hp2⟩ := hcond
                    exact yf (sn_lrng m hg hg2 hp2 (ih.E _ _ _ h1))
                  · cases hz
                · cases hz
              · split at h
                · rename_i z hz
                  obtain ⟨x, h1, rfl⟩ := omap h
                  unfold trngArg at hz
                  split at hz
                  · split at hz
                    · rename_i hcond
                      cases hz
                      obtain ⟨rfl, rfl, hg2, hp2⟩ := hcond
                      exact nf (so_trng m hg hg2 hp2 (ih.E _ _ _ h1)) rfl
                    · cases hz
                  · cases hz
                · split at h
                  · rename_i z hz
                    obtain ⟨x, h1, rfl⟩ := omap h
                    unfold ssetArg at hz
                    split at hz
                    · split at hz
                      · rename_i hcond
                        cases hz
                        obtain ⟨rfl, rfl, hg2, hp2⟩ := hcond
                        exact nf (so_sset m hg hg2 hp2 (ih.E _ _ _ h1)) rfl
                      · cases hz
                    · cases hz
                  · obtain ⟨bb, h0, h⟩ := obind h
                    obtain ⟨x, h1, rfl⟩ := omap h
                    refine ⟨so_bi1 m (biOf_ok h0) hg hpa (ih.E _ _ _ h1), fun z => ?_⟩
                    cases bb <;> first | exact sn_list m (biOf_ok h0) hg hpa (ih.E _ _ _ h1) | (exfalso; simp [fresh] at z; done)
            · rename_i a b
              have hpa : plainE a = true ∧ plainE b = true := by simpa using hpl
              split at h
              · rename_i ty p2
                split at h
                · rename_i hfi
                  subst hfi
                  split at h
                  · rename_i hty
                    obtain ⟨hty1, hty2⟩ := ba2 hty
                    obtain ⟨t, h0, h⟩ := obind h
                    obtain ⟨x, h1, rfl⟩ := omap h
                    exact nf (so_isa m (tyOf_ok h0) hg hty2 hpa.1 (ih.E _ _ _ h1)) rfl
                  · cases h
                · obtain ⟨bb, h0, h⟩ := obind h
                  obtain ⟨x, h1, h⟩ := obind h
                  obtain ⟨y, h2, rfl⟩ := omap h
                  exact nf (so_bi2 m (biOf_ok h0) hg hpa.1 hpa.2 (ih.E _ _ _ h1) (ih.E _ _ _ h2)) rfl
              · obtain ⟨bb, h0, h⟩ := obind h
                obtain ⟨x, h1, h⟩ := obind h
                obtain ⟨y, h2, rfl⟩ := omap h
                exact nf (so_bi2 m (biOf_ok h0) hg hpa.1 hpa.2 (ih.E _ _ _ h1) (ih.E _ _ _ h2)) rfl
            · cases h
        · cases h
      · obtain ⟨i, h0, h⟩ := obind h
        obtain ⟨j, h1, h⟩ := obind h
        obtain ⟨x, h2, rfl⟩ := omap h
        exact nf (so_sl h0 h1 (ih.E _ _ _ h2)) rfl
      · split at h
        · rename_i hn
          obtain ⟨x, h2, rfl⟩ := omap h
          unfold neg1 at hn
          split at hn
          · obtain rfl := of_decide_eq_true hn
            exact nf (so_rev (ih.E _ _ _ h2)) rfl
          · cases hn
        · cases h
      · split at h
        · obtain ⟨x, h1, h⟩ := obind h
          obtain ⟨y, h2, rfl⟩ := omap h
          exact nf (so_ix (by assumption) (ih.E _ _ _ h1) (ih.E _ _ _ h2)) rfl
        · cases h
      · split at h
        · obtain ⟨x, h1, rfl⟩ := omap h
          exact nf (so_tup (by assumption) (ih.S _ _ _ h1)) rfl
        · cases h
      · split at h
        · obtain ⟨x, h1, rfl⟩ := omap h
          exact yf (sn_lst (by assumption) (ih.S _ _ _ h1))
        · cases h
      · -- one clause
        rename_i elt tg iter ifs scope pos
        obtain ⟨t, h0, h⟩ := obind h
        split at h
        · rename_i hc
          obtain ⟨k1, hc⟩ := ba2 hc
          obtain ⟨k2, hc⟩ := ba2 hc
          obtain ⟨k3, hc⟩ := ba2 hc
          obtain ⟨k4, hc⟩ := ba2 hc
          obtain ⟨k5, k6⟩ := ba2 hc
          rw [← m.N] at k1 k3 k4
          have k4' : ∀ i ∈ t.slots, i ∈ (ownOf g.N scope).map (·.2) := fun i hi => of_decide_eq_true (List.all_eq_true.mp k4 i hi)
          have k6' : isTwo t = true → isTupE tg = true := fun q => by rw [q] at k6; simpa using k6
          obtain ⟨src, h1, h⟩ := obind h
          obtain ⟨x, h2, h⟩ := obind h
          split at h
          · cases h
            rw [← m.N]
            exact yf (sn_lc m k1 (fnKind_ok k2) k3 k4' k5 (ih.I _ _ _ _ _ k6' h1) (ih.E _ _ _ h2))
          · obtain ⟨y, h3, rfl⟩ := omap h
            rw [← m.N]
            exact yf (sn_lcIf m k1 (fnKind_ok k2) k3 k4' k5 (ih.I _ _ _ _ _ k6' h1) (ih.T _ _ _ h3).1 (ih.E _ _ _ h2))
          · cases h
        · cases h
      · -- two clauses
        rename_i elt tg iter tg1 iter1 ifs scope pos
        obtain ⟨t, h0, h⟩ := obind h
        obtain ⟨u, h0', h⟩ := obind h
        split at h
        · rename_i hc
          obtain ⟨k1, hc⟩ := ba2 hc
          obtain ⟨k2, hc⟩ := ba2 hc
          obtain ⟨k3, hc⟩ := ba2 hc
          obtain ⟨k4, hc⟩ := ba2 hc
          obtain ⟨k5, hc⟩ := ba2 hc
          obtain ⟨k6, hc⟩ := ba2 hc
          obtain ⟨k7, hc⟩ := ba2 hc
          obtain ⟨k8, hc⟩ := ba2 hc
          rw [← m.N] at k1 k3 k4 k5 k6
          have k5' : ∀ i ∈ t.slots, i ∈ (ownOf g.N scope).map (·.2) := fun i hi => of_decide_eq_true (List.all_eq_true.mp k5 i hi)
          have k6' : ∀ i ∈ u.slots, i ∈ (ownOf g.N scope).map (·.2) := fun i hi => of_decide_eq_true (List.all_eq_true.mp k6 i hi)
          obtain ⟨src, h1, h⟩ := obind h
          obtain ⟨src1, h1', h⟩ := obind h
          obtain ⟨x, h2, h⟩ := obind h
          split at h
          · cases h
            rw [← m.N]
            exact yf (sn_lc2 m k1 (fnKind_ok k2) k3 k4 k5' k6' k7 k8 (ih.I _ _ _ _ _ (fun q => by cases q) h1) (ih.I _ _ _ _ _ (fun q => by cases q) h1') (ih.E _ _ _ h2))
          · obtain ⟨y, h3, rfl⟩ := omap h
            rw [← m.N]
            exact yf (sn_lc2If m k1 (fnKind_ok k2) k3 k4 k5' k6' k7 k8 (ih.I _ _ _ _ _ (fun q => by cases q) h1) (ih.I _ _ _ _ _ (fun q => by cases q) h1') (ih.T _ _ _ h3).1 (ih.E _ _ _ h2))
          · cases h
        · cases h
      · cases h
    · unfold cEs at h
      match es, h with
      | [], h =>
        cases h
        intro σ ρ τ Ha B ds W o s s2 h
        unfold evs at h
        cases h
        exact ⟨es_nil, rfl⟩
      | a :: es, h =>
        obtain ⟨x, h1, h⟩ := obind h
        obtain ⟨xs, h2, rfl⟩ := omap h
        intro σ ρ τ Ha B ds W o s s2 h
        unfold evs at h
        obtain ⟨d, h3, h⟩ := obind h
        obtain ⟨ds', h4, rfl⟩ := omap h
        obtain ⟨q1, q2⟩ := ih.S _ _ _ h2 σ ρ τ Ha B ds' W o s s2 h4
        exact ⟨es_cons o (ih.E _ _ _ h1 σ ρ τ Ha B d W o s s2 h3) q1, by rw [List.length_cons, List.length_cons, q2]⟩
    · unfold cI at h
      split at h
      · rename_i f p0 args p1
        split at h
        · rename_i hf
          subst hf
          split at h
          · rename_i hc
            obtain ⟨hg, htw⟩ := ba2 hc
            split at h
            · split at h
              · obtain ⟨x, h1, rfl⟩ := omap h
                exact si_rng1 m hg (by assumption) (ih.E _ _ _ h1)
              · cases h
            · split at h
              · rename_i hp
                obtain ⟨x, h1, h⟩ := obind h
                obtain ⟨y, h2, rfl⟩ := omap h
                exact si_rng2 m hg (ba2 hp).1 (ba2 hp).2 (ih.E _ _ _ h1) (ih.E _ _ _ h2)
              · cases h
            · cases h
          · cases h
        · split at h
          · rename_i hf
            subst hf
            split at h
            · rename_i hc
              obtain ⟨hg, htw⟩ := ba2 hc
              have hT := ht htw
              split at h
              · split at h
                · obtain ⟨x, h1, rfl⟩ := omap h
                  cases tg with
                  | Tuple elts kk p2 => exact si_enum m hg (by assumption) (ih.E _ _ _ h1)
                  | _ => cases hT
                · cases h
              · cases h
            · cases h
          · obtain ⟨x, h1, rfl⟩ := omap h
            exact si_val (ih.E _ _ _ h1)
      · obtain ⟨x, h1, rfl⟩ := omap h
        exact si_val (ih.E _ _ _ h1)
    · unfold cT at h
      split at h
      · obtain ⟨x, h1, rfl⟩ := omap h
        exact ⟨st_not (ih.T _ _ _ h1).1, fun z => by cases z⟩
      · rename_i op1 a1 pos1
        have q := sw_one (pos := pos1) (op := op1) (ih.T _ _ _ h).1
        exact ⟨SoundW.tt q, fun _ => q⟩
      · obtain ⟨x, h1, h⟩ := obind h
        obtain ⟨y, h2, rfl⟩ := omap h
        have q := sw_and (ih.T _ _ _ h1).1 ((ih.T _ _ _ h2).2 rfl)
        exact ⟨SoundW.tt q, fun _ => q⟩
      · obtain ⟨x, h1, h⟩ := obind h
        obtain ⟨y, h2, rfl⟩ := omap h
        have q := sw_or (ih.T _ _ _ h1).1 ((ih.T _ _ _ h2).2 rfl)
        exact ⟨SoundW.tt q, fun _ => q⟩
      · split at h
        · obtain ⟨x, h1, h⟩ := obind h
          obtain ⟨y, h2, rfl⟩ := omap h
          exact ⟨to_cmp (by assumption) (ih.E _ _ _ h1) (ih.E _ _ _ h2), fun z => by cases z⟩
        · cases h
      · split at h
        · obtain ⟨x, h1, h⟩ := obind h
          obtain ⟨y, h2, h⟩ := obind h
          obtain ⟨z, h3, rfl⟩ := omap h
          exact ⟨to_chain (by assumption) (ih.E _ _ _ h1) (ih.E _ _ _ h2) (ih.E _ _ _ h3), fun z => by cases z⟩
        · cases h
      · split at h
        · rename_i hv
          obtain ⟨x, h1, rfl⟩ := omap h
          refine ⟨st_val hv (ih.E _ _ _ h1), fun z => ?_⟩
          cases e <;> first | (cases z; done) | (cases hv; done) | skip
        · cases h
end
end SN
end
section
set_option Elab.async false
set_option linter.all false
set_option maxRecDepth 100000
set_option maxHeartbeats 4000000
/-! S11: a small language of statements over data: what it computes; expressions that draw from the well. -/
namespace SN
open PySem L2 LamX

/-- expressions that may draw from the well, from the left -/
inductive XW where
  | pure (e : IR)
  | wfn (n : Str) (args : List XW)
  | fn (n : Str) (args : List XW)
  | bin (op : Operator) (a b : XW)
  | cmp (op : CmpOp) (a b : XW)
  | bi1 (f : Bi) (a : XW)
  | ix (a b : XW)
  | lcX (src : IR) (t : Tg) (own : List Nat) (elt : XW)
abbrev WT := List Int
abbrev Wns := Str → Option (List PD → WT → Option (PD × WT))
/-- a value: of the shared names, or without parts -/
def evV (Φ : Fns) (e : IR) (ρ τ : Rho) : Option PD := match ev Φ e ρ τ with
  | some d => some d
  | none => (ev Φ e τ τ).bind fun d => if scal d then some d else none
def foldX (f : PD → WT → Option (PD × WT)) : List PD → WT → Option (List PD × WT)
  | [], W => some ([], W)
  | d :: ds, W => (f d W).bind fun r => (foldX f ds r.2).map fun q => (r.1 :: q.1, q.2)
mutual
def evX (Φ : Fns) (Ψ : Wns) : XW → Rho → Rho → WT → Option (PD × WT)
  | .pure e, ρ, τ, W => (evV Φ e ρ τ).map fun d => (d, W)
  | .wfn n args, ρ, τ, W => (Ψ n).bind fun f => (evXs Φ Ψ args ρ τ W).bind fun r => f r.1 r.2
  | .fn n args, ρ, τ, W => (Φ n).bind fun f => (evXs Φ Ψ args ρ τ W).bind fun r => (f r.1).map fun d => (d, r.2)
  | .bin op a b, ρ, τ, W => (evX Φ Ψ a ρ τ W).bind fun r => (evX Φ Ψ b ρ τ r.2).bind fun q => (pyBin op r.1 q.1).map fun d => (d, q.2)
  | .cmp op a b, ρ, τ, W => (evX Φ Ψ a ρ τ W).bind fun r => (evX Φ Ψ b ρ τ r.2).bind fun q => (pyCmp op r.1 q.1).map fun d => (d, q.2)
  | .bi1 f a, ρ, τ, W => (evX Φ Ψ a ρ τ W).bind fun r => (pyFn f [r.1]).map fun d => (d, r.2)
  | .ix a b, ρ, τ, W => (evX Φ Ψ a ρ τ W).bind fun r => (evX Φ Ψ b ρ τ r.2).bind fun q => (pyIx r.1 q.1).map fun d => (d, q.2)
  | .lcX src t own elt, ρ, τ, W => (evI Φ src ρ τ).bind fun items => (foldX (fun d V => (putR t d (wipeR ρ own)).bind fun ρ' => (putR t d (wipeR τ own)).bind fun τ' => evX Φ Ψ elt ρ' τ' V) items W).bind fun r => (bigL items.length (.list r.1)).map fun d => (d, r.2)
def evXs (Φ : Fns) (Ψ : Wns) : List XW → Rho → Rho → WT → Option (List PD × WT)
  | [], _, _, W => some ([], W)
  | a :: as, ρ, τ, W => (evX Φ Ψ a ρ τ W).bind fun r => (evXs Φ Ψ as ρ τ r.2).map fun q => (r.1 :: q.1, q.2)
end

/-! ### statements -/
inductive SR where
  | set (i : Nat) (sh : List Nat) (e : XW)
  | own (i : Nat) (sh : List Nat) (e : IR)
  | aug (i : Nat) (op : Operator) (e : IR)
  | two (i j : Nat) (e : IR)
  | drop (e : IR)
  | app (i : Nat) (sh : List Nat) (e : IR)
  | put (i : Nat) (k e : IR)
  | ite (c : IR) (a b : List SR)
  | whl (c : IR) (b : List SR)
  | iter (t : Tg) (sh : List Nat) (src : IR) (b : List SR)
  | iterW (i : Nat) (src : XW) (b : List SR)
  | ret (sh : List Nat) (e : XW)
  | rai

/-- the names' data: shared ones, lists of one's own -/
structure PSt where
  sh : Rho
  ow : Rho
def orR : Rho → Rho → Rho
  | [], _ => []
  | a :: as, bs => (a <|> (bs.head?.getD none)) :: orR as bs.tail
def PSt.all (S : PSt) : Rho := orR S.sh S.ow
def PSt.put (S : PSt) (i : Nat) (d : PD) : PSt := ⟨S.sh.set i (some d), S.ow.set i none⟩
def PSt.putO (S : PSt) (i : Nat) (ds : List PD) : PSt := ⟨S.sh.set i none, S.ow.set i (some (.list ds))⟩
def PSt.share1 (S : PSt) (i : Nat) : PSt := match getR S.ow i with
  | some d => S.put i d
  | none => S
def PSt.share (S : PSt) : List Nat → PSt
  | [] => S
  | i :: is => (S.share1 i).share is
def PSt.putT (S : PSt) (ws : Nat) (t : Tg) (d : PD) : Option PSt := match t with
  | .one i => if i = ws then none else some (S.put i d)
  | .two i j => if i = ws ∨ j = ws then none else match d with
    | .tuple [a, b] => some ((S.put i a).put j b)
    | _ => none
inductive Out where
  | nx (S : PSt) (W : WT)
  | rt (d : PD) (W : WT)
/-- what goes on behind a statement -/
def Out.thn (o : Out) (k : PSt → WT → Option Out) : Option Out := match o with
  | .nx S W => k S W
  | .rt d W => some (.rt d W)
def loopW (c : PSt → Option Bool) (b : PSt → WT → Option Out) : Nat → PSt → WT → Option Out
  | 0, _, _ => none
  | n + 1, S, W => (c S).bind fun p => if p then (b S W).bind fun o => o.thn (loopW c b n) else some (.nx S W)
def loopF (f : PD → PSt → WT → Option Out) : List PD → PSt → WT → Option Out
  | [], S, W => some (.nx S W)
  | d :: ds, S, W => (f d S W).bind fun o => o.thn (loopF f ds)
mutual
def exec (Φ : Fns) (Ψ : Wns) (ws fu : Nat) : SR → PSt → WT → Option Out
  | .set i sh e, S, W => if i = ws then none else (evX Φ Ψ e (S.share sh).sh (S.share sh).all W).map fun r => .nx ((S.share sh).put i r.1) r.2
  | .own i sh e, S, W => if i = ws ∨ fresh e = false then none else (ev Φ e (S.share sh).sh (S.share sh).all).bind fun d => match d with
    | .list ds => some (.nx ((S.share sh).putO i ds) W)
    | _ => none
  | .aug i op e, S, W => if i = ws ∨ op ≠ .BitOr then none else match getR S.all i with
    | some (.int x) => (ev Φ e S.all S.all).bind fun d => match d with
      | .int y => some (.nx (S.put i (.int (Builtin.bitOr x y))) W)
      | _ => none
    | _ => none
  | .two i j e, S, W => (ev Φ e S.sh S.all).bind fun d => (S.putT ws (.two i j) d).map fun S' => .nx S' W
  | .drop e, S, W => (ev Φ e S.all S.all).map fun _ => .nx S W
  | .app i sh e, S, W => match getR (S.share sh).ow i with
    | some (.list ds) => (evV Φ e (S.share sh).sh (S.share sh).all).bind fun d => if ds.length < big then some (.nx ((S.share sh).putO i (ds ++ [d])) W) else none
    | _ => none
  | .put i k e, S, W => (evV Φ e S.sh S.all).bind fun d => match getR S.ow i with
    | some (.list ds) => (ev Φ k S.all S.all).bind fun z => match z with
      | .int j => (ixN ds.length j).map fun n => .nx (S.putO i (ds.set n d)) W
      | _ => none
    | _ => none
  | .ite c a b, S, W => (evT Φ c S.all).bind fun p => if p then execs Φ Ψ ws fu a S W else execs Φ Ψ ws fu b S W
  | .whl c b, S, W => loopW (fun S => evT Φ c S.all) (execs Φ Ψ ws fu b) fu S W
  | .iter t sh src b, S, W => (evI Φ src (S.share sh).sh (S.share sh).all).bind fun items => loopF (fun d S W => (S.putT ws t d).bind fun S' => execs Φ Ψ ws fu b S' W) items (S.share sh) W
  | .iterW i src b, S, W => (evX Φ Ψ src S.sh S.all W).bind fun r => match r.1 with
    | .int n => if n < 2 ^ 62 ∧ -(2 ^ 62) ≤ n then loopF (fun d S W => (S.putT ws (.one i) d).bind fun S' => execs Φ Ψ ws fu b S' W) (rngD 0 n.toNat) S r.2 else none
    | _ => none
  | .ret sh e, S, W => (evX Φ Ψ e (S.share sh).sh (S.share sh).all W).map fun r => .rt r.1 r.2
  | .rai, _, _ => none
def execs (Φ : Fns) (Ψ : Wns) (ws fu : Nat) : List SR → PSt → WT → Option Out
  | [], S, W => some (.nx S W)
  | s :: ss, S, W => (exec Φ Ψ ws fu s S W).bind fun o => o.thn (execs Φ Ψ ws fu ss)
end

/-! ### what is known of slots and heap between two statements -/
/-- the slot's list is one's own -/
def OwA (S : PSt) (σ : L2.St) (a : Addr) : Prop := ∃ i d, getR S.ow i = some d ∧ σ[i]? = some (some (.ref a))
structure SI (g : Gs) (H0 : Hp) (B0 B : Addr → Bool) (S : PSt) (W : WT) (σ : L2.St) (H : Hp) : Prop where
  ls : σ.length = S.sh.length
  lo : S.ow.length = S.sh.length
  hs : Hs g.T g.wl W H
  ex : Ex g.wl H0 H
  nm : ∀ a, B a = true → nt (H a) = false → al B0 H0 a = true
  off : ∀ a, g.wl = some a → B a = false
  wv : ∀ a, g.wl = some a → σ[g.ws]? = some (some (.ref a))
  da : ∀ i d, getR S.sh i = some d → ∃ v, σ[i]? = some (some v) ∧ Da (rs B H) v d
  ow : ∀ i d, getR S.ow i = some d → ∃ a xs ds, d = .list ds ∧ σ[i]? = some (some (.ref a)) ∧ H a = some (.lst xs) ∧ Das (rs B H) xs ds ∧ B a = false ∧ g.wl ≠ some a ∧ nt (H0 a) = true ∧
    ∀ j d', getR S.ow j = some d' → j ≠ i → σ[j]? ≠ some (some (.ref a))
/-- all is kept but one's own lists; those are from before or new -/
structure Tr (g : Gs) (S : PSt) (σ : L2.St) (H : Hp) (S' : PSt) (σ' : L2.St) (H' : Hp) : Prop where
  kp : ∀ a, nt (H a) = false → g.wl ≠ some a → ¬ OwA S σ a → H' a = H a
  ow : ∀ a, OwA S' σ' a → g.wl ≠ some a → OwA S σ a ∨ nt (H a) = true
theorem Tr.refl {g : Gs} {S : PSt} {σ : L2.St} {H : Hp} : Tr g S σ H S σ H := ⟨fun _ _ _ _ => rfl, fun _ h _ => .inl h⟩
theorem Tr.trans {g : Gs} {S S1 S2 : PSt} {σ σ1 σ2 : L2.St} {H H1 H2 : Hp} (a : Tr g S σ H S1 σ1 H1) (b : Tr g S1 σ1 H1 S2 σ2 H2) : Tr g S σ H S2 σ2 H2 := by
  refine ⟨fun p n w o => ?_, fun p o w => ?_⟩
  · have q := a.kp p n w o
    rw [b.kp p (by rw [q]; exact n) w fun z => ?_, q]
    rcases a.ow p z w with z | z
    · exact o z
    · rw [n] at z; cases z
  · rcases b.ow p o w with z | z
    · exact a.ow p z w
    · by_cases h : OwA S σ p
      · exact .inl h
      · refine .inr ?_
        cases q : nt (H p) with
        | true => rfl
        | false => rw [a.kp p q w h, q] at z; cases z
theorem Tr.ex {g : Gs} {S : PSt} {σ : L2.St} {H H' : Hp} (e : Ex g.wl H H') : Tr g S σ H S σ H' := ⟨fun a n w _ => e a n w, fun _ h _ => .inl h⟩
/-- the heap without the well -/
def nw (w : Option Addr) (H : Hp) : Hp := rs (fun a => decide (w ≠ some a)) H
theorem nw_ex {w : Option Addr} {H : Hp} : Ex none (nw w H) H := rs_ex
theorem nw_ne {w : Option Addr} {H : Hp} {a : Addr} (h : w ≠ some a) : nw w H a = H a := by
  unfold nw rs
  rw [if_pos (by simpa using h)]
theorem nw_wl {H : Hp} {a : Addr} : nw (some a) H a = none := by
  unfold nw rs
  rw [if_neg (by simp)]
theorem getR_or {ρ ω : Rho} {i : Nat} {d : PD} (h : getR (orR ρ ω) i = some d) : getR ρ i = some d ∨ getR ω i = some d := by
  induction ρ generalizing ω i with
  | nil => simp [orR, getR] at h
  | cons a as ih =>
    cases i with
    | zero =>
      have h' : (a <|> (ω.head?.getD none)) = some d := by simpa [orR, getR] using h
      cases a with
      | some x => exact .inl (by simpa [getR] using h')
      | none =>
        refine .inr ?_
        cases ω with
        | nil => simp at h'
        | cons b bs => simpa [getR] using h'
    | succ i =>
      have h' : getR (orR as ω.tail) i = some d := by simpa [orR, getR] using h
      rcases ih h' with q | q
      · exact .inl (by simpa [getR] using q)
      · refine .inr ?_
        cases ω with
        | nil => simp [getR] at q
        | cons b bs => simpa [getR] using q
theorem orR_len (ρ ω : Rho) : (orR ρ ω).length = ρ.length := by
  induction ρ generalizing ω with
  | nil => rfl
  | cons a as ih => show (orR as ω.tail).length + 1 = _; rw [ih]; rfl
section
variable {g : Gs} {Φ : Fns} {Ψ : Wns} {sc : Scope} {H0 H H2 : Hp} {B0 B : Addr → Bool} {S : PSt} {W W' : WT} {σ : L2.St}
theorem SI.offA (I : SI g H0 B0 B S W σ H) : Off g.wl B (nw g.wl H) := fun a z => ⟨I.off a z, by rw [z, nw_wl]; rfl⟩
theorem SI.rsE (I : SI g H0 B0 B S W σ H) : Ex none (rs B H) (rs B (nw g.wl H)) := fun a n _ => by
  unfold rs at n ⊢
  by_cases h : B a = true
  · rw [if_pos h, if_pos h]
    exact nw_ne fun z => by rw [I.off a z] at h; cases h
  · rw [if_neg h] at n; cases n
theorem SI.sl (I : SI g H0 B0 B S W σ H) : Sl B (nw g.wl H) S.sh σ := ⟨I.ls, fun i d h => by
  obtain ⟨v, h1, h2⟩ := I.da i d h
  exact ⟨v, h1, h2.ex I.rsE⟩⟩
theorem SI.slA (I : SI g H0 B0 B S W σ H) : Sl (allB (nw g.wl H)) (nw g.wl H) S.all σ := by
  have up : ∀ {v : V} {d : PD}, Da (rs B H) v d → Da (rs (allB (nw g.wl H)) (nw g.wl H)) v d := fun h => ((h.ex I.rsE).ex rs_ex).ex fun a n _ => by
    unfold rs allB
    rw [n]; rfl
  have ups : ∀ {v : List V} {d : List PD}, Das (rs B H) v d → Das (rs (allB (nw g.wl H)) (nw g.wl H)) v d := fun h => ((h.ex I.rsE).ex rs_ex).ex fun a n _ => by
    unfold rs allB
    rw [n]; rfl
  refine ⟨by rw [I.ls]; exact (orR_len _ _).symm, fun i d h => ?_⟩
  rcases getR_or h with h | h
  · obtain ⟨v, h1, h2⟩ := I.da i d h
    exact ⟨v, h1, up h2⟩
  · obtain ⟨a, xs, ds, rfl, h1, h2, h3, h4, h5, _, _⟩ := I.ow i d h
    refine ⟨.ref a, h1, .lst (rs_put (by rw [nw_ne h5]; exact h2) ?_) (ups h3)⟩
    unfold allB
    rw [nw_ne h5, h2]; rfl
/-- behind an evaluation -/
theorem SI.step (I : SI g H0 B0 B S W σ H) (f : Ex g.wl H H2) (t : Hs g.T g.wl W' H2) : SI g H0 B0 (al B H) S W' σ H2 := by
  have up : Ex none (rs B H) (rs (al B H) H2) := fun a n _ => by
    unfold rs at n ⊢
    by_cases h : B a = true
    · rw [if_pos h] at n ⊢
      rw [if_pos (al_B h)]
      exact f a n fun z => by rw [I.off a z] at h; cases h
    · rw [if_neg h] at n; cases n
  refine ⟨I.ls, I.lo, t, I.ex.trans f, fun a h n => ?_, fun a z => ?_, I.wv, fun i d h => ?_, fun i d h => ?_⟩
  · have hw : g.wl ≠ some a := fun z => by
      unfold al at h
      rw [I.off a z, I.hs.well a z] at h
      cases h
    cases q : nt (H a) with
    | false =>
      refine I.nm a ?_ q
      unfold al at h
      rw [q] at h
      simpa using h
    | true => exact al_new (I.ex.nt q hw)
  · unfold al
    rw [I.off a z, I.hs.well a z]; rfl
  · obtain ⟨v, h1, h2⟩ := I.da i d h
    exact ⟨v, h1, h2.ex up⟩
  · obtain ⟨a, xs, ds, rfl, h1, h2, h3, h4, h5, h6, h7⟩ := I.ow i d h
    refine ⟨a, xs, ds, rfl, h1, f.at h2 rfl h5, h3.ex up, ?_, h5, h6, h7⟩
    unfold al
    rw [h4, h2]; rfl
end
end SN
end
section
set_option Elab.async false
set_option linter.all false
set_option maxRecDepth 100000
set_option maxHeartbeats 4000000
/-! S12: what the stores do to what is known of slots and heap. -/
namespace SN
open PySem L2 LamX
section
variable {g : Gs} {Φ : Fns} {Ψ : Wns} {sc : Scope} {H0 H H2 : Hp} {B0 B B' : Addr → Bool} {S : PSt} {W W' : WT} {σ : L2.St} {i : Nat}
theorem sgSet_ne {σ : L2.St} {i j : Nat} {x : Option V} (h : i ≠ j) : (σ.set i x)[j]? = σ[j]? := List.getElem?_set_ne h
/-- shared data into a slot -/
theorem SI.put (I : SI g H0 B0 B S W σ H) {v : V} {d : PD} (h : Da (rs B H) v d) (hi : ∀ a, g.wl = some a → i ≠ g.ws) : SI g H0 B0 B (S.put i d) W (σ.set i (some v)) H := by
  have eo : ∀ {j d'}, getR (S.ow.set i none) j = some d' → i ≠ j ∧ getR S.ow j = some d' := fun {j d'} q => by
    rcases getR_set q with ⟨_, z⟩ | z
    · cases z
    · exact z
  refine ⟨by simp [PSt.put, I.ls], by simp [PSt.put, I.lo], I.hs, I.ex, I.nm, I.off, fun a z => ?_, fun j d' q => ?_, fun j d' q => ?_⟩
  · rw [sgSet_ne (hi a z)]; exact I.wv a z
  · rcases getR_set q with ⟨rfl, q2⟩ | ⟨hne, q2⟩
    · cases q2
      have hl : i < (S.sh.set i (some d)).length := getR_lt q
      rw [List.length_set] at hl
      rw [List.getElem?_set_self (by rw [I.ls]; exact hl)]
      exact ⟨v, rfl, h⟩
    · rw [sgSet_ne hne]
      exact I.da j d' q2
  · obtain ⟨hne, q2⟩ := eo q
    obtain ⟨a, xs, ds, e, h1, h2, h3, h4, h5, h6, h7⟩ := I.ow j d' q2
    refine ⟨a, xs, ds, e, by rw [sgSet_ne hne]; exact h1, h2, h3, h4, h5, h6, fun k d2 q3 hk => ?_⟩
    obtain ⟨hn2, q4⟩ := eo q3
    rw [sgSet_ne hn2]
    exact h7 k d2 q4 hk
theorem Tr.put {v : V} {d : PD} : Tr g S σ H (S.put i d) (σ.set i (some v)) H := ⟨fun _ _ _ _ => rfl, fun a ⟨j, d', q, h⟩ _ => by
  rcases getR_set q with ⟨_, z⟩ | ⟨hne, q2⟩
  · cases z
  · rw [sgSet_ne hne] at h
    exact .inl ⟨j, d', q2, h⟩⟩
/-- a new list into a slot, to be one's own -/
theorem SI.putO (I : SI g H0 B0 B S W σ H) {p : Addr} {xs : List V} {ds : List PD} (f : Ex g.wl H H2) (t : Hs g.T g.wl W' H2) (n : nt (H p) = true) (hw : g.wl ≠ some p) (hp : H2 p = some (.lst xs))
    (dx : Das (rs (fun a => al B H a && decide (a ≠ p)) H2) xs ds) (hi : i ≠ g.ws) : SI g H0 B0 (fun a => al B H a && decide (a ≠ p)) (S.putO i ds) W' (σ.set i (some (.ref p))) H2 := by
  have J := I.step f t
  have up : Ex none (rs B H) (rs (fun a => al B H a && decide (a ≠ p)) H2) := fun a n' _ => by
    unfold rs at n' ⊢
    by_cases h : B a = true
    · rw [if_pos h] at n' ⊢
      have hne : a ≠ p := fun z => by rw [z, n] at n'; cases n'
      rw [if_pos (by show (al B H a && decide (a ≠ p)) = true; rw [al_B h]; simp [hne])]
      exact f a n' fun z => by rw [I.off a z] at h; cases h
    · rw [if_neg h] at n'; cases n'
  have old : ∀ {j : Nat} {a : Addr} {d'}, getR S.ow j = some d' → σ[j]? = some (some (.ref a)) → a ≠ p := fun {j a d'} q h z => by
    obtain ⟨b, ys, es, _, h1, h2, _⟩ := I.ow j d' q
    rw [h] at h1
    cases h1
    rw [z] at h2
    rw [h2] at n
    cases n
  refine ⟨by simp [PSt.putO, I.ls], by simp [PSt.putO, I.lo], t, J.ex, fun a h q => ?_, fun a z => ?_, fun a z => ?_, fun j d' q => ?_, fun j d' q => ?_⟩
  · rw [Bool.and_eq_true] at h
    exact J.nm a h.1 q
  · rw [J.off a z]; rfl
  · rw [sgSet_ne hi]; exact I.wv a z
  · rcases getR_set q with ⟨_, z⟩ | ⟨hne, q2⟩
    · cases z
    · obtain ⟨v, h1, h2⟩ := I.da j d' q2
      rw [sgSet_ne hne]
      exact ⟨v, h1, h2.ex up⟩
  · rcases getR_set q with ⟨rfl, z⟩ | ⟨hne, q2⟩
    · cases z
      have hl : i < (S.ow.set i (some (.list ds))).length := getR_lt q
      rw [List.length_set, I.lo, ← I.ls] at hl
      refine ⟨p, xs, ds, rfl, by rw [List.getElem?_set_self hl], hp, dx, by simp, hw, I.ex.nt n hw, fun k d2 q3 hk => ?_⟩
      rcases getR_set q3 with ⟨z, _⟩ | ⟨hn2, q4⟩
      · exact absurd z.symm hk
      · rw [sgSet_ne hn2]
        exact fun z => old q4 z rfl
    · obtain ⟨a, ys, es, e, h1, h2, h3, h4, h5, h6, h7⟩ := I.ow j d' q2
      have hap := old q2 h1
      refine ⟨a, ys, es, e, by rw [sgSet_ne hne]; exact h1, f.at h2 rfl h5, h3.ex up, ?_, h5, h6, fun k d2 q3 hk => ?_⟩
      · unfold al
        rw [h4, h2]; rfl
      · rcases getR_set q3 with ⟨z, z2⟩ | ⟨hn2, q4⟩
        · rw [← z]
          by_cases hl : i < σ.length
          · rw [List.getElem?_set_self hl]
            exact fun y => hap (by cases y; rfl)
          · rw [List.getElem?_eq_none (by rw [List.length_set]; omega)]
            simp
        · rw [sgSet_ne hn2]
          exact h7 k d2 q4 hk
theorem Tr.putO {p : Addr} {ds : List PD} (f : Ex g.wl H H2) (n : nt (H p) = true) : Tr g S σ H (S.putO i ds) (σ.set i (some (.ref p))) H2 := ⟨fun a na w _ => f a na w, fun a ⟨j, d', q, h⟩ _ => by
  rcases getR_set q with ⟨rfl, _⟩ | ⟨hne, q2⟩
  · by_cases hl : i < σ.length
    · rw [List.getElem?_set_self hl] at h
      cases h
      exact .inr n
    · rw [List.getElem?_eq_none (by rw [List.length_set]; omega)] at h
      cases h
  · rw [sgSet_ne hne] at h
    exact .inl ⟨j, d', q2, h⟩⟩
/-- one's own list is written -/
theorem SI.wr (I : SI g H0 B0 B S W σ H) {ds es : List PD} {ys : List V} {a : Addr} (q : getR S.ow i = some (.list ds)) (ha : σ[i]? = some (some (.ref a))) (dy : Das (rs B H) ys es) : SI g H0 B0 B (S.putO i es) W σ (upd H a (.lst ys)) := by
  obtain ⟨b, xs, ds', e, h1, h2, h3, h4, h5, h6, h7⟩ := I.ow i _ q
  rw [ha] at h1
  cases h1
  have same : Ex none (rs B H) (rs B (upd H a (.lst ys))) := fun c n _ => by
    unfold rs at n ⊢
    by_cases h : B c = true
    · rw [if_pos h] at n ⊢
      rw [if_pos h, upd_ne fun z => by rw [z, h4] at h; cases h]
    · rw [if_neg h] at n; cases n
  refine ⟨by simp [PSt.putO, I.ls], by simp [PSt.putO, I.lo], ⟨tabs_upd I.hs.tabs (.inr (.inl ⟨_, h2⟩)), fun c z => ?_⟩, fun c n w => ?_, fun c h n => ?_, I.off, I.wv, fun j d' q' => ?_, fun j d' q' => ?_⟩
  · rw [upd_ne fun y => h5 (by rw [z, y])]
    exact I.hs.well c z
  · rw [upd_ne fun z => by rw [z, h6] at n; cases n]
    exact I.ex c n w
  · have hne : c ≠ a := fun z => by rw [z, h4] at h; cases h
    rw [upd_ne hne] at n
    exact I.nm c h n
  · rcases getR_set q' with ⟨_, z⟩ | ⟨hne, q2⟩
    · cases z
    · obtain ⟨v, k1, k2⟩ := I.da j d' q2
      exact ⟨v, k1, k2.ex same⟩
  · rcases getR_set q' with ⟨rfl, z⟩ | ⟨hne, q2⟩
    · cases z
      refine ⟨a, ys, es, rfl, ha, upd_same, dy.ex same, h4, h5, h6, fun k d2 q3 hk => ?_⟩
      rcases getR_set q3 with ⟨z, _⟩ | ⟨_, q4⟩
      · exact absurd z.symm hk
      · exact h7 k d2 q4 hk
    · obtain ⟨c, zs, fs, e2, k1, k2, k3, k4, k5, k6, k7⟩ := I.ow j d' q2
      have hca : c ≠ a := fun z => h7 j d' q2 (Ne.symm hne) (by rw [k1, z])
      refine ⟨c, zs, fs, e2, k1, by rw [upd_ne hca]; exact k2, k3.ex same, k4, k5, k6, fun k d2 q3 hk => ?_⟩
      rcases getR_set q3 with ⟨z, _⟩ | ⟨_, q4⟩
      · rw [← z]
        exact k7 i _ q hne
      · exact k7 k d2 q4 hk
theorem Tr.wr {ds es : List PD} {ys : List V} {a : Addr} (q : getR S.ow i = some (.list ds)) (ha : σ[i]? = some (some (.ref a))) : Tr g S σ H (S.putO i es) σ (upd H a (.lst ys)) := ⟨fun c _ _ o => upd_ne fun z => o (by rw [z]; exact ⟨i, _, q, ha⟩), fun c ⟨j, d', q', h⟩ _ => by
  rcases getR_set q' with ⟨rfl, _⟩ | ⟨_, q2⟩
  · exact .inl ⟨i, _, q, h⟩
  · exact .inl ⟨j, d', q2, h⟩⟩
theorem set_same {σ : L2.St} {i : Nat} {x : Option V} (h : σ[i]? = some x) : σ.set i x = σ := by
  obtain ⟨hl, e⟩ := List.getElem?_eq_some_iff.mp h
  rw [← e]
  exact List.set_getElem_self hl
/-- one's own list is given up -/
theorem SI.share1 (I : SI g H0 B0 B S W σ H) : ∃ B', SI g H0 B0 B' (S.share1 i) W σ H ∧ (∀ a, B a = true → B' a = true) ∧ (∀ a, B' a = true → B a = true ∨ OwA S σ a) := by
  unfold PSt.share1
  cases q : getR S.ow i with
  | none => exact ⟨B, I, fun _ h => h, fun _ h => .inl h⟩
  | some d =>
    obtain ⟨a, xs, ds, e, h1, h2, h3, h4, h5, h6, h7⟩ := I.ow i d q
    have up : Ex none (rs B H) (rs (fun c => B c || decide (c = a)) H) := rs_mono (w := none) (fun c _ h => by show (B c || _) = true; rw [h]; rfl) (Ex.refl H) fun _ z => by cases z
    have J : SI g H0 B0 (fun c => B c || decide (c = a)) ⟨S.sh, S.ow.set i none⟩ W σ H := by
      refine ⟨I.ls, by simp [I.lo], I.hs, I.ex, fun c h n => ?_, fun c z => ?_, I.wv, fun j d' q' => ?_, fun j d' q' => ?_⟩
      · rw [Bool.or_eq_true, decide_eq_true_eq] at h
        rcases h with h | h
        · exact I.nm c h n
        · rw [h]; exact al_new h6
      · rw [I.off c z]
        have : c ≠ a := fun y => h5 (by rw [z, y])
        simp [this]
      · obtain ⟨v, k1, k2⟩ := I.da j d' q'
        exact ⟨v, k1, k2.ex up⟩
      · rcases getR_set q' with ⟨_, z⟩ | ⟨hne, q2⟩
        · cases z
        · obtain ⟨c, zs, fs, e2, k1, k2, k3, k4, k5, k6, k7⟩ := I.ow j d' q2
          have hca : c ≠ a := fun z => h7 j d' q2 (Ne.symm hne) (by rw [k1, z])
          refine ⟨c, zs, fs, e2, k1, k2, k3.ex up, by rw [k4]; simp [hca], k5, k6, fun k d2 q3 hk => ?_⟩
          rcases getR_set q3 with ⟨_, z⟩ | ⟨_, q4⟩
          · cases z
          · exact k7 k d2 q4 hk
    refine ⟨fun c => B c || decide (c = a), ?_, fun c h => ?_, fun c h => ?_⟩
    · rw [e]
      have da : Da (rs (fun c => B c || decide (c = a)) H) (.ref a) (.list ds) := .lst (rs_put h2 (by simp)) (h3.ex up)
      have K := J.put (i := i) da fun b z w => by
        have k1 := I.wv b z
        rw [← w, h1] at k1
        cases k1
        exact h5 z
      rw [set_same h1] at K
      have e2 : (⟨S.sh, S.ow.set i none⟩ : PSt).put i (.list ds) = S.put i (.list ds) := by
        unfold PSt.put
        simp [List.set_set]
      rw [e2] at K
      exact K
    · show (B c || _) = true
      rw [h]; rfl
    · rw [Bool.or_eq_true, decide_eq_true_eq] at h
      rcases h with h | h
      · exact .inl h
      · exact .inr ⟨i, d, q, by rw [h]; exact h1⟩
theorem OwA.share1 {a : Addr} (h : OwA (S.share1 i) σ a) : OwA S σ a := by
  obtain ⟨j, d, q, h⟩ := h
  unfold PSt.share1 at q
  cases q2 : getR S.ow i with
  | none => rw [q2] at q; exact ⟨j, d, q, h⟩
  | some d' =>
    rw [q2] at q
    rcases getR_set (show getR (S.ow.set i none) j = some d from q) with ⟨_, z⟩ | ⟨_, q3⟩
    · cases z
    · exact ⟨j, d, q3, h⟩
theorem OwA.share : ∀ {is : List Nat} {S : PSt} {σ : L2.St} {a : Addr}, OwA (S.share is) σ a → OwA S σ a
  | [], _, _, _, h => h
  | _ :: is, _, _, _, h => OwA.share1 (OwA.share (is := is) h)
theorem SI.share : ∀ {is : List Nat} {B : Addr → Bool} {S : PSt}, SI g H0 B0 B S W σ H → ∃ B', SI g H0 B0 B' (S.share is) W σ H
  | [], B, _, I => ⟨B, I⟩
  | i :: is, _, _, I => by
    obtain ⟨B1, J, _, _⟩ := I.share1 (i := i)
    exact SI.share (is := is) J
theorem Tr.share {is : List Nat} : Tr g S σ H (S.share is) σ H := ⟨fun _ _ _ _ => rfl, fun _ h _ => .inl h.share⟩
end
end SN
end
section
set_option Elab.async false
set_option linter.all false
set_option maxRecDepth 100000
set_option maxHeartbeats 8000000
/-! S13: expressions that draw from the well: from the syntax, sound. -/
namespace SN
open PySem L2 LamX
/-- a def that draws from the well (its first argument) -/
def spW (T : List (Addr × Str)) (sem : List PD → WT → Option (PD × WT)) (ar : Nat) : Sp := fun vs H Q _ => ∃ (a : Addr) (us : List V), vs = .ref a :: us ∧ us.length = ar ∧ ∃ (B : Addr → Bool) (ds : List PD) (W : WT) (d : PD) (W' : WT), sem ds W = some (d, W') ∧ Tabs T H ∧
  H a = some (.lst (W.map .int)) ∧ B a = false ∧ Das (rs B H) us ds ∧ ∀ v H', Ex (some a) H H' → Tabs T H' → H' a = some (.lst (W'.map .int)) → Da (rs (al B H) H') v d → Q v H'
/-- what is known of the defs that draw -/
structure Wok (wf : List (Str × Nat)) (ws : Nat) (g : Gs) (Ψ : Wns) : Prop where
  ws : g.ws = ws
  wl : wf ≠ [] → ∃ a, g.wl = some a
  fns : ∀ x ar sem, wf.lookup x = some ar → Ψ x = some sem → FnAt g x (spW g.T sem ar)
/-- the name is the well's -/
def isWell (N : List Str) (sc : Scope) (ws : Nat) : Expr → Bool
  | .Name w _ => okName w && (visB sc w && decide (slot N w = some ws))
  | _ => false
mutual
def cX (c : Cc) (wf : List (Str × Nat)) (ws : Nat) : Nat → Scope → Expr → Option XW
  | 0, _, _ => none
  | n + 1, sc, e => match cE c n sc e with
    | some ir => some (.pure ir)
    | none => match e with
      | .Call (.Name f _) args [] _ => if okName f && glB sc f && args.all plainE then (match wf.lookup f with
          | some ar => (match args with
            | w :: rest => if isWell c.N sc ws w && decide (rest.length = ar) then (cXs c wf ws n sc rest).map fun xs => .wfn f xs else none
            | [] => none)
          | none => match c.fns.lookup f with
            | some ar => if args.length = ar ∧ 0 < ar then (cXs c wf ws n sc args).map fun xs => .fn f xs else none
            | none => match args with
              | [a] => (biOf f).bind fun b => (cX c wf ws n sc a).map fun x => .bi1 b x
              | _ => none) else none
      | .BinOp a op b _ => (cX c wf ws n sc a).bind fun x => (cX c wf ws n sc b).map fun y => .bin op x y
      | .Compare a [op] [b] _ => if plainE b then (cX c wf ws n sc a).bind fun x => (cX c wf ws n sc b).map fun y => .cmp op x y else none
      | .Subscript a b _ => if plainE b then (cX c wf ws n sc a).bind fun x => (cX c wf ws n sc b).map fun y => .ix x y else none
      | .ListComp elt [⟨tg, iter, [], 0⟩] scope _ =>
        (cTg c.N tg).bind fun t => if blkC c.N sc scope (ownOf c.N scope) && (fnKind scope && (isTg c.N scope tg t && (t.slots.all (fun i => decide (i ∈ (ownOf c.N scope).map (·.2))) && (plainE iter && ((!isTwo t || isTupE tg) && decide (ws ∉ (ownOf c.N scope).map (·.2))))))) then
          (cI c n sc (isTwo t) iter).bind fun src => (cX c wf ws n (relS scope sc) elt).map fun x => .lcX src t ((ownOf c.N scope).map (·.2)) x
        else none
      | _ => none
def cXs (c : Cc) (wf : List (Str × Nat)) (ws : Nat) : Nat → Scope → List Expr → Option (List XW)
  | 0, _, _ => none
  | _ + 1, _, [] => some []
  | n + 1, sc, a :: es => (cX c wf ws n sc a).bind fun x => (cXs c wf ws n sc es).map fun xs => x :: xs
end
section
variable {g : Gs} {Φ : Fns} {Ψ : Wns} {c : Cc} {sc : Scope} {wf : List (Str × Nat)} {ws : Nat}
def SoundX (g : Gs) (Φ : Fns) (Ψ : Wns) (sc : Scope) (e : Expr) (x : XW) : Prop := ∀ (σ : L2.St) (ρ τ : Rho) (Ha : Hp) (B : Addr → Bool) (d : PD) (W W' : WT), Off g.wl B Ha → Sl B Ha ρ σ → Sl (allB Ha) Ha τ σ → (∀ a, g.wl = some a → σ[g.ws]? = some (some (.ref a))) → evX Φ Ψ x ρ τ W = some (d, W') → EvD g sc σ Ha B W e d W'
def SoundXs (g : Gs) (Φ : Fns) (Ψ : Wns) (sc : Scope) (es : List Expr) (xs : List XW) : Prop := ∀ (σ : L2.St) (ρ τ : Rho) (Ha : Hp) (B : Addr → Bool) (ds : List PD) (W W' : WT), Off g.wl B Ha → Sl B Ha ρ σ → Sl (allB Ha) Ha τ σ → (∀ a, g.wl = some a → σ[g.ws]? = some (some (.ref a))) → evXs Φ Ψ xs ρ τ W = some (ds, W') → EvS g sc σ Ha B W es ds W' ∧ ds.length = es.length
theorem evV_ok {ir : IR} {e : Expr} (h : SoundE g Φ sc e ir) {σ : L2.St} {ρ τ : Rho} {Ha : Hp} {B : Addr → Bool} {d : PD} {W : WT} (o : Off g.wl B Ha) (s : Sl B Ha ρ σ) (s2 : Sl (allB Ha) Ha τ σ) (hv : evV Φ ir ρ τ = some d) : EvD g sc σ Ha B W e d W := by
  unfold evV at hv
  split at hv
  · rename_i d' hd
    cases hv
    exact h σ ρ τ Ha B d W o s s2 hd
  · obtain ⟨u, h1, h2⟩ := obind hv
    split at h2
    · cases h2
      exact (h.loose o s2 h1).scal (by assumption)
    · cases h2
theorem ed_wfn (k : Wok wf ws g Ψ) {n : Str} {ar : Nat} {sem : List PD → WT → Option (PD × WT)} {we : Expr} {es : List Expr} {p0 pos : Pos} {σ : L2.St} {Ha : Hp} {B : Addr → Bool} {W W1 W2 : WT} {ds : List PD} {d : PD} (o : Off g.wl B Ha) (F : FnAt g n (spW g.T sem ar)) (hN : g.N = c.N)
    (hw : isWell c.N sc ws we = true) (wl : ∃ a, g.wl = some a) (wv : ∀ a, g.wl = some a → σ[g.ws]? = some (some (.ref a))) (hg : glB sc n = true) (hdb : (n == ("__debug__" : Str)) = false) (hst : (we :: es).all nostar = true) (hl : ds.length = ar)
    (ha : EvS g sc σ Ha B W es ds W1) (hs : sem ds W1 = some (d, W2)) : EvD g sc σ Ha B W (.Call (.Name n p0) (we :: es) [] pos) d W2 := fun H1 e t Q q => wA.of fun X gx => by
  obtain ⟨a, hwl⟩ := wl
  obtain ⟨f, fd, ps, hm, ok, hb, hk⟩ := F
  have hst' := hst
  rw [List.all_cons, Bool.and_eq_true] at hst'
  refine ⟨_, pe_callG (X := X) (k := g.k) (sp := spW g.T sem ar) (fd := fd) (ps := ps) (by rw [gx.prog, gx.w, gx.K, gx.mg, gx.base]; exact ok) gx.room gx.gd (gl_of gx.sc hg) (by rw [gx.mg]; exact hm) (by rw [gx.K]; exact hk) (by rw [gx.K]; exact hb) (wAs.pa gx hst) hdb (star_no _ hst'.1) (backTo_plain _ _ hst'.2), ?_⟩
  have hwe : wA g sc we σ H1 fun v H2 => wAs g sc es σ H2 fun vs H3 => spW g.T sem ar (v :: vs) H3 Q E0 := by
    unfold isWell at hw
    split at hw
    · rename_i x p1
      obtain ⟨h1, hw⟩ := ba2 hw
      obtain ⟨h2, h3⟩ := ba2 hw
      have h4 := slot_ok (of_decide_eq_true h3)
      refine wA.of fun X gx => ⟨_, pe_var (i := ws) (by rw [gx.N, hN]; exact h4) (by rw [gx.sc]; exact vis_of h2) (okName.d h1) (okName.c h1), .ref a, ?_, ?_⟩
      · have := wv a hwl
        rw [k.ws] at this
        exact this
      · refine ha H1 e t _ fun vs H2 f t2 dv => ?_
        refine ⟨a, vs, rfl, by rw [dv.length]; exact hl, al B H1, ds, W1, d, W2, hs, t2.tabs, t2.well a hwl, ?_, dv, fun v H3 f3 t3 w3 dv3 => q v H3 (f.trans (by rw [hwl]; exact f3)) ⟨t3, fun p z => ?_⟩ (dv3.ex ?_)⟩
        · unfold al
          rw [(o a hwl).1, t.well a hwl]; rfl
        · rw [hwl] at z
          cases z
          exact w3
        · refine rs_mono (w := none) (fun p _ hp => ?_) (Ex.refl H3) fun _ z => by cases z
          unfold al at hp
          rw [Bool.or_eq_true] at hp
          rcases hp with hp | hp
          · exact hp
          · exact al_of_nt f t2 hp
    · cases hw
  exact hwe
theorem ed_fnX (m : Mok c g Φ) {n : Str} {ar : Nat} {sem : List PD → Option PD} {a : Expr} {es : List Expr} {p0 pos : Pos} {σ : L2.St} {Ha : Hp} {B : Addr → Bool} {W W1 : WT} {ds : List PD} {d : PD} (hf : c.fns.lookup n = some ar) (h1 : Φ n = some sem) (hn : okName n = true) (hg : glB sc n = true) (hp : (a :: es).all plainE = true) (hl : ds.length = ar)
    (ha : EvS g sc σ Ha B W (a :: es) ds W1) (h : sem ds = some d) : EvD g sc σ Ha B W (.Call (.Name n p0) (a :: es) [] pos) d W1 :=
  ed_fn (m.fns n ar sem hf h1) hg (okName.d hn) (plainE.all hp) hl ha h
theorem ed_biX {m : Mok c g Φ} {f : Bi} {n : Str} {a : Expr} {σ : L2.St} {Ha : Hp} {B : Addr → Bool} {W W1 : WT} {x d : PD} {p0 pos : Pos} (hn : n = (f.nm : Str)) (hg : glB sc n = true) (hp : plainE a = true) (ha : EvS g sc σ Ha B W [a] [x] W1) (h : pyFn f [x] = some d) :
    EvD g sc σ Ha B W (.Call (.Name n p0) [a] [] pos) d W1 := by
  subst hn
  have q := pyFn_ok (g := g) h
  have bt := boot_bi f
  unfold fnVal at q bt
  cases hty : f.ty with
  | true =>
    rw [hty, if_pos rfl] at q bt
    exact ed_callTy (nm_ne f).1 (nm_ne f).2 hg (m.bi f) bt (by simp [plainE.star hp]) ha q
  | false =>
    rw [hty, if_neg (by simp)] at q bt
    exact ed_callB (nm_ne f).1 (nm_ne f).2 hg (m.bi f) bt (by simp [plainE.star hp]) ha q
theorem foldX_at {f : PD → WT → Option (PD × WT)} : ∀ {items : List PD} {W W' : WT} {outs : List PD}, foldX f items W = some (outs, W') → ∃ Ws : Nat → WT, Ws 0 = W ∧ Ws items.length = W' ∧ outs.length = items.length ∧ ∀ (i : Nat) d r, items[i]? = some d → outs[i]? = some r → f d (Ws i) = some (r, Ws (i + 1))
  | [], W, W', outs, h => by
    cases h
    exact ⟨fun _ => W, rfl, rfl, rfl, fun i d r hd => by simp at hd⟩
  | x :: items, W, W', outs, h => by
    unfold foldX at h
    obtain ⟨⟨y, W1⟩, h1, h⟩ := obind h
    obtain ⟨⟨ys, W2⟩, h2, h3⟩ := omap h
    cases h3
    obtain ⟨Ws, k1, k2, k3, k4⟩ := foldX_at h2
    refine ⟨fun i => match i with
      | 0 => W
      | i + 1 => Ws i, rfl, k2, by rw [List.length_cons, List.length_cons, k3], fun i d r hd hr => ?_⟩
    cases i with
    | zero =>
      cases hd
      cases hr
      show f x W = some (y, Ws 0)
      rw [k1]
      exact h1
    | succ i => exact k4 i d r (by simpa using hd) (by simpa using hr)
theorem wipe_out {σ : L2.St} {j : Nat} : ∀ {vs : List Nat}, j ∉ vs → (L2.wipe σ vs)[j]? = σ[j]?
  | [], _ => rfl
  | v :: vs, h => by
    rw [List.mem_cons, not_or] at h
    unfold L2.wipe
    rw [List.getElem?_set_ne (Ne.symm h.1)]
    exact wipe_out h.2
theorem tg_out {t : Tg} {x : V} {H : Hp} {σ σ' : L2.St} {j : Nat} (h : TgTo t x H σ σ') (hj : j ∉ t.slots) : σ'[j]? = σ[j]? := by
  cases t with
  | one i =>
    have e : σ' = σ.set i (some x) := h
    rw [e, List.getElem?_set_ne]
    intro z
    exact hj (by simp [Tg.slots, z])
  | two i k =>
    obtain ⟨a, v, u, _, _, rfl⟩ := h
    rw [List.getElem?_set_ne (fun z => hj (by simp [Tg.slots, z])), List.getElem?_set_ne (fun z => hj (by simp [Tg.slots, z]))]
theorem sx_lc (m : Mok c g Φ) {scope : Scope} {own : List (Str × Nat)} {pos : Pos} {t : Tg} {tg iter elt : Expr} {src : IR} {x : XW} (hok : blkC g.N sc scope own = true) (hk : scope.kind = .function) (htg : isTg g.N scope tg t = true) (hsl : ∀ i ∈ t.slots, i ∈ own.map (·.2)) (hp : plainE iter = true) (hws : g.ws ∉ own.map (·.2))
    (hi : SoundI g Φ sc tg iter src) (he : SoundX g Φ Ψ (relS scope sc) elt x) : SoundX g Φ Ψ sc (.ListComp elt [⟨tg, iter, [], 0⟩] scope pos) (.lcX src t (own.map (·.2)) x) := fun σ ρ τ Ha B d W W' o s s2 wv h => by
  unfold evX at h
  obtain ⟨items, h1, h⟩ := obind h
  obtain ⟨⟨outs, W1⟩, h2, h⟩ := obind h
  obtain ⟨d', h3, h4⟩ := omap h
  cases h4
  unfold bigL at h3
  split at h3
  · rename_i hz
    cases h3
    obtain ⟨Ws, k1, k2, k3, k4⟩ := foldX_at h2
    intro H1 e t1 Q q
    refine wA.of fun X gx => ?_
    have tg' := fun (s : Shared) (H : Hp) (C : Addr) (cl : List (Str × Addr)) (fp : List Addr) => pg_blk (s := s) (H := H) (C := C) (cl := cl) (fp := fp) gx htg
    refine ⟨_, pe_lc (own := own) (g := tgG X.K t) (tt := wTs g (relS scope sc) []) (te := wA g (relS scope sc) elt) gx.calm gx.nd (wI.pi gx) (blkOk_by (by rw [gx.N, gx.sc]; exact hok)) tg' (fun s H C cl fp => wTs.pts (gx_blk gx hk) (Nat.zero_le 1)) (fun s H C cl fp => wA.pe (gx_blk gx hk)) (fun x => plainE.fold hp _ x), ?_⟩
    refine lc_rd (Ws := Ws) (outs := outs.map some) o hsl (by rw [k1]; exact hi σ ρ τ Ha B items W o s s2 h1) hz (by rw [List.length_map, k3]) (fun i d r hd hr => ?_) e t1 (by rw [fm_some, k2]; exact q.toN)
    rw [List.getElem?_map] at hr
    obtain ⟨r', hr', rfl⟩ := omap hr
    have hf := k4 i d r' hd hr'
    obtain ⟨ρ', f1, hf⟩ := obind hf
    obtain ⟨τ', f2, hf⟩ := obind hf
    intro Hx Bx y ex o' hB dx
    obtain ⟨σ', q1, q2, q3⟩ := put_two ((s.wipe _).mono (rs_up (w := none) ex hB)) ((s2.wipe _).mono (all_up ex)) dx f1 f2
    refine ⟨σ', q1, rfl, fun d' e2 => ?_, fun z => by cases z⟩
    cases e2
    exact he σ' ρ' τ' Hx Bx _ _ _ o' q2 q3 (fun a z => by rw [tg_out q1 fun y => hws (hsl _ y), wipe_out hws]; exact wv a z) hf
  · cases h3
structure AllX (c : Cc) (wf : List (Str × Nat)) (ws : Nat) (g : Gs) (Φ : Fns) (Ψ : Wns) (n : Nat) : Prop where
  E : ∀ sc e x, cX c wf ws n sc e = some x → SoundX g Φ Ψ sc e x
  S : ∀ sc es xs, cXs c wf ws n sc es = some xs → SoundXs g Φ Ψ sc es xs
theorem allX (m : Mok c g Φ) (k : Wok wf ws g Ψ) : ∀ n, AllX c wf ws g Φ Ψ n
  | 0 => ⟨fun _ _ _ h => by simp [cX] at h, fun _ _ _ h => by simp [cXs] at h⟩
  | n + 1 => by
    have ih := allX m k n
    refine ⟨fun sc e x h => ?_, fun sc es xs h => ?_⟩
    · unfold cX at h
      split at h
      · rename_i ir hir
        cases h
        intro σ ρ τ Ha B d W W' o s s2 wv h
        unfold evX at h
        obtain ⟨d', h1, h2⟩ := omap h
        cases h2
        exact evV_ok ((all_sound m n).E _ _ _ hir) o s s2 h1
      · split at h
        · split at h
          · rename_i f p0 args p1 hno hc
            obtain ⟨hc, hpl⟩ := ba2 hc
            obtain ⟨hn, hg⟩ := ba2 hc
            split at h
            · rename_i ar hf
              split at h
              · rename_i we rest
                split at h
                · rename_i hw
                  obtain ⟨hw, hl⟩ := ba2 hw
                  obtain ⟨xs, h1, rfl⟩ := omap h
                  intro σ ρ τ Ha B d W W' o s s2 wv h
                  unfold evX at h
                  obtain ⟨sem, h2, h⟩ := obind h
                  obtain ⟨⟨ds, W1⟩, h3, h⟩ := obind h
                  obtain ⟨q1, q2⟩ := ih.S _ _ _ h1 σ ρ τ Ha B ds W W1 o s s2 wv h3
                  exact ed_wfn k o (k.fns f ar sem hf h2) m.N hw (k.wl fun z => by rw [z] at hf; cases hf) wv hg (okName.d hn) (plainE.all hpl) (by rw [q2]; exact of_decide_eq_true hl) q1 h
                · cases h
              · cases h
            · split at h
              · rename_i ar hf
                split at h
                · rename_i hl
                  obtain ⟨xs, h1, rfl⟩ := omap h
                  match args, hl, hpl, h1 with
                  | [], hl, _, _ => exact absurd hl.2 (by rw [← hl.1]; simp)
                  | a :: es, hl, hpl, h1 =>
                    intro σ ρ τ Ha B d W W' o s s2 wv h
                    unfold evX at h
                    obtain ⟨sem, h2, h⟩ := obind h
                    obtain ⟨⟨ds, W1⟩, h3, h⟩ := obind h
                    obtain ⟨d', h4, h5⟩ := omap h
                    cases h5
                    obtain ⟨q1, q2⟩ := ih.S _ _ _ h1 σ ρ τ Ha B ds W W1 o s s2 wv h3
                    exact ed_fnX m hf h2 hn hg hpl (by rw [q2, hl.1]) q1 h4
                · cases h
              · split at h
                · rename_i a
                  obtain ⟨b, h0, h⟩ := obind h
                  obtain ⟨x', h1, rfl⟩ := omap h
                  have hpa : plainE a = true := by simpa using hpl
                  intro σ ρ τ Ha B d W W' o s s2 wv h
                  unfold evX at h
                  obtain ⟨⟨u, W1⟩, h3, h⟩ := obind h
                  obtain ⟨d', h4, h5⟩ := omap h
                  cases h5
                  exact ed_biX (m := m) (biOf_ok h0) hg hpa (es_cons o (ih.E _ _ _ h1 σ ρ τ Ha B u W W1 o s s2 wv h3) es_nil) h4
                · cases h
          · cases h
        · obtain ⟨x', h1, h⟩ := obind h
          obtain ⟨y', h2, rfl⟩ := omap h
          intro σ ρ τ Ha B d W W' o s s2 wv h
          unfold evX at h
          obtain ⟨⟨u, W1⟩, h3, h⟩ := obind h
          obtain ⟨⟨v, W2⟩, h4, h⟩ := obind h
          obtain ⟨d', h5, h6⟩ := omap h
          cases h6
          exact ed_bin o (ih.E _ _ _ h1 σ ρ τ Ha B u W W1 o s s2 wv h3) (ih.E _ _ _ h2 σ ρ τ Ha B v W1 W2 o s s2 wv h4) (pyBin_ok h5)
        · split at h
          · rename_i hp
            obtain ⟨x', h1, h⟩ := obind h
            obtain ⟨y', h2, rfl⟩ := omap h
            intro σ ρ τ Ha B d W W' o s s2 wv h
            unfold evX at h
            obtain ⟨⟨u, W1⟩, h3, h⟩ := obind h
            obtain ⟨⟨v, W2⟩, h4, h⟩ := obind h
            obtain ⟨d', h5, h6⟩ := omap h
            cases h6
            exact ed_cmp o (plainE.marks hp) (ih.E _ _ _ h1 σ ρ τ Ha B u W W1 o s s2 wv h3) (ih.E _ _ _ h2 σ ρ τ Ha B v W1 W2 o s s2 wv h4) (pyCmp_ok h5)
          · cases h
        · split at h
          · rename_i hp
            obtain ⟨x', h1, h⟩ := obind h
            obtain ⟨y', h2, rfl⟩ := omap h
            intro σ ρ τ Ha B d W W' o s s2 wv h
            unfold evX at h
            obtain ⟨⟨u, W1⟩, h3, h⟩ := obind h
            obtain ⟨⟨v, W2⟩, h4, h⟩ := obind h
            obtain ⟨d', h5, h6⟩ := omap h
            cases h6
            exact ed_ix o (plainE.ix hp) (ih.E _ _ _ h1 σ ρ τ Ha B u W W1 o s s2 wv h3) (ih.E _ _ _ h2 σ ρ τ Ha B v W1 W2 o s s2 wv h4) (pyIx_ok h5)
          · cases h
        · obtain ⟨t, h0, h⟩ := obind h
          split at h
          · rename_i hc
            obtain ⟨k1, hc⟩ := ba2 hc
            obtain ⟨k2, hc⟩ := ba2 hc
            obtain ⟨k3, hc⟩ := ba2 hc
            obtain ⟨k4, hc⟩ := ba2 hc
            obtain ⟨k5, hc⟩ := ba2 hc
            obtain ⟨k6, k7⟩ := ba2 hc
            rw [← m.N] at k1 k3 k4 k7
            have k4' : ∀ i ∈ t.slots, i ∈ (ownOf g.N _).map (·.2) := fun i hi => of_decide_eq_true (List.all_eq_true.mp k4 i hi)
            have k6' : isTwo t = true → isTupE _ = true := fun q => by rw [q] at k6; simpa using k6
            obtain ⟨src, h1, h⟩ := obind h
            obtain ⟨x', h2, rfl⟩ := omap h
            rw [← m.N]
            exact sx_lc m k1 (fnKind_ok k2) k3 k4' k5 (by rw [k.ws]; exact of_decide_eq_true k7) ((all_sound m n).I _ _ _ _ _ k6' h1) (ih.E _ _ _ h2)
          · cases h
        · cases h
    · unfold cXs at h
      match es, h with
      | [], h =>
        cases h
        intro σ ρ τ Ha B ds W W' o s s2 wv h
        unfold evXs at h
        cases h
        exact ⟨es_nil, rfl⟩
      | a :: es, h =>
        obtain ⟨x, h1, h⟩ := obind h
        obtain ⟨xs, h2, rfl⟩ := omap h
        intro σ ρ τ Ha B ds W W' o s s2 wv h
        unfold evXs at h
        obtain ⟨⟨d, W1⟩, h3, h⟩ := obind h
        obtain ⟨⟨ds', W2⟩, h4, h5⟩ := omap h
        cases h5
        obtain ⟨q1, q2⟩ := ih.S _ _ _ h2 σ ρ τ Ha B ds' W1 _ o s s2 wv h4
        exact ⟨es_cons o (ih.E _ _ _ h1 σ ρ τ Ha B d W W1 o s s2 wv h3) q1, by rw [List.length_cons, List.length_cons, q2]⟩
end
end SN
end
section
set_option Elab.async false
set_option linter.all false
set_option maxRecDepth 100000
set_option maxHeartbeats 8000000
/-! S14: statements: rules over what is known of slots and heap. -/
namespace SN
open PySem L2 LamX
structure GS (g : Gs) (sc : Scope) (X : Cx) : Prop extends GX g sc X where
  fn : ∀ x, X.fn x = true
def wS (g : Gs) (sc : Scope) (st : Stmt) : TS := fun D σ H => ∀ X, GS g sc X → ∀ pins s, Inv X pins σ H s → wpAny (model X.prog X.w) X.A (PySem.exec st X.env) (SP X pins D) X.xe s
def wSs (g : Gs) (sc : Scope) (st : List Stmt) : TS := fun D σ H => ∀ X, GS g sc X → ∀ pins s, Inv X pins σ H s → wpAny (model X.prog X.w) X.A (PySem.execs st X.env) (SP X pins D) X.xe s
section
variable {g : Gs} {sc : Scope} {X : Cx} {st : Stmt} {sts : List Stmt} {D : Ends} {σ : L2.St} {H : Hp}
theorem wS.ps (gs : GS g sc X) : PS X st (wS g sc st) := ⟨fun pins s σ H D I h => h X gs pins s I⟩
theorem wSs.pss (gs : GS g sc X) : PSs X sts (wSs g sc sts) := ⟨fun pins s σ H D I h => h X gs pins s I⟩
theorem wS.of (h : ∀ X, GS g sc X → ∃ t : TS, PS X st t ∧ t D σ H) : wS g sc st D σ H := fun X gs pins s I => by
  obtain ⟨t, p, q⟩ := h X gs
  exact p.run pins s σ H D I q
theorem wSs.of (h : ∀ X, GS g sc X → ∃ t : TS, PSs X sts t ∧ t D σ H) : wSs g sc sts D σ H := fun X gs pins s I => by
  obtain ⟨t, p, q⟩ := h X gs
  exact p.run pins s σ H D I q
theorem never_of {X : Cx} (h : X.xe = fun _ _ => False) : PassesOwn (model X.prog X.w) X.A X.env X.xe := by
  rw [h]
  exact PassesOwn.never
end
/-- what a statement's end owes -/
def EndP (g : Gs) (H0 : Hp) (B0 : Addr → Bool) (S : PSt) (σ : L2.St) (H : Hp) (D : Ends) : Out → Prop
  | .nx S' W' => ∀ B' σ' H', SI g H0 B0 B' S' W' σ' H' → Tr g S σ H S' σ' H' → D.nx σ' H'
  | .rt d W' => ∀ v H', Ex g.wl H0 H' → Hs g.T g.wl W' H' → Da (rs (al B0 H0) H') v d → D.rt v H'
def SoSt (g : Gs) (Φ : Fns) (Ψ : Wns) (fu : Nat) (sc : Scope) (st : Stmt) (sr : SR) : Prop := ∀ H0 B0 B S W σ H D out, SI g H0 B0 B S W σ H → exec Φ Ψ g.ws fu sr S W = some out → EndP g H0 B0 S σ H D out → wS g sc st D σ H
def SoSs (g : Gs) (Φ : Fns) (Ψ : Wns) (fu : Nat) (sc : Scope) (st : List Stmt) (sr : List SR) : Prop := ∀ H0 B0 B S W σ H D out, SI g H0 B0 B S W σ H → execs Φ Ψ g.ws fu sr S W = some out → EndP g H0 B0 S σ H D out → wSs g sc st D σ H
section
variable {g : Gs} {Φ : Fns} {Ψ : Wns} {fu : Nat} {sc : Scope} {H0 H H2 : Hp} {B0 B : Addr → Bool} {S S1 : PSt} {W W' : WT} {σ σ1 : L2.St} {D : Ends} {out : Out} {e : Expr} {pos : Pos}
theorem EndP.via (h : EndP g H0 B0 S σ H D out) (t : Tr g S σ H S1 σ1 H2) : EndP g H0 B0 S1 σ1 H2 D out := by
  cases out with
  | nx S' W' => exact fun B' σ' H' I t2 => h B' σ' H' I (t.trans t2)
  | rt d W' => exact h
theorem SI.w0 (I : SI g H0 B0 B S W σ H) : Hs g.T g.wl W H := I.hs
/-- what is named may be named by more -/
theorem SI.more (I : SI g H0 B0 B S W σ H) {C : Addr → Bool} (h1 : ∀ a, C a = true → nt (H a) = false → al B0 H0 a = true) (h2 : ∀ a, g.wl = some a → C a = false) (h3 : ∀ a, OwA S σ a → C a = false) : SI g H0 B0 (fun a => B a || C a) S W σ H := by
  have up : Ex none (rs B H) (rs (fun a => B a || C a) H) := rs_mono (w := none) (fun a _ h => by show (B a || C a) = true; rw [h]; rfl) (Ex.refl H) fun _ z => by cases z
  refine ⟨I.ls, I.lo, I.hs, I.ex, fun a h n => ?_, fun a z => ?_, I.wv, fun i d h => ?_, fun i d h => ?_⟩
  · rw [Bool.or_eq_true] at h
    rcases h with h | h
    · exact I.nm a h n
    · exact h1 a h n
  · rw [I.off a z, h2 a z]; rfl
  · obtain ⟨v, k1, k2⟩ := I.da i d h
    exact ⟨v, k1, k2.ex up⟩
  · obtain ⟨a, xs, ds, e, k1, k2, k3, k4, k5, k6, k7⟩ := I.ow i d h
    exact ⟨a, xs, ds, e, k1, k2, k3.ex up, by rw [k4, h3 a ⟨i, d, h, k1⟩]; rfl, k5, k6, k7⟩
theorem tg_new {x : V} {H H' : Hp} {t : Tg} {σ σ' : L2.St} (h : TgTo t x H σ σ') (e : Ex none H H') : TgTo t x H' σ σ' := by
  cases t with
  | one i => exact h
  | two i j =>
    obtain ⟨a, v, u, h1, h2, h3⟩ := h
    exact ⟨a, v, u, h1, e.at h2 rfl (by simp), h3⟩
theorem SI.putT (I : SI g H0 B0 B S W σ H) {x : V} {d : PD} {t : Tg} (h : Da (rs B H) x d) (hp : S.putT g.ws t d = some S1) : ∃ σ', TgTo t x H σ σ' ∧ SI g H0 B0 B S1 W σ' H ∧ Tr g S σ H S1 σ' H := by
  cases t with
  | one i =>
    simp only [PSt.putT] at hp
    split at hp
    · cases hp
    · rename_i hi
      cases hp
      exact ⟨_, rfl, I.put h fun _ _ => hi, Tr.put⟩
  | two i j =>
    simp only [PSt.putT] at hp
    split at hp
    · cases hp
    · rename_i hi
      rw [not_or] at hi
      split at hp
      · cases hp
        obtain ⟨p, xs, rfl, hp2, da⟩ := h.tuple_inv
        obtain ⟨v, u, rfl, dv, du⟩ := das2 da
        exact ⟨_, ⟨p, v, u, rfl, (rs_at hp2).1, rfl⟩, (I.put dv fun _ _ => hi.1).put du fun _ _ => hi.2, Tr.put.trans Tr.put⟩
      · cases hp
theorem pg_def {X : Cx} {tg : Expr} {t : Tg} (gs : GS g sc X) (h : isTg g.N sc tg t = true) : PG X tg (tgG X.K t) := by
  have one : ∀ {n : Str} {pos : Pos} {i : Nat}, g.N[i]? = some n → locB sc n = true → PG X (.Name n pos) (gName i) := fun {n pos i} h1 h2 => by
    refine pg_name gs.nd (by rw [gs.N]; exact h1) ?_ (.inl (gs.fn n))
    rw [gs.sc]
    exact loc_of h2
  cases t with
  | one i =>
    obtain ⟨n, pos, rfl, h1, h2⟩ := nmB_inv (show nmB g.N sc i tg = true from h)
    exact one h1 h2
  | two i j =>
    obtain ⟨a, b, k, pos, rfl, ha, hb⟩ := tupB_inv (show tupB g.N sc i j tg = true from h)
    obtain ⟨n, p1, rfl, h1, h2⟩ := nmB_inv ha
    obtain ⟨m, p2, rfl, h3, h4⟩ := nmB_inv hb
    exact pg_tup gs.calm (pgs_cons (one h1 h2) (pgs_cons (one h3 h4) pgs_nil))

/-! ### rows of statements -/
theorem ss_nil : SoSs g Φ Ψ fu sc [] [] := fun H0 B0 B S W σ H D out I h k => wSs.of fun X gs => by
  unfold execs at h
  cases h
  exact ⟨_, pss_nil, k B σ H I Tr.refl⟩
theorem ss_cons {st : Stmt} {sts : List Stmt} {sr : SR} {srs : List SR} (h1 : SoSt g Φ Ψ fu sc st sr) (h2 : SoSs g Φ Ψ fu sc sts srs) : SoSs g Φ Ψ fu sc (st :: sts) (sr :: srs) := fun H0 B0 B S W σ H D out I h k => wSs.of fun X gs => by
  unfold execs at h
  obtain ⟨o, h3, h4⟩ := obind h
  refine ⟨_, pss_cons (wS.ps gs) (wSs.pss gs), h1 H0 B0 B S W σ H _ o I h3 ?_⟩
  cases o with
  | nx S1 W1 => exact fun B' σ' H' J t => h2 H0 B0 B' S1 W1 σ' H' D out J h4 (k.via t)
  | rt d W1 =>
    cases h4
    exact k
theorem so_if {c : Expr} {a b : List Stmt} {z : IR} {x y : List SR} (ht : SoundT g Φ sc c z) (ha : SoSs g Φ Ψ fu sc a x) (hb : SoSs g Φ Ψ fu sc b y) : SoSt g Φ Ψ fu sc (.If c a b pos) (.ite z x y) := fun H0 B0 B S W σ H D out I h k => wS.of fun X gs => by
  unfold exec at h
  obtain ⟨p, h1, h⟩ := obind h
  refine ⟨_, ps_if (wT.pt gs.toGX) (wSs.pss gs) (wSs.pss gs), ht σ S.all (nw g.wl H) B p W I.offA I.slA h1 H nw_ex I.hs _ fun H2 f t => ?_⟩
  have J := I.step f t
  cases p with
  | true => exact iteT (ha H0 B0 _ S W σ H2 D out J h (k.via (Tr.ex f)))
  | false => exact iteF (hb H0 B0 _ S W σ H2 D out J h (k.via (Tr.ex f)))
theorem so_while {c : Expr} {b : List Stmt} {z : IR} {y : List SR} (ht : SoundT g Φ sc c z) (hb : SoSs g Φ Ψ fu sc b y) : SoSt g Φ Ψ fu sc (.While c b [] pos) (.whl z y) := fun H0 B0 B S W σ H D out I h k => wS.of fun X gs => by
  unfold exec at h
  refine ⟨_, ps_while (never_of gs.nv) (wT.pt gs.toGX) (wSs.pss gs), fun m σ' H' => ∃ B' S' W', SI g H0 B0 B' S' W' σ' H' ∧ Tr g S σ H S' σ' H' ∧ loopW (fun S => evT Φ z S.all) (execs Φ Ψ g.ws fu y) m S' W' = some out, ⟨fu, B, S, W, I, Tr.refl, h⟩, ?_⟩
  rintro m σ' H' ⟨B', S', W', J, t, hl⟩
  cases m with
  | zero => simp [loopW] at hl
  | succ m =>
    unfold loopW at hl
    obtain ⟨p, h1, hl⟩ := obind hl
    refine ht σ' S'.all (nw g.wl H') B' p W' J.offA J.slA h1 H' nw_ex J.hs _ fun H2 f t2 => ?_
    have J2 := J.step f t2
    cases p with
    | false =>
      cases hl
      exact iteF (k _ σ' H2 J2 (t.trans (Tr.ex f)))
    | true =>
      obtain ⟨o, h3, h4⟩ := obind hl
      refine iteT ⟨fun σ2 H3 => ∃ B2 S2 W2, o = .nx S2 W2 ∧ SI g H0 B0 B2 S2 W2 σ2 H3 ∧ Tr g S σ H S2 σ2 H3, ?_, hb H0 B0 _ S' W' σ' H2 _ o J2 h3 ?_⟩
      · rintro σ2 H3 ⟨B2, S2, W2, rfl, J3, t3⟩
        exact ⟨m, Nat.lt_succ_self m, B2, S2, W2, J3, t3, h4⟩
      · cases o with
        | nx S2 W2 => exact fun B2 σ2 H3 J3 t3 => ⟨B2, S2, W2, rfl, J3, (t.trans (Tr.ex f)).trans t3⟩
        | rt d W2 =>
          cases h4
          exact k
/-- the loop over what ItD tells -/
theorem so_loop {tg iter : Expr} {b : List Stmt} {t : Tg} {y : List SR} {items : List PD} {W1 : WT} (htg : isTg g.N sc tg t = true) (hp : plainE iter = true) (hb : SoSs g Φ Ψ fu sc b y) (I : SI g H0 B0 B S W σ H) (hit : ItD g sc σ (nw g.wl H) B W tg iter items W1)
    (h : loopF (fun d S W => (S.putT g.ws t d).bind fun S' => execs Φ Ψ g.ws fu y S' W) items S W1 = some out) (k : EndP g H0 B0 S σ H D out) : wS g sc (.For tg iter b [] pos) D σ H := wS.of fun X gs => by
  refine ⟨_, ps_for (never_of gs.nv) gs.calm (wI.pi gs.toGX) (pg_def gs htg) (wSs.pss gs) (fun x => plainE.fold hp _ x), ?_⟩
  refine hit H nw_ex I.hs _ fun J H2 f t2 ⟨G, Y, wk, hG, hY⟩ => ?_
  have I2 := I.step f t2
  have src : ∀ {S' : PSt} {σ' : L2.St} {H' : Hp}, Tr g S σ H2 S' σ' H' → Ex none (rs (al B H) H2) H' := fun {S' σ' H'} tr a n _ => by
    unfold rs at n ⊢
    by_cases z : al B H a = true
    · rw [if_pos z] at n ⊢
      refine tr.kp a n (fun w => ?_) fun ⟨i, d, q, ha⟩ => ?_
      · rw [I2.off a w] at z; cases z
      · obtain ⟨p, xs, ds, e, k1, k2, k3, k4, _⟩ := I2.ow i d q
        rw [ha] at k1
        cases k1
        rw [k4] at z; cases z
    · rw [if_neg z] at n; cases n
  refine for_it wk (fun i σ' H' => ∃ B' S' W', SI g H0 B0 B' S' W' σ' H' ∧ Tr g S σ H2 S' σ' H' ∧ loopF (fun d S W => (S.putT g.ws t d).bind fun S' => execs Φ Ψ g.ws fu y S' W) (items.drop i) S' W' = some out) ⟨_, S, W1, I2, Tr.refl, by rw [List.drop_zero]; exact h⟩ (fun i σ' H' _ ⟨_, _, _, _, tr, _⟩ => hG H' (src tr)) (fun i x σ' H' H3 hi ⟨B', S', W', J', tr, hl⟩ yv => ?_) (fun σ' H' ⟨B', S', W', J', tr, hl⟩ => ?_)
  · obtain ⟨n, dx⟩ := hY i items[i] H' x H3 (List.getElem?_eq_getElem hi) (src tr) yv
    rw [List.drop_eq_getElem_cons hi] at hl
    unfold loopF at hl
    obtain ⟨o, h3, h4⟩ := obind hl
    obtain ⟨S3, h5, h6⟩ := obind h3
    have J3 := J'.step n.1.weak (n.2 _ _ _ J'.hs)
    have J4 := J3.more (C := kn (al B H) H2) (fun a hc na => ?_) (fun a w => ?_) (fun a ho => ?_)
    · have dx' : Da (rs (fun a => al B' H' a || kn (al B H) H2 a) H3) x items[i] := dx.ex (rs_mono (w := none) (fun a _ hh => by
        have hh' : (kn (al B H) H2 a || nt (H' a)) = true := hh
        rw [Bool.or_eq_true] at hh'
        rcases hh' with hh' | hh'
        · show (al B' H' a || kn (al B H) H2 a) = true
          rw [hh', Bool.or_true]
        · show (al B' H' a || kn (al B H) H2 a) = true
          rw [al_new hh']; rfl) (Ex.refl H3) fun _ z => by cases z)
      obtain ⟨σ3, to3, J5, tr3⟩ := J4.putT dx' h5
      refine (tg_new to3 (Ex.refl H3)).run (Ex.refl H3) (hb H0 B0 _ S3 W' σ3 H3 _ o J5 h6 ?_)
      have trA := (tr.trans (Tr.ex (S := S') (σ := σ') n.1.weak)).trans tr3
      cases o with
      | nx S4 W4 => exact fun B4 σ4 H4 J6 t6 => ⟨B4, S4, W4, J6, trA.trans t6, h4⟩
      | rt d W4 =>
        cases h4
        exact k
    · unfold kn at hc
      rw [Bool.and_eq_true] at hc
      refine I2.nm a hc.1 ?_
      simpa using hc.2
    · unfold kn
      rw [I2.off a w]; rfl
    · unfold kn
      have hw : g.wl ≠ some a := fun w => by
        obtain ⟨j, d, q, ha⟩ := ho
        obtain ⟨p, xs, ds, e, k1, k2, k3, k4, k5, _⟩ := J3.ow j d q
        rw [ha] at k1
        cases k1
        exact k5 w
      rcases tr.ow a ho hw with ⟨j, d, q, ha⟩ | z
      · obtain ⟨p, xs, ds, e, k1, k2, k3, k4, _⟩ := I2.ow j d q
        rw [ha] at k1
        cases k1
        rw [k4]; rfl
      · rw [z]; simp
  · rw [List.drop_length] at hl
    unfold loopF at hl
    cases hl
    exact k B' σ' H' J' ((Tr.ex f).trans tr)
end
end SN
end
section
set_option Elab.async false
set_option linter.all false
set_option maxRecDepth 100000
set_option maxHeartbeats 8000000
/-! S15: the plain statements. -/
namespace SN
open PySem L2 LamX
/-- not a comprehension -/
def noComp : Expr → Bool
  | .ListComp _ _ _ _ => false
  | .SetComp _ _ _ _ => false
  | .DictComp _ _ _ _ _ => false
  | _ => true
theorem noComp.sw {e : Expr} (h : noComp e = true) (t : Option Expr) (l : Nat) (env : Env) : swapsWith e t l env = pure false := by
  cases e <;> first | rfl | cases h
/-- a comprehension that is stored ahead of its variables' end -/
def swB (sc : Scope) (y : Str) (py : Pos) : Expr → Bool
  | .ListComp _ _ scope p => (match sc.names.lookup y with
    | some .local => true
    | _ => false) && (py.line == p.line) && !(scope.names.any fun (n, k) => n == y && (k == .local || k == .cell))
  | _ => false
theorem env_kind {sc : Scope} {env : Env} (e : env.scope = sc) (hk : env.scope.kind = .function) : env.blockKind = .function := by
  unfold Env.blockKind
  rw [hk]
  rfl
theorem swB.no {sc : Scope} {y : Str} {py : Pos} {e : Expr} {env : Env} (hn : ∀ a b c d, e ≠ .SetComp a b c d) (hn2 : ∀ a b c d f, e ≠ .DictComp a b c d f) (he : env.scope = sc) (hk : env.scope.kind = .function) (h : swB sc y py e = false) (l : Nat) : swapsWith e (some (.Name y py)) l env = pure false := by
  cases e with
  | ListComp elt gs scope p =>
    have hb := env_kind he hk
    have h' : ((match sc.names.lookup y with
      | some .local => true
      | _ => false) && (py.line == p.line) && !(scope.names.any fun (n, k) => n == y && (k == .local || k == .cell))) = false := h
    have ek : (env.kindOf y == some .local) = (match sc.names.lookup y with
      | some .local => true
      | _ => false) := by
      show (env.scope.names.lookup y == some .local) = _
      rw [he]
      cases sc.names.lookup y with
      | none => rfl
      | some k => cases k <;> rfl
    unfold swapsWith
    simp only [hb, Expr.pos]
    show (pure (ScopeKind.function == ScopeKind.function && env.kindOf y == some .local && (py.line == p.line) && !(scope.names.any fun (n, k) => n == y && (k == .local || k == .cell))) : Sem Bool) = pure false
    rw [ek]
    have h2 : (ScopeKind.function == ScopeKind.function) = true := rfl
    rw [h2, Bool.true_and, h']
  | SetComp a b c d => exact absurd rfl (hn a b c d)
  | DictComp a b c d f => exact absurd rfl (hn2 a b c d f)
  | _ => rfl
section
variable {g : Gs} {Φ : Fns} {Ψ : Wns} {fu : Nat} {sc : Scope} {H0 H H2 : Hp} {B0 B : Addr → Bool} {S S1 : PSt} {W W' : WT} {σ σ1 : L2.St} {D : Ends} {out : Out} {e a b : Expr} {pos : Pos} {n : Str} {i : Nat} {ir : IR} {x : XW}
theorem SI.da2 (I : SI g H0 B0 B S W σ H) {f : Ex g.wl H H2} {t : Hs g.T g.wl W' H2} {v : V} {d : PD} (h : Da (rs (al B H) H2) v d) : Da (rs (al B0 H0) H2) v d := h.ex fun a n _ => by
  have J := I.step f t
  unfold rs at n ⊢
  by_cases z : al B H a = true
  · rw [if_pos z] at n ⊢
    rw [if_pos (J.nm a z n)]
  · rw [if_neg z] at n; cases n
theorem so_ret {sh : List Nat} (h : SoundX g Φ Ψ sc e x) : SoSt g Φ Ψ fu sc (.Return (some e) pos) (.ret sh x) := fun H0 B0 B S W σ H D out I hx k => wS.of fun X gs => by
  unfold exec at hx
  obtain ⟨⟨d, W1⟩, h1, h2⟩ := omap hx
  cases h2
  obtain ⟨B1, J⟩ := I.share (is := sh)
  exact ⟨_, ps_ret (wA.pe gs.toGX), h σ _ _ (nw g.wl H) B1 d W W1 J.offA J.sl J.slA J.wv h1 H nw_ex J.hs _ fun v H2 f t dv => k v H2 (J.ex.trans f) t (J.da2 (f := f) (t := t) dv)⟩
theorem so_rai {st : Stmt} : SoSt g Φ Ψ fu sc st .rai := fun H0 B0 B S W σ H D out I hx k => by
  unfold exec at hx
  cases hx
theorem so_set {sh : List Nat} {p : Pos} (hN : g.N[i]? = some n) (hl : locB sc n = true) (hs : ∀ env : Env, env.scope = sc → env.scope.kind = .function → swapsWith e (some (.Name n p)) pos.line env = pure false) (h : SoundX g Φ Ψ sc e x) : SoSt g Φ Ψ fu sc (.Assign [.Name n p] e pos) (.set i sh x) := fun H0 B0 B S W σ H D out I hx k => wS.of fun X gs => by
  unfold exec at hx
  split at hx
  · cases hx
  · rename_i hi
    obtain ⟨⟨d, W1⟩, h1, h2⟩ := omap hx
    cases h2
    obtain ⟨B1, J⟩ := I.share (is := sh)
    refine ⟨_, ps_set (i := i) gs.nd (by rw [gs.N]; exact hN) (by rw [gs.sc]; exact loc_of hl) (wA.pe gs.toGX) (hs _ gs.sc gs.code) (.inl (gs.fn n)), h σ _ _ (nw g.wl H) B1 d W W1 J.offA J.sl J.slA J.wv h1 H nw_ex J.hs _ fun v H2 f t dv => ?_⟩
    exact k _ _ H2 ((J.step f t).put dv fun _ _ => hi) ((Tr.share.trans (Tr.ex f)).trans Tr.put)
theorem so_own {sh : List Nat} {p : Pos} (hN : g.N[i]? = some n) (hl : locB sc n = true) (hs : ∀ env : Env, env.scope = sc → env.scope.kind = .function → swapsWith e (some (.Name n p)) pos.line env = pure false) (h : fresh ir = true → SoundN g Φ sc e ir) : SoSt g Φ Ψ fu sc (.Assign [.Name n p] e pos) (.own i sh ir) := fun H0 B0 B S W σ H D out I hx k => wS.of fun X gs => by
  unfold exec at hx
  split at hx
  · cases hx
  · rename_i hi
    rw [not_or] at hi
    have hf : fresh ir = true := by simpa using hi.2
    obtain ⟨d, h1, h2⟩ := obind hx
    obtain ⟨B1, J⟩ := I.share (is := sh)
    obtain ⟨ds, rfl, en⟩ := h hf σ _ _ (nw g.wl H) B1 d W J.offA J.sl J.slA h1
    cases h2
    refine ⟨_, ps_set (i := i) gs.nd (by rw [gs.N]; exact hN) (by rw [gs.sc]; exact loc_of hl) (wA.pe gs.toGX) (hs _ gs.sc gs.code) (.inl (gs.fn n)), en H nw_ex J.hs _ fun q xs H2 f t n2 w2 hq dq => ?_⟩
    exact k _ _ H2 (J.putO f t n2 w2 hq dq hi.1) (Tr.share.trans (Tr.putO f n2))
/-- readings of a comprehension for both ways to store it -/
def AsgN (g : Gs) (Φ : Fns) (sc : Scope) (st : Stmt) (i : Nat) (ir : IR) : Prop := ∀ X, GS g sc X → ∃ rd : TE, PS X st (tAsg rd (gName i)) ∧ ∀ (σ : L2.St) (ρ τ : Rho) (Ha : Hp) (B : Addr → Bool) (d : PD) (W : WT), Off g.wl B Ha → Sl B Ha ρ σ → Sl (allB Ha) Ha τ σ → ev Φ ir ρ τ = some d →
  ∃ ds, d = .list ds ∧ ∀ H1, Ex none Ha H1 → Hs g.T g.wl W H1 → ∀ Q : VK, AftN g B H1 ds W Q → rd σ H1 Q
theorem so_ownA {sh : List Nat} {st : Stmt} (h : AsgN g Φ sc st i ir) : SoSt g Φ Ψ fu sc st (.own i sh ir) := fun H0 B0 B S W σ H D out I hx k => wS.of fun X gs => by
  unfold exec at hx
  split at hx
  · cases hx
  · rename_i hi
    rw [not_or] at hi
    obtain ⟨d, h1, h2⟩ := obind hx
    obtain ⟨B1, J⟩ := I.share (is := sh)
    obtain ⟨rd, p, q⟩ := h X gs
    obtain ⟨ds, rfl, en⟩ := q σ _ _ (nw g.wl H) B1 d W J.offA J.sl J.slA h1
    cases h2
    refine ⟨_, p, en H nw_ex J.hs _ fun q xs H2 f t n2 w2 hq dq => ?_⟩
    exact k _ _ H2 (J.putO f t n2 w2 hq dq hi.1) (Tr.share.trans (Tr.putO f n2))
theorem so_setA {sh : List Nat} {st : Stmt} (h : AsgN g Φ sc st i ir) : SoSt g Φ Ψ fu sc st (.set i sh (.pure ir)) := fun H0 B0 B S W σ H D out I hx k => wS.of fun X gs => by
  unfold exec at hx
  split at hx
  · cases hx
  · rename_i hi
    obtain ⟨⟨d, W1⟩, h1, h2⟩ := omap hx
    cases h2
    unfold evX at h1
    obtain ⟨d', h5, h6⟩ := omap h1
    cases h6
    clear h1
    obtain ⟨B1, J⟩ := I.share (is := sh)
    obtain ⟨rd, p, q⟩ := h X gs
    unfold evV at h5
    split at h5
    · rename_i d2 hd
      cases h5
      obtain ⟨ds, rfl, en⟩ := q σ _ _ (nw g.wl H) B1 _ W J.offA J.sl J.slA hd
      refine ⟨_, p, en H nw_ex J.hs _ (Aft.toN fun v H2 f t dv => ?_)⟩
      exact k _ _ H2 ((J.step f t).put dv fun _ _ => hi) ((Tr.share.trans (Tr.ex f)).trans Tr.put)
    · obtain ⟨u, h3, h4⟩ := obind h5
      obtain ⟨ds, rfl, en⟩ := q σ _ _ (nw g.wl H) _ u W (off_all J.offA) J.slA J.slA h3
      simp [scal] at h4
theorem so_drop (hc : noComp e = true) (h : SoundE g Φ sc e ir) : SoSt g Φ Ψ fu sc (.Expr e pos) (.drop ir) := fun H0 B0 B S W σ H D out I hx k => wS.of fun X gs => by
  unfold exec at hx
  obtain ⟨d, h1, h2⟩ := omap hx
  cases h2
  exact ⟨_, ps_expr (wA.pe gs.toGX) (noComp.sw hc _ _ _), h.loose I.offA I.slA h1 H nw_ex I.hs _ fun v H2 f t dv => k _ σ H2 (I.step f t) (Tr.ex f)⟩
theorem so_aug {p : Pos} (hN : g.N[i]? = some n) (hl : locB sc n = true) (h : SoundE g Φ sc e ir) : SoSt g Φ Ψ fu sc (.AugAssign (.Name n p) .BitOr e pos) (.aug i .BitOr ir) := fun H0 B0 B S W σ H D out I hx k => wS.of fun X gs => by
  unfold exec at hx
  split at hx
  · cases hx
  · rename_i hi
    rw [not_or] at hi
    split at hx
    · rename_i x hx1
      obtain ⟨d, h1, h2⟩ := obind hx
      split at h2
      · rename_i y
        cases h2
        obtain ⟨v, hv, dv⟩ := I.slA.at_ i _ hx1
        rw [dv.int_inv] at hv
        refine ⟨_, ps_aug (i := i) gs.nd (by rw [gs.N]; exact hN) (by rw [gs.sc]; exact loc_of hl) (wA.pe gs.toGX) iop_or (.inl (gs.fn n)), .int x, hv, h.loose I.offA I.slA h1 H nw_ex I.hs _ fun u H2 f t du => ⟨x, y, rfl, du.int_inv, ?_⟩⟩
        exact k _ _ H2 ((I.step f t).put (.int _) fun _ _ => hi.1) ((Tr.ex f).trans Tr.put)
      · cases h2
    · cases hx
theorem so_app {sh : List Nat} {p ap cp : Pos} (hN : g.N[i]? = some n) (hv : visB sc n = true) (hn : okName n = true) (hp : plainE a = true) (hline : (ap.endLine == cp.line) = true) (h : SoundE g Φ sc a ir) :
    SoSt g Φ Ψ fu sc (.Expr (.Call (.Attribute (.Name n p) "append" ap) [a] [] cp) pos) (.app i sh ir) := fun H0 B0 B S W σ H D out I hx k => wS.of fun X gs => by
  unfold exec at hx
  split at hx
  · rename_i ds hq
    obtain ⟨d, h1, h2⟩ := obind hx
    split at h2
    · rename_i hlt
      cases h2
      obtain ⟨B1, J⟩ := I.share (is := sh)
      obtain ⟨c, xs, ds', e1, k1, k2, k3, k4, k5, k6, k7⟩ := J.ow i _ hq
      cases e1
      refine ⟨_, ps_expr (pe_bm PySem.F.plainAttrs_list PySem.F.slot_list_append PySem.F.type_list_append mt_append (pe_var (i := i) (by rw [gs.N]; exact hN) (by rw [gs.sc]; exact vis_of hv) (okName.d hn) (okName.c hn)) (wAs.pa (es := [a]) gs.toGX (by simp [plainE.star hp])) rfl (by rw [star_no _ (plainE.star hp)]; rfl) hline (star_no _ (plainE.star hp)) (backTo_plain _ _ (es := []) rfl)), ?_⟩
      refine ⟨.ref c, k1, .inl ⟨rfl, _, SqL.of k2⟩, evV_ok h J.offA J.sl J.slA h1 H nw_ex J.hs _ fun u H2 f t du => ?_⟩
      have k2' := f.at k2 rfl k5
      refine ⟨c, xs, u, rfl, rfl, k2', by rw [k3.length]; exact big_lt (Nat.le_of_lt hlt), ?_⟩
      have J2 := J.step f t
      obtain ⟨c2, xs2, ds2, e2, m1, m2, m3, _⟩ := J2.ow i _ hq
      rw [k1] at m1
      cases m1
      cases e2
      rw [k2'] at m2
      cases m2
      exact k _ _ _ (J2.wr hq k1 (m3.append (.one du))) ((Tr.share.trans (Tr.ex f)).trans (Tr.wr hq k1))
    · cases h2
  · cases hx
theorem so_put {p p1 : Pos} {irk : IR} (hN : g.N[i]? = some n) (hv : visB sc n = true) (hn : okName n = true) (hc : noComp e = true) (h : SoundE g Φ sc e ir) (hk : SoundE g Φ sc a irk) (hpl : plainE a = true) :
    SoSt g Φ Ψ fu sc (.Assign [.Subscript (.Name n p) a p1] e pos) (.put i irk ir) := fun H0 B0 B S W σ H D out I hx k => wS.of fun X gs => by
  unfold exec at hx
  obtain ⟨d, h1, hx⟩ := obind hx
  split at hx
  · rename_i ds hq
    obtain ⟨z, h2, hx⟩ := obind hx
    split at hx
    · rename_i j
      obtain ⟨m, h3, h4⟩ := omap hx
      cases h4
      obtain ⟨c, xs, ds', e1, k1, k2, k3, k4, k5, k6, k7⟩ := I.ow i _ hq
      cases e1
      refine ⟨_, ps_asg (wA.pe gs.toGX) (pg_sub (pe_var (i := i) (by rw [gs.N]; exact hN) (by rw [gs.sc]; exact vis_of hv) (okName.d hn) (okName.c hn)) (wA.pe (e := a) gs.toGX) set_list (fun v => by cases a <;> first | rfl | cases hpl)) (by
        have q := noComp.sw hc (some (.Subscript (.Name n p) a p1)) pos.line X.env
        exact q) (by cases e <;> rfl), evV_ok h I.offA I.sl I.slA h1 H nw_ex I.hs _ fun u H2 f t du => ?_⟩
      have J := I.step f t
      refine ⟨.ref c, k1, hk.loose J.offA J.slA h2 H2 nw_ex J.hs _ fun w H3 f3 t3 dw => ?_⟩
      have J3 := J.step f3 t3
      have k2' := f3.at (f.at k2 rfl k5) rfl k5
      refine ⟨c, xs, j, m, rfl, dw.int_inv, k2', by rw [k3.length]; exact h3, ?_⟩
      obtain ⟨c2, xs2, ds2, e2, m1, m2, m3, _⟩ := J3.ow i _ hq
      rw [k1] at m1
      cases m1
      cases e2
      rw [k2'] at m2
      cases m2
      have du3 : Da (rs (al (al B H) H2) H3) u d := du.ex (rs_mono (fun a _ h => al_B h) f3 fun a z => .inl (J.off a z))
      exact k _ _ _ (J3.wr hq k1 (Das.set du3 m m3)) (((Tr.ex f).trans (Tr.ex f3)).trans (Tr.wr hq k1))
    · cases hx
  · cases hx
theorem so_two {p p1 pt : Pos} {kt : Nat} {i j : Nat} {tg : Expr} (htg : isTg g.N sc tg (.two i j) = true) (hc : noComp e = true) (hw : ∀ env : Env, env.scope = sc → swappedStores [tg] e env = pure none) (h : SoundE g Φ sc e ir) :
    SoSt g Φ Ψ fu sc (.Assign [tg] e pos) (.two i j ir) := fun H0 B0 B S W σ H D out I hx k => wS.of fun X gs => by
  unfold exec at hx
  obtain ⟨d, h1, hx⟩ := obind hx
  obtain ⟨S', h2, h3⟩ := omap hx
  cases h3
  obtain ⟨x, y, kk, ppos, rfl, hx1, hx2⟩ := tupB_inv (show tupB g.N sc i j tg = true from htg)
  refine ⟨_, ps_asg (wA.pe gs.toGX) (pg_def gs htg) (by
    have q := noComp.sw hc (some (.Tuple [x, y] kk ppos)) pos.line X.env
    exact q) (hw _ gs.sc) rfl, h σ _ _ (nw g.wl H) B d W I.offA I.sl I.slA h1 H nw_ex I.hs _ fun v H2 f t dv => ?_⟩
  obtain ⟨σ', to, J, tr⟩ := (I.step f t).putT dv h2
  exact to.run (Ex.refl H2) (k _ _ _ J ((Tr.ex f).trans tr))
theorem so_iter {tg iter : Expr} {b : List Stmt} {t : Tg} {y : List SR} {sh : List Nat} (htg : isTg g.N sc tg t = true) (hp : plainE iter = true) (hb : SoSs g Φ Ψ fu sc b y) (hi : SoundI g Φ sc tg iter ir) : SoSt g Φ Ψ fu sc (.For tg iter b [] pos) (.iter t sh ir y) := fun H0 B0 B S W σ H D out I hx k => by
  unfold exec at hx
  obtain ⟨items, h1, h2⟩ := obind hx
  obtain ⟨B1, J⟩ := I.share (is := sh)
  exact so_loop htg hp hb J (hi σ _ _ (nw g.wl H) B1 items W J.offA J.sl J.slA h1) h2 (k.via Tr.share)
theorem so_iterW (m : g.mg "range" = none) {tg : Expr} {b : List Stmt} {y : List SR} {p0 p1 : Pos} (htg : isTg g.N sc tg (.one i) = true) (hg : glB sc "range" = true) (hp : plainE a = true) (hb : SoSs g Φ Ψ fu sc b y) (hi : SoundX g Φ Ψ sc a x) :
    SoSt g Φ Ψ fu sc (.For tg (.Call (.Name "range" p0) [a] [] p1) b [] pos) (.iterW i x y) := fun H0 B0 B S W σ H D out I hx k => by
  unfold exec at hx
  obtain ⟨⟨d, W1⟩, h1, h2⟩ := obind hx
  split at h2
  · rename_i n hd
    split at h2
    · rename_i hn
      obtain rfl : d = .int n := hd
      exact so_loop htg rfl hb I (itd_range1 hg m (by simp [plainE.star hp]) hn (es_cons I.offA (hi σ _ _ (nw g.wl H) B _ W W1 I.offA I.sl I.slA I.wv h1) es_nil)) h2 k
    · cases h2
  · cases h2
end
end SN
end
section
set_option Elab.async false
set_option linter.all false
set_option maxRecDepth 100000
set_option maxHeartbeats 8000000
/-! S16: statements from the syntax, sound. -/
namespace SN
open PySem L2 LamX
def notSD : Expr → Bool
  | .SetComp _ _ _ _ => false
  | .DictComp _ _ _ _ _ => false
  | _ => true
/-- the slots whose lists a def changes -/
def muts (N : List Str) : Nat → Stmt → List Nat
  | 0, _ => []
  | n + 1, st => match st with
    | .Expr (.Call (.Attribute (.Name x _) m _) _ _ _) _ => if m = "append" then (slot N x).toList else []
    | .Assign [.Subscript (.Name x _) _ _] _ _ => (slot N x).toList
    | .If _ a b _ => a.flatMap (muts N n) ++ b.flatMap (muts N n)
    | .For _ _ b _ _ => b.flatMap (muts N n)
    | .While _ b _ _ => b.flatMap (muts N n)
    | _ => []
/- the slots that a value may be made of -/
mutual
def vp : IR → List Nat
  | .var i => [i]
  | .bin _ a b => vp a ++ vp b
  | .neg a => vp a
  | .ite _ a b => vp a ++ vp b
  | .bi1 f a => if f.sc then [] else vp a
  | .fn _ args => vps args
  | .ix a _ => vp a
  | .sl a _ _ => vp a
  | .rev a => vp a
  | .tup args => vps args
  | .lst args => vps args
  | .lc src _ own elt => vpI src ++ (vp elt).filter (fun i => decide (i ∉ own))
  | .lcIf src _ own _ elt => vpI src ++ (vp elt).filter (fun i => decide (i ∉ own))
  | .lc2 src _ own src1 _ _ elt => vpI src ++ (vpI src1 ++ vp elt).filter (fun i => decide (i ∉ own))
  | .lc2If src _ own src1 _ _ _ elt => vpI src ++ (vpI src1 ++ vp elt).filter (fun i => decide (i ∉ own))
  | _ => []
def vps : List IR → List Nat
  | [] => []
  | a :: as => vp a ++ vps as
def vpI : IR → List Nat
  | .enum a => vp a
  | .tVal a => vp a
  | _ => []
end
mutual
def vpX : XW → List Nat
  | .pure e => vp e
  | .wfn _ args => vpXs args
  | .fn _ args => vpXs args
  | .bin _ a b => vpX a ++ vpX b
  | .cmp _ _ _ => []
  | .bi1 _ a => vpX a
  | .ix a _ => vpX a
  | .lcX src _ own elt => vpI src ++ (vpX elt).filter (fun i => decide (i ∉ own))
def vpXs : List XW → List Nat
  | [] => []
  | a :: as => vpX a ++ vpXs as
end
def isLc1 : IR → Bool
  | .lc _ _ _ _ => true
  | .lcIf _ _ _ _ _ => true
  | _ => false
def cellB (sc : Scope) (n : Str) : Bool := match sc.names.lookup n with
  | some .cell => true
  | _ => false
def isLC1 : Expr → Bool
  | .ListComp _ [⟨_, _, _, 0⟩] _ _ => true
  | _ => false
mutual
def cS (c : Cc) (wf : List (Str × Nat)) (ws : Nat) (mu : List Nat) : Nat → Scope → Stmt → Option SR
  | 0, _, _ => none
  | n + 1, sc, st => match st with
    | .Return (some e) _ => (cX c wf ws n sc e).map fun x => .ret ((vpX x).filter fun i => decide (i ∈ mu)) x
    | .Raise _ _ _ => some .rai
    | .If t a b _ => (cT c n sc t).bind fun z => (cSs c wf ws mu n sc a).bind fun x => (cSs c wf ws mu n sc b).map fun y => .ite z x y
    | .While t b [] _ => (cT c n sc t).bind fun z => (cSs c wf ws mu n sc b).map fun y => .whl z y
    | .For tg it b [] _ => (cTg c.N tg).bind fun t => if isTg c.N sc tg t && (plainE it && (!isTwo t || isTupE tg)) then (match cI c n sc (isTwo t) it with
        | some src => (cSs c wf ws mu n sc b).map fun y => .iter t ((vpI src).filter fun i => decide (i ∈ mu)) src y
        | none => match t, it with
          | .one i, .Call (.Name f _) [a] [] _ => if f = "range" then (if glB sc f && plainE a then (cX c wf ws n sc a).bind fun x => (cSs c wf ws mu n sc b).map fun y => .iterW i x y else none) else none
          | _, _ => none) else none
    | .AugAssign (.Name x _) .BitOr e _ => (slot c.N x).bind fun i => if locB sc x then (cE c n sc e).map fun ir => .aug i .BitOr ir else none
    | .Expr (.Call (.Attribute (.Name x _) m ap) [a] [] cp) _ => if m = "append" then (if okName x && (visB sc x && (plainE a && (ap.endLine == cp.line))) then (slot c.N x).bind fun i => (cE c n sc a).map fun ir => .app i ((vp ir).filter fun j => decide (j ∈ mu) && decide (j ≠ i)) ir else none) else none
    | .Expr e _ => if noComp e then (cE c n sc e).map .drop else none
    | .Assign [.Name x p] e _ => (slot c.N x).bind fun i => if locB sc x then (if notSD e && !swB sc x p e then
          (match cE c n sc e with
          | some ir => if decide (i ∈ mu) && fresh ir then some (.own i ((vp ir).filter fun j => decide (j ∈ mu) && decide (j ≠ i)) ir) else some (.set i ((vp ir).filter fun j => decide (j ∈ mu)) (.pure ir))
          | none => (cX c wf ws n sc e).map fun x => .set i ((vpX x).filter fun j => decide (j ∈ mu)) x)
        else if isLC1 e && swB sc x p e then (cE c n sc e).bind fun ir => if decide (i ∈ mu) then some (.own i ((vp ir).filter fun j => decide (j ∈ mu) && decide (j ≠ i)) ir) else some (.set i ((vp ir).filter fun j => decide (j ∈ mu)) (.pure ir))
        else none) else none
    | .Assign [.Tuple [.Name x px, .Name y py] kt pt] e _ => (slot c.N x).bind fun i => (slot c.N y).bind fun j => if isTg c.N sc (.Tuple [.Name x px, .Name y py] kt pt) (.two i j) && (noComp e && (!isTupE e || cellB sc x)) then (cE c n sc e).map fun ir => .two i j ir else none
    | .Assign [.Subscript (.Name x _) k _] e _ => (slot c.N x).bind fun i => if okName x && (visB sc x && (plainE k && noComp e)) then (cE c n sc k).bind fun irk => (cE c n sc e).map fun ir => .put i irk ir else none
    | _ => none
def cSs (c : Cc) (wf : List (Str × Nat)) (ws : Nat) (mu : List Nat) : Nat → Scope → List Stmt → Option (List SR)
  | 0, _, _ => none
  | _ + 1, _, [] => some []
  | n + 1, sc, a :: es => (cS c wf ws mu n sc a).bind fun x => (cSs c wf ws mu n sc es).map fun xs => x :: xs
end
section
variable {g : Gs} {Φ : Fns} {Ψ : Wns} {fu : Nat} {c : Cc} {sc : Scope} {wf : List (Str × Nat)} {ws : Nat} {mu : List Nat}
theorem tup_stores {sc : Scope} {x y : Str} {px py pt : Pos} {kt : Nat} {e : Expr} (h : (!isTupE e || cellB sc x) = true) : ∀ env : Env, env.scope = sc → swappedStores [.Tuple [.Name x px, .Name y py] kt pt] e env = pure none := fun env he => by
  cases e with
  | Tuple es k p =>
    have hc : cellB sc x = true := by simpa [isTupE] using h
    have hk : env.kindOf x = some .cell := by
      show env.scope.names.lookup x = _
      rw [he]
      unfold cellB at hc
      split at hc
      · assumption
      · cases hc
    have n1 : (env.kindOf x == some .local) = false := by rw [hk]; rfl
    unfold swappedStores
    simp only [List.length_cons, List.length_nil, List.head?_cons, Option.map_some, Option.getD_some, List.filterMap_cons, List.filterMap_nil, n1, Bool.false_and, Bool.false_eq_true, if_false]
    split
    · rfl
    · split
      · rfl
      · split <;> rfl
  | _ => rfl
theorem lc1_parts {e : Expr} (h : isLC1 e = true) : ∃ elt tg iter ifs scope pos, e = .ListComp elt [⟨tg, iter, ifs, 0⟩] scope pos := by
  unfold isLC1 at h
  split at h
  · exact ⟨_, _, _, _, _, _, rfl⟩
  · cases h
theorem swB.yes {sc : Scope} {y : Str} {py : Pos} {elt : Expr} {gs : List Comprehension} {scope : Scope} {p : Pos} {env : Env} (he : env.scope = sc) (hk : env.scope.kind = .function) (h : swB sc y py (.ListComp elt gs scope p) = true) (l : Nat) :
    env.scope.names.lookup y = some .local ∧ swapsWith (.ListComp elt gs scope p) (some (.Name y py)) l env = pure true := by
  have h' : ((match sc.names.lookup y with
    | some .local => true
    | _ => false) && (py.line == p.line) && !(scope.names.any fun (n, k) => n == y && (k == .local || k == .cell))) = true := h
  obtain ⟨h', h3⟩ := ba2 h'
  obtain ⟨h1, h2⟩ := ba2 h'
  have hl : env.scope.names.lookup y = some .local := by
    rw [he]
    split at h1
    · assumption
    · cases h1
  exact ⟨hl, sw_true hk hl h2 (by simpa using h3)⟩
/-- the one-clause comprehension's two readings -/
theorem an_lc (m : Mok c g Φ) {n : Nat} {i : Nat} {y : Str} {py spos : Pos} {e : Expr} {ir : IR} (h1 : isLC1 e = true) (hN : g.N[i]? = some y) (hs : swB sc y py e = true) (h : cE c n sc e = some ir) : AsgN g Φ sc (.Assign [.Name y py] e spos) i ir := by
  obtain ⟨elt, tg, iter, ifs, scope, pos, rfl⟩ := lc1_parts h1
  cases n with
  | zero => simp [cE] at h
  | succ n =>
    have ih := all_sound m n
    unfold cE at h
    simp only at h
    obtain ⟨t, h0, h⟩ := obind h
    split at h
    · rename_i hc
      obtain ⟨k1, hc⟩ := ba2 hc
      obtain ⟨k2, hc⟩ := ba2 hc
      obtain ⟨k3, hc⟩ := ba2 hc
      obtain ⟨k4, hc⟩ := ba2 hc
      obtain ⟨k5, k6⟩ := ba2 hc
      rw [← m.N] at k1 k3 k4
      have k4' : ∀ i ∈ t.slots, i ∈ (ownOf g.N scope).map (·.2) := fun i hi => of_decide_eq_true (List.all_eq_true.mp k4 i hi)
      have k6' : isTwo t = true → isTupE tg = true := fun q => by rw [q] at k6; simpa using k6
      obtain ⟨src, h1, h⟩ := obind h
      obtain ⟨x, h2, h⟩ := obind h
      have hi := ih.I _ _ _ _ _ k6' h1
      have he := ih.E _ _ _ h2
      match ifs, h, hs with
      | [], h, hs =>
        cases h
        rw [← m.N]
        intro X gs
        obtain ⟨yl, sw⟩ := swB.yes gs.sc gs.code hs spos.line
        have tg' := fun (s : Shared) (H : Hp) (C : Addr) (cl : List (Str × Addr)) (fp : List Addr) => pg_blk (s := s) (H := H) (C := C) (cl := cl) (fp := fp) gs.toGX k3
        refine ⟨_, ps_setLc (i := i) (own := ownOf g.N scope) (g := tgG X.K t) (tt := wTs g (relS scope sc) []) (te := wA g (relS scope sc) elt) gs.calm gs.nd (by rw [gs.N]; exact hN) yl sw (wI.pi gs.toGX) (blkOk_by (by rw [gs.N, gs.sc]; exact k1)) tg' (fun s H C cl fp => wTs.pts (gx_blk gs.toGX (fnKind_ok k2)) (Nat.zero_le 1)) (fun s H C cl fp => wA.pe (gx_blk gs.toGX (fnKind_ok k2))) (fun x => plainE.fold k5 _ x), fun σ ρ τ Ha B d W o s s2 h => ?_⟩
        unfold ev at h
        obtain ⟨items, e1, h⟩ := obind h
        obtain ⟨outs, e2, h⟩ := obind h
        unfold bigL at h
        split at h
        · rename_i hz
          cases h
          obtain ⟨hl, hat⟩ := mapM_at e2
          refine ⟨_, rfl, fun H1 e3 t1 Q q => lc_rd (Ws := fun _ => W) (outs := outs.map some) o k4' (hi σ ρ τ Ha B items W o s s2 e1) hz (by rw [List.length_map, hl]) (fun i d r hd hr => ?_) e3 t1 (by rw [fm_some]; exact q)⟩
          rw [List.getElem?_map] at hr
          obtain ⟨r', hr', rfl⟩ := omap hr
          have hf := hat i d r' hd hr'
          obtain ⟨ρ', f1, hf⟩ := obind hf
          obtain ⟨τ', f2, hf⟩ := obind hf
          refine turn_of (s.wipe _) (s2.wipe _) f1 f2 fun σ' Hx Bx o' q2 q3 => ⟨rfl, fun d' e => ?_⟩
          cases e
          exact he σ' ρ' τ' Hx Bx _ W o' q2 q3 hf
        · cases h
      | [cd], h, hs =>
        obtain ⟨z, h3, rfl⟩ := omap h
        have ht := (ih.T _ _ _ h3).1
        rw [← m.N]
        intro X gs
        obtain ⟨yl, sw⟩ := swB.yes gs.sc gs.code hs spos.line
        have tg' := fun (s : Shared) (H : Hp) (C : Addr) (cl : List (Str × Addr)) (fp : List Addr) => pg_blk (s := s) (H := H) (C := C) (cl := cl) (fp := fp) gs.toGX k3
        refine ⟨_, ps_setLc (i := i) (own := ownOf g.N scope) (g := tgG X.K t) (tt := wTs g (relS scope sc) [cd]) (te := wA g (relS scope sc) elt) gs.calm gs.nd (by rw [gs.N]; exact hN) yl sw (wI.pi gs.toGX) (blkOk_by (by rw [gs.N, gs.sc]; exact k1)) tg' (fun s H C cl fp => wTs.pts (gx_blk gs.toGX (fnKind_ok k2)) (Nat.le_refl 1)) (fun s H C cl fp => wA.pe (gx_blk gs.toGX (fnKind_ok k2))) (fun x => plainE.fold k5 _ x), fun σ ρ τ Ha B d W o s s2 h => ?_⟩
        unfold ev at h
        obtain ⟨items, e1, h⟩ := obind h
        obtain ⟨outs, e2, h⟩ := obind h
        unfold bigL at h
        split at h
        · rename_i hz
          cases h
          obtain ⟨hl, hat⟩ := mapM_at e2
          refine ⟨_, rfl, fun H1 e3 t1 Q q => lc_rd (Ws := fun _ => W) (outs := outs) o k4' (hi σ ρ τ Ha B items W o s s2 e1) hz hl (fun i d r hd hr => ?_) e3 t1 q⟩
          have hf := hat i d r hd hr
          obtain ⟨ρ', f1, hf⟩ := obind hf
          obtain ⟨τ', f2, hf⟩ := obind hf
          obtain ⟨p, f3, hf⟩ := obind hf
          refine turn_of (s.wipe _) (s2.wipe _) f1 f2 fun σ' Hx Bx o' q2 q3 => ?_
          have et : EvT g (relS scope sc) σ' Hx W cd p W := ht σ' τ' Hx Bx p W o' q3 f3
          cases p with
          | true =>
            obtain ⟨d', f4, rfl⟩ := omap hf
            refine ⟨et, fun d'' e => ?_⟩
            cases e
            exact he σ' ρ' τ' Hx Bx _ W o' q2 q3 f4
          | false =>
            cases hf
            exact ⟨et, fun d'' e => by cases e⟩
        · cases h
      | _ :: _ :: _, h, hs => cases h
    · cases h
structure AllSt (c : Cc) (wf : List (Str × Nat)) (ws : Nat) (mu : List Nat) (g : Gs) (Φ : Fns) (Ψ : Wns) (fu : Nat) (n : Nat) : Prop where
  E : ∀ sc e x, cS c wf ws mu n sc e = some x → SoSt g Φ Ψ fu sc e x
  S : ∀ sc es xs, cSs c wf ws mu n sc es = some xs → SoSs g Φ Ψ fu sc es xs
theorem swno {x : Str} {p : Pos} {e : Expr} {l : Nat} (h : (notSD e && !swB sc x p e) = true) : ∀ env : Env, env.scope = sc → env.scope.kind = .function → swapsWith e (some (.Name x p)) l env = pure false := fun env he hk => by
  obtain ⟨h1, h2⟩ := ba2 h
  exact swB.no (fun a b c d z => by rw [z] at h1; cases h1) (fun a b c d f z => by rw [z] at h1; cases h1) he hk (by simpa using h2) l
theorem so_pure {e : Expr} {ir : IR} (h : SoundE g Φ sc e ir) : SoundX g Φ Ψ sc e (.pure ir) := fun σ ρ τ Ha B d W W' o s s2 wv k => by
  unfold evX at k
  obtain ⟨d', k1, k2⟩ := omap k
  cases k2
  exact evV_ok h o s s2 k1
theorem allSt (m : Mok c g Φ) (k : Wok wf ws g Ψ) : ∀ n, AllSt c wf ws mu g Φ Ψ fu n
  | 0 => ⟨fun _ _ _ h => by simp [cS] at h, fun _ _ _ h => by simp [cSs] at h⟩
  | n + 1 => by
    have ih := allSt m k n
    have iE := all_sound m n
    have iX := allX m k n
    refine ⟨fun sc st sr h => ?_, fun sc es xs h => ?_⟩
    · unfold cS at h
      split at h
      · obtain ⟨x, h1, rfl⟩ := omap h
        exact so_ret (iX.E _ _ _ h1)
      · cases h; exact so_rai
      · obtain ⟨z, h1, h⟩ := obind h
        obtain ⟨x, h2, h⟩ := obind h
        obtain ⟨y, h3, rfl⟩ := omap h
        exact so_if (iE.T _ _ _ h1).1 (ih.S _ _ _ h2) (ih.S _ _ _ h3)
      · obtain ⟨z, h1, h⟩ := obind h
        obtain ⟨y, h3, rfl⟩ := omap h
        exact so_while (iE.T _ _ _ h1).1 (ih.S _ _ _ h3)
      · obtain ⟨t, h0, h⟩ := obind h
        split at h
        · rename_i hc
          obtain ⟨k1, hc⟩ := ba2 hc
          obtain ⟨k2, k3⟩ := ba2 hc
          rw [← m.N] at k1
          split at h
          · rename_i src h1
            obtain ⟨y, h2, rfl⟩ := omap h
            exact so_iter k1 k2 (ih.S _ _ _ h2) (iE.I _ _ _ _ _ (fun q => by rw [q] at k3; simpa using k3) h1)
          · split at h
            · split at h
              · rename_i hf
                subst hf
                split at h
                · rename_i hg
                  obtain ⟨hg1, hg2⟩ := ba2 hg
                  obtain ⟨x, h1, h⟩ := obind h
                  obtain ⟨y, h2, rfl⟩ := omap h
                  exact so_iterW m.rng k1 hg1 hg2 (ih.S _ _ _ h2) (iX.E _ _ _ h1)
                · cases h
              · cases h
            · cases h
        · cases h
      · obtain ⟨i, h0, h⟩ := obind h
        split at h
        · obtain ⟨ir, h1, rfl⟩ := omap h
          exact so_aug (by rw [m.N]; exact slot_ok h0) (by assumption) (iE.E _ _ _ h1)
        · cases h
      · split at h
        · rename_i hm
          subst hm
          split at h
          · rename_i hc
            obtain ⟨k1, hc⟩ := ba2 hc
            obtain ⟨k2, hc⟩ := ba2 hc
            obtain ⟨k3, k4⟩ := ba2 hc
            obtain ⟨i, h0, h⟩ := obind h
            obtain ⟨ir, h1, rfl⟩ := omap h
            exact so_app (by rw [m.N]; exact slot_ok h0) k2 k1 k3 k4 (iE.E _ _ _ h1)
          · cases h
        · cases h
      · split at h
        · obtain ⟨ir, h1, rfl⟩ := omap h
          exact so_drop (by assumption) (iE.E _ _ _ h1)
        · cases h
      · obtain ⟨i, h0, h⟩ := obind h
        have hN := slot_ok h0
        rw [← m.N] at hN
        split at h
        · rename_i hl
          split at h
          · rename_i hs
            split at h
            · rename_i ir h1
              split at h
              · cases h
                exact so_own hN hl (swno hs) (iE.E2 _ _ _ h1).2
              · cases h
                exact so_set hN hl (swno hs) (so_pure (iE.E _ _ _ h1))
            · obtain ⟨x, h1, rfl⟩ := omap h
              exact so_set hN hl (swno hs) (iX.E _ _ _ h1)
          · split at h
            · rename_i hs
              obtain ⟨k1, k2⟩ := ba2 hs
              obtain ⟨ir, h1, h⟩ := obind h
              split at h
              · cases h
                exact so_ownA (an_lc m k1 hN k2 h1)
              · cases h
                exact so_setA (an_lc m k1 hN k2 h1)
            · cases h
        · cases h
      · obtain ⟨i, h0, h⟩ := obind h
        obtain ⟨j, h0', h⟩ := obind h
        split at h
        · rename_i hc
          obtain ⟨k1, hc⟩ := ba2 hc
          obtain ⟨k2, k3⟩ := ba2 hc
          rw [← m.N] at k1
          obtain ⟨ir, h1, rfl⟩ := omap h
          exact so_two (p := ⟨0, 0, 0, 0⟩) (p1 := ⟨0, 0, 0, 0⟩) (pt := ⟨0, 0, 0, 0⟩) (kt := 0) k1 k2 (tup_stores k3) (iE.E _ _ _ h1)
        · cases h
      · obtain ⟨i, h0, h⟩ := obind h
        split at h
        · rename_i hc
          obtain ⟨k1, hc⟩ := ba2 hc
          obtain ⟨k2, hc⟩ := ba2 hc
          obtain ⟨k3, k4⟩ := ba2 hc
          obtain ⟨irk, h1, h⟩ := obind h
          obtain ⟨ir, h2, rfl⟩ := omap h
          exact so_put (by rw [m.N]; exact slot_ok h0) k2 k1 k4 (iE.E _ _ _ h2) (iE.E _ _ _ h1) k3
        · cases h
      · cases h
    · unfold cSs at h
      match es, h with
      | [], h =>
        cases h
        exact ss_nil
      | a :: es, h =>
        obtain ⟨x, h1, h⟩ := obind h
        obtain ⟨xs, h2, rfl⟩ := omap h
        exact ss_cons (ih.E _ _ _ h1) (ih.S _ _ _ h2)
end
end SN
end
section
set_option Elab.async false
set_option linter.all false
set_option maxRecDepth 100000
set_option maxHeartbeats 8000000
/-! S17: a def of the text keeps the promise that its body computes. -/
namespace SN
open PySem L2 LamX PyProof.Rows
section
variable {P : Program} {w : World} {K : PySem.W.Frag} {mg : Str → Option Value} {base : Heap} {x qual : Str} {params : Arguments} {body : List Stmt} {scope : Scope} {f : Addr} {fd : FuncData} {N ps : List Str} {k : Nat} {sp : Sp}
/-- the rule for a def where no guard runs -/
theorem fnG_of (F : FunD K x qual params body scope [] [] f fd) (S : FnScope N ps scope) (ln : ∀ vs H Q, sp vs H Q E0 → vs.length = ps.length)
    (hb : ∀ (cv : Value) (A : Around) (out : List Env) (s : Shared) (H : Hp) (vs : List V) (Q : VK), Room k (A.deeper (envOfC qual scope s.heap.objs.size f cv)) → A.guards = some [] → sp vs H Q E0 →
      ∃ t, PSs (cxOf CX0 P w K mg base N qual scope f cv A out s H E0).nox body t ∧ t { nx := fun _ H' => Q .non H', rt := Q } (start N vs) H) : FnG P w K mg base (k + 1) f fd ps sp := by
  obtain ⟨c1, c2, c3, c4, c5, c6, c7, cv, c8, c9, rfl, lk, cd, _, _⟩ := F.ex
  refine ⟨ln, fun A out s H ar us vs Q rm gd e0 bd rv q0 => ?_⟩
  have hin : K.In s.heap := e0.mod.kin.keeps fun b o e => (e0.bs b o e).1
  have nol : s.heap.NoLimit := e0.mod.nolimit.keeps fun b o e => (e0.bs b o e).1
  have vl := ln vs H Q q0
  have kd : ∀ z ∈ ps.zip us, scope.names.lookup z.1 = some .local ∨ (scope.names.lookup z.1 = some .cell ∧ ((cellsFrom (s.heap.objs.size + 1) scope.names []).lookup z.1).isSome = true) := fun z hz =>
    (S.par z.1 (List.of_mem_zip (a := z.1) (b := z.2) hz).1).imp id fun q => ⟨q, PySem.W.cellsFrom_some _ _ _ (.inl q)⟩
  refine codeAny_call_function rm.depth (hin _ _ lk) rfl S.co S.gen rfl (PySem.W.codeRec_of hin cd) (bd _ _ _ _ (wpAny_newFunctionEnv_cells S.kind kd fun env he s1 y => ?_))
  subst he
  refine ⟨nol.keeps y.toInCall.keep, codeAny_func ?_⟩
  obtain ⟨t, ht, hq⟩ := hb cv A out s H vs Q (rm.deeper _) gd q0
  have I := inv_start (CX := CX0) (E := E0) (P := P) (w := w) S rm.hd e0 vl rv y
  refine wpAny_mono (ht.nox.run [] s1 (start N vs) H _ I hq) (fun fl s' hs => ?_) fun e s' hs => hs
  match fl, hs with
  | .ret u, hs =>
    obtain ⟨v, σ', H', J, r2, q⟩ := hs
    exact ⟨v, H', J.os, J.bare, J.base, J.hok, r2, q⟩
  | .next, hs =>
    obtain ⟨σ', H', J, q⟩ := hs
    exact ⟨.non, H', J.os, J.bare, J.base, J.hok, rfl, q⟩
  | .brk, hs =>
    obtain ⟨_, _, _, q⟩ := hs
    exact q.elim
  | .cont, hs =>
    obtain ⟨_, _, _, q⟩ := hs
    exact q.elim
end

/-! ### what a def computes -/
def st0 (m : Nat) (ds : List (Option PD)) : PSt := ⟨ds ++ List.replicate (m - ds.length) none, List.replicate m none⟩
def endD : Out → PD × WT
  | .rt d W => (d, W)
  | .nx _ W => (.none, W)
def noW : Wns := fun _ => none
/-- m: the number of slots -/
def runD (Φ : Fns) (fu m : Nat) (srs : List SR) (ds : List PD) : Option PD := (execs Φ noW 1000 fu srs (st0 m (ds.map some)) []).map fun o => (endD o).1
def runW (Φ : Fns) (Ψ : Wns) (fu m : Nat) (srs : List SR) (ds : List PD) (W : WT) : Option (PD × WT) := (execs Φ Ψ 0 fu srs (st0 m (none :: ds.map some)) W).map endD
theorem getR_app {l r : Rho} {i : Nat} {d : PD} (h : getR (l ++ r) i = some d) (hr : ∀ j, getR r j = none) : getR l i = some d := by
  unfold getR at h ⊢
  by_cases hl : i < l.length
  · rw [List.getElem?_append_left hl] at h
    exact h
  · rw [List.getElem?_append_right (by omega)] at h
    have := hr (i - l.length)
    unfold getR at this
    rw [h] at this
    cases this
theorem getR_rep (m j : Nat) : getR (List.replicate m none) j = none := by
  unfold getR
  rw [List.getElem?_replicate]
  split <;> rfl
theorem start_len {N : List Str} {vs : List V} (h : vs.length ≤ N.length) : (L2.start N vs).length = N.length := by
  unfold L2.start
  rw [List.length_append, List.length_map, List.length_replicate]
  omega
theorem start_at {N : List Str} {vs : List V} {i : Nat} {v : V} (h : vs[i]? = some v) : (L2.start N vs)[i]? = some (some v) := by
  unfold L2.start
  have hl : i < vs.length := (List.getElem?_eq_some_iff.mp h).1
  rw [List.getElem?_append_left (by simpa using hl), List.getElem?_map, h]
  rfl
theorem st0_len {m : Nat} {l : List (Option PD)} (h : l.length ≤ m) : (st0 m l).sh.length = m ∧ (st0 m l).ow.length = m := by
  refine ⟨?_, List.length_replicate⟩
  show (l ++ List.replicate (m - l.length) none).length = m
  rw [List.length_append, List.length_replicate]
  omega
section
variable {g : Gs} {Φ : Fns} {c : Cc} {x : Str} {params : Arguments} {body : List Stmt} {scope : Scope} {f : Addr} {fd : FuncData} {ps : List Str} {mu : List Nat} {n fu : Nat} {srs : List SR}
/-- the context of a def's body -/
theorem gs_def {cv : Value} {A : Around} {out : List Env} {s : Shared} {H : Hp} (S : FnScope g.N ps scope) (rm : Room g.k (A.deeper (envOfC x scope s.heap.objs.size f cv))) (gd : A.guards = some []) : GS g scope (cxOf CX0 g.P g.w g.K g.mg g.base g.N x scope f cv A out s H E0).nox :=
  ⟨⟨rfl, rfl, rfl, rfl, rfl, rfl, S.nd, rfl, rfl, rm, S.kind, gd, rfl⟩, fun _ => rfl⟩
theorem fn_plain (F : FunD g.K x x params body scope [] [] f fd) (S : FnScope g.N ps scope) (m : Mok c g Φ) (hw : g.wl = none) (hws : g.ws = 1000) (hc : cSs c [] 1000 mu n scope body = some srs) :
    FnG g.P g.w g.K g.mg g.base (g.k + 1) f fd ps (spD g.T (runD Φ fu g.N.length srs) ps.length) := by
  have hpl : ps.length ≤ g.N.length := by
    have := congrArg List.length S.pre
    rw [List.length_take] at this
    omega
  refine fnG_of F S (fun vs H Q q => q.1) fun cv A out s H vs Q rm gd q => ?_
  obtain ⟨hl, B, ds, d, hs, ht, hd, q⟩ := q
  refine ⟨_, wSs.pss (gs_def S rm gd), ?_⟩
  have k : Wok [] 1000 g noW := ⟨hws, fun z => absurd rfl z, fun x ar sem z => by cases z⟩
  unfold runD at hs
  obtain ⟨o, h1, h2⟩ := omap hs
  have el : (ds.map some).length = vs.length := by rw [List.length_map, hd.length]
  have I : SI g H B B (st0 g.N.length (ds.map some)) [] (start g.N vs) H := by
    obtain ⟨z1, z2⟩ := st0_len (m := g.N.length) (l := ds.map some) (by omega)
    have nw : ∀ a, g.wl = some a → False := fun a z => by
      rw [hw] at z
      cases z
    refine ⟨by rw [start_len (by omega), z1], by rw [z1, z2], ⟨ht, fun a z => (nw a z).elim⟩, Ex.refl H, fun a h _ => al_B h, fun a z => (nw a z).elim, fun a z => (nw a z).elim, fun i d' h => ?_, fun i d' h => ?_⟩
    · have h' := getR_app (show getR (ds.map some ++ List.replicate (g.N.length - (ds.map some).length) none) i = some d' from h) (getR_rep _)
      have h2 : ds[i]? = some d' := by
        unfold getR at h'
        rw [List.getElem?_map] at h'
        cases q : ds[i]? with
        | none => rw [q] at h'; cases h'
        | some u => rw [q] at h'; simpa using h'
      obtain ⟨v, hv, dv⟩ := hd.get h2
      exact ⟨v, start_at hv, dv⟩
    · rw [show getR (st0 g.N.length (ds.map some)).ow i = none from getR_rep _ _] at h
      cases h
  rw [← hws] at h1
  refine (allSt (mu := mu) m k n).S _ _ _ hc H B B _ [] _ H _ o I h1 ?_
  cases o with
  | nx S' W' =>
    cases h2
    exact fun B' σ' H' J tr => q .non H' (by rw [← hw]; exact J.ex) J.hs.tabs .non
  | rt d' W' =>
    cases h2
    exact fun v H' ex hs dv => q v H' (by rw [← hw]; exact ex) hs.tabs dv
theorem fn_well {Ψ : Wns} {wf : List (Str × Nat)} (F : FunD g.K x x params body scope [] [] f fd) (S : FnScope g.N ps scope) (m : ∀ a, Mok c { g with wl := some a } Φ) (k : ∀ a, Wok wf 0 { g with wl := some a } Ψ) (hps : 0 < ps.length) (hws : g.ws = 0) (hc : cSs c wf 0 mu n scope body = some srs) :
    FnG g.P g.w g.K g.mg g.base (g.k + 1) f fd ps (spW g.T (runW Φ Ψ fu g.N.length srs) (ps.length - 1)) := by
  have hpl : ps.length ≤ g.N.length := by
    have := congrArg List.length S.pre
    rw [List.length_take] at this
    omega
  refine fnG_of F S (fun vs H Q q => ?_) fun cv A out s H vs Q rm gd q => ?_
  · obtain ⟨a, us, rfl, h, _⟩ := q
    rw [List.length_cons]
    omega
  obtain ⟨a, us, rfl, hl, B, ds, W, d, W2, hs, ht, ha, hB, hd, q⟩ := q
  have gs : GS { g with wl := some a } scope (cxOf CX0 g.P g.w g.K g.mg g.base g.N x scope f cv A out s H E0).nox := gs_def (g := { g with wl := some a }) S rm gd
  refine ⟨_, wSs.pss gs, ?_⟩
  unfold runW at hs
  obtain ⟨o, h1, h2⟩ := omap hs
  have el : (ds.map some).length = us.length := by rw [List.length_map, hd.length]
  have I : SI { g with wl := some a } H B B (st0 g.N.length (none :: ds.map some)) W (start g.N (.ref a :: us)) H := by
    obtain ⟨z1, z2⟩ := st0_len (m := g.N.length) (l := none :: ds.map some) (by rw [List.length_cons]; omega)
    have isa : ∀ b, some a = some b → b = a := fun b z => (Option.some.inj z).symm
    refine ⟨by rw [start_len (by rw [List.length_cons]; omega), z1], by rw [z1, z2], ⟨ht, fun b z => by rw [isa b z]; exact ha⟩, Ex.refl H, fun b h _ => al_B h, fun b z => by rw [isa b z]; exact hB, fun b z => ?_, fun i d' h => ?_, fun i d' h => ?_⟩
    · rw [isa b z, show ({ g with wl := some a } : Gs).ws = 0 from hws]
      exact start_at rfl
    · have h' := getR_app (show getR ((none :: ds.map some) ++ List.replicate (g.N.length - (none :: ds.map some).length) none) i = some d' from h) (getR_rep _)
      cases i with
      | zero => simp [getR] at h'
      | succ i =>
        have h2 : ds[i]? = some d' := by
          unfold getR at h'
          rw [List.getElem?_cons_succ, List.getElem?_map] at h'
          cases q : ds[i]? with
          | none => rw [q] at h'; cases h'
          | some u => rw [q] at h'; simpa using h'
        obtain ⟨v, hv, dv⟩ := hd.get h2
        exact ⟨v, start_at (by simpa using hv), dv⟩
    · rw [show getR (st0 g.N.length (none :: ds.map some)).ow i = none from getR_rep _ _] at h
      cases h
  rw [← show ({ g with wl := some a } : Gs).ws = 0 from hws] at h1
  refine (allSt (mu := mu) (m a) (k a) n).S _ _ _ hc H B B _ W _ H _ o I h1 ?_
  cases o with
  | nx S' W' =>
    cases h2
    exact fun B' σ' H' J tr => q .non H' J.ex J.hs.tabs (J.hs.well a rfl) .non
  | rt d' W' =>
    cases h2
    exact fun v H' ex hs dv => q v H' ex hs.tabs (hs.well a rfl) dv
end
end SN
end
section
set_option Elab.async false
set_option linter.all false
set_option maxRecDepth 100000
set_option maxHeartbeats 8000000
/-! S18: the program's text by places: names, slots, the small language's form of each def. -/
namespace SN
open PySem L2 LamX
abbrev prg : Program := PySem.Challenge.pw_seenasone_k23_whole_one_of_three_kinds
def topS (i : Nat) : Stmt := prg.main.body.getD i (.Pass ⟨0, 0, 0, 0⟩)
def defName (s : Stmt) : Str := match s with
  | .FunctionDef x _ _ _ _ _ _ _ _ _ => x
  | _ => ""
def isDef (s : Stmt) : Bool := match s with
  | .FunctionDef _ _ _ _ _ _ _ _ _ _ => true
  | _ => false
def parNames (s : Stmt) : List Str := (defArgs s).args.map fun a => a.arg
def ownNames (sc : Scope) : List Str := sc.names.filterMap fun y => match y.2 with
  | .local => if y.1 = ".0" then none else some y.1
  | .cell => if y.1 = ".0" then none else some y.1
  | _ => none
mutual
def scE : Nat → Expr → List Scope
  | 0, _ => []
  | n + 1, e => match e with
    | .BoolOp _ vs _ => vs.flatMap (scE n)
    | .BinOp a _ b _ => scE n a ++ scE n b
    | .UnaryOp _ a _ => scE n a
    | .IfExp a b c _ => scE n a ++ (scE n b ++ scE n c)
    | .Compare a _ cs _ => scE n a ++ cs.flatMap (scE n)
    | .Call f args _ _ => scE n f ++ args.flatMap (scE n)
    | .Subscript a b _ => scE n a ++ scE n b
    | .Attribute a _ _ => scE n a
    | .Tuple es _ _ => es.flatMap (scE n)
    | .List es _ => es.flatMap (scE n)
    | .ListComp elt gens scope _ => scope :: (scE n elt ++ gens.flatMap (scG n))
    | _ => []
def scG : Nat → Comprehension → List Scope
  | 0, _ => []
  | n + 1, g => scE n g.iter ++ g.ifs.flatMap (scE n)
end
def scS : Nat → Stmt → List Scope
  | 0, _ => []
  | n + 1, s => match s with
    | .Return (some e) _ => scE 40 e
    | .Assign ts e _ => scE 40 e ++ ts.flatMap (scE 40)
    | .AugAssign t _ e _ => scE 40 e
    | .Expr e _ => scE 40 e
    | .If c a b _ => scE 40 c ++ (a.flatMap (scS n) ++ b.flatMap (scS n))
    | .For _ e a _ _ => scE 40 e ++ a.flatMap (scS n)
    | .While c a _ _ => scE 40 c ++ a.flatMap (scS n)
    | _ => []
/-- the slots of a def: parameters, its other names, its comprehensions' names -/
def slN (s : Stmt) : List Str := (parNames s ++ (ownNames (defScope s) ++ ((defBody s).flatMap (scS 20)).flatMap ownNames)).eraseDups
def muN (s : Stmt) : List Nat := (defBody s).flatMap (muts (slN s) 20)
def wNames : List Str := ["_law_draw", "_law_row", "_law_grown", "_law_loose", "_law_numbered", "_law_finished", "_law_base", "_law_crossed", "_law_line", "_law_web", "_law_pairs"]
def isW (s : Stmt) : Bool := decide (defName s ∈ wNames)
def defsAt : List Nat := (List.range prg.main.body.length).filter fun i => isDef (topS i)
def fnsT : List (Str × Nat) := (defsAt.filter fun i => !isW (topS i)).map fun i => (defName (topS i), (parNames (topS i)).length)
def wfT : List (Str × Nat) := (defsAt.filter fun i => isW (topS i)).map fun i => (defName (topS i), (parNames (topS i)).length - 1)
def giT : List (Str × Int) := [("MOST_THINGS", 12), ("MOST_COLOUR", 9)]
def ccOf (s : Stmt) : Cc := ⟨slN s, giT, fnsT⟩
def srOf (i : Nat) : Option (List SR) := if isW (topS i) then cSs (ccOf (topS i)) wfT 0 (muN (topS i)) 60 (defScope (topS i)) (defBody (topS i)) else cSs (ccOf (topS i)) [] 1000 (muN (topS i)) 60 (defScope (topS i)) (defBody (topS i))
end SN
end
section
set_option Elab.async false
set_option linter.all false
set_option maxRecDepth 100000
set_option maxHeartbeats 8000000
/-! S19: a draw from the well. -/
namespace SN
open PySem L2 LamX PyProof.Rows
def drawS : List PD → WT → Option (PD × WT)
  | [.int n], W => if 0 < n then (match W.getLast? with
    | none => some (.int 0, W)
    | some x => some (.int (x % n), W.dropLast)) else none
  | _, _ => none
theorem Hs.lst {T : List (Addr × Str)} {H : Hp} {a : Addr} {ys : List V} {W : WT} (t : Tabs T H) (h : H a = some (.lst (W.map .int))) : Tabs T (upd H a (.lst ys)) := tabs_upd t (.inr (.inl ⟨_, h⟩))
theorem ints_dp {K : PySem.W.Frag} {H : Hp} : ∀ W : List Int, DpAll K H (W.map V.int) (W.map PySem.PyData.int)
  | [] => .nil
  | x :: W => .cons (.int x) (ints_dp W)
theorem lay_ints : ∀ W : List Int, PyData.canLayAll0 (W.map PySem.PyData.int) = true
  | [] => rfl
  | x :: W => by
    rw [List.map_cons]
    show (PyData.canLay0 (.int x) && PyData.canLayAll0 (W.map PySem.PyData.int)) = true
    rw [lay_ints W]; rfl
theorem dep_ints : ∀ W : List Int, PyData.depthAll (W.map PySem.PyData.int) = 0
  | [] => rfl
  | x :: W => by
    rw [List.map_cons]
    show max (PyData.depth (.int x)) (PyData.depthAll (W.map PySem.PyData.int)) = 0
    rw [dep_ints W]; rfl
theorem shaped_ints (W : List Int) : SeqAt.shaped (.list (W.map PySem.PyData.int)) = true := by
  show (PyData.canLayAll0 (W.map PySem.PyData.int) && decide (PyData.depthAll (W.map PySem.PyData.int) + 1 ≤ 64)) = true
  rw [lay_ints, dep_ints]; rfl
theorem eqv_nil (W : List Int) : PyData.eqv (.list (W.map PySem.PyData.int)) (.list []) = W.isEmpty := by
  cases W <;> rfl
section
variable {g : Gs} {Φ : Fns} {c : Cc} {f : Addr} {fd : FuncData} {params : Arguments}
theorem draw_ok (F : FunD g.K "_law_draw" "_law_draw" (defArgs (topS 65)) (defBody (topS 65)) (defScope (topS 65)) [] [] f fd) (mi : g.mg "int" = none) (hN : g.N = (["_law_well_here", "_law_many"] : List Str)) : FnG g.P g.w g.K g.mg g.base (g.k + 1) f fd ["_law_well_here", "_law_many"] (spW g.T drawS 1) := by
  have S : FnScope g.N ["_law_well_here", "_law_many"] (defScope (topS 65)) := by
    rw [hN]
    exact ⟨rfl, rfl, rfl, by decide +kernel, rfl, by decide +kernel, by decide +kernel⟩
  refine fnG_of F S (fun vs H Q q => ?_) fun cv A out s H vs Q rm gd q => ?_
  · obtain ⟨a, us, rfl, h, _⟩ := q
    rw [List.length_cons, h]; rfl
  obtain ⟨a, us, rfl, hl, B, ds, W, d, W2, hs, ht, ha, hB, hd, q⟩ := q
  have gs := gs_def (g := g) (x := "_law_draw") (cv := cv) (out := out) (s := s) (H := H) (f := f) (S := S) rm gd
  have hN0 : (cxOf CX0 g.P g.w g.K g.mg g.base g.N "_law_draw" (defScope (topS 65)) f cv A out s H E0).nox.N[0]? = some ("_law_well_here" : Str) := by rw [gs.N, hN]; rfl
  have hN1 : (cxOf CX0 g.P g.w g.K g.mg g.base g.N "_law_draw" (defScope (topS 65)) f cv A out s H E0).nox.N[1]? = some ("_law_many" : Str) := by rw [gs.N, hN]; rfl
  have mi' : (cxOf CX0 g.P g.w g.K g.mg g.base g.N "_law_draw" (defScope (topS 65)) f cv A out s H E0).nox.mg "int" = none := mi
  refine ⟨_, pss_cons (ps_if (pt_cmpR (op_eqD gs.u64) (pe_var (i := 0) hN0 (.inl rfl)) (pe_lst pa_nil) rfl) (pss_one (ps_ret pe_int)) pss_nil)
    (pss_one (ps_ret (pe_op op_mod (pe_callTy call_int1 rfl mi' (by decide +kernel) (pa_cons (pe_bm0 PySem.F.plainAttrs_list PySem.F.slot_list_pop PySem.F.type_list_pop mt_pop (pe_var (i := 0) hN0 (.inl rfl))) pa_nil)) (pe_var (i := 1) hN1 (.inl rfl))))), ?_⟩
  have hds : ∃ n, ds = [.int n] ∧ 0 < n := by
    unfold drawS at hs
    split at hs
    · split at hs
      · exact ⟨_, rfl, by assumption⟩
      · cases hs
    · cases hs
  obtain ⟨n, rfl, hn⟩ := hds
  obtain ⟨u, rfl, du⟩ := das1 hd
  rw [du.int_inv]
  have h0 : (L2.start g.N [.ref a, .int n])[0]? = some (some (V.ref a)) := start_at rfl
  have h1 : (L2.start g.N [.ref a, .int n])[1]? = some (some (V.int n)) := start_at rfl
  refine ⟨.ref a, h0, by show 0 ≤ sizeLine; exact Nat.zero_le _, fun l hl => ?_⟩
  have hal : l ≠ a := fun z => by rw [z, ha] at hl; cases hl
  have ha2 : upd H l (.lst []) a = some (.lst (W.map .int)) := by rw [upd_ne (Ne.symm hal)]; exact ha
  have t2 : Tabs g.T (upd H l (.lst [])) := tabs_new ht hl
  refine ⟨_, .list [], .lst (SqL.of ha2) (ints_dp W), .lst (SqL.of upd_same) .nil, shaped_ints W, rfl, _, rfl, ?_⟩
  rw [eqv_nil]
  simp only [drawS, if_pos hn] at hs
  cases W with
  | nil =>
    cases hs
    exact iteT (q (.int 0) _ (ex_new' hl).weak t2 ha2 (.int 0))
  | cons x W =>
    refine iteF ?_
    have hlast : ∃ y, (x :: W).getLast? = some y := ⟨_, List.getLast?_eq_some_getLast (by simp)⟩
    obtain ⟨y, hy⟩ := hlast
    rw [hy] at hs
    cases hs
    have hix : ((x :: W).map V.int)[((x :: W).map V.int).length - 1]? = some (.int y) := by
      rw [List.getLast?_eq_getElem?] at hy
      rw [List.getElem?_map, List.length_map, hy]; rfl
    refine ⟨.ref a, h0, .inl ⟨rfl, _, SqL.of ha2⟩, a, _, .int y, rfl, rfl, ha2, hix, .inl ⟨y, rfl, .int n, h1, y, n, rfl, rfl, hn, ?_⟩⟩
    refine q _ _ (fun b nb hb => ?_) (Hs.lst t2 ha2) ?_ (.int _)
    · have hba : b ≠ a := fun z => hb (by rw [z])
      have hbl : b ≠ l := fun z => by rw [z, hl] at nb; cases nb
      rw [upd_ne hba, upd_ne hbl]
    · rw [upd_same, ← List.map_dropLast]
end
end SN
end
section
set_option Elab.async false
set_option linter.all false
set_option maxRecDepth 100000
set_option maxHeartbeats 8000000
/-! S20: sorting by key: the plain sort, the comparing of keys. -/
namespace SN
open PySem L2 LamX PyProof.Rows

/-! ### a plain stable sort -/
section
variable {α β : Type} {lt : α → α → Bool}
def stIns (lt : α → α → Bool) (x : α) : List α → List α
  | [] => [x]
  | y :: l => if lt y x then y :: stIns lt x l else x :: y :: l
def stSort (lt : α → α → Bool) : List α → List α
  | [] => []
  | x :: l => stIns lt x (stSort lt l)
theorem stIns_perm (x : α) : ∀ l : List α, (stIns lt x l).Perm (x :: l)
  | [] => .refl _
  | y :: l => by
    unfold stIns
    split
    · exact ((stIns_perm x l).cons y).trans (List.Perm.swap x y l)
    · exact .refl _
theorem stSort_perm : ∀ l : List α, (stSort lt l).Perm l
  | [] => .refl _
  | x :: l => (stIns_perm x _).trans ((stSort_perm l).cons x)
theorem stIns_cls (O : SrtO.Swo lt) (x z : α) : ∀ l : List α, (stIns lt x l).filter (SrtO.eqv lt z) = (x :: l).filter (SrtO.eqv lt z)
  | [] => rfl
  | y :: l => by
    unfold stIns
    split
    · rename_i h
      rw [List.filter_cons, stIns_cls O x z l, List.filter_cons, List.filter_cons (x := x) (xs := y :: l), List.filter_cons (x := y) (xs := l)]
      by_cases hy : SrtO.eqv lt z y = true
      · by_cases hx : SrtO.eqv lt z x = true
        · have a := SrtO.eqv_iff.mp hy
          have b := SrtO.eqv_iff.mp hx
          have c : lt y x = false := O.tr x z y b.1 a.2
          rw [h] at c
          cases c
        · rw [if_pos hy, if_neg hx, if_neg hx, if_pos hy]
      · rw [if_neg hy, if_neg hy]
    · rfl
theorem stSort_cls (O : SrtO.Swo lt) (z : α) : ∀ l : List α, (stSort lt l).filter (SrtO.eqv lt z) = l.filter (SrtO.eqv lt z)
  | [] => rfl
  | x :: l => by
    show (stIns lt x (stSort lt l)).filter _ = _
    rw [stIns_cls O, List.filter_cons, List.filter_cons, stSort_cls O z l]
theorem stIns_srt (O : SrtO.Swo lt) (x : α) : ∀ {l : List α}, SrtO.Srtd lt l → SrtO.Srtd lt (stIns lt x l)
  | [], _ => List.pairwise_singleton _ _
  | y :: l, h => by
    obtain ⟨h1, h2⟩ := List.pairwise_cons.mp h
    unfold stIns
    split
    · rename_i hl
      refine List.pairwise_cons.mpr ⟨fun z hz => ?_, stIns_srt O x h2⟩
      rcases List.mem_cons.mp ((stIns_perm x l).mem_iff.mp hz) with rfl | hz
      · exact O.asym _ _ hl
      · exact h1 z hz
    · rename_i hl
      have hl : lt y x = false := by simpa using hl
      refine List.pairwise_cons.mpr ⟨fun z hz => ?_, h⟩
      rcases List.mem_cons.mp hz with rfl | hz
      · exact hl
      · exact O.tr _ _ _ hl (h1 z hz)
theorem stSort_srt (O : SrtO.Swo lt) : ∀ l : List α, SrtO.Srtd lt (stSort lt l)
  | [] => List.Pairwise.nil
  | x :: l => stIns_srt O x (stSort_srt O l)
theorem st_uniq (O : SrtO.Swo lt) : ∀ {l m : List α}, SrtO.Srtd lt l → SrtO.Srtd lt m → l.Perm m → (∀ z, l.filter (SrtO.eqv lt z) = m.filter (SrtO.eqv lt z)) → l = m
  | [], m, _, _, p, _ => (List.Perm.nil_eq p)
  | x :: l, [], _, _, p, _ => by simpa using p.length_eq
  | x :: l, y :: m, hl, hm, p, c => by
    obtain ⟨l1, l2⟩ := List.pairwise_cons.mp hl
    obtain ⟨m1, m2⟩ := List.pairwise_cons.mp hm
    have hxy : lt y x = false := by
      rcases List.mem_cons.mp (p.mem_iff.mpr (List.mem_cons_self (a := y) (l := m))) with e | h
      · rw [e]; exact O.refl _
      · exact l1 y h
    have hyx : lt x y = false := by
      rcases List.mem_cons.mp (p.mem_iff.mp (List.mem_cons_self (a := x) (l := l))) with e | h
      · rw [e]; exact O.refl _
      · exact m1 x h
    have e : x = y := by
      have q := c x
      rw [List.filter_cons, List.filter_cons, if_pos (SrtO.eqv_iff.mpr ⟨O.refl x, O.refl x⟩), if_pos (SrtO.eqv_iff.mpr ⟨hyx, hxy⟩)] at q
      exact (List.cons.inj q).1
    subst e
    rw [st_uniq O l2 m2 (List.Perm.cons_inv p) fun z => ?_]
    have q := c z
    rw [List.filter_cons, List.filter_cons] at q
    split at q
    · exact (List.cons.inj q).2
    · exact q
inductive Rel2 (R : α → β → Prop) : List α → List β → Prop
  | nil : Rel2 R [] []
  | cons {a : α} {b : β} {l : List α} {m : List β} : R a b → Rel2 R l m → Rel2 R (a :: l) (b :: m)
theorem st_ins_rel {lt2 : β → β → Bool} {R : α → β → Prop} (h : ∀ a b a' b', R a b → R a' b' → lt a a' = lt2 b b') {x : α} {y : β} (r : R x y) : ∀ {l : List α} {m : List β}, Rel2 R l m → Rel2 R (stIns lt x l) (stIns lt2 y m)
  | _, _, .nil => .cons r .nil
  | _, _, .cons (a := a) (b := b) (l := l) (m := m) q t => by
    unfold stIns
    rw [h a b x y q r]
    split
    · exact .cons q (st_ins_rel h r t)
    · exact .cons r (.cons q t)
theorem st_rel {lt2 : β → β → Bool} {R : α → β → Prop} (h : ∀ a b a' b', R a b → R a' b' → lt a a' = lt2 b b') : ∀ {l : List α} {m : List β}, Rel2 R l m → Rel2 R (stSort lt l) (stSort lt2 m)
  | _, _, .nil => .nil
  | _, _, .cons q t => st_ins_rel h q (st_rel h t)
end

/-! ### keys -/
/-- a key in the heap: a tuple of an int and of an int, or of a tuple of ints -/
def KeyAt (h : Heap) (b : Bool) (v : Value) (ns : List Int) : Prop := ∃ (a : Addr) (o : Obj) (x : Int) (t : Tok) (u : Value) (n : Nat), v = .ref a ∧ h.get? a = some o ∧ o.cls = .type "tuple" ∧ o.data = .seq #[.int x t, u] n ∧
  (if b then ∃ (ys : List Int) (as : List Addr), IsTp h u ys ∧ Reads h u (.tuple (ys.map PySem.PyData.int)) as ∧ ns = x :: ys else ∃ y t2, u = .int y t2 ∧ ns = [x, y])
theorem eqv_ints : ∀ (xs ys : List Int), PyData.eqv (.tuple (xs.map PySem.PyData.int)) (.tuple (ys.map PySem.PyData.int)) = true ↔ xs = ys := by
  intro xs ys
  show PyData.eqvAll (xs.map PySem.PyData.int) (ys.map PySem.PyData.int) = true ↔ xs = ys
  induction xs generalizing ys with
  | nil => cases ys <;> simp [PyData.eqvAll]
  | cons x xs ih =>
    cases ys with
    | nil => simp [PyData.eqvAll]
    | cons y ys =>
      show (PyData.eqv (.int x) (.int y) && PyData.eqvAll (xs.map PySem.PyData.int) (ys.map PySem.PyData.int)) = true ↔ _
      rw [Bool.and_eq_true, ih]
      simp [PyData.eqv]
section
variable {prog : Program} {w : World} {A : Around} {E : Value → Shared → Prop} {s : Shared}
theorem key_lt {b : Bool} {v u : Value} {ns ms : List Int} {Q : Bool → Shared → Prop} (hu : A.units + 8 < cLine) (hv : KeyAt s.heap b v ns) (hw : KeyAt s.heap b u ms) (h : Q (HT.lexLt ns ms) s) : wpAny (model prog w) A (keyLt' (tuples' true) v u) Q E s := by
  obtain ⟨a, o, x, t, p, n, rfl, ho, hc, hd, hk⟩ := hv
  obtain ⟨a', o', x', t', p', n', rfl, ho', hc', hd', hk'⟩ := hw
  refine PySem.W.kat_lt ho hd ho' hd' ?_
  show PySem.W.KatLex prog w A true false Q [(Value.int x t, Value.int x' t'), (p, p')] 0 s
  refine PySem.W.kat_cons (SeqAt.EqAt.int_int x t x' t' prog w _ _ ?_)
  cases b with
  | false =>
    obtain ⟨y, t2, rfl, rfl⟩ := hk
    obtain ⟨y', t2', rfl, rfl⟩ := hk'
    rw [HT.lexLt_cons] at h
    refine PySem.W.kat_go (fun e1 => ?_) (fun e1 => ?_)
    · have ex : x = x' := by simpa using e1
      rw [if_pos ex, HT.lexLt_cons] at h
      refine PySem.W.kat_yes (PySem.W.kat_cons (SeqAt.EqAt.int_int y t2 y' t2' prog w _ _ ?_))
      refine PySem.W.kat_go (fun e2 => ?_) (fun e2 => ?_)
      · have ey : y = y' := by simpa using e2
        rw [if_pos ey, HT.lexLt_nil_nil] at h
        exact PySem.W.kat_yes (PySem.W.kat_nil h)
      · have ey : ¬ y = y' := by simpa using e2
        rw [if_neg ey] at h
        exact PySem.W.kat_no (PySem.W.kat_one _ _ (PyProof.Rows.lt_int h))
    · have ex : ¬ x = x' := by simpa using e1
      rw [if_neg ex] at h
      exact PySem.W.kat_no (oneLt_int h)
  | true =>
    obtain ⟨ys, as, k1, k2, rfl⟩ := hk
    obtain ⟨ys', as', k1', k2', rfl⟩ := hk'
    rw [HT.lexLt_cons] at h
    refine PySem.W.kat_go (fun e1 => ?_) (fun e1 => ?_)
    · have ex : x = x' := by simpa using e1
      rw [if_pos ex] at h
      have dp : ∀ zs : List Int, PyData.depth (.tuple (zs.map PySem.PyData.int)) = 1 := fun zs => by
        show PyData.depthAll (zs.map PySem.PyData.int) + 1 = 1
        rw [dep_ints]
      refine PySem.W.kat_yes (PySem.W.kat_cons (SeqAt.eqAt_reads _ _ A s _ _ _ _ k2 k2' (lay_ints ys) (lay_ints ys') (by rw [dp, dp]; omega) prog w _ _ ?_))
      refine PySem.W.kat_go (fun e2 => ?_) (fun e2 => ?_)
      · have ey := (eqv_ints ys ys').mp e2
        subst ey
        refine PySem.W.kat_yes (PySem.W.kat_nil ?_)
        rw [(NtL.swo_lexL (α := List Int) id).refl ys |> (show HT.lexLt ys ys = false from ·)] at h
        exact h
      · obtain ⟨c, oc, its, m, rfl, ho2, hc2, hd2, hi⟩ := k1
        obtain ⟨c', oc', its', m', rfl, ho2', hc2', hd2', hi'⟩ := k1'
        refine PySem.W.kat_no (PySem.W.kat_one _ _ (HT.lt_tupInts (items := its.toArray) (items2 := its'.toArray) ⟨oc, ho2, hc2, m, hd2⟩ ⟨oc', ho2', hc2', m', hd2'⟩ (by simpa using hi) (by simpa using hi') (by omega) h))
    · have ex : ¬ x = x' := by simpa using e1
      rw [if_neg ex] at h
      exact PySem.W.kat_no (oneLt_int h)
theorem key_firsts {h : Heap} {b : Bool} {k : Value → List Int} : ∀ {vs : List Value}, (∀ v ∈ vs, KeyAt h b v (k v)) → ∃ fs : List Value, PySem.W.KatTups h vs fs ∧ fs.length = vs.length ∧ ∀ f ∈ fs, ∃ x t, f = .int x t
  | [], _ => ⟨[], trivial, rfl, fun f hf => by cases hf⟩
  | v :: vs, hp => by
    obtain ⟨fs, h1, h2, h3⟩ := key_firsts (vs := vs) fun u hu => hp u (List.mem_cons_of_mem _ hu)
    obtain ⟨a, o, x, t, u, n, e, ho, hc, hd, hk⟩ := hp v List.mem_cons_self
    refine ⟨.int x t :: fs, ?_, by rw [List.length_cons, List.length_cons, h2], fun f hf => ?_⟩
    · rw [e]
      exact .cons ho hc hd (by simp) h1
    · rcases List.mem_cons.mp hf with rfl | hf
      · exact ⟨x, t, rfl⟩
      · exact h3 f hf
theorem key_kind {b : Bool} {k : Value → List Int} {vs : List Value} {Q : SortKind → Shared → Prop} (hp : ∀ v ∈ vs, KeyAt s.heap b v (k v)) (h0 : 0 < vs.length) (h : Q (tuples' true) s) : wpAny (model prog w) A (keyKind' vs.toArray) Q E s := by
  obtain ⟨fs, h1, h2, h3⟩ := key_firsts hp
  refine PySem.W.kat_kind (T := .type "int") h1 (by omega) (fun f hm => ?_) (by rfl) ?_
  · obtain ⟨x, t, rfl⟩ := h3 f hm
    exact PySem.W.Looks.now
  · have e : (Value.type "int" != Value.type "tuple") = true := by first | decide +kernel | rfl | decide
    rw [e]
    exact h
end
end SN
end
section
set_option Elab.async false
set_option linter.all false
set_option maxRecDepth 100000
set_option maxHeartbeats 8000000
/-! S21: sorted(xs, key=f) where f is a function in the heap. -/
namespace SN
open PySem L2 LamX PyProof.Rows
/-- the one object at a -/
def ObX (a : Addr) (o : Obj) : HO := .ext fun h => h.get? a = some o
theorem obx_ok {P : Program} {w : World} {H : Hp} {h : Heap} {a : Addr} {o : Obj} (e : h.get? a = some o) : ObjOk P w H h a (ObX a o) := ⟨e, ⟨o, e⟩, fun h1 h2 e1 k => k _ e1⟩
theorem obx_nt {a : Addr} {o : Obj} : nt (some (ObX a o)) = false := rfl
/-- a key among what is known -/
def KeyV (H : Hp) (b : Bool) (v : V) (ns : List Int) : Prop := ∃ (a : Addr) (x : Int) (u : V), v = .ref a ∧ H a = some (.tup [.int x, u]) ∧ (if b then ∃ ys : List Int, Da H u (.tuple (ys.map .int)) ∧ ns = x :: ys else ∃ y, u = .int y ∧ ns = [x, y])
theorem KeyV.ex {H H' : Hp} {b : Bool} {v : V} {ns : List Int} (k : KeyV H b v ns) (e : Ex none H H') : KeyV H' b v ns := by
  obtain ⟨a, x, u, rfl, h, q⟩ := k
  refine ⟨a, x, u, rfl, e.at h rfl (by simp), ?_⟩
  cases b with
  | true =>
    obtain ⟨ys, d, r⟩ := q
    exact ⟨ys, d.ex e, r⟩
  | false => exact q
theorem KeyV.fn {H : Hp} {b : Bool} {v : V} {ns ms : List Int} (k : KeyV H b v ns) (j : KeyV H b v ms) : ns = ms := by
  obtain ⟨a, x, u, rfl, h, q⟩ := k
  obtain ⟨a', x', u', e, h', q'⟩ := j
  cases e
  rw [h] at h'
  cases h'
  cases b with
  | true =>
    obtain ⟨ys, d, rfl⟩ := q
    obtain ⟨ys', d', rfl⟩ := q'
    obtain ⟨c, zs, rfl, hc, ds⟩ := d.tuple_inv
    obtain ⟨c', zs', e, hc', ds'⟩ := d'.tuple_inv
    cases e
    rw [hc] at hc'
    cases hc'
    have e1 := ds.ints
    have e2 := ds'.ints
    rw [e1] at e2
    have inj : ∀ (l m : List Int), l.map V.int = m.map V.int → l = m := fun l => by
      induction l with
      | nil => intro m h; cases m with
        | nil => rfl
        | cons y m => cases h
      | cons x l ih => intro m h; cases m with
        | nil => cases h
        | cons y m =>
          rw [List.map_cons, List.map_cons] at h
          obtain ⟨h1, h2⟩ := List.cons.inj h
          rw [V.int.inj h1, ih m h2]
    rw [inj _ _ e2]
  | false =>
    obtain ⟨y, rfl, rfl⟩ := q
    obtain ⟨y', e, rfl⟩ := q'
    cases e
    rfl
theorem KeyV.at {X : Cx} {pins : List (Addr × Obj)} {σ : L2.St} {H : Hp} {s : Shared} {b : Bool} {v : V} {u : Value} {ns : List Int} (I : Inv X pins σ H s) (k : KeyV H b v ns) (r : RelV v u) : KeyAt s.heap b u ns := by
  obtain ⟨a, x, y, rfl, h, q⟩ := k
  obtain rfl : u = Value.ref a := r
  obtain ⟨_, its, r2, o, ho, hc, n, hd⟩ := I.hok _ _ h
  obtain ⟨u1, u2, rfl, e1, e2⟩ := vals2 r2
  obtain ⟨t, rfl⟩ : ∃ t, u1 = Value.int x t := e1
  refine ⟨a, o, x, t, u2, n, rfl, ho, hc, hd, ?_⟩
  cases b with
  | true =>
    obtain ⟨ys, d, rfl⟩ := q
    obtain ⟨as, rd⟩ := Dp.reads I _ _ _ (d.dp (K := X.K)) e2
    refine ⟨ys, as, ?_, rd, rfl⟩
    obtain ⟨c, zs, rfl, hz, ds⟩ := d.tuple_inv
    obtain rfl : u2 = Value.ref c := e2
    obtain ⟨_, its2, r3, o3, ho3, hc3, n3, hd3⟩ := I.hok _ _ hz
    rw [ds.ints] at r3
    exact ⟨c, o3, its2, n3, rfl, ho3, hc3, hd3, r3.ints⟩
  | false =>
    obtain ⟨y', rfl, rfl⟩ := q
    obtain ⟨t2, rfl⟩ : ∃ t, u2 = Value.int y' t := e2
    exact ⟨y', t2, rfl, rfl⟩
open Classical in
/-- the key's ints -/
noncomputable def kxOf (H : Hp) (b : Bool) (u : Value) : List Int := match u with
  | .ref a => if h : ∃ ns, KeyV H b (.ref a) ns then Classical.choose h else []
  | _ => []
theorem kxOf_eq {H : Hp} {b : Bool} {v : V} {u : Value} {ns : List Int} (k : KeyV H b v ns) (r : RelV v u) : kxOf H b u = ns := by
  have k' := k
  obtain ⟨a, x, y, rfl, h, q⟩ := k
  obtain rfl : u = Value.ref a := r
  have hx : ∃ ns, KeyV H b (.ref a) ns := ⟨ns, k'⟩
  exact (show kxOf H b (.ref a) = Classical.choose hx from dif_pos hx).trans ((Classical.choose_spec hx).fn k')
/-- keys one by one -/
inductive Keys (H : Hp) (b : Bool) : List V → List (List Int) → Prop
  | nil : Keys H b [] []
  | cons {v : V} {ns : List Int} {vs : List V} {ks : List (List Int)} : KeyV H b v ns → Keys H b vs ks → Keys H b (v :: vs) (ns :: ks)
theorem Keys.ex {H H' : Hp} {b : Bool} (e : Ex none H H') : ∀ {vs : List V} {ks : List (List Int)}, Keys H b vs ks → Keys H' b vs ks
  | _, _, .nil => .nil
  | _, _, .cons k r => .cons (k.ex e) (Keys.ex e r)
theorem Keys.length {H : Hp} {b : Bool} : ∀ {vs : List V} {ks : List (List Int)}, Keys H b vs ks → vs.length = ks.length
  | _, _, .nil => rfl
  | _, _, .cons k r => congrArg (· + 1) r.length
theorem Keys.snoc {H : Hp} {b : Bool} {v : V} {ns : List Int} (k : KeyV H b v ns) : ∀ {vs : List V} {ks : List (List Int)}, Keys H b vs ks → Keys H b (vs ++ [v]) (ks ++ [ns])
  | _, _, .nil => .cons k .nil
  | _, _, .cons j r => .cons j (Keys.snoc k r)
theorem Keys.all {H : Hp} {b : Bool} : ∀ {vs : List V} {us : List Value} {ks : List (List Int)}, Keys H b vs ks → Vals vs us → ∀ u ∈ us, ∃ v ns, RelV v u ∧ KeyV H b v ns
  | _, _, _, .nil, .nil, u, hu => by cases hu
  | _, _, _, .cons k r, .cons e t, u, hu => by
    rcases List.mem_cons.mp hu with rfl | hu
    · exact ⟨_, _, e, k⟩
    · exact Keys.all r t u hu
def ltK (p q : List Int × V) : Bool := HT.lexLt p.1 q.1
/-- the sorted values -/
def ksV (ks : List (List Int)) (xs : List V) : List V := (stSort ltK (ks.zip xs)).map (·.2)
theorem keys_rel {H : Hp} {b : Bool} : ∀ {kv : List V} {ks : List (List Int)} {kus : List Value} {xs : List V} {us : List Value}, Keys H b kv ks → Vals kv kus → Vals xs us → kus.length = us.length →
    Rel2 (fun (p : Value × Value) (q : List Int × V) => kxOf H b p.1 = q.1 ∧ RelV q.2 p.2) (kus.zip us) (ks.zip xs)
  | _, _, _, _, _, .nil, .nil, _, _ => by rw [List.zip_nil_left, List.zip_nil_left]; exact .nil
  | _, _, _, _, _, .cons k r, .cons e t, .nil, h => by simp at h
  | _, _, _, _, _, .cons k r, .cons e t, .cons e2 t2, h => .cons ⟨kxOf_eq k e, e2⟩ (keys_rel r t t2 (by simpa using h))
theorem rel_vals {α : Type} {R : Value × Value → α × V → Prop} (h : ∀ p q, R p q → RelV q.2 p.2) : ∀ {l : List (Value × Value)} {m : List (α × V)}, Rel2 R l m → Vals (m.map (·.2)) (l.map (·.2))
  | _, _, .nil => .nil
  | _, _, .cons q t => .cons (h _ _ q) (rel_vals h t)
section
variable {X : Cx} {pins : List (Addr × Obj)} {σ : L2.St} {H H0 : Hp} {s : Shared} {A : Around} {f a kS : Addr} {fo : Obj} {b : Bool} {vs : List Value} {xs : List V} {ks : List (List Int)} {e1 : Nat} {P : PySem.Fin → Shared → Prop} {E : Value → Shared → Prop} {T : List (Addr × Str)} {Q : VK}
theorem ksV_len (h : ks.length = xs.length) : (ksV ks xs).length = xs.length := by
  unfold ksV
  rw [List.length_map, (stSort_perm _).length_eq, List.length_zip, h, Nat.min_self]
theorem tabs_lst {T : List (Addr × Str)} {H : Hp} {p : Addr} {xs ys : List V} (t : Tabs T H) (h : H p = some (.lst xs)) : Tabs T (upd H p (.lst ys)) := tabs_upd t (.inr (.inl ⟨_, h⟩))
theorem tabs_obx {P : Program} {w : World} {T : List (Addr × Str)} {H : Hp} {h : Heap} {p : Addr} {o : Obj} {u : HO} (t : Tabs T H) (ok : HOk P w H h) (e : H p = some (ObX p o)) (hd : ∀ vs, o.data ≠ .fields vs) : Tabs T (upd H p u) := fun q hq => by
  obtain ⟨ps, h1, h2, h3⟩ := t q hq
  have n1 : q.1 ≠ p := fun z => by
    rw [z, e] at h1
    cases h1
  refine ⟨ps, by rw [upd_ne n1]; exact h1, h2, fun pos cv hc => ?_⟩
  obtain ⟨c, e1, e2⟩ := h3 pos cv hc
  have n2 : c ≠ p := fun z => by
    rw [z] at e2
    obtain ⟨oc, vs, t, k1, k2, _⟩ := (ok _ _ e2).1
    have k3 : h.get? p = some o := (ok _ _ e).1
    rw [k3] at k1
    cases k1
    exact hd _ k2
  exact ⟨c, e1, by rw [upd_ne n2]; exact e2⟩
/-- the sorted list is laid back -/
theorem sk_tail {kv : List V} {st : SortSt} (I : Inv X pins σ H s) (hk : H kS = some (.lst kv)) (ha : H a = some (ObX a (seqObj "list" #[] e1))) (hka : kS ≠ a) (hz : vs.length ≤ sizeLine) (hkl : kv.length ≤ sizeLine) (hf : failedOf st = none)
    (hr : Vals (ksV ks xs) ((arrOf st).map (·.2)).toList) (hl : (ksV ks xs).length ≤ sizeLine)
    (h : ∀ H' s', Inv X pins σ H' s' → Ex none H0 H' → Tabs T H' → H' a = some (.lst (ksV ks xs)) → P (.done (.ret .none)) s') (ex : Ex none H0 H) (n0 : H0 kS = none) (n1 : H0 a = none) (ht : Tabs T H) :
    wpAny (model X.prog X.w) A (ksk_tail a false e1 (.ref kS) st) P E s := by
  obtain ⟨z, its, n, rv, ho⟩ := I.hok _ _ hk
  have I1 := I.lset (t' := s.toks) (f := fun _ => #[]) (its' := []) (ys := []) hk ho rfl .nil (Nat.zero_le _)
  have ha1 : upd H kS (.lst []) a = some (ObX a (seqObj "list" #[] e1)) := by rw [upd_ne (Ne.symm hka)]; exact ha
  have hoa := (I1.hok _ _ ha1).1
  have t1 : Tabs T (upd H kS (.lst [])) := tabs_lst ht hk
  unfold ksk_tail
  try dsimp only
  refine wpAny_bind (listUpdate_at ho rfl ?_ (by rw [List.size_toArray, ← rv.length]; exact hkl) (Nat.zero_le _))
  refine wpAny_bind (wpAny_letGo ?_)
  refine wpAny_bind (seqEpoch_at hoa rfl ?_)
  have hl2 := hr.length
  rw [Array.length_toList] at hl2
  refine wpAny_bind (listUpdate_at hoa rfl ?_ (Nat.zero_le _) (by simp only [Bool.false_eq_true, if_false]; exact Nat.le_trans (Nat.le_of_eq hl2.symm) (Nat.le_succ_of_le hl)))
  rw [hf]
  simp only [bne_self_eq_false, Bool.false_eq_true, if_false]
  obtain ⟨c, hc⟩ : ∃ c, ((s.heap.update kS (Obj.mapSeq fun _ => #[])).update a (Obj.mapSeq fun _ => (arrOf st).map (·.2))).get? a = some (seqObj "list" ((arrOf st).map (·.2)) c) := ⟨_, get?_update_seq hoa _⟩
  have I2 := I1.write (x := a) (e := a) (o := .lst (ksV ks xs)) (t' := s.toks) (h' := (s.heap.update kS (Obj.mapSeq fun _ => #[])).update a (Obj.mapSeq fun _ => (arrOf st).map (·.2))) (by rw [ha1]; exact True.intro) (.inl rfl)
    (fun q u hq e => (Heap.get?_update_ne _ _ _ _ hq).trans e) ⟨_, hc⟩ ⟨hl, ((arrOf st).map (·.2)).toList, c, hr, by rw [Array.toArray_toList]; exact hc⟩
  refine wpAny_pure (h _ _ I2 (fun q nq _ => ?_) (tabs_obx t1 I1.hok ha1 fun _ z => by cases z) upd_same)
  have q1 : q ≠ a := fun z => by rw [z, n1] at nq; cases nq
  have q2 : q ≠ kS := fun z => by rw [z, n0] at nq; cases nq
  rw [upd_ne q1, upd_ne q2]
  exact ex q nq (by simp)
end
end SN
end
section
set_option Elab.async false
set_option linter.all false
set_option maxRecDepth 100000
set_option maxHeartbeats 8000000
/-! S22: sorted by key: the sorting, the keys made one by one, the call. -/
namespace SN
open PySem L2 LamX PyProof.Rows
section
variable {X : Cx} {pins : List (Addr × Obj)} {σ : L2.St} {H H0 : Hp} {s : Shared} {A : Around} {f a kS : Addr} {fo : Obj} {b : Bool} {vs : List Value} {xs : List V} {ks : List (List Int)} {e1 : Nat} {P : PySem.Fin → Shared → Prop} {E : Value → Shared → Prop} {T : List (Addr × Str)} {Q : VK}
theorem swo_kx (H : Hp) (b : Bool) : SrtO.Swo fun (p q : Keyed) => HT.lexLt (kxOf H b p.1) (kxOf H b q.1) := NtL.swo_lexL fun p : Keyed => kxOf H b p.1
theorem arr_zip (kus vs : List Value) : ((kus.toArray.zip vs.toArray : Array Keyed)).toList = kus.zip vs := by simp
/-- what a sorted row of pairs comes to -/
theorem sk_out {kv : List V} {kus : List Value} {st : SortSt} (K : Keys H b kv ks) (rk : Vals kv kus) (rv : Vals xs vs) (hl : kus.length = vs.length)
    (h1 : SrtO.Srtd (fun (p q : Keyed) => HT.lexLt (kxOf H b p.1) (kxOf H b q.1)) (arrOf st).toList) (h2 : SrtO.Stb (fun (p q : Keyed) => HT.lexLt (kxOf H b p.1) (kxOf H b q.1)) (arrOf st).toList (kus.zip vs)) :
    Vals (ksV ks xs) ((arrOf st).map (·.2)).toList := by
  have e : (arrOf st).toList = stSort (fun (p q : Keyed) => HT.lexLt (kxOf H b p.1) (kxOf H b q.1)) (kus.zip vs) :=
    st_uniq (swo_kx H b) h1 (stSort_srt (swo_kx H b) _) (h2.perm.trans (stSort_perm _).symm) fun z => (h2.cls z).trans (stSort_cls (swo_kx H b) z _).symm
  rw [Array.toList_map, e]
  refine rel_vals (R := fun (p : Value × Value) (q : List Int × V) => kxOf H b p.1 = q.1 ∧ RelV q.2 p.2) (fun p q r => r.2) ?_
  refine st_rel (R := fun (p : Value × Value) (q : List Int × V) => kxOf H b p.1 = q.1 ∧ RelV q.2 p.2) (fun p q p' q' r r' => ?_) (keys_rel K rk rv hl)
  show HT.lexLt (kxOf H b p.1) (kxOf H b p'.1) = HT.lexLt q.1 q'.1
  rw [r.1, r'.1]
theorem sk_end {kv : List V} {kus : List Value} (hu : A.units + 8 < cLine) (I : Inv X pins σ H s) (K : Keys H b kv ks) (rk : Vals kv kus) (rv : Vals xs vs) (hl : ks.length = vs.length) (hz : vs.length ≤ sizeLine)
    (hk : H kS = some (.lst kv)) (ha : H a = some (ObX a (seqObj "list" #[] e1))) (hka : kS ≠ a)
    (h : ∀ H' s', Inv X pins σ H' s' → Ex none H0 H' → Tabs T H' → H' a = some (.lst (ksV ks xs)) → P (.done (.ret .none)) s') (ex : Ex none H0 H) (n0 : H0 kS = none) (n1 : H0 a = none) (ht : Tabs T H) :
    wpAny (model X.prog X.w) A (ksk_end a false vs.toArray e1 (.ref kS) kus.toArray) P E s := by
  have l1 : kus.length = vs.length := by rw [← rk.length, K.length, hl]
  have lx : xs.length = vs.length := rv.length
  have hkl : kv.length ≤ sizeLine := by rw [rk.length, l1]; exact hz
  have hll : (ksV ks xs).length ≤ sizeLine := by rw [ksV_len (by rw [hl, lx]), lx]; exact hz
  have hp : ∀ v ∈ kus, KeyAt s.heap b v (kxOf H b v) := fun v hv => by
    obtain ⟨y, ns, r, k⟩ := K.all rk v hv
    rw [kxOf_eq k r]
    exact k.at I r
  unfold ksk_end
  try dsimp only
  simp only [Bool.false_eq_true, if_false]
  have fin : ∀ st' : SortSt, SrtO.Srtd (fun (p q : Keyed) => HT.lexLt (kxOf H b p.1) (kxOf H b q.1)) (arrOf st').toList → SrtO.Stb (fun (p q : Keyed) => HT.lexLt (kxOf H b p.1) (kxOf H b q.1)) (arrOf st').toList (kus.zip vs) → failedOf st' = none →
      wpAny (model X.prog X.w) A (ksk_tail a false e1 (.ref kS) st') P E s := fun st' h1 h2 hf =>
    sk_tail (vs := vs) I hk ha hka hz hkl hf (sk_out K rk rv l1 h1 h2) hll h ex n0 n1 ht
  by_cases h2 : vs.toArray.size < 2
  · rw [if_pos h2, if_pos h2]
    refine wpAny_bind (wpAny_pure ?_)
    rw [StateT.run_pure]
    refine wpAny_bind (wpAny_pure ?_)
    try dsimp only
    have e : (arrOf (SortSt.mk' general' (kus.toArray.zip vs.toArray) #[] 7 none)).toList = kus.zip vs := arr_zip kus vs
    refine fin (SortSt.mk' general' (kus.toArray.zip vs.toArray) #[] 7 none) ?_ (SrtO.Stb.of_eq e) rfl
    rw [e]
    have hlz : (kus.zip vs).length < 2 := by
      rw [List.length_zip]
      rw [List.size_toArray] at h2
      omega
    match kus.zip vs, hlz with
    | [], _ => exact List.Pairwise.nil
    | [x], _ => exact List.pairwise_singleton _ _
    | _ :: _ :: _, hh => simp at hh; omega
  · rw [if_neg h2, if_neg h2]
    rw [List.size_toArray] at h2
    refine wpAny_bind (key_kind hp (by omega) ?_)
    have hall : SrtO.AllL (fun p : Keyed => p.1 ∈ kus) (kus.toArray.zip vs.toArray : Array Keyed).toList := fun p hm => by
      rw [arr_zip] at hm
      exact (List.of_mem_zip (a := p.1) (b := p.2) hm).1
    refine wpAny_bind (wpAny_mono (SrtO.wpS_sortO (st0 := SortSt.mk' (tuples' true) (kus.toArray.zip vs.toArray) #[] 7 none) (P := fun p : Keyed => p.1 ∈ kus)
      (Q := fun _ st' => SrtO.Srtd (fun (p q : Keyed) => HT.lexLt (kxOf H b p.1) (kxOf H b q.1)) (arrOf st').toList ∧ SrtO.Stb (fun (p q : Keyed) => HT.lexLt (kxOf H b p.1) (kxOf H b q.1)) (arrOf st').toList (kus.zip vs) ∧ failedOf st' = none)
      (swo_kx H b) (fun p q hm hm' => key_lt hu (hp _ hm) (hp _ hm') ⟨rfl, rfl⟩) rfl hall rfl rfl fun st' a1 a2 a3 => ⟨a1, ?_, a3⟩) ?_ fun _ _ e => e)
    · have e : (arrOf (SortSt.mk' (tuples' true) (kus.toArray.zip vs.toArray) #[] 7 none)).toList = kus.zip vs := arr_zip kus vs
      rw [e] at a2
      exact a2
    · rintro ⟨⟨⟩, st'⟩ s' ⟨rfl, hp1, hp2, hf⟩
      try dsimp only
      exact fin st' hp1 hp2 hf
theorem keyv_off {v : V} {ns : List Int} {ys : List V} {o : HO} (k : KeyV H b v ns) (h : H kS = some (.lst ys)) : KeyV (upd H kS o) b v ns := by
  obtain ⟨a, x, u, rfl, h1, q⟩ := k
  have n1 : a ≠ kS := fun z => by rw [z, h] at h1; cases h1
  refine ⟨a, x, u, rfl, by rw [upd_ne n1]; exact h1, ?_⟩
  cases b with
  | false => exact q
  | true =>
    obtain ⟨zs, d, r⟩ := q
    obtain ⟨c, ws, rfl, hc, ds⟩ := d.tuple_inv
    have n2 : c ≠ kS := fun z => by rw [z, h] at hc; cases hc
    refine ⟨zs, .tup (by rw [upd_ne n2]; exact hc) ?_, r⟩
    rw [ds.ints]
    exact Das.of_ints zs
theorem keys_off {ys : List V} {o : HO} (h : H kS = some (.lst ys)) : ∀ {kv : List V} {ks : List (List Int)}, Keys H b kv ks → Keys (upd H kS o) b kv ks
  | _, _, .nil => .nil
  | _, _, .cons k r => .cons (keyv_off k h) (keys_off h r)
/-- the keys are made one by one -/
theorem sk_rest (hu : A.units + 8 < cLine) (I : Inv X pins σ H s) (rv : Vals xs vs) (hl : ks.length = vs.length) (hz : vs.length ≤ sizeLine)
    (hk : H kS = some (.lst [])) (ha : H a = some (ObX a (seqObj "list" #[] e1))) (hka : kS ≠ a) (hf : s.heap.get? f = some fo) (uf : H f = none) (ff : f ∉ frs X.stack)
    (h : ∀ H' s', Inv X pins σ H' s' → Ex none H0 H' → Tabs T H' → H' a = some (.lst (ksV ks xs)) → P (.done (.ret .none)) s') (ex : Ex none H0 H) (n0 : H0 kS = none) (n1 : H0 a = none) (ht : Tabs T H)
    (turn : ∀ (i : Nat) (u : Value) (x : V) (ns : List Int) (H' : Hp) (s' : Shared), vs[i]? = some u → xs[i]? = some x → ks[i]? = some ns → Inv X pins σ H' s' → Ex none H0 H' → Tabs T H' → s'.heap.get? f = some fo →
      wpAny (model X.prog X.w) A (call (.ref f) [u]) (CE X.stack X.prog X.w H' s' fun v H'' => Ex none H' H'' ∧ Tabs T H'' ∧ KeyV H'' b v ns) (fun _ _ => False) s') :
    wpAny (model X.prog X.w) A (ksk_rest a (.ref f) false vs.toArray e1 (.ref kS)) P E s := by
  unfold ksk_rest
  refine wpAny_bind (wpAny_rule ?_)
  first
    | rw [List.forIn_toArray]
    | (rw [← Array.forIn_toList]; simp only [List.toList_toArray])
    | rw [← Array.forIn_toList]
  have lx : xs.length = vs.length := rv.length
  refine wpAny_bind (ksk_fold (fun i s' => ∃ H' kv, Inv X pins σ H' s' ∧ Ex none H0 H' ∧ Tabs T H' ∧ H' kS = some (.lst kv) ∧ H' a = some (ObX a (seqObj "list" #[] e1)) ∧ s'.heap.get? f = some fo ∧ H' f = none ∧ Keys H' b kv (ks.take i)) vs 0 s
    ⟨H, [], I, ex, ht, hk, ha, hf, uf, .nil⟩ ?step ?done)
  case step =>
    rintro j u s' hx ⟨H', kv, I', ex', ht', hk', ha', hf', uf', K'⟩
    simp only [Nat.zero_add] at K' ⊢
    have hj : j < vs.length := (List.getElem?_eq_some_iff.mp hx).1
    have hkj : ks[j]? = some ks[j] := List.getElem?_eq_getElem (by omega)
    have hxj : xs[j]? = some xs[j] := List.getElem?_eq_getElem (by omega)
    refine wpAny_bind (wpAny_attempt (wpAny_mono (turn j u xs[j] ks[j] H' s' hx hxj hkj I' ex' ht' hf') (fun kv0 s'' he => ?_) fun _ _ hF => hF.elim))
    obtain ⟨v, H2, os, bare, un, hok, r, e2, t2, k2⟩ := he
    have I2 := I'.call' (ch := []) os un hok bare (fun _ z => absurd z (by simp))
    have f2 : s''.heap.get? f = some fo := un.keep _ _ hf' uf' ff (by simp)
    have uf2 : H2 f = none := un.free _ _ hf' uf' (by simp)
    have hk2 : H2 kS = some (.lst kv) := e2.at hk' rfl (by simp)
    have ha2 : H2 a = some (ObX a (seqObj "list" #[] e1)) := e2.at ha' rfl (by simp)
    obtain ⟨z, its, n, rk, ho⟩ := I2.hok _ _ hk2
    have hkl : kv.length + 1 ≤ sizeLine := by
      rw [K'.length, List.length_take]
      omega
    have I3 := I2.lset (t' := s''.toks) (f := (·.push kv0)) (its' := its ++ [kv0]) (ys := kv ++ [v]) hk2 ho (by simp) (rk.append (.cons r .nil)) (by rw [List.length_append, List.length_singleton]; exact hkl)
    try dsimp only
    refine wpAny_bind (listUpdate_at ho rfl ?_ (by rw [List.size_toArray, ← rk.length]; exact z) (by rw [Array.size_push, List.size_toArray, ← rk.length]; exact Nat.le_succ_of_le hkl))
    have hkf : kS ≠ f := fun z => by rw [z, uf2] at hk2; cases hk2
    refine wpAny_pure ⟨rfl, upd H2 kS (.lst (kv ++ [v])), kv ++ [v], I3, fun q nq _ => ?_, tabs_lst t2 hk2, upd_same, by rw [upd_ne (Ne.symm hka)]; exact ha2, ?_, by rw [upd_ne (Ne.symm hkf)]; exact uf2, ?_⟩
    · have q2 : q ≠ kS := fun z => by rw [z, n0] at nq; cases nq
      rw [upd_ne q2]
      exact (ex'.trans e2) q nq (by simp)
    · exact (Heap.get?_update_ne _ _ _ _ (Ne.symm hkf)).trans f2
    · have ek : ks.take (j + 1) = ks.take j ++ [ks[j]] := by rw [List.take_add_one, hkj]; rfl
      rw [ek]
      exact Keys.snoc (keyv_off k2 hk2) (keys_off hk2 (K'.ex e2))
  case done =>
    rintro s' ⟨H', kv, I', ex', ht', hk', ha', hf', uf', K'⟩
    have K2 : Keys H' b kv ks := by
      have e3 : ks.take (0 + vs.length) = ks := List.take_of_length_le (by omega)
      rw [e3] at K'
      exact K'
    obtain ⟨z, its, n, rk, ho⟩ := I'.hok _ _ hk'
    refine wpAny_bind (listItems_at ho rfl ?_)
    exact sk_end hu I' K2 rk rv hl hz hk' ha' hka h ex' n0 n1 ht'
end
end SN
end
section
set_option Elab.async false
set_option linter.all false
set_option maxRecDepth 100000
set_option maxHeartbeats 8000000
/-! S23: the call sorted(xs, key=f). -/
namespace SN
open PySem L2 LamX PyProof.Rows
section
variable {X : Cx} {pins : List (Addr × Obj)} {σ : L2.St} {H : Hp} {s : Shared} {f : Addr} {fo : Obj} {b : Bool} {u : Value} {xs : List V} {ks : List (List Int)} {T : List (Addr × Str)} {Q : VK}
/-- collecting gives these values -/
def Coll (X : Cx) (s : Shared) (u : Value) (xs : List V) : Prop := ∀ (Q : List Value → Shared → Prop) (E : Value → Shared → Prop), (∀ (h' : Heap) (tk : Nat) (vs : List Value), (∀ b o, s.heap.get? b = some o → h'.get? b = some o) → Vals xs vs → vs.length ≤ sizeLine → Q vs { s with heap := h', toks := tk }) →
  wpAny (model X.prog X.w) X.A.in1 (collect u) Q E s
theorem coll_lst {a : Addr} (I : Inv X pins σ H s) (h : H a = some (.lst xs)) : Coll X s (.ref a) xs := fun Q E q => by
  obtain ⟨its, rv, hl, hz⟩ := I.list (.of h)
  refine collect_list hl.isList (q _ s.toks its (fun b o e => ?_) rv (by rw [← rv.length]; exact hz)) (by rw [← rv.length]; exact hz)
  have hlt : b < s.heap.objs.size := Heap.lt_size e
  rw [Heap.get?_update_ne _ _ _ _ (Nat.ne_of_lt hlt)]
  exact Heap.get?_push_of_some _ e
theorem sk_sorted (hu : X.A.units + 16 < cLine) (I : Inv X pins σ H s) (hc : Coll X s u xs) (hl : ks.length = xs.length) (hf : s.heap.get? f = some fo) (uf : H f = none) (ff : f ∉ frs X.stack) (ht : Tabs T H)
    (turn : ∀ (i : Nat) (u : Value) (x : V) (ns : List Int) (H' : Hp) (s' : Shared), RelV x u → xs[i]? = some x → ks[i]? = some ns → Inv X pins σ H' s' → Ex none H H' → Tabs T H' → s'.heap.get? f = some fo →
      wpAny (model X.prog X.w) X.A.in1.in1 (call (.ref f) [u]) (CE X.stack X.prog X.w H' s' fun v H'' => Ex none H' H'' ∧ Tabs T H'' ∧ KeyV H'' b v ns) (fun _ _ => False) s')
    (q : ∀ p H', H p = none → Ex none H H' → Tabs T H' → H' p = some (.lst (ksV ks xs)) → Q (.ref p) H') :
    wpAny (model X.prog X.w) X.A (call (.builtin "sorted") [u] [(Str.ofString "key", .ref f)]) (EP X pins σ Q) X.xe s := by
  refine call_function_entry_kw kind_sorted plain_sorted entry_sorted (ksk_s1 _ _) ?_
  unfold Builtin.«sorted»
  refine wpAny_bind (m := checkCount "sorted" 1 1 _) (wpAny_pure ?_)
  refine wpAny_bind (hc _ _ fun h1 tk vs kp rv hz => ?_)
  have I1 : Inv X pins σ H { s with heap := h1, toks := tk } := I.kept kp
  have hf1 : h1.get? f = some fo := kp _ _ hf
  refine wpAny_bind (wpAny_newList ?_ hz)
  generalize hA : h1.objs.size = a
  have ua : H a = none := I1.hok.fresh (Nat.le_of_eq hA)
  have hoL : (h1.push (seqObj "list" vs.toArray 0)).get? a = some (seqObj "list" vs.toArray 0) := by rw [← hA]; exact Heap.get?_push_size _ rfl
  show wpAny _ _ _ _ _ { s with heap := h1.push (seqObj "list" vs.toArray 0), toks := tk }
  refine wpAny_bind (wpAny_holding (wpAny_call_entry_kw slot_list_sort ⟨_, hoL, rfl⟩ entry_list_sort ?_ (ksk_l1 _ _)))
  rw [ksk_t1 f a]
  unfold ksk_tree
  refine wpAny_bind (listItems_at hoL rfl ?_)
  refine wpAny_bind (listUpdate_at hoL rfl ?_ (by rw [List.size_toArray]; exact hz) (Nat.zero_le _))
  generalize hh2 : (h1.push (seqObj "list" vs.toArray 0)).update a (Obj.mapSeq fun _ => #[]) = h2
  obtain ⟨e1, ho1⟩ : ∃ e1, h2.get? a = some (seqObj "list" #[] e1) := ⟨_, by rw [← hh2]; exact get?_update_seq hoL (fun _ => #[])⟩
  have kp2 : ∀ b o, h1.get? b = some o → h2.get? b = some o := fun b o e => by
    rw [← hh2, Heap.get?_update_ne _ _ _ _ (by rw [← hA]; exact Nat.ne_of_lt (Heap.lt_size e))]
    exact Heap.get?_push_of_some _ e
  refine wpAny_bind (seqEpoch_at ho1 rfl ?_)
  refine wpAny_bind (wpAny_newTuple ?_ (by show vs.length ≤ _; exact hz))
  have ho2 : (h2.push (seqObj "tuple" vs.toArray 0)).get? a = some (seqObj "list" #[] e1) := Heap.get?_push_of_some _ ho1
  have I2 : Inv X pins σ (upd H a (ObX a (seqObj "list" #[] e1))) { s with heap := h2.push (seqObj "tuple" vs.toArray 0), toks := tk } :=
    I1.laid (t' := tk) (fun b o e => Heap.get?_push_of_some _ (kp2 b o e)) (Nat.le_of_eq hA) (obx_ok ho2)
  refine wpAny_bind (wpAny_newList ?_ (Nat.zero_le _))
  refine wpAny_holding ?_
  have I3 := I2.lnew (t' := tk) (its := []) (ys := []) .nil (Nat.zero_le _)
  generalize hK : (h2.push (seqObj "tuple" vs.toArray 0)).objs.size = kS at I3
  have uk : upd H a (ObX a (seqObj "list" #[] e1)) kS = none := I2.hok.fresh (Nat.le_of_eq hK)
  have hka : kS ≠ a := fun z => by rw [z, upd_same] at uk; cases uk
  have uk0 : H kS = none := by rw [upd_ne hka] at uk; exact uk
  have naf : f ≠ a := fun z => by
    have := Heap.lt_size hf1
    rw [z, hA] at this
    exact absurd this (Nat.lt_irrefl _)
  have nkf : f ≠ kS := fun z => by
    have := Heap.lt_size (Heap.get?_push_of_some (seqObj "tuple" vs.toArray 0) (kp2 _ _ hf1))
    rw [z, ← hK] at this
    exact absurd this (Nat.lt_irrefl _)
  refine wpAny_mono (sk_rest (f := f) (fo := fo) (b := b) (T := T) (H0 := H) (ks := ks) (P := fun fin s' => fin = .done (.ret .none) ∧ ∃ H', Inv X pins σ H' s' ∧ Ex none H H' ∧ Tabs T H' ∧ H' a = some (.lst (ksV ks xs))) (E := fun _ _ => False) (by show X.A.units + 1 + 1 + 8 < _; omega) I3 rv (by rw [hl, rv.length]) hz upd_same (by rw [upd_ne (Ne.symm hka)]; exact upd_same) hka ?_ ?_ ff ?_ ?_ uk0 ua ?_ ?_) (fun fin s' hq => ?_) (fun _ _ z => z.elim)
  · exact Heap.get?_push_of_some _ (Heap.get?_push_of_some _ (kp2 _ _ hf1))
  · rw [upd_ne nkf, upd_ne naf]; exact uf
  · exact fun H' s' J ex tt hh => ⟨rfl, H', J, ex, tt, hh⟩
  · exact (ex_new' ua).trans (ex_new' uk)
  · exact tabs_new (tabs_new ht ua) uk
  · exact fun i u x ns H' s' h1 h2 h3 J ex tt hf' => by
      obtain ⟨u', hu', r⟩ := rv.get h2
      rw [hu'] at h1
      cases h1
      exact turn i _ x ns H' s' r h2 h3 J ex tt hf'
  · obtain ⟨rfl, H', J, ex, tt, hh⟩ := hq
    exact ⟨_, rfl, wpAny_pure ⟨_, rfl, .ref a, H', J, rfl, q a H' ua ex tt hh⟩⟩
end
end SN
end
section
set_option Elab.async false
set_option linter.all false
set_option maxRecDepth 100000
set_option maxHeartbeats 8000000
/-! S24: a lambda of one parameter, maybe with captured names, is called. -/
namespace SN
open PySem L2 LamX NdefX PyProof.Rows
/-- the lambda's names: the parameter, the captured ones, then others -/
structure LSc (N : List Str) (p : Str) (fr : List Str) (sc : Scope) : Prop where
  kind : sc.kind = .function
  co : sc.isCoroutine = false
  gen : sc.isGenerator = false
  nd : N.Nodup
  pre : N.take (1 + fr.length) = p :: fr
  par : sc.names.lookup p = some .local ∨ sc.names.lookup p = some .cell
  free : ∀ y ∈ sc.names, y.2 = .free → y.1 ∈ fr
  frk : ∀ x ∈ fr, sc.names.lookup x = some .free
  ncl : ∀ x ∈ fr, (x, NameKind.cell) ∉ sc.names
theorem cells_app : ∀ (names : List (Str × NameKind)) (n : Nat) (acc acc2 : List (Str × Addr)), cellsFrom n names (acc ++ acc2) = cellsFrom n names acc ++ acc2
  | [], _, _, _ => rfl
  | (x, k) :: r, n, acc, acc2 => by
    unfold cellsFrom
    split
    · exact cells_app r (n + 1) ((x, n) :: acc) acc2
    · exact cells_app r n acc acc2
theorem cells_name : ∀ (names : List (Str × NameKind)) (n : Nat) (acc : List (Str × Addr)) (y : Str) (c : Addr), (y, c) ∈ cellsFrom n names acc → (y, c) ∈ acc ∨ (y, NameKind.cell) ∈ names
  | [], _, _, _, _, h => .inl h
  | (x, k) :: r, n, acc, y, c, h => by
    unfold cellsFrom at h
    split at h
    · rename_i hk
      rcases cells_name r _ _ _ _ h with z | z
      · rcases List.mem_cons.mp z with e | z
        · cases e
          have : k = .cell := by cases k <;> first | rfl | cases hk
          rw [this]
          exact .inr (List.mem_cons_self ..)
        · exact .inl z
      · exact .inr (List.mem_cons_of_mem _ z)
    · rcases cells_name r _ _ _ _ h with z | z
      · exact .inl z
      · exact .inr (List.mem_cons_of_mem _ z)
theorem look_app {α : Type} {l r : List (Str × α)} {y : Str} : (l ++ r).lookup y = (l.lookup y).or (r.lookup y) := List.lookup_append
/-- the lambda's frame -/
abbrev lEnv (qual : Str) (sc : Scope) (cl : List (Str × Addr)) (f : Addr) (cd : Value) (L : Addr) : Env := newEnv sc L mainGlobals (cellsFrom (L + 1) sc.names [] ++ cl) (qual ++ ".<locals>.") (some f) cd none builtinsNs
/-- its body's context, at its entry -/
def lCx (P : Program) (w : World) (K : PySem.W.Frag) (mg : Str → Option Value) (base : Heap) (N : List Str) (qual : Str) (sc : Scope) (cl : List (Str × Addr)) (f : Addr) (cd : Value) (A : Around) (out : List Env) (s : Shared) (H : Hp) : Cx where
  prog := P
  w := w
  K := K
  mg := mg
  base := base
  A := A.deeper (lEnv qual sc cl f cd s.heap.objs.size)
  N := N
  s_0 := s
  H_0 := H
  env := lEnv qual sc cl f cd s.heap.objs.size
  outer := out
  stack := lEnv qual sc cl f cd s.heap.objs.size :: out
  ex := []
  calm := true
  fn := fun _ => false
  pn := []
  xe := fun _ _ => False
section
variable {P : Program} {w : World} {K : PySem.W.Frag} {mg : Str → Option Value} {base : Heap} {N fr : List Str} {p qual : Str} {sc : Scope} {cl : List (Str × Addr)} {f c' : Addr} {cd : Value} {A : Around} {out : List Env} {s : Shared} {H : Hp} {u : Value} {v : V} {ws : List (Option V)}
/-- the heap behind the frame's making: the parameter bound -/
structure LHeap (sc : Scope) (p : Str) (u : Value) (s : Shared) (h1 : Heap) : Prop where
  kp : ∀ b o, s.heap.get? b = some o → h1.get? b = some o
  ns : ∃ m, h1.Ns s.heap.objs.size m ∧ (sc.names.lookup p = some .local → m p = some u)
  cell : ∀ y c, (cellsFrom (s.heap.objs.size + 1) sc.names []).lookup y = some c → s.heap.objs.size < c ∧ ∃ v, h1.IsCell c v ∧ (y = p → sc.names.lookup p = some .cell → v = some u)
  apart : (cellsFrom (s.heap.objs.size + 1) sc.names []).Pairwise fun x y => x.2 ≠ y.2
theorem new_lenv {M : Model} {E : Value → Shared → Prop} {Q : Env → Shared → Prop} (S : LSc N p fr sc) (h : ∀ h1 tk, LHeap sc p u s h1 → Q (lEnv qual sc cl f cd s.heap.objs.size) { s with heap := h1, toks := tk }) :
    wpAny M A (newFunctionEnv sc mainGlobals cl [(p, u)] (qual ++ ".<locals>.") (some f) cd none builtinsNs) Q E s := by
  simp only [newFunctionEnv, Option.isSome_none, Bool.false_eq_true, if_false]
  refine wpAny_bind (wpAny_alloc ?_)
  refine wpAny_bind (wpAny_layCells _ (fun name kind cells => by cases hkc : kind == NameKind.cell <;> simp [hkc]) _ _ _ _ ?_)
  have ok := cellsFrom_ok sc.names (s.heap.push { cls := .type "frame", data := .dict #[] }) (s.heap.objs.size + 1) [] ⟨fun _ _ hm => (nomatch hm), List.Pairwise.nil⟩ (by rw [Heap.size_push]; exact Nat.le_refl _)
  rw [Heap.size_push] at ok
  rw [show ({ s with heap := s.heap.push { cls := .type "frame", data := .dict #[] } } : Shared).heap.objs.size = s.heap.objs.size + 1 from Heap.size_push ..]
  rw [show cellsFrom (s.heap.objs.size + 1) sc.names cl = cellsFrom (s.heap.objs.size + 1) sc.names [] ++ cl from cells_app sc.names _ [] cl]
  have hns : (pushCells (s.heap.push { cls := .type "frame", data := .dict #[] }) sc.names).Ns s.heap.objs.size (fun _ => none) := (Heap.Ns.new s.heap (.type "frame")).keeps (pushCells_keeps _ _)
  have kp : ∀ b o, s.heap.get? b = some o → (pushCells (s.heap.push { cls := .type "frame", data := .dict #[] }) sc.names).get? b = some o := fun b o e => pushCells_keeps _ _ b o (Heap.get?_push_of_some _ e)
  have cel : ∀ y c, (cellsFrom (s.heap.objs.size + 1) sc.names []).lookup y = some c → s.heap.objs.size < c ∧ (pushCells (s.heap.push { cls := .type "frame", data := .dict #[] }) sc.names).IsCell c none := fun y c e => by
    have q := ok.empty y c (mem_of_lookup e)
    exact ⟨q.2, q.1⟩
  rw [List.forIn_cons]
  rcases S.par with k | k
  · refine wpAny_bind (wpAny_bind (wpAny_bind (wpAny_storeName_local (env := lEnv qual sc cl f cd s.heap.objs.size) k hns (fun h' hn' hs' => wpAny_pure ?_) (by show (sc.kind == .class || (sc.kind == .module && _)) = false; rw [S.kind]; rfl))))
    dsimp only
    rw [List.forIn_nil]
    refine wpAny_pure (wpAny_pure (h h' _ ⟨fun b o e => hs'.extBut b o (Nat.ne_of_lt (Heap.lt_size e)) (kp b o e), ⟨_, hn', fun _ => by simp⟩, fun y c e => ?_, ok.apart⟩))
    obtain ⟨q1, q2⟩ := cel y c e
    exact ⟨q1, none, q2.sameBut hs' (Nat.ne_of_gt q1), fun _ z => by rw [k] at z; cases z⟩
  · obtain ⟨c, hc⟩ := cell_has (n := s.heap.objs.size + 1) k
    obtain ⟨q1, q2⟩ := cel p c hc
    refine wpAny_bind (wpAny_bind (wpAny_bind (wpAny_storeName_cell (env := lEnv qual sc cl f cd s.heap.objs.size) S.kind k (c := c) (by show (_ ++ cl).lookup p = some c; rw [look_app, hc]; rfl) q2 fun h' hc' hs' => wpAny_pure ?_)))
    dsimp only
    rw [List.forIn_nil]
    refine wpAny_pure (wpAny_pure (h h' _ ⟨fun b o e => ?_, ⟨_, hns.sameBut hs' (Nat.ne_of_lt q1), fun z => by rw [k] at z; cases z⟩, fun y c2 e => ?_, ok.apart⟩))
    · exact hs'.extBut b o (Nat.ne_of_lt (Nat.lt_trans (Heap.lt_size e) q1)) (kp b o e)
    · obtain ⟨r1, r2⟩ := cel y c2 e
      by_cases hy : c2 = c
      · subst hy
        exact ⟨r1, some u, hc', fun _ _ => rfl⟩
      · exact ⟨r1, none, r2.sameBut hs' hy, fun z _ => by subst z; rw [hc] at e; exact absurd (Option.some.inj e).symm hy⟩
theorem inv_lam {h1 : Heap} {tk : Nat} (S : LSc N p fr sc) (hd : A.handled = none) (e0 : Env0 P w K mg base A out s H) (r : RelV v u) (C : CellsAt cl fr ws s.heap H) (L : LHeap sc p u s h1) :
    Inv (lCx P w K mg base N qual sc cl f cd A out s H) [] (startF N [v] ws) H { s with heap := h1, toks := tk } := by
  obtain ⟨m, hns, hm⟩ := L.ns
  have hpl : 1 + fr.length ≤ N.length := by
    have q := congrArg List.length S.pre
    rw [List.length_take, List.length_cons] at q
    omega
  have noA : ∀ b : Addr, b ∉ (lCx P w K mg base N qual sc cl f cd A out s H).ex := fun b z => absurd (show b ∈ ([] : List Addr) from z) (by simp)
  have cellK : ∀ {c : Addr} {v : Option Value}, s.heap.IsCell c v → h1.IsCell c v := fun {c v} ⟨o, ho, hd⟩ => ⟨o, L.kp _ _ ho, hd⟩
  have lt : ∀ y c, cl.lookup y = some c → c < s.heap.objs.size := fun y c e => by
    obtain ⟨_, v, z⟩ := C.all y c e
    exact z.lt
  have cm : ∀ {y c}, (cellsFrom (s.heap.objs.size + 1) sc.names [] ++ cl).lookup y = some c → (cellsFrom (s.heap.objs.size + 1) sc.names []).lookup y = some c ∨ ((cellsFrom (s.heap.objs.size + 1) sc.names []).lookup y = none ∧ cl.lookup y = some c) := fun {y c} e => by
    rw [look_app] at e
    cases q : (cellsFrom (s.heap.objs.size + 1) sc.names []).lookup y with
    | none => rw [q] at e; exact .inr ⟨rfl, e⟩
    | some d => rw [q] at e; cases e; exact .inl rfl
  have clen := C.len
  refine ⟨⟨e0.mod, S.kind, rfl, rfl, Nat.le_refl _, fun y z c e1 e2 => ?_, fun y hy => ?_, fun y c z _ => ?_, fun _ => hd, Around.frames_deeper e0.frames, .inr ⟨rfl, rfl⟩, fun b z => absurd z (noA b), e0.bs, e0.bsz, fun b _ _ => noA b,
      fun b z => absurd z (noA b), e0.funs, e0.frf⟩,
    rfl, e0.bare, Un.kept L.kp, ⟨m, hns, fun i y v' e1 e2 e3 => ?_⟩, fun y c e => ?_, e0.hok.fresh (Nat.le_refl _), fun y c e => ?_, fun q hq => absurd (show q ∈ ([] : List (Addr × Obj)) ++ [] from hq) (by simp), e0.hok.kept L.kp, ?_⟩
  · rcases cm e1 with a | ⟨a0, a⟩ <;> rcases cm e2 with b | ⟨b0, b⟩
    · exact name_of_addr L.apart (mem_of_lookup a) (mem_of_lookup b)
    · exact absurd (Nat.lt_trans (L.cell y c a).1 (lt z c b)) (Nat.lt_irrefl _)
    · exact absurd (Nat.lt_trans (L.cell z c b).1 (lt y c a)) (Nat.lt_irrefl _)
    · exact C.inj y z c a b
  · have hy : sc.names.lookup y = some .cell ∨ sc.names.lookup y = some .free := hy
    rcases hy with hy | hy
    · obtain ⟨c, hc⟩ := cell_has (n := s.heap.objs.size + 1) hy
      exact ⟨c, by show (_ ++ cl).lookup y = some c; rw [look_app, hc]; rfl⟩
    · have hf := S.free _ (PySem.mem_of_lookup hy) rfl
      obtain ⟨i, hi⟩ := List.mem_iff_getElem?.mp hf
      obtain ⟨c, hc, _⟩ := C.has i y hi
      refine ⟨c, ?_⟩
      show (_ ++ cl).lookup y = some c
      rw [look_app]
      cases q : (cellsFrom (s.heap.objs.size + 1) sc.names []).lookup y with
      | none => exact hc
      | some d => exact absurd ((cells_name _ _ _ _ _ (mem_of_lookup q)).resolve_left (by simp)) (S.ncl y hf)
  · have z : false = true := z
    cases z
  · have e1 : N[i]? = some y := e1
    unfold startF at e2
    match i with
    | 0 =>
      have hy : y = p := by
        have q : (N.take (1 + fr.length))[0]? = some y := by rw [List.getElem?_take_of_lt (by omega)]; exact e1
        rw [S.pre] at q
        exact (Option.some.inj q).symm
      have hv : v' = v := by
        have q : (some (some v) : Option (Option V)) = some (some v') := e2
        cases q
        rfl
      subst hy
      subst hv
      refine ⟨u, r, ?_⟩
      rcases S.par with k | k
      · exact .inl ⟨k, hm k⟩
      · obtain ⟨c, hc⟩ := cell_has (n := s.heap.objs.size + 1) k
        refine .inr ⟨.inl k, c, by show (_ ++ cl).lookup y = some c; rw [look_app, hc]; rfl, ?_⟩
        obtain ⟨_, v2, h2, h3⟩ := L.cell y c hc
        rw [h3 rfl k] at h2
        exact h2
    | i + 1 =>
      have e2' : (ws ++ List.replicate (N.length - [v].length - ws.length) none)[i]? = some (some v') := e2
      by_cases h2 : i < fr.length
      · have hq : fr[i]? = some y := by
          have q : (N.take (1 + fr.length))[i + 1]? = some y := by rw [List.getElem?_take_of_lt (by omega)]; exact e1
          rw [S.pre] at q
          exact q
        rw [List.getElem?_append_left (by omega)] at e2'
        obtain ⟨c, hc, hv⟩ := C.has i y hq
        obtain ⟨u', ru, hu⟩ := hv v' e2'
        have hf := List.mem_of_getElem? hq
        refine ⟨u', ru, .inr ⟨.inr (S.frk y hf), c, ?_, cellK hu⟩⟩
        show (_ ++ cl).lookup y = some c
        rw [look_app]
        cases q : (cellsFrom (s.heap.objs.size + 1) sc.names []).lookup y with
        | none => exact hc
        | some d => exact absurd ((cells_name _ _ _ _ _ (mem_of_lookup q)).resolve_left (by simp)) (S.ncl y hf)
      · rw [List.getElem?_append_right (by omega), List.getElem?_replicate] at e2'
        split at e2' <;> cases e2'
  · rcases cm e with a | ⟨_, a⟩
    · obtain ⟨_, v2, z, _⟩ := L.cell y c a
      exact ⟨v2, z⟩
    · obtain ⟨v2, z⟩ := (C.all y c a).2
      exact ⟨v2, cellK z⟩
  · rcases cm e with a | ⟨_, a⟩
    · exact e0.hok.fresh (Nat.le_of_lt (L.cell y c a).1)
    · exact (C.all y c a).1
  · unfold startF
    show _ = N.length
    rw [List.length_append, List.length_append, List.length_map, List.length_replicate, List.length_singleton]
    omega
/-- the lambda at f is called with u -/
theorem lam_run {params : Arguments} {body : Expr} {pm ctv : Value} {k : Nat} {Q : VK} (S : LSc N p fr sc) (hb : bindArgs (PySem.W.kla_fn "<lambda>" qual params body sc cl pm (.ref c') ctv) ⟨[u], []⟩ = pure [(p, u)]) (rm : Room (k + 1) A) (e0 : Env0 P w K mg base A out s H)
    (hf : s.heap.get? f = some (PySem.W.kla_obj "<lambda>" qual params body sc cl pm c' ctv)) (hc : H c' = some (CodeO c' qual)) (C : CellsAt cl fr ws s.heap H) (r : RelV v u)
    (body_ok : ∃ t, PE (lCx P w K mg base N qual sc cl f (.ref c') A out s H) body t ∧ t (startF N [v] ws) H Q) :
    codeAny (model P w) A (.call (.ref f) ⟨[u], []⟩) (CR CX0 out P w H s Q E0) s := by
  have lim : s.heap.NoLimit := e0.mod.nolimit.keeps fun b o e => (e0.bs b o e).1
  refine PySem.W.kla_callFunE rm.depth hf rfl S.co S.gen rfl (codeO_at e0.hok hc) ?_
  rw [hb]
  refine wpAny_pure (new_lenv (qual := qual) (cd := .ref c') S fun h1 tk L => ⟨lim.keeps L.kp, PySem.W.kla_codeExpr ?_⟩)
  obtain ⟨t, ht, hq⟩ := body_ok
  have I := inv_lam (qual := qual) (f := f) (cd := .ref c') (tk := tk) S rm.hd e0 r C L
  refine wpAny_mono (ht.run [] _ _ H _ I hq) (fun u' s' hs => ?_) fun e s' hs => hs.elim
  obtain ⟨v', H', J, r2, q⟩ := hs
  exact ⟨v', H', J.os, J.bare, J.base, J.hok, r2, q⟩
end
end SN
end
section
set_option Elab.async false
set_option linter.all false
set_option maxRecDepth 100000
set_option maxHeartbeats 8000000
/-! S25: sorted(src, key=lambda p: body) as an expression. -/
namespace SN
open PySem L2 LamX NdefX PyProof.Rows
def wX (X : Cx) (e : Expr) : TE := fun σ H Q => ∀ pins s, Inv X pins σ H s → wpAny (model X.prog X.w) X.A (eval e X.env) (EP X pins σ Q) X.xe s
theorem wX.pe {X : Cx} {e : Expr} : PE X e (wX X e) := ⟨fun pins s σ H Q I h => h pins s I⟩
theorem wX.of {X : Cx} {e : Expr} {t : TE} (h : PE X e t) {σ : L2.St} {H : Hp} {Q : VK} (q : t σ H Q) : wX X e σ H Q := fun pins s I => h.run pins s σ H Q I q
/-- the data sorted by the keys -/
def ksD (ks : List (List Int)) (ds : List PD) : List PD := (stSort (fun (p q : List Int × PD) => HT.lexLt p.1 q.1) (ks.zip ds)).map (·.2)
theorem ksD_perm {ks : List (List Int)} {ds : List PD} (h : ks.length = ds.length) : (ksD ks ds).Perm ds := by
  unfold ksD
  have e : (ks.zip ds).map (·.2) = ds := List.map_snd_zip (Nat.le_of_eq h.symm)
  have := (stSort_perm (lt := fun (p q : List Int × PD) => HT.lexLt p.1 q.1) (ks.zip ds)).map (·.2)
  rwa [e] at this
theorem ks_das {H : Hp} : ∀ {ks : List (List Int)} {xs : List V} {ds : List PD}, Das H xs ds → Rel2 (fun (p : List Int × V) (q : List Int × PD) => p.1 = q.1 ∧ Da H p.2 q.2) (ks.zip xs) (ks.zip ds)
  | [], _, _, _ => by rw [List.zip_nil_left, List.zip_nil_left]; exact .nil
  | _ :: _, _, _, .nil => .nil
  | k :: ks, _, _, .cons a t => .cons ⟨rfl, a⟩ (ks_das t)
theorem rel_das {α : Type} {H : Hp} {R : α × V → α × PD → Prop} (h : ∀ p q, R p q → Da H p.2 q.2) : ∀ {l : List (α × V)} {m : List (α × PD)}, Rel2 R l m → Das H (l.map (·.2)) (m.map (·.2))
  | _, _, .nil => .nil
  | _, _, .cons q t => .cons (h _ _ q) (rel_das h t)
theorem ksV_das {H : Hp} {ks : List (List Int)} {xs : List V} {ds : List PD} (h : Das H xs ds) : Das H (ksV ks xs) (ksD ks ds) :=
  rel_das (R := fun (p : List Int × V) (q : List Int × PD) => p.1 = q.1 ∧ Da H p.2 q.2) (fun p q r => r.2) (st_rel (R := fun (p : List Int × V) (q : List Int × PD) => p.1 = q.1 ∧ Da H p.2 q.2) (fun p q p' q' r r' => by
    show HT.lexLt p.1 p'.1 = HT.lexLt q.1 q'.1
    rw [r.1, r'.1]) (ks_das h))
/-- what may be sorted -/
def SrcV (H : Hp) (v : V) (xs : List V) : Prop := ∃ p, v = .ref p ∧ (H p = some (.lst xs) ∨ ∃ n : Nat, n ≤ 100000 ∧ H p = some (.rng 0 n) ∧ xs = rgV 0 n)
theorem SrcV.ex {H H' : Hp} {v : V} {xs : List V} (h : SrcV H v xs) (e : Ex none H H') : SrcV H' v xs := by
  obtain ⟨p, rfl, h | ⟨n, hn, h, r⟩⟩ := h
  · exact ⟨p, rfl, .inl (e.at h rfl (by simp))⟩
  · exact ⟨p, rfl, .inr ⟨n, hn, e.at h rfl (by simp), r⟩⟩
theorem SrcV.coll {X : Cx} {pins : List (Addr × Obj)} {σ : L2.St} {H : Hp} {s : Shared} {v : V} {u : Value} {xs : List V} (I : Inv X pins σ H s) (hc : X.calm = true) (h : SrcV H v xs) (r : RelV v u) : Coll X s u xs := by
  obtain ⟨p, rfl, h | ⟨n, hn, h, rfl⟩⟩ := h
  · obtain rfl : u = Value.ref p := r
    exact coll_lst I h
  · obtain rfl : u = Value.ref p := r
    obtain ⟨t, w, z, e⟩ := I.hok _ _ h
    intro Q E q
    refine collect_range (A := X.A.in1) (n := n) (I.ok.hd hc) e (small_one (by omega) (by omega) (by omega) (by omega)) (by have := rangeSize_nat 0 (n : Int); rw [this]; omega) (by omega) fun h' tk acc kp hi => q h' tk acc.toList kp ?_ ?_
    · have := vals_rg (a := 0) (b := (n : Int)) (acc := acc) (by
        have e2 : ((n : Int) - 0).toNat = n := by omega
        rw [e2]; exact hi)
      exact this
    · rw [Array.length_toList, hi.1, sizeLine_eq]; omega
theorem pe_rngT {X : Cx} {a : Expr} {ta : TE} {p pos : Pos} (hg : Gl X "range") (hm : X.mg "range" = none) (ha : PE X a ta) (na : starEach [a] X.env = (false, eval a X.env) :: starEach [] X.env) :
    PE X (.Call (.Name "range" p) [a] [] pos) (fun σ H Q => ta σ H fun x H1 => ∃ n, x = .int n ∧ ∀ q, H1 q = none → Q (.ref q) (upd H1 q (.rng 0 n))) := by
  refine ⟨fun pins s σ H Q I h => ?_⟩
  refine Call_ (ld_blt I hg hm boot_range (PyProof.Rows.callWith_type1 (one_arg ha I h (fun v s2 x H2 I2 r q => ?_) na) na))
  obtain ⟨n, rfl, q⟩ := q
  obtain ⟨t, rfl⟩ := r
  exact call_range_1 ⟨.ref s2.heap.objs.size, _, I2.laid (o := .rng 0 n) (fun b u e => Heap.get?_push_of_some _ e) (Nat.le_refl _) (show ObjOk X.prog X.w _ _ _ (.rng 0 n) from ⟨_, _, _, IsRange.new _ _ _ _ _ _ _⟩), rfl, q _ (I2.hok.fresh (Nat.le_refl _))⟩
/-- the key as data -/
def keyD (b : Bool) : List Int → PD
  | [] => .none
  | x :: ys => .tuple [.int x, if b then .tuple (ys.map .int) else .int (ys.headD 0)]
def keyOk (b : Bool) : List Int → Bool
  | [] => false
  | _ :: ys => b || decide (ys.length = 1)
theorem keyD_v {H : Hp} {b : Bool} {v : V} {ns : List Int} (ok : keyOk b ns = true) (h : Da H v (keyD b ns)) : KeyV H b v ns := by
  cases ns with
  | nil => cases ok
  | cons x ys =>
    obtain ⟨a, xs, rfl, ha, ds⟩ := h.tuple_inv
    obtain ⟨v1, v2, rfl, d1, d2⟩ := das2 ds
    rw [d1.int_inv] at ha
    refine ⟨a, x, v2, rfl, ha, ?_⟩
    cases b with
    | true => exact ⟨ys, d2, rfl⟩
    | false =>
      have hl : ys.length = 1 := by simpa [keyOk] using ok
      match ys, hl with
      | [y], _ => exact ⟨y, d2.int_inv, rfl⟩
section
variable {g : Gs} {sc lsc : Scope} {X : Cx} {σ : L2.St} {Ha H1 : Hp} {B : Addr → Bool} {c P : Addr} {p : Str} {N' fr : List Str} {js : List Nat} {params : Arguments} {body src : Expr} {lpos kpos p0 pos : Pos} {b : Bool} {items : List PD} {ks : List (List Int)} {Q : VK} {ta : TE} {j : Nat}
/-- what the maker of a lambda has -/
structure LMk (g : Gs) (X : Cx) (c P : Addr) : Prop where
  tb : TabB X.base X.mg c P
  code : X.env.code = .ref c
  mem : (P, X.env.qual ++ "<lambda>") ∈ g.T
  un : ∀ p ∈ g.T, p.1 = P → p.2 = X.env.qual ++ "<lambda>"
theorem sortK (gx : GX g sc X) (hw : g.wl = none) (M : LMk g X c P) (hj : g.k = j + 3) (hg : glB sc "sorted" = true) (hm : g.mg "sorted" = none) (S : LSc N' p fr lsc) (hdef : defaultsOf params X.env = ([], []))
    (hb : ∀ q cl pm cd ct u, bindArgs (PySem.W.kla_fn "<lambda>" q params body lsc cl pm cd ct) ⟨[u], []⟩ = pure [(p, u)])
    (hfr : ∀ y ∈ lsc.names, y.2 = .free → sc.names.lookup y.1 = some .cell ∨ sc.names.lookup y.1 = some .free) (hfr2 : ∀ y ∈ fr, (y, NameKind.free) ∈ lsc.names) (hjs : js.map (fun j => g.N[j]?) = fr.map some)
    (hps : plainE src = true) (ha : PE X src ta) (hl : ks.length = items.length) (hko : ∀ ns ∈ ks, keyOk b ns = true) (ht : Tabs g.T H1)
    (hsrc : ta σ H1 fun v H2 => Ex none H1 H2 ∧ Tabs g.T H2 ∧ ∃ xs, SrcV H2 v xs ∧ Das (rs (al B H1) H2) xs items)
    (hkey : ∀ (i : Nat) (d : PD) (ns : List Int) (v : V) (H' : Hp), items[i]? = some d → ks[i]? = some ns → Ex none H1 H' → Da H' v d → EvD { g with N := N', k := j } lsc (startF N' [v] (js.map (slotAt σ))) H' (allB H') [] body (keyD b ns) [])
    (q : Aft g B H1 (.list (ksD ks items)) [] Q) : wX X (.Call (.Name "sorted" p0) [src] [⟨some "key", .Lambda params body lsc lpos, kpos⟩] pos) σ H1 Q := fun pins s I => by
  have hsort : X.mg "sorted" = none := by rw [gx.mg]; exact hm
  refine wpAny_Call_Name_kw (ld_blt I (gl_of gx.sc hg) hsort PyProof.Rows.Boot.«sorted» ?_)
  have pa : PA X [src] (tCons ta tNil) := pa_cons ha pa_nil (star_no _ (plainE.star hps))
  have st : starEach (src :: []) X.env = (false, eval src X.env) :: starEach [] X.env := star_no _ (plainE.star hps)
  refine PyProof.Rows.callWith_kw (thn (pa.run pos pins s σ H1 (fun vs H2 => match vs with
    | [v] => Ex none H1 H2 ∧ Tabs g.T H2 ∧ ∃ xs, SrcV H2 v xs ∧ Das (rs (al B H1) H2) xs items
    | _ => False) I hsrc) fun us s1 ⟨vs, H2, I2, r, q2⟩ => ?_) (by rw [st]; rfl) (by rw [st]; rfl) rfl rfl
  match vs, r, q2 with
  | [v], .cons (b := u) r1 .nil, ⟨e2, t2, xs, hS, dx⟩ =>
    have has := Caps.made (X := X) (scope := lsc) (fr := fr) (js := js) I.ok (fun y hy e => by rw [gx.sc]; exact hfr y hy e) hfr2 (by rw [gx.N]; exact hjs)
    refine wpAny_evalAll_cons (wpAny_bind (lam_make2 (T := g.T) I2 M.tb M.code M.mem M.un t2 hdef (fun y hy e => ?_) fun f c' pm ctv H3 s3 I3 eN t3 hf uf ff hc => wpAny_bind (wpAny_standAt (wpAny_pure (wpAny_evalAll_nil ?_)))))
    · rcases hfr y hy e with z | z
      · exact I.ok.has _ (.inl (by show X.env.scope.names.lookup _ = _; rw [gx.sc]; exact z))
      · exact I.ok.has _ (.inr (by show X.env.scope.names.lookup _ = _; rw [gx.sc]; exact z))
    · show wpAny _ _ (call (.builtin "sorted") [u] [(Str.ofString "key", .ref f)]) _ _ _
      have e3 : Ex none H2 H3 := ex_of_extN eN
      have lx : xs.length = items.length := dx.length
      refine sk_sorted (b := b) (T := g.T) (ks := ks) (by have := gx.room.un; omega) I3 (SrcV.coll I3 gx.calm (hS.ex e3) r1) (by rw [hl, lx]) hf uf ff t3 (fun i u' x ns H' s' ru hx hns I' ex' t' hf' => ?_) (fun p' H' hp ex' t' hh => q _ H' ?_ ⟨t', fun a z => by rw [hw] at z; cases z⟩ ?_)
      · obtain ⟨d, hd, dv⟩ := dx.get' hx
        have C := cells_of I' has
        have rm : Room (j + 1) X.A.in1.in1 := by
          have := gx.room
          rw [hj] at this
          exact this.in1.in1
        have eA : Ex none H1 H' := (e2.trans e3).trans ex'
        have hc' : H' c' = some (CodeO c' (X.env.qual ++ "<lambda>")) := ex'.at hc rfl (by simp)
        refine wpAny_call (codeAny_mono (lam_run (P := X.prog) (w := X.w) (K := X.K) (mg := X.mg) (base := X.base) (N := N') (A := X.A.in1.in1) (out := X.stack) (Q := fun v H'' => Ex none H' H'' ∧ Tabs g.T H'' ∧ KeyV H'' b v ns) S (hb _ _ _ _ _ _) rm I'.env0.in1.in1 hf' hc' C ru ?_) fun rr s2 c => ?_)
        · have gl : GX { g with N := N', k := j } lsc (lCx X.prog X.w X.K X.mg X.base N' (X.env.qual ++ "<lambda>") lsc (cloFrom X.env.cells lsc.names []) f (.ref c') X.A.in1.in1 X.stack s' H') :=
            ⟨gx.prog, gx.w, gx.K, gx.mg, gx.base, rfl, S.nd, rfl, rfl, rm.deeper _, S.kind, gx.gd, rfl⟩
          have dv' : Da H' x d := (dv.ex rs_ex).ex (e3.trans ex')
          refine ⟨_, wA.pe gl, hkey i d ns x H' hd hns eA dv' H' (Ex.refl H') ⟨t', fun a z => by rw [show ({ g with N := N', k := j } : Gs).wl = g.wl from rfl, hw] at z; cases z⟩ _ fun v H'' ex2 hs2 dk => ⟨?_, hs2.tabs, keyD_v (hko ns (List.mem_of_getElem? hns)) (dk.ex rs_ex)⟩⟩
          rw [show ({ g with N := N', k := j } : Gs).wl = g.wl from rfl, hw] at ex2
          exact ex2
        · match rr, c with
          | .ok (.ret u2), c => exact c
      · rw [hw]
        exact (e2.trans e3).trans ex'
      · have n1 : nt (H1 p') = true := by
          cases z : nt (H1 p') with
          | true => rfl
          | false =>
            have := (e2.trans e3) p' z (by simp)
            rw [hp] at this
            rw [← this] at z
            cases z
        refine .lst (a := p') (xs := ksV ks xs) (by unfold rs; rw [if_pos (al_new n1)]; exact hh) (ksV_das (dx.ex ?_))
        exact rs_mono (w := none) (fun _ _ h => h) (e3.trans ex') fun _ z => by cases z
end
end SN
end
section
set_option Elab.async false
set_option linter.all false
set_option maxRecDepth 100000
set_option maxHeartbeats 8000000
/-! S26: the defs with a lambda: in_lot_order. -/
namespace SN
open PySem L2 LamX NdefX PyProof.Rows
section
variable {P : Program} {w : World} {K : PySem.W.Frag} {mg : Str → Option Value} {base : Heap} {x qual : Str} {params : Arguments} {body : List Stmt} {scope : Scope} {f : Addr} {fd : FuncData} {N ps : List Str} {k : Nat} {sp : Sp}
/-- the rule for a def where no guard runs; its code object is told -/
theorem fnG_ofC (F : FunD K x qual params body scope [] [] f fd) (S : FnScope N ps scope) (ln : ∀ vs H Q, sp vs H Q E0 → vs.length = ps.length)
    (hb : ∀ (A : Around) (out : List Env) (s : Shared) (H : Hp) (vs : List V) (Q : VK), Room k (A.deeper (envOfC qual scope s.heap.objs.size f fd.code)) → A.guards = some [] → sp vs H Q E0 →
      ∃ t, PSs (cxOf CX0 P w K mg base N qual scope f fd.code A out s H E0).nox body t ∧ t { nx := fun _ H' => Q .non H', rt := Q } (start N vs) H) : FnG P w K mg base (k + 1) f fd ps sp := by
  have hc : ∀ cv : Value, ∃ ok : Prop, True := fun _ => ⟨True, trivial⟩
  obtain ⟨c1, c2, c3, c4, c5, c6, c7, cv, c8, c9, rfl, lk, cd, q1, q2⟩ := F.ex
  refine ⟨ln, fun A out s H ar us vs Q rm gd e0 bd rv q0 => ?_⟩
  have hin : K.In s.heap := e0.mod.kin.keeps fun b o e => (e0.bs b o e).1
  have nol : s.heap.NoLimit := e0.mod.nolimit.keeps fun b o e => (e0.bs b o e).1
  have vl := ln vs H Q q0
  have kd : ∀ z ∈ ps.zip us, scope.names.lookup z.1 = some .local ∨ (scope.names.lookup z.1 = some .cell ∧ ((cellsFrom (s.heap.objs.size + 1) scope.names []).lookup z.1).isSome = true) := fun z hz =>
    (S.par z.1 (List.of_mem_zip (a := z.1) (b := z.2) hz).1).imp id fun q => ⟨q, PySem.W.cellsFrom_some _ _ _ (.inl q)⟩
  refine codeAny_call_function rm.depth (hin _ _ lk) rfl S.co S.gen rfl (PySem.W.codeRec_of hin cd) (bd _ _ _ _ (wpAny_newFunctionEnv_cells S.kind kd fun env he s1 y => ?_))
  subst he
  refine ⟨nol.keeps y.toInCall.keep, codeAny_func ?_⟩
  obtain ⟨t, ht, hq⟩ := hb A out s H vs Q (rm.deeper _) gd q0
  have I := inv_start (CX := CX0) (E := E0) (P := P) (w := w) S rm.hd e0 vl rv y
  refine wpAny_mono (ht.nox.run [] s1 (start N vs) H _ I hq) (fun fl s' hs => ?_) fun e s' hs => hs
  match fl, hs with
  | .ret u, hs =>
    obtain ⟨v, σ', H', J, r2, q⟩ := hs
    exact ⟨v, H', J.os, J.bare, J.base, J.hok, r2, q⟩
  | .next, hs =>
    obtain ⟨σ', H', J, q⟩ := hs
    exact ⟨.non, H', J.os, J.bare, J.base, J.hok, rfl, q⟩
  | .brk, hs =>
    obtain ⟨_, _, _, q⟩ := hs
    exact q.elim
  | .cont, hs =>
    obtain ⟨_, _, _, q⟩ := hs
    exact q.elim
end
/-- what a def with a lambda has: its code object and table -/
structure LDef (g : Gs) (x : Str) (fd : FuncData) : Prop where
  ex : ∃ c P, fd.code = .ref c ∧ TabB g.base g.mg c P ∧ (P, (x ++ ".<locals>.") ++ "<lambda>") ∈ g.T ∧ ∀ p ∈ g.T, p.1 = P → p.2 = (x ++ ".<locals>.") ++ "<lambda>"
theorem LDef.mk' {g : Gs} {x : Str} {scope : Scope} {f : Addr} {fd : FuncData} {A : Around} {out : List Env} {s : Shared} {H : Hp} (h : LDef g x fd) : ∃ c P, LMk g (cxOf CX0 g.P g.w g.K g.mg g.base g.N x scope f fd.code A out s H E0).nox c P := by
  obtain ⟨c, P, e1, e2, e3, e4⟩ := h.ex
  exact ⟨c, P, e2, e1, e3, e4⟩
/-- no own defs are called -/
def noF : Fns := fun _ => none
theorem mok_lam {c : Cc} {g : Gs} {Φ : Fns} (m : Mok c g Φ) (N' : List Str) (j : Nat) : Mok ⟨N', [], []⟩ { g with N := N', k := j } noF :=
  ⟨rfl, fun x i z => (by cases z), m.bi, m.ty, m.isi, m.rng, m.enu, m.set_, fun x ar sem z => (by cases z)⟩
/-- (len(lot), lot) -/
def lotK (t : List Int) : List Int := (t.length : Int) :: t
def lotS : List PD → Option PD
  | [.list ds] => (asTups ds).map fun ts => .list (ksD (ts.map lotK) ds)
  | _ => none
def lamB (i : Nat) : Expr := match (defBody (topS i)).getLast? with
  | some (.Return (some (.Call _ _ [⟨_, .Lambda _ b _ _, _⟩] _)) _) => b
  | _ => .Constant .none 0 ⟨0, 0, 0, 0⟩
def lamS (i : Nat) : Scope := match (defBody (topS i)).getLast? with
  | some (.Return (some (.Call _ _ [⟨_, .Lambda _ _ sc _, _⟩] _)) _) => sc
  | _ => defScope (topS i)
def lamA (i : Nat) : Arguments := match (defBody (topS i)).getLast? with
  | some (.Return (some (.Call _ _ [⟨_, .Lambda a _ _ _, _⟩] _)) _) => a
  | _ => defArgs (topS i)
theorem lot_lsc : LSc ["lot"] "lot" [] (lamS 41) := ⟨rfl, rfl, rfl, by decide +kernel, rfl, .inl (by decide +kernel), by decide +kernel, fun _ h => (by cases h), fun _ h => (by cases h)⟩
theorem lot_ir : cE ⟨["lot"], [], []⟩ 60 (lamS 41) (lamB 41) = some (.tup [.bi1 .len (.var 0), .var 0]) := by kernel_rfl
section
variable {g : Gs} {Φ : Fns} {c : Cc} {f : Addr} {fd : FuncData}
theorem lot_ok (F : FunD g.K "in_lot_order" "in_lot_order" (defArgs (topS 41)) (defBody (topS 41)) (defScope (topS 41)) [] [] f fd) (L : LDef g "in_lot_order" fd) (m : Mok c g Φ) (hw : g.wl = none) {j : Nat} (hj : g.k = j + 3) (hN : g.N = (["lots"] : List Str)) : FnG g.P g.w g.K g.mg g.base (g.k + 1) f fd ["lots"] (spD g.T lotS 1) := by
  have S : FnScope g.N ["lots"] (defScope (topS 41)) := by
    rw [hN]
    exact ⟨rfl, rfl, rfl, by decide +kernel, rfl, by decide +kernel, by decide +kernel⟩
  refine fnG_ofC F S (fun vs H Q q => q.1) fun A out s H vs Q rm gd q => ?_
  obtain ⟨hl, B, ds, d, hs, ht, hd, q⟩ := q
  have gs := gs_def (g := g) (x := "in_lot_order") (cv := fd.code) (out := out) (s := s) (H := H) (f := f) (S := S) rm gd
  obtain ⟨cc, P, M⟩ := L.mk' (scope := defScope (topS 41)) (f := f) (A := A) (out := out) (s := s) (H := H)
  refine ⟨_, pss_one (ps_ret wX.pe), ?_⟩
  have hds : ∃ es ts, ds = [.list es] ∧ asTups es = some ts := by
    unfold lotS at hs
    split at hs
    · obtain ⟨ts, h1, h2⟩ := omap hs
      exact ⟨_, ts, rfl, h1⟩
    · cases hs
  obtain ⟨es, ts, rfl, hts⟩ := hds
  obtain ⟨u, rfl, du⟩ := das1 hd
  have hd' : d = .list (ksD (ts.map lotK) es) := by
    have : lotS [.list es] = some (.list (ksD (ts.map lotK) es)) := by
      show (asTups es).map _ = _
      rw [hts]; rfl
    rw [this] at hs
    exact (Option.some.inj hs).symm
  subst hd'
  have hes := asTups_eq hts
  have h0 : (L2.start g.N [u])[0]? = some (some u) := start_at rfl
  have hN0 : (cxOf CX0 g.P g.w g.K g.mg g.base g.N "in_lot_order" (defScope (topS 41)) f fd.code A out s H E0).nox.N[0]? = some ("lots" : Str) := by rw [gs.N, hN]; rfl
  have hu : ∃ p xs, u = .ref p ∧ rs B H p = some (.lst xs) ∧ Das (rs B H) xs es := du.list_inv
  obtain ⟨p, xs, rfl, hp, dx⟩ := hu
  refine sortK (b := true) (B := B) (items := es) (ks := ts.map lotK) (js := []) gs.toGX hw M hj (by decide +kernel) (m.bi .sorted) lot_lsc rfl (fun q cl pm cd ct u => rfl) (by decide +kernel) (fun y h => by cases h) rfl rfl (pe_var (i := 0) hN0 (.inl rfl)) (by rw [hes, List.length_map, List.length_map]) (fun ns h => ?_) ht ⟨.ref p, h0, Ex.refl H, ht, xs, ⟨p, rfl, .inl (rs_at hp).1⟩, dx.ex (rs_mono (w := none) (fun a _ h => al_B h) (Ex.refl H) fun _ z => by cases z)⟩ (fun i d ns v H' hi hn ex dv => ?_) (fun v H' ex hs2 dv => ?_)
  · obtain ⟨t, _, rfl⟩ := List.mem_map.mp h
    rfl
  · have hi2 : i < ts.length := by
      have := (List.getElem?_eq_some_iff.mp hn).1
      rwa [List.length_map] at this
    rw [List.getElem?_map, List.getElem?_eq_getElem hi2] at hn
    rw [hes, List.getElem?_map, List.getElem?_eq_getElem hi2] at hi
    cases hi
    cases hn
    have sl : Sl (allB H') H' [some (tupD ts[i])] (startF ["lot"] [v] (List.map (slotAt (L2.start g.N [V.ref p])) [])) := ⟨rfl, fun k d h => by
      match k with
      | 0 => cases h; exact ⟨v, rfl, dv.ex fun a n _ => by unfold rs allB; rw [n]; rfl⟩
      | k + 1 => cases h⟩
    refine (all_sound (mok_lam m ["lot"] j) 60).E _ _ _ lot_ir _ [some (tupD ts[i])] [some (tupD ts[i])] H' (allB H') _ [] (fun a z => by rw [show ({ g with N := ["lot"], k := j } : Gs).wl = g.wl from rfl, hw] at z; cases z) sl sl ?_
    show ev noF (.tup [.bi1 .len (.var 0), .var 0]) [some (tupD ts[i])] [some (tupD ts[i])] = some (keyD true (lotK ts[i]))
    simp [ev, evs, getR, tupD, keyD, lotK, Bi.sc, pyFn, scal]
  · exact q v H' (by rw [← hw]; exact ex) hs2.tabs dv
end
end SN
end
section
set_option Elab.async false
set_option linter.all false
set_option maxRecDepth 100000
set_option maxHeartbeats 8000000
/-! S27: nodes. -/
namespace SN
open PySem L2 LamX NdefX PyProof.Rows
section
variable {g : Gs} {H : Hp} {B : Addr → Bool} {vs : List V} {ds : List PD}
theorem si_start (hw : g.wl = none) (hl : vs.length ≤ g.N.length) (ht : Tabs g.T H) (hd : Das (rs B H) vs ds) : SI g H B B (st0 g.N.length (ds.map some)) [] (L2.start g.N vs) H := by
  have el : (ds.map some).length = vs.length := by rw [List.length_map, hd.length]
  obtain ⟨z1, z2⟩ := st0_len (m := g.N.length) (l := ds.map some) (by omega)
  have nw : ∀ a, g.wl = some a → False := fun a z => by
    rw [hw] at z
    cases z
  refine ⟨by rw [start_len (by omega), z1], by rw [z1, z2], ⟨ht, fun a z => (nw a z).elim⟩, Ex.refl H, fun a h _ => al_B h, fun a z => (nw a z).elim, fun a z => (nw a z).elim, fun i d' h => ?_, fun i d' h => ?_⟩
  · have h' := getR_app (show getR (ds.map some ++ List.replicate (g.N.length - (ds.map some).length) none) i = some d' from h) (getR_rep _)
    have h2 : ds[i]? = some d' := by
      unfold getR at h'
      rw [List.getElem?_map] at h'
      cases q : ds[i]? with
      | none => rw [q] at h'; cases h'
      | some u => rw [q] at h'; simpa using h'
    obtain ⟨v, hv, dv⟩ := hd.get h2
    exact ⟨v, start_at hv, dv⟩
  · rw [show getR (st0 g.N.length (ds.map some)).ow i = none from getR_rep _ _] at h
    cases h
end
/-- the first parts, tuples of ints -/
def nodT : List PD → Option (List (List Int))
  | [] => some []
  | .tuple (.tuple xs :: _) :: ds => (asInts xs).bind fun t => (nodT ds).map (t :: ·)
  | _ => none
theorem nodT_at : ∀ {ds : List PD} {ts : List (List Int)}, nodT ds = some ts → ts.length = ds.length ∧ ∀ (i : Nat) (d : PD) (t : List Int), ds[i]? = some d → ts[i]? = some t → ∃ r, d = .tuple (tupD t :: r)
  | [], ts, h => by
    cases h
    exact ⟨rfl, fun i d t h => by simp at h⟩
  | d0 :: ds, ts, h => by
    unfold nodT at h
    split at h
    · cases ‹_ :: _ = []›
    · rename_i xs r ds' e
      obtain ⟨t, h1, h2⟩ := obind h
      obtain ⟨us, h3, rfl⟩ := omap h2
      cases e
      obtain ⟨k1, k2⟩ := nodT_at h3
      refine ⟨by rw [List.length_cons, List.length_cons, k1], fun i d t' hd ht => ?_⟩
      match i with
      | 0 =>
        cases hd
        cases ht
        exact ⟨r, by rw [asInts_eq h1]; rfl⟩
      | i + 1 => exact k2 i d t' (by simpa using hd) (by simpa using ht)
    · cases h
def ir60a : SR := .drop (.fn "check_table" [.var 0])
def ir60b : SR := .set 1 [] (.pure (.lc (.tVal (.fn "node_trees" [.fn "built" [.var 0]])) (.one 2) [2] (.tup [.fn "lot_of" [.var 2], .ix (.var 2) (.lit (.int 0)), .bi1 .tuple (.lc (.tVal (.fn "children_of" [.var 2])) (.one 3) [3] (.fn "lot_of" [.var 3]))])))
def stAt (i k : Nat) : Stmt := (defBody (topS i)).getD k (.Pass ⟨0, 0, 0, 0⟩)
theorem ir60a_ok : cS (ccOf (topS 60)) [] 1000 [] 60 (defScope (topS 60)) (stAt 60 0) = some ir60a := by kernel_rfl
theorem ir60b_ok : cS (ccOf (topS 60)) [] 1000 [] 60 (defScope (topS 60)) (stAt 60 1) = some ir60b := by kernel_rfl
def nodF (S : PSt) : Option PD := match getR S.sh 1 with
  | some (.list nds) => (nodT nds).map fun ts => .list (ksD (ts.map lotK) nds)
  | _ => none
def nodS (Φ : Fns) (fu : Nat) (ds : List PD) : Option PD := (execs Φ noW 1000 fu [ir60a, ir60b] (st0 4 (ds.map some)) []).bind fun o => match o with
  | .nx S _ => nodF S
  | _ => none
theorem node_lsc : LSc ["node"] "node" [] (lamS 60) := ⟨rfl, rfl, rfl, by decide +kernel, rfl, .inl (by decide +kernel), by decide +kernel, fun _ h => (by cases h), fun _ h => (by cases h)⟩
theorem node_ir : cE ⟨["node"], [], []⟩ 60 (lamS 60) (lamB 60) = some (.tup [.bi1 .len (.ix (.var 0) (.lit (.int 0))), .ix (.var 0) (.lit (.int 0))]) := by kernel_rfl
section
variable {g : Gs} {Φ : Fns} {c : Cc} {f : Addr} {fd : FuncData} {X : Cx}
theorem atI_0 {a : PD} {r : List PD} : atI (a :: r) 0 = some a := by simp [atI, ixN]
theorem nodes_ok (F : FunD g.K "nodes" "nodes" (defArgs (topS 60)) (defBody (topS 60)) (defScope (topS 60)) [] [] f fd) (L : LDef g "nodes" fd) (m : Mok (ccOf (topS 60)) g Φ) (hw : g.wl = none) (hws : g.ws = 1000) {j : Nat} (hj : g.k = j + 3) (fu : Nat) : FnG g.P g.w g.K g.mg g.base (g.k + 1) f fd ["table"] (spD g.T (nodS Φ fu) 1) := by
  have hN : g.N = (["table", "found", "node", "child"] : List Str) := m.N.trans (by decide +kernel)
  have S : FnScope g.N ["table"] (defScope (topS 60)) := by
    rw [hN]
    exact ⟨rfl, rfl, rfl, by decide +kernel, rfl, by decide +kernel, by decide +kernel⟩
  refine fnG_ofC F S (fun vs H Q q => q.1) fun A out s H vs Q rm gd q => ?_
  obtain ⟨hl, B, ds, d, hs, ht, hd, q⟩ := q
  have gs := gs_def (g := g) (x := "nodes") (cv := fd.code) (out := out) (s := s) (H := H) (f := f) (S := S) rm gd
  obtain ⟨cc, P, M⟩ := L.mk' (scope := defScope (topS 60)) (f := f) (A := A) (out := out) (s := s) (H := H)
  have hN1 : (cxOf CX0 g.P g.w g.K g.mg g.base g.N "nodes" (defScope (topS 60)) f fd.code A out s H E0).nox.N[1]? = some ("found" : Str) := by rw [gs.N, hN]; rfl
  refine ⟨_, pss_cons (wS.ps gs (st := stAt 60 0)) (pss_cons (wS.ps gs (st := stAt 60 1)) (pss_one (ps_ret wX.pe))), ?_⟩
  have k : Wok [] 1000 g noW := ⟨hws, fun z => absurd rfl z, fun x ar sem z => (by cases z)⟩
  have A60 := allSt (mu := []) (fu := fu) m k 60
  have hNl : g.N.length = 4 := by rw [hN]; rfl
  have I0 := si_start hw (vs := vs) (by rw [hl, hNl]; decide) ht hd
  rw [hNl] at I0
  unfold nodS at hs
  obtain ⟨o, hs1, hs2⟩ := obind hs
  unfold execs at hs1
  obtain ⟨o1, hs3, hs1⟩ := obind hs1
  rw [← hws] at hs3
  refine A60.E _ _ _ ir60a_ok H B B _ [] _ H _ o1 I0 hs3 ?_
  cases o1 with
  | rt d1 W1 =>
    have : o = .rt d1 W1 := by
      have h' : some (Out.rt d1 W1) = some o := hs1
      exact (Option.some.inj h').symm
    subst this
    cases hs2
  | nx S1 W1 =>
    intro B1 σ1 H1 I1 T1
    have hs1' : execs Φ noW 1000 fu [ir60b] S1 W1 = some o := hs1
    unfold execs at hs1'
    obtain ⟨o2, hs4, hs5⟩ := obind hs1'
    rw [← hws] at hs4
    refine A60.E _ _ _ ir60b_ok H B B1 S1 W1 σ1 H1 _ o2 I1 hs4 ?_
    cases o2 with
    | rt d1 W1 =>
      have : o = .rt d1 W1 := by
        have h' : some (Out.rt d1 W1) = some o := hs5
        exact (Option.some.inj h').symm
      subst this
      cases hs2
    | nx S2 W2 =>
      intro B2 σ2 H2 I2 T2
      have : o = .nx S2 W2 := by
        have h' : (execs Φ noW 1000 fu [] S2 W2) = some o := hs5
        unfold execs at h'
        exact (Option.some.inj h').symm
      subst this
      have hs2' : nodF S2 = some d := hs2
      unfold nodF at hs2'
      split at hs2'
      · rename_i nds hnd
        obtain ⟨ts, hts, rfl⟩ := omap hs2'
        obtain ⟨tl, tat⟩ := nodT_at hts
        obtain ⟨v, hv, dv⟩ := I2.da 1 _ hnd
        obtain ⟨p, xs, rfl, hp, dx⟩ := dv.list_inv
        refine sortK (b := true) (B := B2) (items := nds) (ks := ts.map lotK) (js := []) gs.toGX hw M hj (by decide +kernel) (m.bi .sorted) node_lsc rfl (fun q cl pm cd ct u => rfl) (by decide +kernel) (fun y h => (by cases h)) rfl rfl (pe_var (i := 1) hN1 (.inl rfl)) (by rw [List.length_map]; exact tl) (fun ns h => ?_) I2.hs.tabs ⟨.ref p, hv, Ex.refl H2, I2.hs.tabs, xs, ⟨p, rfl, .inl (rs_at hp).1⟩, dx.ex (rs_mono (w := none) (fun a _ h => al_B h) (Ex.refl H2) fun _ z => (by cases z))⟩ (fun i d ns v H' hi hn ex dv => ?_) (fun v H' ex hs2 dv => ?_)
        · obtain ⟨t, _, rfl⟩ := List.mem_map.mp h
          rfl
        · have hi2 : i < ts.length := by
            have := (List.getElem?_eq_some_iff.mp hn).1
            rwa [List.length_map] at this
          rw [List.getElem?_map, List.getElem?_eq_getElem hi2] at hn
          cases hn
          obtain ⟨r, rfl⟩ := tat i d ts[i] hi (List.getElem?_eq_getElem hi2)
          have sl : Sl (allB H') H' [some (.tuple (tupD ts[i] :: r))] (startF ["node"] [v] (List.map (slotAt σ2) [])) := ⟨rfl, fun k d h => by
            match k with
            | 0 => cases h; exact ⟨v, rfl, dv.ex fun a n _ => by unfold rs allB; rw [n]; rfl⟩
            | k + 1 => cases h⟩
          refine (all_sound (mok_lam m ["node"] j) 60).E _ _ _ node_ir _ [some (.tuple (tupD ts[i] :: r))] [some (.tuple (tupD ts[i] :: r))] H' (allB H') _ [] (fun a z => by rw [show ({ g with N := ["node"], k := j } : Gs).wl = g.wl from rfl, hw] at z; cases z) sl sl ?_
          show ev noF (.tup [.bi1 .len (.ix (.var 0) (.lit (.int 0))), .ix (.var 0) (.lit (.int 0))]) [some (.tuple (tupD ts[i] :: r))] [some (.tuple (tupD ts[i] :: r))] = some (keyD true (lotK ts[i]))
          simp [ev, evs, getR, tupD, keyD, lotK, Bi.sc, pyFn, scal, pyIx, atI_0]
        · refine q v H' ?_ hs2.tabs (dv.ex ?_)
          · have e1 := I2.ex
            rw [hw] at e1 ex
            exact e1.trans ex
          · refine rs_mono (w := none) (fun a n h => ?_) (Ex.refl H') fun _ z => (by cases z)
            have up : nt (H2 a) = true → al B H a = true := fun z => al_new (I2.ex.nt z (by rw [hw]; simp))
            cases z : nt (H2 a) with
            | true => exact up z
            | false =>
              unfold al at h
              rw [z, Bool.or_false] at h
              exact I2.nm a h z
      · cases hs2'
end
end SN
end
section
set_option Elab.async false
set_option linter.all false
set_option maxRecDepth 100000
set_option maxHeartbeats 8000000
/-! S28: evaluating the small language; linear_row. -/
namespace SN
open PySem L2 LamX NdefX PyProof.Rows
/-! ### plain evaluation -/
theorem mapM_some {α β : Type} {F : α → Option β} {f : α → β} : ∀ {l : List α}, (∀ d ∈ l, F d = some (f d)) → l.mapM F = some (l.map f)
  | [], _ => rfl
  | a :: l, h => by
    rw [List.mapM_cons, h a (List.mem_cons_self ..), mapM_some (l := l) fun d hd => h d (List.mem_cons_of_mem _ hd)]
    rfl
theorem mapM_ex {α β : Type} {F : α → Option β} : ∀ {l : List α}, (∀ d ∈ l, ∃ b, F d = some b) → ∃ m, l.mapM F = some m ∧ m.length = l.length
  | [], _ => ⟨[], rfl, rfl⟩
  | a :: l, h => by
    obtain ⟨b, hb⟩ := h a (List.mem_cons_self ..)
    obtain ⟨m, hm, hl⟩ := mapM_ex (l := l) fun d hd => h d (List.mem_cons_of_mem _ hd)
    exact ⟨b :: m, by rw [List.mapM_cons, hb, hm]; rfl, by rw [List.length_cons, List.length_cons, hl]⟩
theorem atI_nat {ds : List PD} {k : Nat} {d : PD} (h : ds[k]? = some d) : atI ds (k : Int) = some d := by
  have hk : k < ds.length := (List.getElem?_eq_some_iff.mp h).1
  have e : ixN ds.length (k : Int) = some k := by
    unfold ixN
    rw [if_pos (by omega), if_pos (by omega)]
    simp
  unfold atI
  rw [e]
  exact h
theorem rngD_nat (n : Nat) : rngD 0 n = (List.range n).map fun (i : Nat) => PySem.PyData.int (i : Int) := by
  unfold rngD
  refine List.map_congr_left fun i _ => ?_
  rw [show (0 : Int) + (i : Int) = i by omega]
section
variable {Φ : Fns} {src elt c : IR} {i : Nat} {own : List Nat} {ρ τ : Rho} {items : List PD}
theorem ev_lc {f : PD → PD} (h1 : evI Φ src ρ τ = some items) (h2 : ∀ d ∈ items, ev Φ elt ((wipeR ρ own).set i (some d)) ((wipeR τ own).set i (some d)) = some (f d)) (hz : items.length ≤ big) :
    ev Φ (.lc src (.one i) own elt) ρ τ = some (.list (items.map f)) := by
  unfold ev
  rw [h1, Option.bind_some, mapM_some (f := f) (fun d hd => by
    show ev Φ elt ((wipeR ρ own).set i (some d)) ((wipeR τ own).set i (some d)) = _
    exact h2 d hd), Option.bind_some]
  unfold bigL
  rw [if_pos hz]
theorem filterMap_if {α β : Type} {p : α → Bool} {f : α → β} : ∀ l : List α, ((l.map fun d => if p d then some (f d) else none).filterMap id) = (l.filter p).map f
  | [] => rfl
  | a :: l => by
    rw [List.map_cons, List.filter_cons]
    cases h : p a with
    | true => simp [filterMap_if l]
    | false => simp [filterMap_if l]
theorem ev_lcIf {p : PD → Bool} {f : PD → PD} (h1 : evI Φ src ρ τ = some items) (h2 : ∀ d ∈ items, evT Φ c ((wipeR τ own).set i (some d)) = some (p d)) (h3 : ∀ d ∈ items, p d = true → ev Φ elt ((wipeR ρ own).set i (some d)) ((wipeR τ own).set i (some d)) = some (f d)) (hz : items.length ≤ big) :
    ev Φ (.lcIf src (.one i) own c elt) ρ τ = some (.list ((items.filter p).map f)) := by
  unfold ev
  rw [h1, Option.bind_some, mapM_some (f := fun d => if p d then some (f d) else none) (fun d hd => by
    show (evT Φ c ((wipeR τ own).set i (some d))).bind (fun q => if q then (ev Φ elt ((wipeR ρ own).set i (some d)) ((wipeR τ own).set i (some d))).map some else some none) = _
    rw [h2 d hd, Option.bind_some]
    cases hp : p d with
    | true => simp only [if_true]; rw [h3 d hd hp]; rfl
    | false => rfl), Option.bind_some]
  unfold bigL
  rw [if_pos hz, filterMap_if]
theorem ev_rng1 {a : IR} {n : Nat} (h : ev Φ a τ τ = some (.int (n : Int))) (hn : n < 100000) : evI Φ (.rng1 a) ρ τ = some ((List.range n).map fun (i : Nat) => PySem.PyData.int (i : Int)) := by
  unfold evI
  rw [h, Option.bind_some]
  show (if (n : Int) < 2 ^ 62 ∧ -(2 ^ 62) ≤ (n : Int) then some (rngD 0 (n : Int).toNat) else none) = _
  rw [if_pos (by omega), Int.toNat_natCast, rngD_nat]
end
/-! ### linear_row on symmetric tables -/
def mAt (M : List (List Int)) (i j : Nat) : Int := (M.getD i []).getD j 0
def symM (M : List (List Int)) : Bool := decide (2 ≤ M.length) && (decide (M.length ≤ 1000) && (M.all (fun r => decide (r.length = M.length)) && (List.range M.length).all fun i => (List.range M.length).all fun j => decide (mAt M i j = mAt M j i)))
theorem mat_ix {M : List (List Int)} {n i j : Nat} (hr : ∀ r ∈ M, r.length = n) (hi : i < M.length) (hj : j < n) : ((pyIx (.tuple (M.map tupD)) (.int (i : Int))).bind fun x => pyIx x (.int (j : Int))) = some (.int (mAt M i j)) := by
  have h1 : (M.map tupD)[i]? = some (tupD M[i]) := by rw [List.getElem?_map, List.getElem?_eq_getElem hi]; rfl
  have h2 : j < M[i].length := by rw [hr _ (List.getElem_mem hi)]; exact hj
  show ((atI (M.map tupD) (i : Int)).bind _) = _
  rw [atI_nat h1]
  show atI (M[i].map PySem.PyData.int) (j : Int) = _
  rw [atI_nat (d := PySem.PyData.int M[i][j]) (by rw [List.getElem?_map, List.getElem?_eq_getElem h2]; rfl)]
  have e1 : M.getD i [] = M[i] := by rw [List.getD_eq_getElem?_getD, List.getElem?_eq_getElem hi]; rfl
  have e2 : M[i].getD j 0 = M[i][j] := by rw [List.getD_eq_getElem?_getD, List.getElem?_eq_getElem h2]; rfl
  unfold mAt
  rw [e1, e2]
def linS : List PD → Option PD
  | [.tuple rows, .int low] => (asTups rows).bind fun M => if symM M then some .none else none
  | _ => none
def irLam51 : IR := .tup [.neg (.bi1 .len (.lcIf (.rng1 (.var 2)) (.one 4) [4] (.tAnd (.tCmp .NotEq (.var 4) (.var 0)) (.tCmp .Eq (.ix (.ix (.var 3) (.var 0)) (.var 4)) (.var 1))) (.var 4))), .var 0]
theorem lam51_ev {M : List (List Int)} {low : Int} {x : Nat} (hs : symM M = true) (hx : x < M.length) : ∃ a : Int, ev noF irLam51 [some (.int (x : Int)), some (.int low), some (.int (M.length : Int)), some (.tuple (M.map tupD)), none] [some (.int (x : Int)), some (.int low), some (.int (M.length : Int)), some (.tuple (M.map tupD)), none] = some (.tuple [.int a, .int (x : Int)]) := by
  unfold symM at hs
  simp only [Bool.and_eq_true, decide_eq_true_eq, List.all_eq_true] at hs
  obtain ⟨h1, h2, h3, h4⟩ := hs
  have key := ev_lcIf (Φ := noF) (src := .rng1 (.var 2)) (i := 4) (own := [4]) (c := .tAnd (.tCmp .NotEq (.var 4) (.var 0)) (.tCmp .Eq (.ix (.ix (.var 3) (.var 0)) (.var 4)) (.var 1))) (elt := .var 4) (ρ := [some (.int (x : Int)), some (.int low), some (.int (M.length : Int)), some (.tuple (M.map tupD)), none]) (τ := [some (.int (x : Int)), some (.int low), some (.int (M.length : Int)), some (.tuple (M.map tupD)), none])
    (p := fun d => match d with
      | .int y => decide (y ≠ (x : Int)) && decide (mAt M x y.toNat = low)
      | _ => false) (f := id) (ev_rng1 (n := M.length) rfl (by omega)) (fun d hd => ?_) (fun d hd _ => ?_) (by rw [List.length_map, List.length_range]; unfold big; omega)
  · refine ⟨-((((((List.range M.length).map fun (i : Nat) => PySem.PyData.int (i : Int)).filter fun d => match d with
      | .int y => decide (y ≠ (x : Int)) && decide (mAt M x y.toNat = low)
      | _ => false).map id).length : Nat) : Int), ?_⟩
    unfold irLam51
    rw [ev]
    rw [evs, ev, ev, key]
    rfl
  · obtain ⟨y, hy, rfl⟩ := List.mem_map.mp hd
    rw [List.mem_range] at hy
    have e := mat_ix (M := M) h3 hx hy
    by_cases hxy : (y : Int) = (x : Int)
    · simp [wipeR, evT, ev, getR, pyCmp, SeqAt.shaped, PyData.canLay0, PyData.depth, PyData.eqv, asBool, hxy]
    · simp [wipeR, evT, ev, getR, pyCmp, SeqAt.shaped, PyData.canLay0, PyData.depth, PyData.eqv, asBool, hxy, e]
      rw [Bool.eq_iff_iff]
      simp
  · obtain ⟨y, hy, rfl⟩ := List.mem_map.mp hd
    simp [wipeR, ev, getR]
end SN
end
section
set_option Elab.async false
set_option linter.all false
set_option maxRecDepth 100000
set_option maxHeartbeats 8000000
/-! S29: linear_row. -/
namespace SN
open PySem L2 LamX NdefX PyProof.Rows
def ir51a : SR := .set 5 [] (.pure (.bi1 .len (.var 0)))
def ir51t : IR := .tOr (.tCmp .NotEq (.ix (.ix (.var 0) (.ix (.var 2) (.var 4))) (.ix (.var 2) (.var 3))) (.var 1)) (.tCmp .Eq (.ix (.ix (.var 0) (.ix (.var 2) (.var 3))) (.ix (.var 2) (.var 4))) (.var 1))
def ir51c : SR := .iter (.one 3) [] (.rng1 (.var 5)) [.iter (.one 4) [] (.rng1 (.var 3)) [.ite ir51t [.ret [] (.pure (.lit .none))] []]]
theorem ir51a_ok : cS (ccOf (topS 51)) [] 1000 [] 60 (defScope (topS 51)) (stAt 51 0) = some ir51a := by kernel_rfl
theorem ir51c_ok : cS (ccOf (topS 51)) [] 1000 [] 60 (defScope (topS 51)) (stAt 51 2) = some ir51c := by kernel_rfl
def lamX (i k : Nat) : Expr := match stAt i k with
  | .Assign _ (.Call _ _ [⟨_, .Lambda _ b _ _, _⟩] _) _ => b
  | _ => .Constant .none 0 ⟨0, 0, 0, 0⟩
def lamXS (i k : Nat) : Scope := match stAt i k with
  | .Assign _ (.Call _ _ [⟨_, .Lambda _ _ sc _, _⟩] _) _ => sc
  | _ => defScope (topS i)
def N51 : List Str := ["x", "low", "many", "table", "y"]
theorem lin_lsc : LSc N51 "x" ["low", "many", "table"] (lamXS 51 1) := ⟨rfl, rfl, rfl, by decide +kernel, by decide +kernel, .inr (by decide +kernel), by decide +kernel, by decide +kernel, by decide +kernel⟩
theorem lin_ir : cE ⟨N51, [], []⟩ 60 (lamXS 51 1) (lamX 51 1) = some irLam51 := by kernel_rfl
section
variable {Φ : Fns} {Ψ : Wns} {fu : Nat} {M : List (List Int)} {low : Int} {a b : Nat} {rest : List PD}
theorem lin_test (hs : symM M = true) (ha : a < M.length) (hb : b < M.length) :
    evT Φ ir51t [some (.tuple (M.map tupD)), some (.int low), some (.list (.int (a : Int) :: .int (b : Int) :: rest)), some (.int 1), some (.int 0), some (.int (M.length : Int))] = some true := by
  unfold symM at hs
  simp only [Bool.and_eq_true, decide_eq_true_eq, List.all_eq_true] at hs
  obtain ⟨h1, h2, h3, h4⟩ := hs
  have e1 := mat_ix (M := M) h3 ha hb
  have e2 := mat_ix (M := M) h3 hb ha
  have e3 : mAt M a b = mAt M b a := h4 a (List.mem_range.mpr ha) b (List.mem_range.mpr hb)
  have i0 : atI (PySem.PyData.int (a : Int) :: PySem.PyData.int (b : Int) :: rest) 0 = some (.int (a : Int)) := atI_0
  have i1 : atI (PySem.PyData.int (a : Int) :: PySem.PyData.int (b : Int) :: rest) 1 = some (.int (b : Int)) := atI_nat (k := 1) rfl
  have t1 : pyIx (.tuple (M.map tupD)) (.int (a : Int)) = some (tupD M[a]) := atI_nat (by rw [List.getElem?_map, List.getElem?_eq_getElem ha]; rfl)
  have t2 : pyIx (.tuple (M.map tupD)) (.int (b : Int)) = some (tupD M[b]) := atI_nat (by rw [List.getElem?_map, List.getElem?_eq_getElem hb]; rfl)
  rw [t1, Option.bind_some] at e1
  rw [t2, Option.bind_some] at e2
  rw [← e3] at e2
  have j0 : pyIx (.list (PySem.PyData.int (a : Int) :: PySem.PyData.int (b : Int) :: rest)) (.int 0) = some (.int (a : Int)) := i0
  have j1 : pyIx (.list (PySem.PyData.int (a : Int) :: PySem.PyData.int (b : Int) :: rest)) (.int 1) = some (.int (b : Int)) := i1
  by_cases hm : mAt M a b = low
  · simp [ir51t, evT, ev, getR, j0, j1, t1, t2, e1, e2, pyCmp, SeqAt.shaped, PyData.canLay0, PyData.depth, PyData.eqv, asBool, hm]
  · simp [ir51t, evT, ev, getR, j0, j1, t1, t2, e1, e2, pyCmp, SeqAt.shaped, PyData.canLay0, PyData.depth, PyData.eqv, asBool, hm]
theorem lin_exec (hs : symM M = true) (ha : a < M.length) (hb : b < M.length) (W : WT) :
    exec Φ Ψ 1000 fu ir51c ⟨[some (.tuple (M.map tupD)), some (.int low), some (.list (.int (a : Int) :: .int (b : Int) :: rest)), none, none, some (.int (M.length : Int))], List.replicate 6 none⟩ W = some (.rt .none W) := by
  have ht := lin_test (Φ := Φ) (low := low) (rest := rest) hs ha hb
  unfold symM at hs
  simp only [Bool.and_eq_true, decide_eq_true_eq, List.all_eq_true] at hs
  obtain ⟨h1, h2, _⟩ := hs
  have hr : rngD 0 M.length = .int 0 :: .int 1 :: (rngD 0 M.length).drop 2 := by
    match hM : M.length, h1 with
    | n + 2, _ =>
      rw [rngD_nat, List.range_succ_eq_map, List.range_succ_eq_map]
      rfl
  unfold ir51c exec
  have hI : evI Φ (.rng1 (.var 5)) [some (.tuple (M.map tupD)), some (.int low), some (.list (.int (a : Int) :: .int (b : Int) :: rest)), none, none, some (.int (M.length : Int))] [some (.tuple (M.map tupD)), some (.int low), some (.list (.int (a : Int) :: .int (b : Int) :: rest)), none, none, some (.int (M.length : Int))] = some (.int 0 :: .int 1 :: (rngD 0 M.length).drop 2) := by
    rw [← hr]
    have := ev_rng1 (Φ := Φ) (ρ := [some (.tuple (M.map tupD)), some (.int low), some (.list (.int (a : Int) :: .int (b : Int) :: rest)), none, none, some (.int (M.length : Int))]) (τ := [some (.tuple (M.map tupD)), some (.int low), some (.list (.int (a : Int) :: .int (b : Int) :: rest)), none, none, some (.int (M.length : Int))]) (a := .var 5) (n := M.length) rfl (by omega)
    rw [this, rngD_nat]
  show (evI Φ (.rng1 (.var 5)) [some (.tuple (M.map tupD)), some (.int low), some (.list (.int (a : Int) :: .int (b : Int) :: rest)), none, none, some (.int (M.length : Int))] [some (.tuple (M.map tupD)), some (.int low), some (.list (.int (a : Int) :: .int (b : Int) :: rest)), none, none, some (.int (M.length : Int))]).bind _ = _
  rw [hI, Option.bind_some]
  have in0 : rngD 0 0 = [] := rfl
  have in1 : rngD 0 1 = [.int 0] := rfl
  have r1 : evT Φ ir51t [some (.tuple (M.map tupD)), some (.int low), some (.list (.int (a : Int) :: .int (b : Int) :: rest)), some (.int 1), some (.int 0), some (.int (M.length : Int))] = some true := ht
  simp [loopF, PSt.putT, PSt.put, execs, exec, PSt.share, PSt.all, orR, evI, ev, getR, in0, in1, r1, Out.thn, evX, evV]
end
theorem ks_two {n : Nat} {ks : List (List Int)} (hl : ks.length = (rngD 0 n).length) (hn : 2 ≤ n) : ∃ (a b : Nat) (rest : List PD), a < n ∧ b < n ∧ ksD ks (rngD 0 n) = .int (a : Int) :: .int (b : Int) :: rest := by
  have p := ksD_perm hl
  have hlen := p.length_eq
  rw [rngD_len] at hlen
  have mem : ∀ d ∈ ksD ks (rngD 0 n), ∃ a : Nat, a < n ∧ d = .int (a : Int) := fun d hd => by
    have h := p.mem_iff.mp hd
    rw [rngD_nat] at h
    obtain ⟨a, ha, rfl⟩ := List.mem_map.mp h
    exact ⟨a, List.mem_range.mp ha, rfl⟩
  match h : ksD ks (rngD 0 n) with
  | [] => rw [h] at hlen; simp at hlen; omega
  | [x] => rw [h] at hlen; simp at hlen; omega
  | x :: y :: rest =>
    rw [h] at mem
    obtain ⟨a, ha, rfl⟩ := mem x (by simp)
    obtain ⟨b, hb, rfl⟩ := mem y (by simp)
    exact ⟨a, b, rest, ha, hb, rfl⟩
section
variable {g : Gs} {Φ : Fns} {f : Addr} {fd : FuncData}
theorem linear_ok (F : FunD g.K "linear_row" "linear_row" (defArgs (topS 51)) (defBody (topS 51)) (defScope (topS 51)) [] [] f fd) (L : LDef g "linear_row" fd) (m : Mok (ccOf (topS 51)) g Φ) (hw : g.wl = none) (hws : g.ws = 1000) {j : Nat} (hj : g.k = j + 3) : FnG g.P g.w g.K g.mg g.base (g.k + 1) f fd ["table", "low"] (spD g.T linS 2) := by
  have hN : g.N = (["table", "low", "row", "k", "j", "many"] : List Str) := m.N.trans (by decide +kernel)
  have S : FnScope g.N ["table", "low"] (defScope (topS 51)) := by
    rw [hN]
    exact ⟨rfl, rfl, rfl, by decide +kernel, rfl, by decide +kernel, by decide +kernel⟩
  refine fnG_ofC F S (fun vs H Q q => q.1) fun A out s H vs Q rm gd q => ?_
  obtain ⟨hl, B, ds, d, hs, ht, hd, q⟩ := q
  have gs := gs_def (g := g) (x := "linear_row") (cv := fd.code) (out := out) (s := s) (H := H) (f := f) (S := S) rm gd
  obtain ⟨cc, P, M⟩ := L.mk' (scope := defScope (topS 51)) (f := f) (A := A) (out := out) (s := s) (H := H)
  have hNN : (cxOf CX0 g.P g.w g.K g.mg g.base g.N "linear_row" (defScope (topS 51)) f fd.code A out s H E0).nox.N = (["table", "low", "row", "k", "j", "many"] : List Str) := by rw [gs.N, hN]
  have hds : ∃ rows low T, ds = [.tuple rows, .int low] ∧ asTups rows = some T ∧ symM T = true ∧ d = .none := by
    unfold linS at hs
    split at hs
    · obtain ⟨T, h1, h2⟩ := obind hs
      split at h2
      · cases h2
        exact ⟨_, _, T, rfl, h1, by assumption, rfl⟩
      · cases h2
    · cases hs
  obtain ⟨rows, low, T, rfl, hT, hsym, rfl⟩ := hds
  have hrows := asTups_eq hT
  subst hrows
  have hsz : 2 ≤ T.length ∧ T.length ≤ 1000 := by
    unfold symM at hsym
    simp only [Bool.and_eq_true, decide_eq_true_eq] at hsym
    exact ⟨hsym.1, hsym.2.1⟩
  refine ⟨_, pss_cons (wS.ps gs (st := stAt 51 0)) (pss_cons (ps_set (i := 2) gs.nd (by rw [hNN]; rfl) (.inl rfl) wX.pe (by rfl) (.inl rfl)) (pss_cons (wS.ps gs (st := stAt 51 2)) (pss_one (wS.ps gs (st := stAt 51 3))))), ?_⟩
  have k : Wok [] 1000 g noW := ⟨hws, fun z => absurd rfl z, fun x ar sem z => (by cases z)⟩
  have A60 := allSt (mu := []) (fu := 0) m k 60
  have hNl : g.N.length = 6 := by rw [hN]; rfl
  have I0 := si_start hw (vs := vs) (by rw [hl, hNl]; decide) ht hd
  rw [hNl] at I0
  have ex0 : exec Φ noW g.ws 0 ir51a (st0 6 ([.tuple (T.map tupD), .int low].map some)) [] = some (.nx ⟨[some (.tuple (T.map tupD)), some (.int low), none, none, none, some (.int (T.length : Int))], List.replicate 6 none⟩ []) := by
    rw [hws]
    simp [ir51a, exec, evX, evV, ev, getR, st0, PSt.share, PSt.put, PSt.all, orR, Bi.sc, pyFn, scal]
  refine A60.E _ _ _ ir51a_ok H B B _ [] _ H _ _ I0 ex0 fun B1 σ1 H1 I1 T1 => ?_
  obtain ⟨vt, hvt, dvt⟩ := I1.da 0 (.tuple (T.map tupD)) rfl
  obtain ⟨vl, hvl, dvl⟩ := I1.da 1 (.int low) rfl
  obtain ⟨vm, hvm, dvm⟩ := I1.da 5 (.int (T.length : Int)) rfl
  -- the keys
  have hkx : ∀ x : Nat, ∃ a : Int, x < T.length → ev noF irLam51 [some (.int (x : Int)), some (.int low), some (.int (T.length : Int)), some (.tuple (T.map tupD)), none] [some (.int (x : Int)), some (.int low), some (.int (T.length : Int)), some (.tuple (T.map tupD)), none] = some (.tuple [.int a, .int (x : Int)]) := fun x => by
    by_cases hx : x < T.length
    · obtain ⟨a, ha⟩ := lam51_ev (low := low) hsym hx
      exact ⟨a, fun _ => ha⟩
    · exact ⟨0, fun z => absurd z hx⟩
  obtain ⟨ka, hka⟩ := Classical.axiomOfChoice hkx
  have hkl : ((List.range T.length).map fun x => [ka x, (x : Int)]).length = (rngD 0 T.length).length := by rw [List.length_map, List.length_range, rngD_len]
  refine sortK (b := false) (B := B1) (items := rngD 0 T.length) (ks := (List.range T.length).map fun x => [ka x, (x : Int)]) (js := [1, 5, 0]) (N' := N51) (fr := ["low", "many", "table"]) gs.toGX hw M hj (by decide +kernel) (m.bi .sorted) lin_lsc rfl (fun q cl pm cd ct u => rfl) (by decide +kernel) (by decide +kernel) (by rw [hN]; rfl) rfl (pe_rngT (show Gl _ _ from rfl) m.rng (pe_var (i := 5) (by rw [hNN]; rfl) (.inr (.inl rfl))) rfl) hkl (fun ns h => ?_) I1.hs.tabs ⟨vm, hvm, T.length, dvm.int_inv, fun q hq => ⟨ex_new' hq, tabs_new I1.hs.tabs hq, rgV 0 T.length, ⟨q, rfl, .inr ⟨T.length, by omega, upd_same, rfl⟩⟩, ?_⟩⟩ (fun i d ns v H' hi hn ex dv => ?_) (fun v H' ex hs2 dv => ?_)
  · obtain ⟨x, _, rfl⟩ := List.mem_map.mp h
    rfl
  · have := rgV_da (H := rs (al B1 H1) (upd H1 q (.rng 0 T.length))) (lo := 0) (hi := (T.length : Int))
    rw [show ((T.length : Int) - 0).toNat = T.length by omega] at this
    exact this
  · have hi2 : i < T.length := by
      have := (List.getElem?_eq_some_iff.mp hi).1
      rwa [rngD_len] at this
    rw [List.getElem?_map, List.getElem?_range hi2] at hn
    cases hn
    obtain ⟨e2, _⟩ := rngD_get hi
    rw [show (0 : Int) + (i : Int) = (i : Int) by omega] at e2
    subst e2
    have up : ∀ {v : V} {d : PD}, Da (rs B1 H1) v d → Da (rs (allB H') H') v d := fun h => ((h.ex rs_ex).ex ex).ex fun a n _ => by
      unfold rs allB
      rw [n]; rfl
    have sa : ∀ {i : Nat} {v : V}, σ1[i]? = some (some v) → slotAt σ1 i = some v := fun h => slotAt_of h
    have sl : Sl (allB H') H' [some (.int (i : Int)), some (.int low), some (.int (T.length : Int)), some (.tuple (T.map tupD)), none] (startF N51 [v] (List.map (slotAt σ1) [1, 5, 0])) := by
      have e : startF N51 [v] (List.map (slotAt σ1) [1, 5, 0]) = [some v, some vl, some vm, some vt, none] := by
        show [some v] ++ ([slotAt σ1 1, slotAt σ1 5, slotAt σ1 0] ++ List.replicate 1 none) = _
        rw [sa hvl, sa hvm, sa hvt]
        rfl
      rw [e]
      refine ⟨rfl, fun k d h => ?_⟩
      match k with
      | 0 => cases h; exact ⟨v, rfl, dv.scal rfl⟩
      | 1 => cases h; exact ⟨vl, rfl, up dvl⟩
      | 2 => cases h; exact ⟨vm, rfl, up dvm⟩
      | 3 => cases h; exact ⟨vt, rfl, up dvt⟩
      | 4 => cases h
      | k + 5 => simp [getR] at h
    exact (all_sound (mok_lam m N51 j) 60).E _ _ _ lin_ir _ _ _ H' (allB H') _ [] (fun a z => by rw [show ({ g with N := N51, k := j } : Gs).wl = g.wl from rfl, hw] at z; cases z) sl sl (hka i hi2)
  · obtain ⟨a, b, rest, ha, hb, hrow⟩ := ks_two hkl hsz.1
    rw [hrow] at dv
    have I2 := (I1.step ex hs2).put (i := 2) dv (fun a z => by rw [hw] at z; cases z)
    have ex3 := lin_exec (Φ := Φ) (Ψ := noW) (fu := 0) (low := low) (rest := rest) hsym ha hb []
    rw [← hws] at ex3
    exact A60.E _ _ _ ir51c_ok H B _ _ [] _ H' _ _ I2 ex3 fun v H3 e3 h3 d3 => q v H3 (by rw [← hw]; exact e3) h3.tabs d3
end
end SN
end
section
set_option Elab.async false
set_option linter.all false
set_option maxRecDepth 100000
set_option maxHeartbeats 8000000
/-! S30: reached: a dict of what is found, a list of what waits. -/
namespace SN
open PySem L2 LamX NdefX PyProof.Rows
def irT29 : IR := .tCmp .Eq (.ix (.ix (.var 0) (.var 5)) (.var 6)) (.lit (.int 1))
def adjT (web : PD) (x y : Int) : Option Bool := evT noF irT29 [some web, none, none, none, none, some (.int x), some (.int y)]
def rFor (web : PD) (here : Int) : List Int → List Int × List Int → Option (List Int × List Int)
  | [], st => some st
  | y :: ys, st => (adjT web here y).bind fun b => if b && !decide (y ∈ st.1) then (if st.1.length < 1000 ∧ st.2.length < 1000 then rFor web here ys (st.1 ++ [y], st.2 ++ [y]) else none) else rFor web here ys st
def rWhl (web : PD) (ts : List Int) : Nat → List Int × List Int → Option (List Int)
  | 0, _ => none
  | n + 1, st => match st.2.getLast? with
    | none => some st.1
    | some here => (rFor web here ts (st.1, st.2.dropLast)).bind (rWhl web ts n)
def reachS (fu : Nat) : List PD → Option PD
  | [web, .list ds, .int s] => (asInts ds).bind fun ts => (rWhl web ts fu ([s], [s])).map fun fd => .tuple ((isortI fd).map .int)
  | _ => none
abbrev dEn (fd : List Int) : List (Key × V) := fd.map fun z => ((.inl z : Key), V.bl true)
theorem dEn_get {y : Int} : ∀ {fd : List Int}, (valV (dEn fd) (.inl y)).isSome = decide (y ∈ fd)
  | [] => by simp [valV]
  | z :: fd => by
    by_cases h : z = y
    · subst h
      rw [show valV (dEn (z :: fd)) (.inl z) = some (.bl true) from valV_pos rfl]
      simp
    · rw [show valV (dEn (z :: fd)) (.inl y) = valV (dEn fd) (.inl y) from valV_neg (fun e => h (Sum.inl.inj e)), dEn_get (fd := fd)]
      have h' : ¬ y = z := fun e => h e.symm
      simp [h']
theorem dEn_put {y : Int} {fd : List Int} (h : y ∉ fd) : putK (dEn fd) (.inl y) (.bl true) = dEn (fd ++ [y]) := by
  unfold putK
  have e : ((dEn fd).any fun kv => decide (kv.1 = (.inl y : Key))) = false := by
    rw [List.any_eq_false]
    intro kv hkv
    obtain ⟨z, hz, rfl⟩ := List.mem_map.mp hkv
    simp only [decide_eq_true_eq]
    intro e
    have : z = y := Sum.inl.inj e
    exact h (this ▸ hz)
  rw [if_neg (by rw [e]; simp)]
  simp
/-- what is known between two steps -/
structure RI (g : Gs) (H0 : Hp) (web thi : PD) (fd wt : List Int) (pf pw : Addr) (σ : L2.St) (H : Hp) : Prop where
  ls : σ.length = 7
  tabs : Tabs g.T H
  ex : Ex none H0 H
  we : ∃ v, σ[0]? = some (some v) ∧ Da H0 v web
  ti : ∃ v, σ[1]? = some (some v) ∧ Da H0 v thi
  sf : σ[3]? = some (some (.ref pf))
  hf : H pf = some (.dK (dEn fd))
  sw : σ[4]? = some (some (.ref pw))
  hw : H pw = some (.lst (wt.map .int))
  nf : nt (H0 pf) = true
  nw : nt (H0 pw) = true
/-- all but the two is kept -/
def Kp (pf pw : Addr) (H H' : Hp) : Prop := ∀ a, nt (H a) = false → a ≠ pf → a ≠ pw → H' a = H a
theorem Kp.refl {pf pw : Addr} {H : Hp} : Kp pf pw H H := fun _ _ _ _ => rfl
theorem Kp.ex {pf pw : Addr} {H H1 H2 : Hp} (k : Kp pf pw H H1) (e : Ex none H1 H2) : Kp pf pw H H2 := fun a n h1 h2 => by
  have q := k a n h1 h2
  rw [e a (by rw [q]; exact n) (by simp), q]
theorem Kp.updf {pf pw : Addr} {H H1 : Hp} {o : HO} (k : Kp pf pw H H1) : Kp pf pw H (upd H1 pf o) := fun a n h1 h2 => by rw [upd_ne h1]; exact k a n h1 h2
theorem Kp.updw {pf pw : Addr} {H H1 : Hp} {o : HO} (k : Kp pf pw H H1) : Kp pf pw H (upd H1 pw o) := fun a n h1 h2 => by rw [upd_ne h2]; exact k a n h1 h2
section
variable {g : Gs} {H0 H H2 : Hp} {web thi : PD} {fd wt : List Int} {pf pw : Addr} {σ : L2.St}
theorem RI.ne (I : RI g H0 web thi fd wt pf pw σ H) : pf ≠ pw := fun z => by
  have := I.hf
  rw [z, I.hw] at this
  cases this
theorem RI.step (I : RI g H0 web thi fd wt pf pw σ H) (e : Ex none H H2) (t : Tabs g.T H2) : RI g H0 web thi fd wt pf pw σ H2 :=
  ⟨I.ls, t, I.ex.trans e, I.we, I.ti, I.sf, e.at I.hf rfl (by simp), I.sw, e.at I.hw rfl (by simp), I.nf, I.nw⟩
theorem RI.slot (I : RI g H0 web thi fd wt pf pw σ H) {i : Nat} {v : V} (h : 5 ≤ i) : RI g H0 web thi fd wt pf pw (σ.set i (some v)) H := by
  have k : ∀ {j : Nat}, j < 5 → (σ.set i (some v))[j]? = σ[j]? := fun h2 => List.getElem?_set_ne (by omega)
  exact ⟨by rw [List.length_set, I.ls], I.tabs, I.ex, by rw [k (by omega)]; exact I.we, by rw [k (by omega)]; exact I.ti, by rw [k (by omega)]; exact I.sf, I.hf, by rw [k (by omega)]; exact I.sw, I.hw, I.nf, I.nw⟩
theorem RI.ex_new (I : RI g H0 web thi fd wt pf pw σ H) {o : HO} : Ex none H0 (upd H pf o) ∧ Ex none H0 (upd H pw o) := by
  refine ⟨fun a n _ => ?_, fun a n _ => ?_⟩
  · have h : a ≠ pf := fun z => by rw [z, I.nf] at n; cases n
    rw [upd_ne h]
    exact I.ex a n (by simp)
  · have h : a ≠ pw := fun z => by rw [z, I.nw] at n; cases n
    rw [upd_ne h]
    exact I.ex a n (by simp)
theorem RI.putF (I : RI g H0 web thi fd wt pf pw σ H) {fd' : List Int} : RI g H0 web thi fd' wt pf pw σ (upd H pf (.dK (dEn fd'))) :=
  ⟨I.ls, tabs_upd I.tabs (.inr (.inr ⟨_, I.hf⟩)), I.ex_new.1, I.we, I.ti, I.sf, upd_same, I.sw, by rw [upd_ne (Ne.symm I.ne)]; exact I.hw, I.nf, I.nw⟩
theorem RI.putW (I : RI g H0 web thi fd wt pf pw σ H) {wt' : List Int} : RI g H0 web thi fd wt' pf pw σ (upd H pw (.lst (wt'.map .int))) :=
  ⟨I.ls, tabs_upd I.tabs (.inr (.inl ⟨_, I.hw⟩)), I.ex_new.2, I.we, I.ti, I.sf, by rw [upd_ne I.ne]; exact I.hf, I.sw, upd_same, I.nf, I.nw⟩
theorem da_all {H : Hp} {v : V} {d : PD} (h : Da H v d) : Da (rs (allB H) H) v d := h.ex fun a n _ => by
  unfold rs allB
  rw [n]; rfl
theorem RI.sl (I : RI g H0 web thi fd wt pf pw σ H) {x y : Option Int} (hx : ∀ i, x = some i → σ[5]? = some (some (.int i))) (hy : ∀ i, y = some i → σ[6]? = some (some (.int i))) : Sl (allB H) H [some web, none, none, none, some (.list (wt.map .int)), x.map .int, y.map .int] σ := by
  refine ⟨by rw [I.ls]; rfl, fun i d h => ?_⟩
  match i with
  | 0 =>
    cases h
    obtain ⟨v, h1, h2⟩ := I.we
    exact ⟨v, h1, da_all (h2.ex I.ex)⟩
  | 1 => cases h
  | 2 => cases h
  | 3 => cases h
  | 4 =>
    cases h
    exact ⟨_, I.sw, da_all (.lst I.hw (Das.of_ints wt))⟩
  | 5 =>
    cases x with
    | none => cases h
    | some i => cases h; exact ⟨_, hx i rfl, .int i⟩
  | 6 =>
    cases y with
    | none => cases h
    | some i => cases h; exact ⟨_, hy i rfl, .int i⟩
  | i + 7 => simp [getR] at h
end
end SN
end
section
set_option Elab.async false
set_option linter.all false
set_option maxRecDepth 100000
set_option maxHeartbeats 8000000
/-! S31: reached keeps its promise. -/
namespace SN
open PySem L2 LamX NdefX PyProof.Rows
def N29 : List Str := ["web", "things", "start", "found", "waiting", "here", "other"]
def wh29 : Expr × List Stmt := match stAt 29 2 with
  | .While c b _ _ => (c, b)
  | _ => (.Constant .none 0 ⟨0, 0, 0, 0⟩, [])
def fo29 : Expr × Expr × List Stmt := match wh29.2.getD 1 (.Pass ⟨0, 0, 0, 0⟩) with
  | .For t i b _ _ => (t, i, b)
  | _ => (.Constant .none 0 ⟨0, 0, 0, 0⟩, .Constant .none 0 ⟨0, 0, 0, 0⟩, [])
def if29 : Expr := match fo29.2.2.getD 0 (.Pass ⟨0, 0, 0, 0⟩) with
  | .If (.BoolOp _ (c :: _) _) _ _ _ => c
  | _ => .Constant .none 0 ⟨0, 0, 0, 0⟩
theorem t29w : cT (ccOf (topS 29)) 60 (defScope (topS 29)) wh29.1 = some (.tVal (.var 4)) := by kernel_rfl
theorem t29i : cT (ccOf (topS 29)) 60 (defScope (topS 29)) if29 = some irT29 := by kernel_rfl
theorem adj_eq {Φ : Fns} {web : PD} {a : Option PD} {x y : Int} : evT Φ irT29 [some web, none, none, none, a, some (.int x), some (.int y)] = adjT web x y := rfl
section
variable {g : Gs} {Φ : Fns} {f : Addr} {fd0 : FuncData} {H0 : Hp} {web : PD} {ds : List PD} {ts : List Int}
/-- a statement run in this one context -/
def wXS (X : Cx) (st : Stmt) : TS := fun D σ H => ∀ pins s, Inv X pins σ H s → wpAny (model X.prog X.w) X.A (PySem.exec st X.env) (SP X pins D) X.xe s
theorem wXS.ps {X : Cx} {st : Stmt} : PS X st (wXS X st) := ⟨fun pins s σ H D I h => h pins s I⟩
theorem wXS.of {X : Cx} {st : Stmt} {t : TS} (h : PS X st t) {σ : L2.St} {H : Hp} {D : Ends} (q : t D σ H) : wXS X st D σ H := fun pins s I => h.run pins s σ H D I q
/-- the for loop's turns -/
theorem for29 {X : Cx} (gs : GS g (defScope (topS 29)) X) (m : Mok (ccOf (topS 29)) g Φ) (hw : g.wl = none) (hts : asInts ds = some ts) {fd wt fd2 wt2 : List Int} {pf pw : Addr} {here : Int} {σ : L2.St} {H : Hp} {D : Ends}
    (I : RI g H0 web (.list ds) fd wt pf pw σ H) (h5 : σ[5]? = some (some (.int here))) (hr : rFor web here ts (fd, wt) = some (fd2, wt2)) (k : ∀ σ' H', RI g H0 web (.list ds) fd2 wt2 pf pw σ' H' → D.nx σ' H') :
    wXS X (wh29.2.getD 1 (.Pass ⟨0, 0, 0, 0⟩)) D σ H := by
  have hN : g.N = N29 := m.N.trans (by decide +kernel)
  have hNX : X.N = N29 := gs.N.trans hN
  have v3 : Vis X.env.scope "found" := by rw [gs.sc]; exact .inl rfl
  have v4 : Vis X.env.scope "waiting" := by rw [gs.sc]; exact .inl rfl
  have v6 : Vis X.env.scope "other" := by rw [gs.sc]; exact .inl rfl
  have hu : X.A.units + 1 < cLine := by have := gs.room.un; omega
  have p3 : ∀ {pos : Pos}, PE X (.Name "found" pos) (tVar 3) := fun {pos} => pe_var (i := 3) (by rw [hNX]; rfl) v3
  have p4 : ∀ {pos : Pos}, PE X (.Name "waiting" pos) (tVar 4) := fun {pos} => pe_var (i := 4) (by rw [hNX]; rfl) v4
  have p6 : ∀ {pos : Pos}, PE X (.Name "other" pos) (tVar 6) := fun {pos} => pe_var (i := 6) (by rw [hNX]; rfl) v6
  have off : ∀ {B : Addr → Bool} {Ha : Hp}, Off g.wl B Ha := fun {B Ha} a z => by rw [hw] at z; cases z
  have hs0 : ∀ {H : Hp}, Tabs g.T H → Hs g.T g.wl [] H := fun {H} t => ⟨t, fun a z => by rw [hw] at z; cases z⟩
  refine wXS.of (ps_for (never_of gs.nv) gs.calm (wI.pi gs.toGX) (pg_def (t := .one 6) gs (by rw [hN]; decide +kernel)) (pss_one (ps_if (PW.pt (pw_and (wT.pt gs.toGX) (pw_and1 (pt_cmp (pc_dnotin hu p6 p3))))) (pss_cons (ps_dput hu p3 p6 pe_bl rfl) (pss_one (ps_expr (pe_bm PySem.F.plainAttrs_list PySem.F.slot_list_append PySem.F.type_list_append mt_append p4 (pa_cons p6 pa_nil))))) pss_nil)) (fun x => rfl)) ?_
  obtain ⟨vt, hvt, dvt⟩ := I.ti
  have hit : ItD g (defScope (topS 29)) σ H0 (allB H0) [] fo29.1 fo29.2.1 ds [] := itd_list (ed_var (i := 1) off (by rw [hN]; rfl) (by decide +kernel) (by decide) (by decide) hvt (da_all dvt))
  refine hit H I.ex (hs0 I.tabs) _ fun J H2 f t2 ⟨G, Y, wk, hG, hY⟩ => ?_
  rw [hw] at f
  have I2 := I.step f t2.tabs
  have nb : ∀ a, al (allB H0) H a = true → a ≠ pf ∧ a ≠ pw := fun a h => by
    unfold al allB at h
    refine ⟨fun z => ?_, fun z => ?_⟩
    · rw [z, I.nf, I.hf] at h; cases h
    · rw [z, I.nw, I.hw] at h; cases h
  have src : ∀ {H' : Hp}, Kp pf pw H2 H' → Ex none (rs (al (allB H0) H) H2) H' := fun {H'} kp a n _ => by
    unfold rs at n ⊢
    by_cases z : al (allB H0) H a = true
    · rw [if_pos z] at n ⊢
      exact kp a n (nb a z).1 (nb a z).2
    · rw [if_neg z] at n; cases n
  have hds := asInts_eq hts
  refine for_it wk (fun i σ' H' => ∃ fd' wt', RI g H0 web (.list ds) fd' wt' pf pw σ' H' ∧ σ'[5]? = some (some (.int here)) ∧ Kp pf pw H2 H' ∧ rFor web here (ts.drop i) (fd', wt') = some (fd2, wt2)) ⟨fd, wt, I2, h5, Kp.refl, by rw [List.drop_zero]; exact hr⟩ (fun i σ' H' _ ⟨_, _, _, _, kp, _⟩ => hG H' (src kp)) (fun i x σ' H' H3 hi ⟨fd', wt', J', h5', kp, hr'⟩ yv => ?_) (fun σ' H' ⟨fd', wt', J', h5', kp, hr'⟩ => ?_)
  · obtain ⟨n, dx⟩ := hY i ds[i] H' x H3 (List.getElem?_eq_getElem hi) (src kp) yv
    have hi2 : i < ts.length := by rw [hds, List.length_map] at hi; exact hi
    have e : ds[i] = .int ts[i] := by
      have : ds[i]? = some (.int ts[i]) := by rw [hds, List.getElem?_map, List.getElem?_eq_getElem hi2]; rfl
      rw [List.getElem?_eq_getElem hi] at this
      exact Option.some.inj this
    rw [e] at dx
    rw [dx.int_inv]
    rw [List.drop_eq_getElem_cons hi2] at hr'
    unfold rFor at hr'
    obtain ⟨b, hb, hr'⟩ := obind hr'
    have J3 := (J'.step n.1 (n.2 _ _ _ (hs0 J'.tabs)).tabs).slot (i := 6) (v := .int ts[i]) (by decide)
    have kp3 := kp.ex n.1
    have g5 : (σ'.set 6 (some (V.int ts[i])))[5]? = some (some (.int here)) := by rw [List.getElem?_set_ne (by decide)]; exact h5'
    have g6 : (σ'.set 6 (some (V.int ts[i])))[6]? = some (some (.int ts[i])) := List.getElem?_set_self (by rw [J'.ls]; decide)
    unfold tgG gName tIfS tAnd
    have sl := J3.sl (x := some here) (y := some ts[i]) (fun i h => by cases h; exact g5) (fun i h => by cases h; exact g6)
    refine (((all_sound m 60).T _ _ _ t29i).1 _ _ H3 (allB H3) b [] off sl (adj_eq.trans hb)) H3 (Ex.refl H3) (hs0 J3.tabs) _ fun H4 e4 t4 => ?_
    rw [hw] at e4
    have J4 := J3.step e4 t4.tabs
    have kp4 := kp3.ex e4
    cases b with
    | false =>
      refine iteF (iteF ?_)
      exact ⟨fd', wt', J4, g5, kp4, by simpa using hr'⟩
    | true =>
      refine iteT ⟨_, g6, _, J4.sf, pf, _, rfl, DGet.k (k := .inl ts[i]) J4.hf, _, rfl, ?_⟩
      rw [dEn_get]
      by_cases hm : ts[i] ∈ fd'
      · rw [decide_eq_true hm]
        refine iteF ?_
        exact ⟨fd', wt', J4, g5, kp4, by simpa [hm] using hr'⟩
      · rw [decide_eq_false hm]
        refine iteT ?_
        have hr2 : (if fd'.length < 1000 ∧ wt'.length < 1000 then rFor web here (ts.drop (i + 1)) (fd' ++ [ts[i]], wt' ++ [ts[i]]) else none) = some (fd2, wt2) := by simpa [hm] using hr'
        split at hr2
        · rename_i hz
          have zl : ∀ n : Nat, n < 1000 → n < sizeLine := fun n h => by rw [sizeLine_eq]; omega
          have J5 := J4.putF (fd' := fd' ++ [ts[i]])
          have J6 := J5.putW (wt' := wt' ++ [ts[i]])
          refine ⟨_, J4.sf, _, g6, pf, _, rfl, DPut.k (k := .inl ts[i]) J4.hf (zl _ (by rw [List.length_map]; exact hz.1)), ?_⟩
          rw [dEn_put hm]
          refine ⟨_, J5.sw, .inl ⟨rfl, _, SqL.of J5.hw⟩, _, g6, pw, _, _, rfl, rfl, J5.hw, zl _ (by rw [List.length_map]; exact hz.2), ?_⟩
          rw [← show (wt' ++ [ts[i]]).map V.int = wt'.map V.int ++ [V.int ts[i]] by simp]
          exact ⟨_, _, J6, g5, (kp4.updf).updw, hr2⟩
        · cases hr2
  · have e : ts.drop ds.length = [] := by
      rw [hds, List.length_map, List.drop_length]
    rw [e] at hr'
    cases hr'
    exact k σ' H' J'
end
end SN
end
section
set_option Elab.async false
set_option linter.all false
set_option maxRecDepth 100000
set_option maxHeartbeats 8000000
/-! S32: reached, the whole. -/
namespace SN
open PySem L2 LamX NdefX PyProof.Rows
def li29 : Expr := match stAt 29 3 with
  | .Return (some (.Call _ [.Call _ [e] _ _] _ _)) _ => e
  | _ => .Constant .none 0 ⟨0, 0, 0, 0⟩
section
variable {g : Gs} {Φ : Fns} {f : Addr} {fd0 : FuncData}
theorem reached_ok (F : FunD g.K "reached" "reached" (defArgs (topS 29)) (defBody (topS 29)) (defScope (topS 29)) [] [] f fd0) (m : Mok (ccOf (topS 29)) g Φ) (hw : g.wl = none) (fu : Nat) : FnG g.P g.w g.K g.mg g.base (g.k + 1) f fd0 ["web", "things", "start"] (spD g.T (reachS fu) 3) := by
  have hN : g.N = N29 := m.N.trans (by decide +kernel)
  have S : FnScope g.N ["web", "things", "start"] (defScope (topS 29)) := by
    rw [hN]
    exact ⟨rfl, rfl, rfl, by decide +kernel, rfl, by decide +kernel, by decide +kernel⟩
  refine fnG_ofC F S (fun vs H Q q => q.1) fun A out s H vs Q rm gd q => ?_
  obtain ⟨hl, B, ds, d, hs, ht, hd, q⟩ := q
  have gs := gs_def (g := g) (x := "reached") (cv := fd0.code) (out := out) (s := s) (H := H) (f := f) (S := S) rm gd
  have hNX : (cxOf CX0 g.P g.w g.K g.mg g.base g.N "reached" (defScope (topS 29)) f fd0.code A out s H E0).nox.N = N29 := by rw [gs.N, hN]
  generalize hX : (cxOf CX0 g.P g.w g.K g.mg g.base g.N "reached" (defScope (topS 29)) f fd0.code A out s H E0).nox = X at gs hNX
  have v2 : Vis X.env.scope "start" := by rw [gs.sc]; exact .inl rfl
  have v4 : Vis X.env.scope "waiting" := by rw [gs.sc]; exact .inl rfl
  have p2 : ∀ {pos : Pos}, PE X (.Name "start" pos) (tVar 2) := fun {pos} => pe_var (i := 2) (by rw [hNX]; rfl) v2
  have p4 : ∀ {pos : Pos}, PE X (.Name "waiting" pos) (tVar 4) := fun {pos} => pe_var (i := 4) (by rw [hNX]; rfl) v4
  have lc : ∀ x : Str, (defScope (topS 29)).names.lookup x = some .local → Loc X.env.scope x := fun x h => by rw [gs.sc]; exact .inl h
  refine ⟨_, pss_cons (ps_set (i := 3) gs.nd (by rw [hNX]; rfl) (lc _ rfl) (pe_disp (pps_cons p2 pe_bl pps_nil) rfl rfl (by simp) (by decide)) rfl (.inl (gs.fn _)))
    (pss_cons (ps_set (i := 4) gs.nd (by rw [hNX]; rfl) (lc _ rfl) (pe_lst (pa_cons p2 pa_nil)) rfl (.inl (gs.fn _)))
      (pss_cons (ps_while (never_of gs.nv) (wT.pt gs.toGX) (pss_cons (ps_set (i := 5) gs.nd (by rw [hNX]; rfl) (lc _ rfl) (pe_bm0 PySem.F.plainAttrs_list PySem.F.slot_list_pop PySem.F.type_list_pop mt_pop p4) rfl (.inl (gs.fn _))) (pss_one (wXS.ps (st := wh29.2.getD 1 (.Pass ⟨0, 0, 0, 0⟩))))))
        (pss_one (ps_ret (wA.pe gs.toGX))))), ?_⟩
  have hds : ∃ web es st ts fnd, ds = [web, .list es, .int st] ∧ asInts es = some ts ∧ rWhl web ts fu ([st], [st]) = some fnd ∧ d = .tuple ((isortI fnd).map .int) := by
    unfold reachS at hs
    split at hs
    · obtain ⟨ts, h1, h2⟩ := obind hs
      obtain ⟨fnd, h3, h4⟩ := omap h2
      exact ⟨_, _, _, ts, fnd, rfl, h1, h3, h4.symm⟩
    · cases hs
  obtain ⟨web, es, st, ts, fnd, rfl, hts, hrw, rfl⟩ := hds
  have off : ∀ {B : Addr → Bool} {Ha : Hp}, Off g.wl B Ha := fun {B Ha} a z => by rw [hw] at z; cases z
  have hs0 : ∀ {H : Hp}, Tabs g.T H → Hs g.T g.wl [] H := fun {H} t => ⟨t, fun a z => by rw [hw] at z; cases z⟩
  obtain ⟨vw, h0, dw⟩ := hd.get (i := 0) rfl
  obtain ⟨vt, h1, dt⟩ := hd.get (i := 1) rfl
  obtain ⟨vs0, h2, d2⟩ := hd.get (i := 2) rfl
  rw [d2.int_inv] at h2
  have g0 := start_at (N := g.N) h0
  have g1 := start_at (N := g.N) h1
  have g2 := start_at (N := g.N) h2
  have gl : (L2.start g.N vs).length = 7 := by rw [start_len (by rw [hl, hN]; decide), hN]; rfl
  generalize L2.start g.N vs = σ at g0 g1 g2 gl
  -- found = {start: True}
  refine fun pf hpf => ⟨.int st, g2, upd_same, [(.inl st, .bl true)], rfl, by show 1 ≤ 15; decide, ?_⟩
  rw [upd_upd]
  have em : mergeK [] [((Sum.inl st : Key), V.bl true)] = dEn [st] := rfl
  rw [em]
  -- waiting = [start]
  have g2' : (σ.set 3 (some (V.ref pf)))[2]? = some (some (.int st)) := by rw [List.getElem?_set_ne (by decide)]; exact g2
  refine ⟨.int st, g2', by show 1 ≤ sizeLine; rw [sizeLine_eq]; decide, fun pw hpw => ?_⟩
  have hne : pf ≠ pw := fun z => by rw [← z, upd_same] at hpw; cases hpw
  have hpw0 : H pw = none := by rw [upd_ne (Ne.symm hne)] at hpw; exact hpw
  have I0 : RI g H web (.list es) [st] [st] pf pw ((σ.set 3 (some (.ref pf))).set 4 (some (.ref pw))) (upd (upd H pf (.dK (dEn [st]))) pw (.lst ([st].map .int))) := by
    refine ⟨by rw [List.length_set, List.length_set]; exact gl, tabs_new (tabs_new ht hpf) hpw, (ex_new' hpf).trans (ex_new' hpw), ⟨vw, ?_, dw.ex rs_ex⟩, ⟨vt, ?_, dt.ex rs_ex⟩, ?_, by rw [upd_ne hne]; exact upd_same, ?_, upd_same, by rw [hpf]; rfl, by rw [hpw0]; rfl⟩
    · rw [List.getElem?_set_ne (by decide), List.getElem?_set_ne (by decide)]; exact g0
    · rw [List.getElem?_set_ne (by decide), List.getElem?_set_ne (by decide)]; exact g1
    · rw [List.getElem?_set_ne (by decide)]; exact List.getElem?_set_self (by rw [gl]; decide)
    · exact List.getElem?_set_self (by rw [List.length_set, gl]; decide)
  refine ⟨fun n σ' H' => ∃ fd wt, RI g H web (.list es) fd wt pf pw σ' H' ∧ rWhl web ts n (fd, wt) = some fnd, ⟨fu, [st], [st], I0, hrw⟩, ?_⟩
  rintro n σ1 H1 ⟨fd, wt, I1, hr⟩
  cases n with
  | zero => cases hr
  | succ n =>
    have sl := I1.sl (x := none) (y := none) (fun i h => by cases h) (fun i h => by cases h)
    unfold rWhl at hr
    refine (((all_sound m 60).T _ _ _ t29w).1 _ _ H1 (allB H1) (!wt.isEmpty) [] off sl (by simp [evT, ev, getR, pyTruth])) H1 (Ex.refl H1) (hs0 I1.tabs) _ fun H2 e2 t2 => ?_
    rw [hw] at e2
    have I2 := I1.step e2 t2.tabs
    cases hl2 : wt.getLast? with
    | none =>
      rw [hl2] at hr
      cases hr
      have he : wt = [] := by simpa using hl2
      subst he
      refine iteF ?_
      -- the end
      have base : EvD g (defScope (topS 29)) σ1 H2 (fun _ => false) [] li29 (.list (fd.map .int)) [] := fun H3 e3 t3 Q3 q3 => wA.of fun X gx => by
        have v3 : Vis X.env.scope "found" := by rw [gx.sc]; exact .inl rfl
        have I3 := I2.step e3 t3.tabs
        refine ⟨_, pe_callTy (call_listD gx.calm) (gl_of gx.sc (by decide +kernel)) (by rw [gx.mg]; exact m.bi .list) boot_list (pa_cons (pe_var (i := 3) (by rw [gx.N, hN]; rfl) v3) pa_nil), ⟨_, I3.sf, pf, _, rfl, .inl I3.hf, fun p hp => ?_⟩⟩
        have ee : (dEn fd).map (fun kv => kV kv.1) = fd.map V.int := by
          rw [List.map_map]; rfl
        rw [ee]
        refine q3 _ _ (by rw [hw]; exact ex_new' hp) (hs_new t3 hp) (.lst (xs := fd.map V.int) ?_ (Das.of_ints fd))
        unfold rs
        rw [if_pos (al_new (by rw [hp]; rfl)), upd_same]
      have b1 := ed_bi (m := m) (f := .sorted) (n := "sorted") (p0 := ⟨78, 17, 78, 23⟩) (pos := ⟨78, 17, 78, 36⟩) rfl (by decide +kernel) (by decide +kernel) (es_cons off base es_nil) (d := .list ((isortI fd).map .int)) (by
        show (match asInts (fd.map .int) with
          | some ns => some (PySem.PyData.list ((isortI ns).map .int))
          | none => _) = _
        rw [asInts_map])
      have b2 := ed_bi (m := m) (f := .tuple) (n := "tuple") (p0 := ⟨78, 11, 78, 16⟩) (pos := ⟨78, 11, 78, 37⟩) rfl (by decide +kernel) (by decide +kernel) (es_cons off b1 es_nil) (d := .tuple ((isortI fd).map .int)) rfl
      refine b2 H2 (Ex.refl H2) t2 _ fun v H3 e3 t3 dv => ?_
      rw [hw] at e3
      refine q v H3 (I2.ex.trans e3) t3.tabs (dv.ex (rs_mono (w := none) (fun a n h => ?_) (Ex.refl H3) fun _ z => by cases z))
      unfold al at h
      rw [Bool.false_or] at h
      exact al_new (I2.ex.nt h (by simp))
    | some here =>
      rw [hl2] at hr
      obtain ⟨st2, hf2, hr2⟩ := obind hr
      have hne' : wt.isEmpty = false := by cases wt with
        | nil => simp at hl2
        | cons _ _ => rfl
      rw [hne']
      refine iteT ⟨fun σ' H' => ∃ fd wt, RI g H web (.list es) fd wt pf pw σ' H' ∧ rWhl web ts n (fd, wt) = some fnd, fun σ' H' h => ⟨n, Nat.lt_succ_self n, h⟩, ?_⟩
      have hix : (wt.map V.int)[(wt.map V.int).length - 1]? = some (.int here) := by
        rw [List.getLast?_eq_getElem?] at hl2
        rw [List.getElem?_map, List.length_map, hl2]; rfl
      refine ⟨_, I2.sw, .inl ⟨rfl, _, SqL.of I2.hw⟩, pw, _, .int here, rfl, rfl, I2.hw, hix, ?_⟩
      rw [← List.map_dropLast]
      have I3 := (I2.putW (wt' := wt.dropLast)).slot (i := 5) (v := .int here) (by decide)
      refine for29 (fd2 := st2.1) (wt2 := st2.2) gs m hw hts I3 (List.getElem?_set_self (by rw [I2.ls]; decide)) hf2 fun σ' H' J => ⟨_, _, J, hr2⟩
end
end SN
end
section
set_option Elab.async false
set_option linter.all false
set_option maxRecDepth 100000
set_option maxHeartbeats 8000000
/-! S33: _law_row. -/
namespace SN
open PySem L2 LamX NdefX PyProof.Rows
section
variable {g : Gs} {sc : Scope} {X : Cx} {n : Str} {sp : Sp} {a : Expr} {es : List Expr} {t : TA} {p pos : Pos}
theorem pe_fnAt (gx : GX g sc X) (F : FnAt g n sp) (hg : glB sc n = true) (hdb : (n == ("__debug__" : Str)) = false) (hst : (a :: es).all nostar = true) (ha : PA X (a :: es) t) : PE X (.Call (.Name n p) (a :: es) [] pos) (tG sp t) := by
  obtain ⟨f, fd, ps, hm, ok, hb, hk⟩ := F
  have hst' := hst
  rw [List.all_cons, Bool.and_eq_true] at hst'
  refine pe_callG (k := g.k) (f := f) (fd := fd) (ps := ps) ?_ gx.room gx.gd (gl_of gx.sc hg) (by rw [gx.mg]; exact hm) (by rw [gx.K]; exact hk) (by rw [gx.K]; exact hb) ha hdb (star_no _ hst'.1) (backTo_plain _ _ hst'.2)
  rw [gx.prog, gx.w, gx.K, gx.mg, gx.base]
  exact ok
end
def rowGo : Nat → List Int → WT → Option (List Int × WT)
  | 0, _, W => some ([], W)
  | k + 1, left, W => (drawS [.int left.length] W).bind fun r => match r.1 with
    | .int i => if 0 ≤ i then (left[i.toNat]?).bind fun y => (rowGo k (left.eraseIdx i.toNat) r.2).map fun q => (y :: q.1, q.2) else none
    | _ => none
def rowS : List PD → WT → Option (PD × WT)
  | [.int n], W => if 0 ≤ n ∧ n ≤ 1000 then (rowGo n.toNat ((List.range n.toNat).map fun (i : Nat) => (i : Int)) W).map fun r => (.tuple (r.1.map .int), r.2) else none
  | _, _ => none
theorem rowGo_len : ∀ {k : Nat} {left : List Int} {W : WT} {r : List Int × WT}, rowGo k left W = some r → r.1.length = k
  | 0, _, _, _, h => by cases h; rfl
  | k + 1, left, W, r, h => by
    unfold rowGo at h
    obtain ⟨⟨d, W1⟩, h1, h2⟩ := obind h
    cases d with
    | int i =>
      have h2' : (if 0 ≤ i then (left[i.toNat]?).bind fun y => (rowGo k (left.eraseIdx i.toNat) W1).map fun q => (y :: q.1, q.2) else none) = some r := h2
      split at h2'
      · obtain ⟨y, h3, h4⟩ := obind h2'
        obtain ⟨q, h5, rfl⟩ := omap h4
        rw [List.length_cons, rowGo_len h5]
      · cases h2'
    | _ => cases h2
theorem erase_map {α β : Type} (f : α → β) : ∀ (l : List α) (k : Nat), (l.map f).eraseIdx k = (l.eraseIdx k).map f
  | [], _ => rfl
  | _ :: _, 0 => rfl
  | a :: l, k + 1 => congrArg (f a :: ·) (erase_map f l k)
def N66 : List Str := ["_law_well_here", "_law_size", "_law_left", "_law_k"]
def lc66 : Expr := match stAt 66 1 with
  | .Return (some (.Call _ [e] _ _)) _ => e
  | _ => .Constant .none 0 ⟨0, 0, 0, 0⟩
def lcParts (e : Expr) : Expr × Expr × Expr × Scope := match e with
  | .ListComp elt [⟨tg, iter, _, _⟩] scope _ => (elt, tg, iter, scope)
  | _ => (e, e, e, defScope (topS 66))
section
variable {g : Gs} {f : Addr} {fd : FuncData}
theorem row_ok (F : FunD g.K "_law_row" "_law_row" (defArgs (topS 66)) (defBody (topS 66)) (defScope (topS 66)) [] [] f fd) (hN : g.N = N66) (ml : g.mg "list" = none) (mr : g.mg "range" = none) (mt : g.mg "tuple" = none) (me : g.mg "len" = none) (D : FnAt g "_law_draw" (spW g.T drawS 1)) : FnG g.P g.w g.K g.mg g.base (g.k + 1) f fd ["_law_well_here", "_law_size"] (spW g.T rowS 1) := by
  have S : FnScope g.N ["_law_well_here", "_law_size"] (defScope (topS 66)) := by
    rw [hN]
    exact ⟨rfl, rfl, rfl, by decide +kernel, rfl, by decide +kernel, by decide +kernel⟩
  refine fnG_ofC F S (fun vs H Q q => ?_) fun A out s H vs Q rm gd q => ?_
  · obtain ⟨a, us, rfl, h, _⟩ := q
    rw [List.length_cons, h]; rfl
  obtain ⟨a, us, rfl, hl, B, ds, W, d, W2, hs, ht, ha, hB, hd, q⟩ := q
  have gs := gs_def (g := g) (x := "_law_row") (cv := fd.code) (out := out) (s := s) (H := H) (f := f) (S := S) rm gd
  have hNX : (cxOf CX0 g.P g.w g.K g.mg g.base g.N "_law_row" (defScope (topS 66)) f fd.code A out s H E0).nox.N = N66 := by rw [gs.N, hN]
  generalize hX : (cxOf CX0 g.P g.w g.K g.mg g.base g.N "_law_row" (defScope (topS 66)) f fd.code A out s H E0).nox = X at gs hNX
  have mX : ∀ x : Str, g.mg x = none → X.mg x = none := fun x h => by rw [gs.mg]; exact h
  have gl : ∀ x : Str, glB (defScope (topS 66)) x = true → Gl X x := fun x h => gl_of gs.sc h
  have v1 : Vis X.env.scope "_law_size" := by rw [gs.sc]; exact vis_of (by decide +kernel)
  have p1 : ∀ {pos : Pos}, PE X (.Name "_law_size" pos) (tVar 1) := fun {pos} => pe_var (i := 1) (by rw [hNX]; rfl) v1
  have lsc : Loc X.env.scope "_law_left" := by rw [gs.sc]; exact .inr (by decide +kernel)
  -- the block
  have hblk : blkC g.N (defScope (topS 66)) (lcParts lc66).2.2.2 (ownOf g.N (lcParts lc66).2.2.2) = true := by rw [hN]; decide +kernel
  have hfk : (lcParts lc66).2.2.2.kind = .function := rfl
  have own3 : (ownOf g.N (lcParts lc66).2.2.2).map (·.2) = [3] := by rw [hN]; decide +kernel
  have elt_ok : ∀ (s : Shared) (H : Hp) (C : Addr) (cl : List (Str × Addr)) (fp : List Addr), PE (X.blk s H (lcParts lc66).2.2.2 (compEnvC (lcParts lc66).2.2.2 cl C X.env) fp) (lcParts lc66).1 (tBM g.K "list" rPopAt (tVar 2) (tCons (tG (spW g.T drawS 1) (tCons (tVar 0) (tCons (tCB (fun xs H Q => ∃ p ys, xs = [.ref p] ∧ (SqL g.K H p ys ∨ SqT g.K H p ys) ∧ Q (.int ys.length) H) (tCons (tVar 2) tNil)) tNil))) tNil)) := fun s H C cl fp => by
    have gb := gx_blk (s := s) (H := H) (C := C) (cl := cl) (fp := fp) gs.toGX hfk
    have hNb : (X.blk s H (lcParts lc66).2.2.2 (compEnvC (lcParts lc66).2.2.2 cl C X.env) fp).N = N66 := by rw [gb.N, hN]
    generalize (X.blk s H (lcParts lc66).2.2.2 (compEnvC (lcParts lc66).2.2.2 cl C X.env) fp) = Xb at gb hNb
    have w2 : Vis Xb.env.scope "_law_left" := by rw [gb.sc]; exact vis_of (by decide +kernel)
    have w0 : Vis Xb.env.scope "_law_well_here" := by rw [gb.sc]; exact vis_of (by decide +kernel)
    have q2 : ∀ {pos : Pos}, PE Xb (.Name "_law_left" pos) (tVar 2) := fun {pos} => pe_var (i := 2) (by rw [hNb]; rfl) w2
    have q0 : ∀ {pos : Pos}, PE Xb (.Name "_law_well_here" pos) (tVar 0) := fun {pos} => pe_var (i := 0) (by rw [hNb]; rfl) w0
    have mb : Xb.mg "len" = none := by rw [gb.mg]; exact me
    have gl' : Gl Xb "len" := gl_of gb.sc (by decide +kernel)
    rw [show g.K = Xb.K from gb.K.symm]
    exact pe_bm PySem.F.plainAttrs_list PySem.F.slot_list_pop PySem.F.type_list_pop mt_popAt q2 (pa_cons (pe_fnAt gb D (by decide +kernel) (by decide) rfl (pa_cons q0 (pa_cons (pe_callB call_len_seq gl' mb boot_len (pa_cons q2 pa_nil)) pa_nil))) pa_nil)
  have hK : X.K = g.K := gs.K
  refine ⟨_, pss_cons (ps_set (i := 2) gs.nd (by rw [hNX]; rfl) lsc (pe_listRg gs.calm (gl _ (by decide +kernel)) (mX _ ml) (prg_1 (gl _ (by decide +kernel)) (mX _ mr) p1)) rfl (.inl (gs.fn _)))
    (pss_one (ps_ret (pe_tupleOf (gl _ (by decide +kernel)) (mX _ mt) (pe_lc (own := ownOf g.N (lcParts lc66).2.2.2) (g := tgG X.K (.one 3)) (tt := tYes) gs.calm gs.nd (pi_range1 (gl _ (by decide +kernel)) (mX _ mr) (pa_cons p1 pa_nil)) (blkOk_by (by rw [gs.N, gs.sc]; exact hblk))
      (fun s H C cl fp => pg_blk (s := s) (H := H) (C := C) (cl := cl) (fp := fp) gs.toGX (by rw [hN]; decide +kernel)) (fun s H C cl fp => pts_nil) elt_ok (fun x => rfl))))), ?_⟩
  have hds : ∃ n ys, ds = [.int n] ∧ (0 ≤ n ∧ n ≤ 1000) ∧ rowGo n.toNat ((List.range n.toNat).map fun (i : Nat) => (i : Int)) W = some (ys, W2) ∧ d = .tuple (ys.map .int) := by
    unfold rowS at hs
    split at hs
    · split at hs
      · obtain ⟨r, h1, h2⟩ := omap hs
        cases h2
        exact ⟨_, r.1, rfl, by assumption, h1, rfl⟩
      · cases hs
    · cases hs
  obtain ⟨n, ys, rfl, hn, hgo, rfl⟩ := hds
  obtain ⟨u, rfl, du⟩ := das1 hd
  rw [du.int_inv]
  have g0 : (L2.start g.N [.ref a, .int n])[0]? = some (some (V.ref a)) := start_at rfl
  have g1 : (L2.start g.N [.ref a, .int n])[1]? = some (some (V.int n)) := start_at rfl
  have gle : (L2.start g.N [.ref a, .int n]).length = 4 := by rw [start_len (by rw [hN]; show 2 ≤ 4; decide), hN]; rfl
  generalize L2.start g.N [.ref a, .int n] = σ at g0 g1 gle
  rw [own3, hK]
  refine ⟨.int n, g1, n, rfl, ⟨by omega, by omega, by omega, by omega, by omega⟩, fun pl hpl => ?_⟩
  have hpa : pl ≠ a := fun z => by rw [z, ha] at hpl; cases hpl
  have s0 : (σ.set 2 (some (V.ref pl)))[0]? = some (some (.ref a)) := by rw [List.getElem?_set_ne (by decide)]; exact g0
  have s1 : (σ.set 2 (some (V.ref pl)))[1]? = some (some (.int n)) := by rw [List.getElem?_set_ne (by decide)]; exact g1
  have s2 : (σ.set 2 (some (V.ref pl)))[2]? = some (some (.ref pl)) := List.getElem?_set_self (by rw [gle]; decide)
  have sle : (σ.set 2 (some (V.ref pl))).length = 4 := by rw [List.length_set]; exact gle
  unfold gName
  refine ⟨.int n, s1, n, rfl, by omega, by omega, fun Dl hD => ?_⟩
  have hD0 : Dl ≠ pl := fun z => by rw [z, upd_same] at hD; cases hD
  have hD1 : H Dl = none := by rw [upd_ne hD0] at hD; exact hD
  have hDa : Dl ≠ a := fun z => by rw [z, ha] at hD1; cases hD1
  have rg : rgV 0 n = ((List.range n.toNat).map fun (i : Nat) => (i : Int)).map V.int := by
    unfold rgV
    rw [List.map_map, show (n - 0).toNat = n.toNat by omega]
    refine List.map_congr_left fun i _ => ?_
    show V.int (0 + (i : Int)) = V.int (i : Int)
    rw [show (0 : Int) + (i : Int) = i by omega]
  refine lc_it (walk_range (lo := 0) (n := n.toNat)) (fun i Hc => ∃ (left : List Int) (Wc : WT) (acc rest : List Int), Tabs g.T Hc ∧ Hc a = some (.lst (Wc.map .int)) ∧ Hc pl = some (.lst (left.map .int)) ∧ Hc Dl = some (.lst (acc.map .int)) ∧ acc.length ≤ i ∧ left.length ≤ 1000 ∧ (∀ b, nt (H b) = false → b ≠ a → Hc b = H b) ∧ rowGo (n.toNat - i) left Wc = some (rest, W2) ∧ acc ++ rest = ys) ?_ (fun _ _ _ _ => trivial) (fun i x Hc H' hi hp hy => ?_) (fun Hc hp => ?_)
  · refine ⟨_, W, [], ys, tabs_new (tabs_new ht hpl) hD, by rw [upd_ne (Ne.symm hDa), upd_ne (Ne.symm hpa)]; exact ha, by rw [upd_ne (Ne.symm hD0), upd_same, rg], upd_same, Nat.le_refl _, by rw [List.length_map, List.length_range]; omega, fun b nb hb => ?_, by rw [Nat.sub_zero]; exact hgo, rfl⟩
    have b1 : b ≠ pl := fun z => by rw [z, hpl] at nb; cases nb
    have b2 : b ≠ Dl := fun z => by rw [z, hD1] at nb; cases nb
    rw [upd_ne b2, upd_ne b1]
  · obtain ⟨rfl, rfl⟩ := hy
    obtain ⟨left, Wc, acc, rest, tb, hwl, hpl2, hDl, hac, hle, kp, go, eq⟩ := hp
    have e1 : n.toNat - i = (n.toNat - (i + 1)) + 1 := by omega
    rw [e1] at go
    unfold rowGo at go
    obtain ⟨⟨d1, W1⟩, hdr, go⟩ := obind go
    have hd1 : ∃ k : Int, d1 = .int k := by
      cases d1 with
      | int k => exact ⟨k, rfl⟩
      | _ => cases go
    obtain ⟨k, rfl⟩ := hd1
    have go' : (if 0 ≤ k then (left[k.toNat]?).bind fun y => (rowGo (n.toNat - (i + 1)) (left.eraseIdx k.toNat) W1).map fun q => (y :: q.1, q.2) else none) = some (rest, W2) := go
    split at go'
    · rename_i hk0
      obtain ⟨y, hy, go2⟩ := obind go'
      obtain ⟨⟨r2, w2⟩, hr2, e2⟩ := omap go2
      cases e2
      have hkl : k.toNat < left.length := (List.getElem?_eq_some_iff.mp hy).1
      have hb0 : (k.toNat : Int) = k := Int.toNat_of_nonneg hk0
      have hb3 : k < (left.length : Int) := by omega
      have hb1 : -(2 ^ 63) ≤ k := by omega
      have hb2 : k < 2 ^ 63 := by omega
      unfold tgG gName
      have t0 : ((wipe (σ.set 2 (some (V.ref pl))) [3]).set 3 (some (V.int (0 + (i : Int)))))[0]? = some (some (.ref a)) := by
        unfold wipe wipe
        rw [List.getElem?_set_ne (by decide), List.getElem?_set_ne (by decide)]; exact s0
      have t2 : ((wipe (σ.set 2 (some (V.ref pl))) [3]).set 3 (some (V.int (0 + (i : Int)))))[2]? = some (some (.ref pl)) := by
        unfold wipe wipe
        rw [List.getElem?_set_ne (by decide), List.getElem?_set_ne (by decide)]; exact s2
      refine ⟨by simp [L2.wipe], ?_⟩
      unfold tYes
      simp only [if_true]
      refine ⟨.ref pl, t2, .inl ⟨rfl, _, SqL.of hpl2⟩, .ref a, t0, .ref pl, t2, pl, left.map .int, rfl, .inl (SqL.of hpl2), ?_⟩
      rw [List.length_map]
      refine ⟨a, [.int left.length], rfl, rfl, fun _ => false, [.int left.length], Wc, .int k, W1, hdr, tb, hwl, rfl, .cons (.int _) .nil, fun v H5 ex5 t5 w5 dv => ?_⟩
      rw [dv.int_inv]
      have p5 : H5 pl = some (.lst (left.map .int)) := ex5.at hpl2 rfl (fun z => hpa (Option.some.inj z).symm)
      have d5 : H5 Dl = some (.lst (acc.map .int)) := ex5.at hDl rfl (fun z => hDa (Option.some.inj z).symm)
      refine ⟨pl, left.map .int, k, k.toNat, .int y, rfl, rfl, p5, hb1, hb2, ?_, by rw [List.getElem?_map, hy]; rfl, ?_⟩
      · rw [List.length_map]
        have h1 : ¬ k < 0 := by omega
        simp [seqIndex?, h1, hk0, hb3]
      · refine ⟨acc.map .int, by rw [upd_ne hD0]; exact d5, by rw [List.length_map, sizeLine_eq]; omega, left.eraseIdx k.toNat, W1, acc ++ [y], r2, ?_, ?_, ?_, ?_, ?_, ?_, fun b nb hb => ?_, hr2, by rw [List.append_assoc]; exact eq⟩
        · exact tabs_lst (tabs_lst t5 p5) (by rw [upd_ne hD0]; exact d5)
        · rw [upd_ne (Ne.symm hDa), upd_ne (Ne.symm hpa)]; exact w5
        · rw [upd_ne (Ne.symm hD0), upd_same, erase_map]
        · rw [upd_same, List.map_append]; rfl
        · rw [List.length_append, List.length_singleton]; omega
        · have := List.length_eraseIdx_le left k.toNat
          omega
        · have b1 : b ≠ pl := fun z => by rw [z, hpl] at nb; cases nb
          have b2 : b ≠ Dl := fun z => by rw [z, hD1] at nb; cases nb
          have q1 := kp b nb hb
          rw [upd_ne b2, upd_ne b1, ex5 b (by rw [q1]; exact nb) (fun z => hb (Option.some.inj z).symm), q1]
    · cases go'
  · obtain ⟨left, Wc, acc, rest, tb, hwl, hpl2, hDl, hac, hle, kp, go, eq⟩ := hp
    rw [Nat.sub_self] at go
    cases go
    rw [List.append_nil] at eq
    subst eq
    refine .inl ⟨Dl, _, rfl, SqL.of hDl, fun p hp => ?_⟩
    have hpa2 : p ≠ a := fun z => by rw [z, hwl] at hp; cases hp
    have hp0 : nt (H p) = true := by
      cases z : nt (H p) with
      | true => rfl
      | false =>
        rw [← kp p z hpa2, hp] at z
        cases z
    refine q (.ref p) _ (fun b nb hb => ?_) (tabs_new tb hp) (by rw [upd_ne (Ne.symm hpa2)]; exact hwl) (.tup (xs := acc.map V.int) ?_ (Das.of_ints acc))
    · have hba : b ≠ a := fun z => hb (by rw [z])
      have hbp : b ≠ p := fun z => by rw [z, hp0] at nb; cases nb
      rw [upd_ne hbp]
      exact kp b nb hba
    · unfold rs
      rw [if_pos (al_new hp0), upd_same]
end
end SN
end
section
set_option Elab.async false
set_option linter.all false
set_option maxRecDepth 100000
set_option maxHeartbeats 8000000
/-! S34: a matrix of one's own in the heap. -/
namespace SN
open PySem L2 LamX NdefX PyProof.Rows
/-- rows of ints, each a list of its own -/
structure MatAt (H : Hp) (pr : Addr) (rs : List Addr) (M : List (List Int)) : Prop where
  out : H pr = some (.lst (rs.map .ref))
  nd : rs.Nodup
  np : pr ∉ rs
  len : rs.length = M.length
  row : ∀ (i : Nat) (r : Addr) (row : List Int), rs[i]? = some r → M[i]? = some row → H r = some (.lst (row.map .int))
theorem MatAt.keep {H H' : Hp} {pr : Addr} {rs : List Addr} {M : List (List Int)} (m : MatAt H pr rs M) (k : ∀ b, b = pr ∨ b ∈ rs → nt (H b) = false → H' b = H b) : MatAt H' pr rs M :=
  ⟨by rw [k pr (.inl rfl) (by rw [m.out]; rfl)]; exact m.out, m.nd, m.np, m.len, fun i r row h1 h2 => by
    have q := m.row i r row h1 h2
    rw [k r (.inr (List.mem_of_getElem? h1)) (by rw [q]; rfl)]
    exact q⟩
theorem MatAt.at {H : Hp} {pr : Addr} {rs : List Addr} {M : List (List Int)} (m : MatAt H pr rs M) {i : Nat} {row : List Int} (h : M[i]? = some row) : ∃ r, rs[i]? = some r ∧ r ∈ rs ∧ H r = some (.lst (row.map .int)) := by
  have hi : i < M.length := (List.getElem?_eq_some_iff.mp h).1
  have hr : rs[i]? = some (rs[i]'(by rw [m.len]; exact hi)) := List.getElem?_eq_getElem _
  exact ⟨_, hr, List.mem_of_getElem? hr, m.row i _ row hr h⟩
theorem MatAt.set {H : Hp} {pr : Addr} {rs : List Addr} {M : List (List Int)} (m : MatAt H pr rs M) {i : Nat} {r : Addr} {row : List Int} (h : rs[i]? = some r) : MatAt (upd H r (.lst (row.map .int))) pr rs (M.set i row) := by
  have hm := List.mem_of_getElem? h
  have hne : pr ≠ r := fun z => m.np (z ▸ hm)
  refine ⟨by rw [upd_ne hne]; exact m.out, m.nd, m.np, by rw [List.length_set]; exact m.len, fun j r2 row2 h1 h2 => ?_⟩
  by_cases hj : i = j
  · subst hj
    rw [h] at h1
    cases h1
    have hi : i < M.length := by rw [← m.len]; exact (List.getElem?_eq_some_iff.mp h).1
    rw [List.getElem?_set_self hi] at h2
    cases h2
    exact upd_same
  · rw [List.getElem?_set_ne hj] at h2
    have hr : r2 ≠ r := fun z => by
      subst z
      obtain ⟨q1, q2⟩ := List.getElem?_eq_some_iff.mp h
      obtain ⟨q3, q4⟩ := List.getElem?_eq_some_iff.mp h1
      exact hj ((List.getElem_inj m.nd).mp (q2.trans q4.symm))
    rw [upd_ne hr]
    exact m.row j r2 row2 h1 h2
def matD (M : List (List Int)) : PD := .list (M.map fun r => .list (r.map .int))
theorem MatAt.da {H : Hp} {pr : Addr} {rs : List Addr} {M : List (List Int)} (m : MatAt H pr rs M) {B : Addr → Bool} (hp : B pr = true) (hr : ∀ r ∈ rs, B r = true) : Da (SN.rs B H) (.ref pr) (matD M) := by
  have rows : ∀ (l : List Addr) (M' : List (List Int)), l.length = M'.length → (∀ r ∈ l, B r = true) → (∀ (i : Nat) (r : Addr) (row : List Int), l[i]? = some r → M'[i]? = some row → H r = some (.lst (row.map .int))) → Das (SN.rs B H) (l.map .ref) (M'.map fun r => .list (r.map .int)) := by
    intro l
    induction l with
    | nil => intro M' h _ _; cases M' with
      | nil => exact .nil
      | cons _ _ => simp at h
    | cons r l ih =>
      intro M' h hB hrow
      cases M' with
      | nil => simp at h
      | cons row M' =>
        refine .cons (.lst (xs := row.map .int) ?_ (Das.of_ints row)) (ih M' (by simpa using h) (fun r hr => hB r (List.mem_cons_of_mem _ hr)) fun i r row h1 h2 => hrow (i + 1) r row (by simpa using h1) (by simpa using h2))
        show (if B r = true then H r else none) = _
        rw [if_pos (hB r (List.mem_cons_self ..))]
        exact hrow 0 r row rfl rfl
  refine .lst (xs := rs.map .ref) ?_ (rows rs M m.len hr m.row)
  show (if B pr = true then H pr else none) = _
  rw [if_pos hp]
  exact m.out
/-- only scalars are named -/
def flatS (S : PSt) : Bool := S.sh.all (fun o => match o with
  | some d => scal d
  | none => true) && S.ow.all Option.isNone
theorem flatS_sh {S : PSt} (h : flatS S = true) {i : Nat} {d : PD} (q : getR S.sh i = some d) : scal d = true := by
  unfold flatS at h
  rw [Bool.and_eq_true, List.all_eq_true] at h
  unfold getR at q
  cases e : S.sh[i]? with
  | none => rw [e] at q; cases q
  | some o =>
    rw [e] at q
    have q' : o = some d := q
    subst q'
    exact h.1 _ (List.mem_of_getElem? e)
theorem flatS_ow {S : PSt} (h : flatS S = true) {i : Nat} {d : PD} (q : getR S.ow i = some d) : False := by
  unfold flatS at h
  rw [Bool.and_eq_true, List.all_eq_true, List.all_eq_true] at h
  unfold getR at q
  cases e : S.ow[i]? with
  | none => rw [e] at q; cases q
  | some o =>
    rw [e] at q
    have q' : o = some d := q
    subst q'
    have := h.2 _ (List.mem_of_getElem? e)
    cases this
section
variable {g : Gs} {H0 H H' : Hp} {B0 B : Addr → Bool} {S : PSt} {W W' : WT} {σ : L2.St}
theorem SI.flat (I : SI g H0 B0 B S W σ H) (f : flatS S = true) (t : Hs g.T g.wl W' H') (e : Ex g.wl H0 H') : SI g H0 B0 (fun _ => false) S W' σ H' :=
  ⟨I.ls, I.lo, t, e, fun a h _ => (by cases h), fun a _ => rfl, I.wv, fun i d h => by
    obtain ⟨v, h1, h2⟩ := I.da i d h
    exact ⟨v, h1, h2.scal (flatS_sh f h)⟩, fun i d h => (flatS_ow f h).elim⟩
/-- the state with a matrix -/
structure MI (g : Gs) (H0 : Hp) (B0 : Addr → Bool) (a : Addr) (k : Nat) (S : PSt) (W : WT) (M : List (List Int)) (σ : L2.St) (H : Hp) (pr : Addr) (rs : List Addr) : Prop where
  si : SI g H0 B0 (fun _ => false) S W σ H
  fl : flatS S = true
  sl : σ[k]? = some (some (.ref pr))
  no : getR S.sh k = none
  mat : MatAt H pr rs M
  fp : nt (H0 pr) = true
  fr : ∀ r ∈ rs, nt (H0 r) = true
  wl : g.wl = some a
  np : pr ≠ a
  nr : ∀ r ∈ rs, r ≠ a
variable {a : Addr} {k : Nat} {M : List (List Int)} {pr : Addr} {rs : List Addr}
theorem MI.wl_at (I : MI g H0 B0 a k S W M σ H pr rs) : H a = some (.lst (W.map .int)) := I.si.hs.well a I.wl
theorem MI.ne (I : MI g H0 B0 a k S W M σ H pr rs) : ∀ b, b = pr ∨ b ∈ rs → g.wl ≠ some b := fun b hb z => by
  rw [I.wl] at z
  rcases hb with h | h
  · exact I.np (h ▸ (Option.some.inj z).symm)
  · exact I.nr b h (Option.some.inj z).symm
theorem MI.step (I : MI g H0 B0 a k S W M σ H pr rs) (e : Ex g.wl H H') (t : Hs g.T g.wl W' H') : MI g H0 B0 a k S W' M σ H' pr rs :=
  ⟨I.si.flat I.fl t (I.si.ex.trans e), I.fl, I.sl, I.no, I.mat.keep fun b hb n => e b n (I.ne b hb), I.fp, I.fr, I.wl, I.np, I.nr⟩
/-- a row is written -/
theorem MI.set (I : MI g H0 B0 a k S W M σ H pr rs) {i : Nat} {r : Addr} {row old : List Int} (h : rs[i]? = some r) (hr : H r = some (.lst (old.map .int))) : MI g H0 B0 a k S W (M.set i row) σ (upd H r (.lst (row.map .int))) pr rs := by
  have hm := List.mem_of_getElem? h
  refine ⟨I.si.flat I.fl ⟨tabs_upd I.si.hs.tabs (.inr (.inl ⟨_, hr⟩)), fun b z => ?_⟩ (fun b n w => ?_), I.fl, I.sl, I.no, I.mat.set h, I.fp, I.fr, I.wl, I.np, I.nr⟩
  · have : b ≠ r := fun y => by rw [I.wl] at z; exact I.nr r hm (y ▸ (Option.some.inj z).symm)
    rw [upd_ne this]
    exact I.si.hs.well b z
  · have : b ≠ r := fun y => by rw [y, I.fr r hm] at n; cases n
    rw [upd_ne this]
    exact I.si.ex b n w
end
end SN
end
section
set_option Elab.async false
set_option linter.all false
set_option maxRecDepth 100000
set_option maxHeartbeats 8000000
/-! S35: steps with a matrix of one's own. -/
namespace SN
open PySem L2 LamX NdefX PyProof.Rows
section
variable {g : Gs} {Φ : Fns} {Ψ : Wns} {c : Cc} {wf : List (Str × Nat)} {sc : Scope} {X : Cx} {H0 H H' : Hp} {B0 B : Addr → Bool} {S : PSt} {W W' : WT} {σ : L2.St} {a : Addr} {k : Nat} {M : List (List Int)} {pr : Addr} {rs : List Addr} {D : Ends} {e : Expr} {xw : XW} {ir : IR} {d : PD} {i : Nat} {n : Str} {p pos p1 p2 p3 p4 : Pos}
theorem flat_put (f : flatS S = true) (h : scal d = true) : flatS (S.put i d) = true := by
  unfold flatS PSt.put at *
  rw [Bool.and_eq_true, List.all_eq_true, List.all_eq_true] at f ⊢
  refine ⟨fun o ho => ?_, fun o ho => ?_⟩
  · rcases List.mem_or_eq_of_mem_set ho with h1 | h1
    · exact f.1 o h1
    · rw [h1]; exact h
  · rcases List.mem_or_eq_of_mem_set ho with h1 | h1
    · exact f.2 o h1
    · rw [h1]; rfl
theorem MI.put (I : MI g H0 B0 a k S W M σ H pr rs) (hik : i ≠ k) (hiw : i ≠ g.ws) (h : scal d = true) {v : V} {Hx : Hp} (dv : Da Hx v d) : MI g H0 B0 a k (S.put i d) W M (σ.set i (some v)) H pr rs := by
  refine ⟨I.si.put (dv.scal h) fun _ _ => hiw, flat_put I.fl h, by rw [List.getElem?_set_ne hik]; exact I.sl, ?_, I.mat, I.fp, I.fr, I.wl, I.np, I.nr⟩
  have : getR (S.sh.set i (some d)) k = getR S.sh k := by
    unfold getR
    rw [List.getElem?_set_ne hik]
  show getR (S.sh.set i (some d)) k = none
  rw [this]
  exact I.no
theorem MI.tau (I : MI g H0 B0 a k S W M σ H pr rs) : Sl (allB (nw g.wl H)) (nw g.wl H) (S.sh.set k (some (matD M))) σ := by
  have hk : k < σ.length := (List.getElem?_eq_some_iff.mp I.sl).1
  refine ⟨by rw [List.length_set, ← I.si.ls], fun j d h => ?_⟩
  rcases getR_set h with ⟨rfl, h2⟩ | ⟨_, h2⟩
  · cases h2
    refine ⟨_, I.sl, ?_⟩
    have m2 : MatAt (nw g.wl H) pr rs M := I.mat.keep fun b hb n => nw_ne (I.ne b hb)
    refine m2.da ?_ fun r hr => ?_
    · unfold allB; rw [m2.out]; rfl
    · obtain ⟨j, hj⟩ := List.mem_iff_getElem?.mp hr
      have hl : j < M.length := by rw [← m2.len]; exact (List.getElem?_eq_some_iff.mp hj).1
      unfold allB
      rw [m2.row j r M[j] hj (List.getElem?_eq_getElem hl)]; rfl
  · obtain ⟨v, h3, h4⟩ := I.si.da j d h2
    exact ⟨v, h3, h4.scal (flatS_sh I.fl h2)⟩
theorem MI.offN (I : MI g H0 B0 a k S W M σ H pr rs) : Off g.wl (fun _ => false) (nw g.wl H) := fun b z => ⟨rfl, by rw [z, nw_wl]; rfl⟩
/-- a name takes a scalar -/
theorem mi_set (gs : GS g sc X) (m : Mok c g Φ) (kk : Wok wf g.ws g Ψ) (hX : cX c wf g.ws 60 sc e = some xw) (I : MI g H0 B0 a k S W M σ H pr rs) (hN : g.N[i]? = some n) (hl : locB sc n = true) (hsw : ∀ env : Env, swapsWith e (some (.Name n p)) pos.line env = pure false) (hik : i ≠ k) (hiw : i ≠ g.ws)
    (hv : evX Φ Ψ xw S.sh S.all W = some (d, W')) (hd : scal d = true) (q : ∀ v H', MI g H0 B0 a k (S.put i d) W' M (σ.set i (some v)) H' pr rs → D.nx (σ.set i (some v)) H') :
    wXS X (.Assign [.Name n p] e pos) D σ H :=
  wXS.of (ps_set (i := i) gs.nd (by rw [gs.N]; exact hN) (by rw [gs.sc]; exact loc_of hl) (wA.pe gs.toGX) (hsw _) (.inl (gs.fn n)))
    ((allX m kk 60).E _ _ _ hX σ _ _ (nw g.wl H) _ d W W' I.offN I.si.sl I.si.slA I.si.wv hv H nw_ex I.si.hs _ fun v H2 f t dv => q v H2 ((I.step f t).put hik hiw hd dv))
/-- an entry is written -/
theorem mi_store (gs : GS g sc X) (I : MI g H0 B0 a k S W M σ H pr rs) {ix iy i j : Nat} {t : Int} {row : List Int} {nr nx ny : Str} (hk : g.N[k]? = some nr) (hnx : g.N[ix]? = some nx) (hny : g.N[iy]? = some ny) (vk : visB sc nr = true) (vx : visB sc nx = true) (vy : visB sc ny = true)
    (ok1 : okName nr = true) (ok2 : okName nx = true) (ok3 : okName ny = true) (hsx : σ[ix]? = some (some (.int (i : Int)))) (hsy : σ[iy]? = some (some (.int (j : Int)))) (hi : M[i]? = some row) (hj : j < row.length)
    (hsw : swapsWithSole [.Subscript (.Subscript (.Name nr p1) (.Name nx p2) p3) (.Name ny p) p4] e pos.line X.env = pure false) (hss : swappedStores [.Subscript (.Subscript (.Name nr p1) (.Name nx p2) p3) (.Name ny p) p4] e X.env = pure none)
    (he : EvD g sc σ (nw g.wl H) (fun _ => false) W e (.int t) W) (q : ∀ H', MI g H0 B0 a k S W (M.set i (row.set j t)) σ H' pr rs → D.nx σ H') :
    wXS X (.Assign [.Subscript (.Subscript (.Name nr p1) (.Name nx p2) p3) (.Name ny p) p4] e pos) D σ H := by
  refine wXS.of (ps_asg (wA.pe gs.toGX) (pg_sub (pe_ix ix_seq (pe_var (i := k) (by rw [gs.N]; exact hk) (by rw [gs.sc]; exact vis_of vk) (okName.d ok1) (okName.c ok1)) (pe_var (i := ix) (by rw [gs.N]; exact hnx) (by rw [gs.sc]; exact vis_of vx) (okName.d ok2) (okName.c ok2)) (fun _ _ => rfl)) (pe_var (i := iy) (by rw [gs.N]; exact hny) (by rw [gs.sc]; exact vis_of vy) (okName.d ok3) (okName.c ok3)) set_list) hsw hss) ?_
  refine he H nw_ex I.si.hs _ fun v H1 f t1 dv => ?_
  have J := I.step f t1
  rw [dv.int_inv]
  obtain ⟨r, hr, hm, hrow⟩ := J.mat.at hi
  have hil : i < rs.length := (List.getElem?_eq_some_iff.mp hr).1
  have atN : ∀ {α : Type} {xs : List α} {z : α} {n : Nat}, xs[n]? = some z → atI xs (n : Int) = some z := fun {α xs z n} h => by
    have hn : n < xs.length := (List.getElem?_eq_some_iff.mp h).1
    unfold atI ixN
    rw [if_pos (by omega), if_pos (by omega)]
    simpa using h
  refine ⟨.ref pr, J.sl, .int (i : Int), hsx, .inl ⟨pr, rs.map .ref, (i : Int), .ref r, rfl, rfl, SqL.of J.mat.out, atN (by rw [List.getElem?_map, hr]; rfl), ?_⟩⟩
  refine ⟨.int (j : Int), hsy, r, row.map .int, (j : Int), j, rfl, rfl, hrow, ?_, ?_⟩
  · rw [List.length_map]
    unfold ixN
    rw [if_pos (by omega), if_pos (by omega)]
    simp
  · rw [show (row.map V.int).set j (.int t) = (row.set j t).map V.int from (List.map_set (f := V.int) (l := row) (i := j) (a := t)).symm]
    exact q _ (J.set hr hrow)
/-- the matrix is given back -/
theorem MI.ret (I : MI g H0 B0 a k S W M σ H pr rs) : Ex (some a) H0 H ∧ Tabs g.T H ∧ H a = some (.lst (W.map .int)) ∧ Da (SN.rs (al B0 H0) H) (.ref pr) (matD M) :=
  ⟨by rw [← I.wl]; exact I.si.ex, I.si.hs.tabs, I.wl_at, I.mat.da (al_new I.fp) fun r hr => al_new (I.fr r hr)⟩
end
end SN
end
section
set_option Elab.async false
set_option linter.all false
set_option maxRecDepth 100000
set_option maxHeartbeats 8000000
/-! S36: a matrix of one's own is made by a comprehension. -/
namespace SN
open PySem L2 LamX NdefX PyProof.Rows
theorem MatAt.snoc {H H2 : Hp} {D p : Addr} {rs : List Addr} {M : List (List Int)} {row : List Int} (m : MatAt H D rs M) (k : ∀ b, b ∈ rs → H2 b = H b) (hp : H2 p = some (.lst (row.map .int))) (h1 : p ∉ rs) (h2 : p ≠ D) : MatAt (upd H2 D (.lst ((rs ++ [p]).map .ref))) D (rs ++ [p]) (M ++ [row]) := by
  refine ⟨upd_same, ?_, ?_, by simp [m.len], fun i r row2 q1 q2 => ?_⟩
  · rw [List.nodup_append]
    refine ⟨m.nd, by simp, fun a ha b hb => ?_⟩
    rw [List.mem_singleton.mp hb]
    exact fun z => h1 (z ▸ ha)
  · intro z
    rcases List.mem_append.mp z with z | z
    · exact m.np z
    · exact h2 (List.mem_singleton.mp z).symm
  · have hr : r ≠ D := fun z => by
      subst z
      rcases List.mem_append.mp (List.mem_of_getElem? q1) with z | z
      · exact m.np z
      · exact h2 (List.mem_singleton.mp z).symm
    rw [upd_ne hr]
    by_cases hi : i < rs.length
    · rw [List.getElem?_append_left hi] at q1
      rw [List.getElem?_append_left (by rw [← m.len]; exact hi)] at q2
      rw [k r (List.mem_of_getElem? q1)]
      exact m.row i r row2 q1 q2
    · rw [List.getElem?_append_right (by omega)] at q1
      rw [List.getElem?_append_right (by rw [← m.len]; omega)] at q2
      have hz : i - rs.length = 0 := by
        have := (List.getElem?_eq_some_iff.mp q1).1
        simp at this
        omega
      rw [hz] at q1
      rw [← m.len, hz] at q2
      cases q1
      cases q2
      exact hp
section
variable {g : Gs} {Φ : Fns} {c : Cc} {sc scope : Scope} {X : Cx} {H0 H : Hp} {B0 : Addr → Bool} {S : PSt} {W : WT} {σ : L2.St} {a : Addr} {k isz it : Nat} {D : Ends} {elt tg : Expr} {ir : IR} {n nsz : Str} {p rp sp cp lpos spos : Pos} {sz : Nat} {f : Nat → List Int}
theorem mi_lc (gs : GS g sc X) (m : Mok c g Φ) (I : SI g H0 B0 (fun _ => false) S W σ H) (fl : flatS S = true) (hwl : g.wl = some a) (hk : g.N[k]? = some n) (hlk : sc.names.lookup n = some .local) (hks : getR S.sh k = none) (hkw : k ≠ g.ws) (hkl : k < σ.length)
    (hgr : glB sc "range" = true) (hmr : g.mg "range" = none) (hsz : g.N[isz]? = some nsz) (vsz : visB sc nsz = true) (oksz : okName nsz = true) (hd : getR S.sh isz = some (.int (sz : Int))) (hsm : sz ≤ 1000)
    (hblk : blkC g.N sc scope (ownOf g.N scope) = true) (hfk : scope.kind = .function) (htg : isTg g.N scope tg (.one it) = true) (hown : (ownOf g.N scope).map (·.2) = [it]) (hE : cE c 60 (relS scope sc) elt = some ir) (hfr : fresh ir = true)
    (hsw : swapsWith (.ListComp elt [⟨tg, .Call (.Name "range" rp) [.Name nsz sp] [] cp, [], 0⟩] scope lpos) (some (.Name n p)) spos.line X.env = pure true)
    (hev : ∀ i : Nat, i < sz → ev Φ ir ((wipeR S.sh [it]).set it (some (.int (i : Int)))) ((wipeR S.sh [it]).set it (some (.int (i : Int)))) = some (.list ((f i).map .int)))
    (q : ∀ pr rs H', MI g H0 B0 a k S W ((List.range sz).map f) (σ.set k (some (.ref pr))) H' pr rs → D.nx (σ.set k (some (.ref pr))) H') :
    wXS X (.Assign [.Name n p] (.ListComp elt [⟨tg, .Call (.Name "range" rp) [.Name nsz sp] [] cp, [], 0⟩] scope lpos) spos) D σ H := by
  have tg' := fun (s : Shared) (H : Hp) (C : Addr) (cl : List (Str × Addr)) (fp : List Addr) => pg_blk (s := s) (H := H) (C := C) (cl := cl) (fp := fp) gs.toGX htg
  refine wXS.of (ps_setLc (i := k) (own := ownOf g.N scope) (g := tgG X.K (.one it)) (tt := tYes) (te := wA g (relS scope sc) elt) gs.calm gs.nd (by rw [gs.N]; exact hk) (by show X.env.scope.names.lookup n = _; rw [gs.sc]; exact hlk) hsw
    (pi_range1 (gl_of gs.sc hgr) (by rw [gs.mg]; exact hmr) (pa_cons (pe_var (i := isz) (by rw [gs.N]; exact hsz) (by rw [gs.sc]; exact vis_of vsz) (okName.d oksz) (okName.c oksz)) pa_nil)) (blkOk_by (by rw [gs.N, gs.sc]; exact hblk)) tg' (fun s H C cl fp => pts_nil) (fun s H C cl fp => wA.pe (gx_blk gs.toGX hfk)) (fun x => rfl)) ?_
  rw [hown]
  obtain ⟨v, hv, dv⟩ := I.da isz _ hd
  rw [dv.int_inv] at hv
  refine ⟨_, hv, (sz : Int), rfl, by omega, by omega, fun Dl hD => ?_⟩
  have hwell := I.hs.well a hwl
  have hDa : Dl ≠ a := fun z => by rw [z, hwell] at hD; cases hD
  have hD0 : nt (H0 Dl) = true := I.ex.nt (by rw [hD]; rfl) (by rw [hwl]; exact fun z => hDa (Option.some.inj z).symm)
  have hsn : ((sz : Int)).toNat = sz := Int.toNat_natCast sz
  refine lc_it (walk_range (lo := 0) (n := (sz : Int).toNat)) (fun i Hc => ∃ rs, Hs g.T g.wl W Hc ∧ Ex g.wl H Hc ∧ MatAt Hc Dl rs ((List.range i).map f) ∧ (∀ r ∈ rs, nt (H r) = true ∧ r ≠ a)) ?_ (fun _ _ _ _ => trivial) (fun i x Hc H' hi hp hy => ?_) (fun Hc hp => ?_)
  · refine ⟨[], hs_new I.hs hD, (ex_new' hD).weak, ⟨upd_same, List.nodup_nil, by simp, rfl, fun i r row h => by simp at h⟩, fun r h => (by cases h)⟩
  · obtain ⟨rfl, rfl⟩ := hy
    obtain ⟨rs, hs, ex, mat, fr⟩ := hp
    rw [hsn] at hi
    unfold tgG gName
    have e0 : V.int (0 + (i : Int)) = V.int (i : Int) := by rw [show (0 : Int) + (i : Int) = i by omega]
    show L2.wipe ((L2.wipe σ [it]).set it (some (V.int (0 + (i : Int))))) [it] = L2.wipe σ [it] ∧ _
    refine ⟨by simp [L2.wipe], ?_⟩
    unfold tYes
    simp only [if_true]
    rw [e0]
    have I2 := I.flat fl hs (I.ex.trans ex)
    have flsl : ∀ {B : Addr → Bool} {Ha : Hp}, Sl B Ha ((wipeR S.sh [it]).set it (some (.int (i : Int)))) ((L2.wipe σ [it]).set it (some (V.int (i : Int)))) := fun {B Ha} => by
      have s1 : Sl B Ha S.sh σ := ⟨I.ls, fun j d h => by
        obtain ⟨v, h1, h2⟩ := I.da j d h
        exact ⟨v, h1, h2.scal (flatS_sh fl h)⟩⟩
      exact (s1.wipe [it]).set it (.int _)
    obtain ⟨ds, e1, en⟩ := ((all_sound m 60).E2 _ _ _ hE).2 hfr _ _ _ (nw g.wl H') (fun _ => false) _ W (fun b z => ⟨rfl, by rw [z, nw_wl]; rfl⟩) flsl flsl (hev i hi)
    cases e1
    refine en H' nw_ex hs _ fun p xs H4 f4 t4 n4 w4 hp4 dx => ?_
    rw [dx.ints] at hp4
    have hpD : p ≠ Dl := fun z => by rw [z, mat.out] at n4; cases n4
    have hpa : p ≠ a := fun z => w4 (by rw [hwl, z])
    have nea : ∀ {b : Addr}, b ≠ a → g.wl ≠ some b := fun h z => by rw [hwl] at z; exact h (Option.some.inj z).symm
    have hD4 : H4 Dl = some (.lst (rs.map .ref)) := f4.at mat.out rfl (nea hDa)
    have hrs : ∀ r ∈ rs, nt (H' r) = false := fun r hr => by
      obtain ⟨j, hj⟩ := List.mem_iff_getElem?.mp hr
      have hl : j < ((List.range i).map f).length := by rw [← mat.len]; exact (List.getElem?_eq_some_iff.mp hj).1
      rw [mat.row j r _ hj (List.getElem?_eq_getElem hl)]; rfl
    have hpr : p ∉ rs := fun z => by rw [hrs p z] at n4; cases n4
    have mat2 := mat.snoc (H2 := H4) (p := p) (row := f i) (fun b hb => f4 b (hrs b hb) (nea (fr b hb).2)) hp4 hpr hpD
    refine ⟨rs.map .ref, hD4, by rw [List.length_map, mat.len, List.length_map, List.length_range, sizeLine_eq]; omega, rs ++ [p], ?_, ?_, ?_, fun r hr => ?_⟩
    · refine ⟨tabs_lst t4.tabs hD4, fun b z => ?_⟩
      have : b ≠ Dl := fun y => by rw [hwl] at z; exact hDa (y ▸ (Option.some.inj z).symm)
      rw [upd_ne this]
      exact t4.well b z
    · intro b nb wb
      have hbD : b ≠ Dl := fun z => by rw [z, hD] at nb; cases nb
      rw [upd_ne hbD]
      exact (ex.trans f4) b nb wb
    · have e5 : (List.range (i + 1)).map f = (List.range i).map f ++ [f i] := by rw [List.range_succ, List.map_append]; rfl
      rw [e5]
      have := mat2
      rw [List.map_append] at this
      exact this
    · rcases List.mem_append.mp hr with h | h
      · exact fr r h
      · rw [List.mem_singleton.mp h]
        exact ⟨ex.nt n4 w4, hpa⟩
  · obtain ⟨rs, hs, ex, mat, fr⟩ := hp
    rw [hsn] at mat
    refine q Dl rs Hc ⟨?_, fl, List.getElem?_set_self hkl, hks, mat, hD0, fun r hr => I.ex.nt (fr r hr).1 (by rw [hwl]; exact fun z => (fr r hr).2 (Option.some.inj z).symm), hwl, hDa, fun r hr => (fr r hr).2⟩
    have I2 := I.flat fl hs (I.ex.trans ex)
    refine ⟨by rw [List.length_set]; exact I2.ls, I2.lo, I2.hs, I2.ex, I2.nm, I2.off, fun b z => ?_, fun j d h => ?_, fun j d h => (flatS_ow fl h).elim⟩
    · rw [List.getElem?_set_ne hkw]
      exact I2.wv b z
    · have : k ≠ j := fun z => by rw [z, h] at hks; cases hks
      rw [List.getElem?_set_ne this]
      exact I2.da j d h
end
end SN
end
section
set_option Elab.async false
set_option linter.all false
set_option maxRecDepth 100000
set_option maxHeartbeats 8000000
/-! S37: _law_loose. -/
namespace SN
open PySem L2 LamX NdefX PyProof.Rows
section
variable {g : Gs} {sc : Scope} {X : Cx} {σ : L2.St} {H : Hp} {D : Ends} {arg : Expr} {ta : TE} {x : Str} {b : List Stmt} {tb : TS} {xp rp cp pos : Pos} {j n : Nat}
theorem for_rng (gs : GS g sc X) (hN : g.N[j]? = some x) (hl : locB sc x = true) (hgr : glB sc "range" = true) (hmr : g.mg "range" = none) (ha : PE X arg ta) (hp : plainE arg = true) (hb : PSs X b tb) (hn : n ≤ 1000) (Pv : Nat → L2.St → Hp → Prop)
    (hta : ∀ Q : VK, (∀ H1, Pv 0 σ H1 → Q (.int (n : Int)) H1) → ta σ H Q) (step : ∀ i σ H, i < n → Pv i σ H → tb { D with nx := Pv (i + 1), ct := Pv (i + 1), bk := D.nx } (σ.set j (some (.int (i : Int)))) H) (done : ∀ σ H, Pv n σ H → D.nx σ H) :
    wXS X (.For (.Name x xp) (.Call (.Name "range" rp) [arg] [] cp) b [] pos) D σ H := by
  have st : starEach [arg] X.env = [(false, eval arg X.env)] := star_no (es := []) _ (plainE.star hp)
  refine wXS.of (ps_for (never_of gs.nv) gs.calm (pi_range1 (gl_of gs.sc hgr) (by rw [gs.mg]; exact hmr) (pa_cons ha pa_nil st) st) (pg_name gs.nd (by rw [gs.N]; exact hN) (by rw [gs.sc]; exact loc_of hl) (.inl (gs.fn x))) hb (fun x => rfl)) ?_
  refine hta _ fun H1 p0 => ⟨(n : Int), rfl, by omega, by omega, ?_⟩
  rw [Int.toNat_natCast]
  refine for_it (walk_range (lo := 0) (n := n)) Pv p0 (fun _ _ _ _ _ => trivial) (fun i v σ' H' H2 hi p y => ?_) done
  obtain ⟨rfl, rfl⟩ := y
  have e0 : V.int (0 + (i : Int)) = V.int (i : Int) := by rw [show (0 : Int) + (i : Int) = i by omega]
  show tb _ (σ'.set j (some (V.int (0 + (i : Int))))) H2
  rw [e0]
  exact step i σ' H2 hi p
end
/-- a[b][c] = e, its parts -/
structure StP where
  nr : Str
  nx : Str
  ny : Str
  p1 : Pos
  p2 : Pos
  p3 : Pos
  p4 : Pos
  p5 : Pos
  p6 : Pos
  e : Expr
def noP : Pos := ⟨0, 0, 0, 0⟩
def subE : Expr → Expr × Expr × Pos
  | .Subscript a b p => (a, b, p)
  | e => (e, e, noP)
def namE : Expr → Str × Pos
  | .Name n p => (n, p)
  | _ => ("", noP)
def asg1 : Stmt → Expr × Expr × Pos
  | .Assign (t :: _) e p => (t, e, p)
  | _ => (.Constant .none 0 noP, .Constant .none 0 noP, noP)
def stP (s : Stmt) : StP :=
  ⟨(namE (subE (subE (asg1 s).1).1).1).1, (namE (subE (subE (asg1 s).1).1).2.1).1, (namE (subE (asg1 s).1).2.1).1, (namE (subE (subE (asg1 s).1).1).1).2, (namE (subE (subE (asg1 s).1).1).2.1).2, (subE (subE (asg1 s).1).1).2.2, (namE (subE (asg1 s).1).2.1).2, (subE (asg1 s).1).2.2, (asg1 s).2.2, (asg1 s).2.1⟩
def StP.st (q : StP) : Stmt := .Assign [.Subscript (.Subscript (.Name q.nr q.p1) (.Name q.nx q.p2) q.p3) (.Name q.ny q.p4) q.p5] q.e q.p6
theorem sole_no {t e : Expr} {l : Nat} {env : Env} (h : noComp e = true) : swapsWithSole [t] e l env = pure false := by
  have q := noComp.sw h (some t) l env
  exact q
theorem swst_no {a b : Expr} {p : Pos} {e : Expr} {env : Env} : swappedStores [.Subscript a b p] e env = pure none := by
  cases e <;> rfl
section
variable {g : Gs} {sc : Scope} {X : Cx} {H0 H : Hp} {B0 : Addr → Bool} {S : PSt} {W : WT} {σ : L2.St} {a : Addr} {k : Nat} {M : List (List Int)} {pr : Addr} {rs : List Addr} {D : Ends}
theorem mi_storeQ (gs : GS g sc X) (I : MI g H0 B0 a k S W M σ H pr rs) (Q : StP) {ix iy i j : Nat} {t : Int} {row : List Int} (hk : g.N[k]? = some Q.nr) (hnx : g.N[ix]? = some Q.nx) (hny : g.N[iy]? = some Q.ny) (vk : visB sc Q.nr = true) (vx : visB sc Q.nx = true) (vy : visB sc Q.ny = true)
    (ok1 : okName Q.nr = true) (ok2 : okName Q.nx = true) (ok3 : okName Q.ny = true) (hsx : σ[ix]? = some (some (.int (i : Int)))) (hsy : σ[iy]? = some (some (.int (j : Int)))) (hi : M[i]? = some row) (hj : j < row.length) (hc : noComp Q.e = true)
    (he : EvD g sc σ (nw g.wl H) (fun _ => false) W Q.e (.int t) W) (q : ∀ H', MI g H0 B0 a k S W (M.set i (row.set j t)) σ H' pr rs → D.nx σ H') : wXS X Q.st D σ H :=
  mi_store gs I hk hnx hny vk vx vy ok1 ok2 ok3 hsx hsy hi hj (sole_no hc) swst_no he q
end
def mset (M : List (List Int)) (i j : Nat) (t : Int) : List (List Int) := M.set i ((M.getD i []).set j t)
def sqM (M : List (List Int)) (n : Nat) : Prop := M.length = n ∧ ∀ r ∈ M, r.length = n
theorem sqM.set {M : List (List Int)} {n i j : Nat} {t : Int} (h : sqM M n) : sqM (mset M i j t) n := by
  refine ⟨by unfold mset; rw [List.length_set]; exact h.1, fun r hr => ?_⟩
  unfold mset at hr
  by_cases hi : i < M.length
  · rcases List.mem_or_eq_of_mem_set hr with h1 | h1
    · exact h.2 r h1
    · rw [h1, List.length_set, List.getD_eq_getElem?_getD, List.getElem?_eq_getElem hi, Option.getD_some]
      exact h.2 _ (List.getElem_mem hi)
  · rw [List.set_eq_of_length_le (by omega)] at hr
    exact h.2 r hr
theorem sqM.at {M : List (List Int)} {n i : Nat} (h : sqM M n) (hi : i < n) : ∃ row, M[i]? = some row ∧ row.length = n ∧ M.getD i [] = row := by
  have hi' : i < M.length := by rw [h.1]; exact hi
  exact ⟨M[i], List.getElem?_eq_getElem hi', h.2 _ (List.getElem_mem hi'), by rw [List.getD_eq_getElem?_getD, List.getElem?_eq_getElem hi']; rfl⟩
end SN
end
section
set_option Elab.async false
set_option linter.all false
set_option maxRecDepth 100000
set_option maxHeartbeats 8000000
/-! S38: _law_loose. -/
namespace SN
open PySem L2 LamX NdefX PyProof.Rows
def ir69 : XW := .bi1 .int (.cmp .NotEq (.cmp .Eq (.wfn "_law_draw" [.pure (.ix (.lst [.lit (.int 2), .lit (.int 3), .lit (.int 3)]) (.var 2))]) (.pure (.lit (.int 1)))) (.pure (.cmp .Eq (.var 2) (.lit (.int 2)))))
abbrev LoSt : Type := PSt × WT × List (List Int)
def loIn (Φ : Fns) (Ψ : Wns) (y : Nat) : List Nat → LoSt → Option LoSt
  | [], s => some s
  | x :: xs, s => (evX Φ Ψ ir69 (s.1.put 5 (.int (x : Int))).sh (s.1.put 5 (.int (x : Int))).all s.2.1).bind fun r => match r.1 with
    | .int t => loIn Φ Ψ y xs ((s.1.put 5 (.int (x : Int))).put 6 (.int t), r.2, mset (mset s.2.2 x y t) y x t)
    | _ => none
def loOut (Φ : Fns) (Ψ : Wns) : List Nat → LoSt → Option LoSt
  | [], s => some s
  | y :: ys, s => (loIn Φ Ψ y (List.range y) (s.1.put 4 (.int (y : Int)), s.2)).bind (loOut Φ Ψ ys)
def looseS (Φ : Fns) (Ψ : Wns) : List PD → WT → Option (PD × WT)
  | [.int n, .int mood], W => if 0 ≤ n ∧ n ≤ 1000 then (loOut Φ Ψ (List.range n.toNat) (st0 8 [none, some (.int n), some (.int mood)], W, (List.range n.toNat).map fun _ => List.replicate n.toNat 0)).map fun s => (matD s.2.2, s.2.1) else none
  | _, _ => none
def forP (s : Stmt) : Expr × List Stmt := match s with
  | .For _ i b _ _ => (i, b)
  | _ => (.Constant .none 0 ⟨0, 0, 0, 0⟩, [])
def asgE (s : Stmt) : Expr := match s with
  | .Assign _ e _ => e
  | _ => .Constant .none 0 ⟨0, 0, 0, 0⟩
def st69i : Stmt := (forP (stAt 69 1)).2.getD 0 (.Pass ⟨0, 0, 0, 0⟩)
def st69 (j : Nat) : Stmt := (forP st69i).2.getD j (.Pass ⟨0, 0, 0, 0⟩)
def N69 : List Str := ["_law_well_here", "_law_size", "_law_mood", "_law_rows", "_law_y", "_law_x", "_law_tie", "_law_k"]
theorem ir69_ok : cX (ccOf (topS 69)) wfT 0 60 (defScope (topS 69)) (asgE (st69 0)) = some ir69 := by kernel_rfl
theorem lc69_ok : cE (ccOf (topS 69)) 60 (relS (lcParts (asgE (stAt 69 0))).2.2.2 (defScope (topS 69))) (lcParts (asgE (stAt 69 0))).1 = some (.bin .Mult (.lst [.lit (.int 0)]) (.var 1)) := by kernel_rfl
def pE : Expr → Pos
  | .Name _ p => p
  | _ => noP
theorem e69_1 : st69 1 = (stP (st69 1)).st := by kernel_rfl
theorem e69_2 : st69 2 = (stP (st69 2)).st := by kernel_rfl
theorem v69_1 : (stP (st69 1)).e = .Name "_law_tie" (pE (stP (st69 1)).e) := by kernel_rfl
theorem v69_2 : (stP (st69 2)).e = .Name "_law_tie" (pE (stP (st69 2)).e) := by kernel_rfl
theorem n69_1 : (stP (st69 1)).nr = "_law_rows" ∧ (stP (st69 1)).nx = "_law_x" ∧ (stP (st69 1)).ny = "_law_y" := ⟨by kernel_rfl, by kernel_rfl, by kernel_rfl⟩
theorem n69_2 : (stP (st69 2)).nr = "_law_rows" ∧ (stP (st69 2)).nx = "_law_y" ∧ (stP (st69 2)).ny = "_law_x" := ⟨by kernel_rfl, by kernel_rfl, by kernel_rfl⟩
section
variable {g : Gs} {Φ : Fns} {Ψ : Wns} {X : Cx} {H0 H : Hp} {B0 : Addr → Bool} {S : PSt} {W : WT} {M : List (List Int)} {σ : L2.St} {a pr : Addr} {rs : List Addr} {D : Ends} {sz : Nat}
theorem shput {S : PSt} {i j : Nat} {d : PD} (h : i ≠ j) : getR (S.put i d).sh j = getR S.sh j := by
  show getR (S.sh.set i (some d)) j = _
  unfold getR
  rw [List.getElem?_set_ne h]
theorem shget {S : PSt} {i : Nat} {d : PD} (h : i < S.sh.length) : getR (S.put i d).sh i = some d := by
  show getR (S.sh.set i (some d)) i = _
  unfold getR
  rw [List.getElem?_set_self h]
  rfl
theorem shlen {S : PSt} {i : Nat} {d : PD} : (S.put i d).sh.length = S.sh.length := List.length_set
/-- one turn of the inner loop -/
theorem lo_turn (gs : GS g (defScope (topS 69)) X) (m : Mok (ccOf (topS 69)) g Φ) (kk : Wok wfT g.ws g Ψ) (hws : g.ws = 0) (I : MI g H0 B0 a 3 S W M σ H pr rs) (sq : sqM M sz) (hlen : S.sh.length = 8) {x y : Nat} (hx : x < sz) (hy : y < sz) (h5 : getR S.sh 5 = some (.int (x : Int))) (h4 : getR S.sh 4 = some (.int (y : Int)))
    {t : Int} {W' : WT} (he : evX Φ Ψ ir69 S.sh S.all W = some (.int t, W')) (q : ∀ σ' H', MI g H0 B0 a 3 (S.put 6 (.int t)) W' (mset (mset M x y t) y x t) σ' H' pr rs → D.nx σ' H') :
    tSeq (wXS X (st69 0)) (tSeq (wXS X (st69 1)) (wXS X (st69 2))) D σ H := by
  have hN : g.N = N69 := m.N.trans (by decide +kernel)
  refine mi_set (i := 6) (n := "_law_tie") (k := 3) gs m kk (by rw [hws]; exact ir69_ok) I (by rw [hN]; rfl) (by decide +kernel) (fun env => rfl) (by decide) (by rw [hws]; decide) he rfl fun v H1 J => ?_
  have look : ∀ {i : Nat} {z : Int} {S' : PSt} {σ' : L2.St} {H' : Hp} {M' : List (List Int)}, MI g H0 B0 a 3 S' W' M' σ' H' pr rs → getR S'.sh i = some (.int z) → σ'[i]? = some (some (.int z)) := fun J h => by
    obtain ⟨v, h1, h2⟩ := J.si.da _ _ h
    rw [h2.int_inv] at h1
    exact h1
  have g5 : getR (S.put 6 (.int t)).sh 5 = some (.int (x : Int)) := (shput (by decide)).trans h5
  have g4 : getR (S.put 6 (.int t)).sh 4 = some (.int (y : Int)) := (shput (by decide)).trans h4
  have g6 : getR (S.put 6 (.int t)).sh 6 = some (.int t) := shget (by rw [hlen]; decide)
  obtain ⟨row, hr, hl, e1⟩ := sq.at hx
  rw [e69_1]
  refine mi_storeQ (k := 3) (ix := 5) (iy := 4) (i := x) (j := y) (row := row) (t := t) gs J (stP (st69 1)) (by rw [hN, n69_1.1]; rfl) (by rw [hN, n69_1.2.1]; rfl) (by rw [hN, n69_1.2.2]; rfl) (by rw [n69_1.1]; decide +kernel) (by rw [n69_1.2.1]; decide +kernel) (by rw [n69_1.2.2]; decide +kernel) (by rw [n69_1.1]; decide) (by rw [n69_1.2.1]; decide) (by rw [n69_1.2.2]; decide) (look J g5) (look J g4) hr (by rw [hl]; exact hy) (by rw [v69_1]; rfl)
    (by rw [v69_1]; exact ed_var (i := 6) (v := .int t) J.offN (by rw [hN]; rfl) (by decide +kernel) (by decide) (by decide) (look J g6) (.int t)) fun H2 J2 => ?_
  rw [← e1] at J2
  have sq2 : sqM (mset M x y t) sz := sq.set
  obtain ⟨row2, hr2, hl2, e2⟩ := sq2.at hy
  rw [e69_2]
  refine mi_storeQ (k := 3) (ix := 4) (iy := 5) (i := y) (j := x) (row := row2) (t := t) gs J2 (stP (st69 2)) (by rw [hN, n69_2.1]; rfl) (by rw [hN, n69_2.2.1]; rfl) (by rw [hN, n69_2.2.2]; rfl) (by rw [n69_2.1]; decide +kernel) (by rw [n69_2.2.1]; decide +kernel) (by rw [n69_2.2.2]; decide +kernel) (by rw [n69_2.1]; decide) (by rw [n69_2.2.1]; decide) (by rw [n69_2.2.2]; decide) (look J2 g4) (look J2 g5) hr2 (by rw [hl2]; exact hx) (by rw [v69_2]; rfl)
    (by rw [v69_2]; exact ed_var (i := 6) (v := .int t) J2.offN (by rw [hN]; rfl) (by decide +kernel) (by decide) (by decide) (look J2 g6) (.int t)) fun H3 J3 => ?_
  rw [← e2] at J3
  exact q _ _ J3
end
end SN
end
section
set_option Elab.async false
set_option linter.all false
set_option maxRecDepth 100000
set_option maxHeartbeats 2000000
/-! S39: _law_loose, the whole. -/
namespace SN
open PySem L2 LamX NdefX PyProof.Rows
/-- for x in range(arg), its parts -/
structure FoP where
  x : Str
  xp : Pos
  rp : Pos
  cp : Pos
  pos : Pos
  arg : Expr
  b : List Stmt
def callP : Expr → Expr × Pos × Pos
  | .Call (.Name _ rp) (a :: _) _ cp => (a, rp, cp)
  | e => (e, noP, noP)
def foS : Stmt → Expr × Expr × List Stmt × Pos
  | .For t i b _ p => (t, i, b, p)
  | _ => (.Constant .none 0 noP, .Constant .none 0 noP, [], noP)
def foP (s : Stmt) : FoP := ⟨(namE (foS s).1).1, (namE (foS s).1).2, (callP (foS s).2.1).2.1, (callP (foS s).2.1).2.2, (foS s).2.2.2, (callP (foS s).2.1).1, (foS s).2.2.1⟩
def FoP.st (q : FoP) : Stmt := .For (.Name q.x q.xp) (.Call (.Name "range" q.rp) [q.arg] [] q.cp) q.b [] q.pos
/-- n = [elt for tg in range(nsz)], its parts -/
structure LcP where
  n : Str
  p : Pos
  elt : Expr
  tg : Expr
  rp : Pos
  nsz : Str
  sp : Pos
  cp : Pos
  scope : Scope
  lpos : Pos
  spos : Pos
def lcE : Expr → Expr × Expr × Expr × Scope × Pos
  | .ListComp elt (g :: _) scope p => (elt, g.target, g.iter, scope, p)
  | e => (e, e, e, ⟨.module, [], false, false, []⟩, noP)
def lcP (s : Stmt) : LcP := ⟨(namE (asg1 s).1).1, (namE (asg1 s).1).2, (lcE (asg1 s).2.1).1, (lcE (asg1 s).2.1).2.1, (callP (lcE (asg1 s).2.1).2.2.1).2.1, (namE (callP (lcE (asg1 s).2.1).2.2.1).1).1, (namE (callP (lcE (asg1 s).2.1).2.2.1).1).2, (callP (lcE (asg1 s).2.1).2.2.1).2.2, (lcE (asg1 s).2.1).2.2.2.1, (lcE (asg1 s).2.1).2.2.2.2, (asg1 s).2.2⟩
def LcP.st (q : LcP) : Stmt := .Assign [.Name q.n q.p] (.ListComp q.elt [⟨q.tg, .Call (.Name "range" q.rp) [.Name q.nsz q.sp] [] q.cp, [], 0⟩] q.scope q.lpos) q.spos
theorem e69_c : stAt 69 0 = (lcP (stAt 69 0)).st := by kernel_rfl
theorem e69_f : stAt 69 1 = (foP (stAt 69 1)).st := by kernel_rfl
theorem e69_i : st69i = (foP st69i).st := by kernel_rfl
theorem b69_f : (foP (stAt 69 1)).b = [st69i] := by kernel_rfl
theorem b69_i : (foP st69i).b = [st69 0, st69 1, st69 2] := by kernel_rfl
theorem a69_f : (foP (stAt 69 1)).arg = .Name "_law_size" (pE (foP (stAt 69 1)).arg) := by kernel_rfl
theorem a69_i : (foP st69i).arg = .Name "_law_y" (pE (foP st69i).arg) := by kernel_rfl
theorem x69_f : (foP (stAt 69 1)).x = "_law_y" := by kernel_rfl
theorem x69_i : (foP st69i).x = "_law_x" := by kernel_rfl
theorem c69_n : (lcP (stAt 69 0)).n = "_law_rows" := by kernel_rfl
theorem c69_s : (lcP (stAt 69 0)).nsz = "_law_size" := by kernel_rfl
theorem c69_e : cE (ccOf (topS 69)) 60 (relS (lcP (stAt 69 0)).scope (defScope (topS 69))) (lcP (stAt 69 0)).elt = some (.bin .Mult (.lst [.lit (.int 0)]) (.var 1)) := by kernel_rfl
theorem c69_b : blkC N69 (defScope (topS 69)) (lcP (stAt 69 0)).scope (ownOf N69 (lcP (stAt 69 0)).scope) = true := by decide +kernel
theorem c69_t : isTg N69 (lcP (stAt 69 0)).scope (lcP (stAt 69 0)).tg (.one 7) = true := by decide +kernel
theorem c69_o : (ownOf N69 (lcP (stAt 69 0)).scope).map (·.2) = [7] := by decide +kernel
theorem c69_k : (lcP (stAt 69 0)).scope.kind = .function := by kernel_rfl
theorem c69_w : swB (defScope (topS 69)) (lcP (stAt 69 0)).n (lcP (stAt 69 0)).p (.ListComp (lcP (stAt 69 0)).elt [⟨(lcP (stAt 69 0)).tg, .Call (.Name "range" (lcP (stAt 69 0)).rp) [.Name (lcP (stAt 69 0)).nsz (lcP (stAt 69 0)).sp] [] (lcP (stAt 69 0)).cp, [], 0⟩] (lcP (stAt 69 0)).scope (lcP (stAt 69 0)).lpos) = true := by kernel_rfl
section
variable {g : Gs} {H : Hp} {B : Addr → Bool} {us : List V} {ds : List PD} {a : Addr} {W : WT}
theorem si_startW (hwl : g.wl = some a) (hws : g.ws = 0) (hl : us.length + 1 ≤ g.N.length) (ht : Tabs g.T H) (ha : H a = some (.lst (W.map .int))) (hB : B a = false) (hd : Das (rs B H) us ds) : SI g H B B (st0 g.N.length (none :: ds.map some)) W (L2.start g.N (.ref a :: us)) H := by
  have el : (ds.map some).length = us.length := by rw [List.length_map, hd.length]
  obtain ⟨z1, z2⟩ := st0_len (m := g.N.length) (l := none :: ds.map some) (by rw [List.length_cons]; omega)
  have isa : ∀ b, g.wl = some b → b = a := fun b z => by rw [hwl] at z; exact (Option.some.inj z).symm
  refine ⟨by rw [start_len (by rw [List.length_cons]; omega), z1], by rw [z1, z2], ⟨ht, fun b z => by rw [isa b z]; exact ha⟩, Ex.refl H, fun b h _ => al_B h, fun b z => by rw [isa b z]; exact hB, fun b z => ?_, fun i d' h => ?_, fun i d' h => ?_⟩
  · rw [isa b z, hws]
    exact start_at rfl
  · have h' := getR_app (show getR ((none :: ds.map some) ++ List.replicate (g.N.length - (none :: ds.map some).length) none) i = some d' from h) (getR_rep _)
    cases i with
    | zero => simp [getR] at h'
    | succ i =>
      have h2 : ds[i]? = some d' := by
        unfold getR at h'
        rw [List.getElem?_cons_succ, List.getElem?_map] at h'
        cases q : ds[i]? with
        | none => rw [q] at h'; cases h'
        | some u => rw [q] at h'; simpa using h'
      obtain ⟨v, hv, dv⟩ := hd.get h2
      exact ⟨v, start_at (by simpa using hv), dv⟩
  · rw [show getR (st0 g.N.length (none :: ds.map some)).ow i = none from getR_rep _ _] at h
    cases h
end
end SN
end
section
set_option Elab.async false
set_option linter.all false
set_option maxRecDepth 100000
set_option maxHeartbeats 2000000
/-! S40: _law_loose keeps its promise. -/
namespace SN
open PySem L2 LamX NdefX PyProof.Rows
section
variable {g : Gs} {Φ : Fns} {Ψ : Wns} {f : Addr} {fd : FuncData}
theorem loose_ok (F : FunD g.K "_law_loose" "_law_loose" (defArgs (topS 69)) (defBody (topS 69)) (defScope (topS 69)) [] [] f fd) (m : ∀ a, Mok (ccOf (topS 69)) { g with wl := some a } Φ) (kk : ∀ a, Wok wfT 0 { g with wl := some a } Ψ) (hws : g.ws = 0) : FnG g.P g.w g.K g.mg g.base (g.k + 1) f fd ["_law_well_here", "_law_size", "_law_mood"] (spW g.T (looseS Φ Ψ) 2) := by
  have hN : g.N = N69 := (m 0).N.trans (by decide +kernel)
  have S : FnScope g.N ["_law_well_here", "_law_size", "_law_mood"] (defScope (topS 69)) := by
    rw [hN]
    exact ⟨rfl, rfl, rfl, by decide +kernel, rfl, by decide +kernel, by decide +kernel⟩
  refine fnG_ofC F S (fun vs H Q q => ?_) fun A out s H vs Q rm gd q => ?_
  · obtain ⟨a, us, rfl, h, _⟩ := q
    rw [List.length_cons, h]; rfl
  obtain ⟨a, us, rfl, hl, B, ds, W, d, W2, hs, ht, ha, hB, hd, q⟩ := q
  have gs : GS { g with wl := some a } (defScope (topS 69)) (cxOf CX0 g.P g.w g.K g.mg g.base g.N "_law_loose" (defScope (topS 69)) f fd.code A out s H E0).nox := gs_def (g := { g with wl := some a }) S rm gd
  have m := m a
  have kk := kk a
  have hwl : ({ g with wl := some a } : Gs).wl = some a := rfl
  have hws' : ({ g with wl := some a } : Gs).ws = 0 := hws
  have hN' : ({ g with wl := some a } : Gs).N = N69 := hN
  have hT' : ({ g with wl := some a } : Gs).T = g.T := rfl
  have I0 := si_startW (g := { g with wl := some a }) hwl hws' (by rw [hl, hN']; decide) ht ha hB hd
  have hN8 : ({ g with wl := some a } : Gs).N.length = 8 := by rw [hN']; rfl
  rw [hN8] at I0
  have hNX : (cxOf CX0 g.P g.w g.K g.mg g.base g.N "_law_loose" (defScope (topS 69)) f fd.code A out s H E0).nox.N = N69 := by rw [gs.N, hN']
  have hq : ∀ v H', Ex (some a) H H' → Tabs ({ g with wl := some a } : Gs).T H' → H' a = some (.lst (W2.map .int)) → Da (rs (al B H) H') v d → Q v H' := q
  have es : L2.start ({ g with wl := some a } : Gs).N (.ref a :: us) = L2.start g.N (.ref a :: us) := rfl
  rw [es] at I0
  generalize hX : (cxOf CX0 g.P g.w g.K g.mg g.base g.N "_law_loose" (defScope (topS 69)) f fd.code A out s H E0).nox = X at gs hNX
  generalize ({ g with wl := some a } : Gs) = g' at *
  have v3 : Vis X.env.scope "_law_rows" := by rw [gs.sc]; exact vis_of (by decide +kernel)
  have v1 : Vis X.env.scope "_law_size" := by rw [gs.sc]; exact vis_of (by decide +kernel)
  have v4 : Vis X.env.scope "_law_y" := by rw [gs.sc]; exact vis_of (by decide +kernel)
  have p3 : ∀ {pos : Pos}, PE X (.Name "_law_rows" pos) (tVar 3) := fun {pos} => pe_var (i := 3) (by rw [hNX]; rfl) v3
  have p1 : ∀ {pos : Pos}, PE X (.Name "_law_size" pos) (tVar 1) := fun {pos} => pe_var (i := 1) (by rw [hNX]; rfl) v1
  have p4 : ∀ {pos : Pos}, PE X (.Name "_law_y" pos) (tVar 4) := fun {pos} => pe_var (i := 4) (by rw [hNX]; rfl) v4
  refine ⟨_, pss_cons (wXS.ps (st := stAt 69 0)) (pss_cons (wXS.ps (st := stAt 69 1)) (pss_one (ps_ret p3))), ?_⟩
  have hds : ∃ n mood fin, ds = [.int n, .int mood] ∧ (0 ≤ n ∧ n ≤ 1000) ∧ loOut Φ Ψ (List.range n.toNat) (st0 8 [none, some (.int n), some (.int mood)], W, (List.range n.toNat).map fun _ => List.replicate n.toNat 0) = some fin ∧ d = matD fin.2.2 ∧ W2 = fin.2.1 := by
    unfold looseS at hs
    split at hs
    · split at hs
      · obtain ⟨r, h1, h2⟩ := omap hs
        cases h2
        exact ⟨_, _, r, rfl, by assumption, h1, rfl, rfl⟩
      · cases hs
    · cases hs
  obtain ⟨n, mood, fin, rfl, hn, hgo, rfl, rfl⟩ := hds
  obtain ⟨sz, rfl⟩ : ∃ sz : Nat, n = (sz : Int) := ⟨n.toNat, by omega⟩
  rw [Int.toNat_natCast] at hgo
  have hsz : sz ≤ 1000 := by omega
  have fl0 : flatS (st0 8 [none, some (.int (sz : Int)), some (.int mood)]) = true := rfl
  have I1 := I0.flat (S := st0 8 [none, some (.int (sz : Int)), some (.int mood)]) fl0 I0.hs I0.ex
  show wXS X (stAt 69 0) _ _ H
  rw [e69_c]
  have sw := swB.yes gs.sc gs.code c69_w (lcP (stAt 69 0)).spos.line
  have hls : (L2.start g.N (V.ref a :: us)).length = 8 := by rw [I1.ls]; rfl
  refine mi_lc (k := 3) (isz := 1) (it := 7) (sz := sz) (f := fun _ => List.replicate sz 0) gs m I1 fl0 hwl (by rw [hN', c69_n]; rfl) (by rw [c69_n]; decide +kernel) rfl (by rw [hws']; decide) (by rw [hls]; decide) (by decide +kernel) m.rng (by rw [hN', c69_s]; rfl) (by rw [c69_s]; decide +kernel) (by rw [c69_s]; decide) rfl hsz (by rw [hN']; exact c69_b) c69_k (by rw [hN']; exact c69_t) (by rw [hN']; exact c69_o) c69_e rfl sw.2 (fun i hi => ?_) (fun pr rs H1 J => ?_)
  · have e : (((wipeR (st0 8 [none, some (PySem.PyData.int (sz : Int)), some (.int mood)]).sh [7]).set 7 (some (.int (i : Int)))) : Rho) = [none, some (.int (sz : Int)), some (.int mood), none, none, none, none, some (.int (i : Int))] := rfl
    rw [e]
    simp [ev, evs, getR, pyBin, show sz ≤ 1000 from hsz]
    omega
  · show wXS X (stAt 69 1) _ _ H1
    rw [e69_f]
    have look : ∀ {i : Nat} {z : Int} {S' : PSt} {σ' : L2.St} {H' : Hp} {W' : WT} {M' : List (List Int)} {pr : Addr} {rs : List Addr}, MI g' H B a 3 S' W' M' σ' H' pr rs → getR S'.sh i = some (.int z) → σ'[i]? = some (some (.int z)) := fun J h => by
      obtain ⟨v, h1, h2⟩ := J.si.da _ _ h
      rw [h2.int_inv] at h1
      exact h1
    have sq0 : sqM ((List.range sz).map fun _ => List.replicate sz (0 : Int)) sz := ⟨by simp, fun r hr => by
      obtain ⟨_, _, rfl⟩ := List.mem_map.mp hr
      simp⟩
    refine for_rng (j := 4) (n := sz) (ta := tVar 1) (tb := wXS X st69i) gs (by rw [hN', x69_f]; rfl) (by rw [x69_f]; decide +kernel) (by decide +kernel) m.rng (by rw [a69_f]; exact p1) (by rw [a69_f]; rfl) (by rw [b69_f]; exact pss_one wXS.ps) hsz
      (fun i σ' H' => ∃ S W M pr rs, MI g' H B a 3 S W M σ' H' pr rs ∧ sqM M sz ∧ S.sh.length = 8 ∧ loOut Φ Ψ ((List.range sz).drop i) (S, W, M) = some fin)
      (fun Q hQ => ⟨_, look J rfl, hQ H1 ⟨_, _, _, pr, rs, J, sq0, rfl, by rw [List.drop_zero]; exact hgo⟩⟩) (fun y σ2 H2 hy ⟨S2, W2, M2, pr2, rs2, J2, sq2, hl2, go2⟩ => ?_) (fun σ2 H2 ⟨S2, W2, M2, pr2, rs2, J2, sq2, hl2, go2⟩ => ?_)
    · have hy' : y < (List.range sz).length := by rw [List.length_range]; exact hy
      rw [List.drop_eq_getElem_cons hy', List.getElem_range] at go2
      unfold loOut at go2
      obtain ⟨st1, hin, hout⟩ := obind go2
      have J3 := J2.put (i := 4) (d := .int (y : Int)) (by decide) (by rw [hws']; decide) rfl (v := .int (y : Int)) (Hx := H2) (.int _)
      have g4 : getR (S2.put 4 (.int (y : Int))).sh 4 = some (.int (y : Int)) := shget (by rw [hl2]; decide)
      show wXS X st69i _ (σ2.set 4 (some (.int (y : Int)))) H2
      rw [e69_i]
      refine for_rng (j := 5) (n := y) (ta := tVar 4) (tb := tSeq (wXS X (st69 0)) (tSeq (wXS X (st69 1)) (wXS X (st69 2)))) gs (by rw [hN', x69_i]; rfl) (by rw [x69_i]; decide +kernel) (by decide +kernel) m.rng (by rw [a69_i]; exact p4) (by rw [a69_i]; rfl) (by rw [b69_i]; exact pss_cons wXS.ps (pss_cons wXS.ps (pss_one wXS.ps))) (by omega)
        (fun i σ' H' => ∃ S W M pr rs, MI g' H B a 3 S W M σ' H' pr rs ∧ sqM M sz ∧ S.sh.length = 8 ∧ getR S.sh 4 = some (.int (y : Int)) ∧ loIn Φ Ψ y ((List.range y).drop i) (S, W, M) = some st1)
        (fun Q hQ => ⟨_, look J3 g4, hQ H2 ⟨_, _, _, pr2, rs2, J3, sq2, by rw [shlen]; exact hl2, g4, by rw [List.drop_zero]; exact hin⟩⟩) (fun x σ4 H4 hx ⟨S4, W4, M4, pr4, rs4, J4, sq4, hl4, g44, go4⟩ => ?_) (fun σ4 H4 ⟨S4, W4, M4, pr4, rs4, J4, sq4, hl4, g44, go4⟩ => ?_)
      · have hx' : x < (List.range y).length := by rw [List.length_range]; exact hx
        rw [List.drop_eq_getElem_cons hx', List.getElem_range] at go4
        unfold loIn at go4
        obtain ⟨⟨dt, W5⟩, hev, go5⟩ := obind go4
        cases dt with
        | int t =>
          have J5 := J4.put (i := 5) (d := .int (x : Int)) (by decide) (by rw [hws']; decide) rfl (v := .int (x : Int)) (Hx := H4) (.int _)
          refine lo_turn gs m (by rw [hws']; exact kk) hws' J5 sq4 (by rw [shlen]; exact hl4) (by omega) hy (shget (by rw [hl4]; decide)) ((shput (by decide)).trans g44) hev fun σ6 H6 J6 => ?_
          exact ⟨_, _, _, pr4, rs4, J6, (sq4.set).set, by rw [shlen, shlen]; exact hl4, ((shput (by decide)).trans (shput (by decide))).trans g44, go5⟩
        | _ => cases go5
      · rw [List.drop_of_length_le (by rw [List.length_range]; exact Nat.le_refl _)] at go4
        cases go4
        exact ⟨_, _, _, pr4, rs4, J4, sq4, hl4, hout⟩
    · rw [List.drop_of_length_le (by rw [List.length_range]; exact Nat.le_refl _)] at go2
      cases go2
      obtain ⟨r1, r2, r3, r4⟩ := J2.ret
      exact ⟨_, J2.sl, hq _ H2 r1 r2 r3 r4⟩
end
end SN
end
section
set_option Elab.async false
set_option linter.all false
set_option maxRecDepth 100000
set_option maxHeartbeats 2000000
/-! S41: _law_line. -/
namespace SN
open PySem L2 LamX NdefX PyProof.Rows
def irD74 : XW := .wfn "_law_draw" [.pure (.var 1)]
def irK74 : XW := .wfn "_law_draw" [.pure (.lit (.int 4))]
def lnTurn (Φ : Fns) (Ψ : Wns) (n j : Nat) (s : LoSt) : Option LoSt :=
  (evX Φ Ψ irD74 (s.1.put 5 (.int (j : Int))).sh (s.1.put 5 (.int (j : Int))).all s.2.1).bind fun r => match r.1 with
  | .int x => (evX Φ Ψ irD74 ((s.1.put 5 (.int (j : Int))).put 2 (.int x)).sh ((s.1.put 5 (.int (j : Int))).put 2 (.int x)).all r.2).bind fun r2 => match r2.1 with
    | .int y => if 0 ≤ x ∧ x < n ∧ 0 ≤ y ∧ y < n then some (((s.1.put 5 (.int (j : Int))).put 2 (.int x)).put 3 (.int y), r2.2, if x = y then s.2.2 else mset (mset s.2.2 x.toNat y.toNat (1 - mAt s.2.2 x.toNat y.toNat)) y.toNat x.toNat (1 - mAt s.2.2 x.toNat y.toNat)) else none
    | _ => none
  | _ => none
def lnGo (Φ : Fns) (Ψ : Wns) (n : Nat) : List Nat → LoSt → Option LoSt
  | [], s => some s
  | j :: js, s => (lnTurn Φ Ψ n j s).bind (lnGo Φ Ψ n js)
def lnM (n : Nat) : List (List Int) := (List.range n).map fun (x : Nat) => (List.range n).map fun (y : Nat) => if (x : Int) - (y : Int) = 1 ∨ (x : Int) - (y : Int) = -1 then (1 : Int) else 0
def lineS (Φ : Fns) (Ψ : Wns) : List PD → WT → Option (PD × WT)
  | [.int n], W => if 0 ≤ n ∧ n ≤ 1000 then (evX Φ Ψ irK74 (st0 6 [none, some (.int n)]).sh (st0 6 [none, some (.int n)]).all W).bind fun r => match r.1 with
    | .int k => if 0 ≤ k ∧ k ≤ 1000 then (lnGo Φ Ψ n.toNat (List.range k.toNat) (st0 6 [none, some (.int n)], r.2, lnM n.toNat)).map fun s => (matD s.2.2, s.2.1) else none
    | _ => none
    else none
  | _, _ => none
def N74 : List Str := ["_law_well_here", "_law_size", "_law_x", "_law_y", "_law_rows", "_law_k"]
def st74 (j : Nat) : Stmt := (foP (stAt 74 1)).b.getD j (.Pass ⟨0, 0, 0, 0⟩)
/-- if c: a, its parts -/
structure IfP where
  c : Expr
  a : List Stmt
  pos : Pos
def ifP : Stmt → IfP
  | .If c a _ p => ⟨c, a, p⟩
  | _ => ⟨.Constant .none 0 noP, [], noP⟩
def IfP.st (q : IfP) : Stmt := .If q.c q.a [] q.pos
def st74s (j : Nat) : Stmt := (ifP (st74 2)).a.getD j (.Pass ⟨0, 0, 0, 0⟩)
theorem e74_c : stAt 74 0 = (lcP (stAt 74 0)).st := by kernel_rfl
theorem e74_f : stAt 74 1 = (foP (stAt 74 1)).st := by kernel_rfl
theorem b74_f : (foP (stAt 74 1)).b = [st74 0, st74 1, st74 2] := by kernel_rfl
theorem e74_i : st74 2 = (ifP (st74 2)).st := by kernel_rfl
theorem b74_i : (ifP (st74 2)).a = [st74s 0, st74s 1] := by kernel_rfl
theorem e74_s0 : st74s 0 = (stP (st74s 0)).st := by kernel_rfl
theorem e74_s1 : st74s 1 = (stP (st74s 1)).st := by kernel_rfl
theorem x74_f : (foP (stAt 74 1)).x = "_law_k" := by kernel_rfl
theorem c74_n : (lcP (stAt 74 0)).n = "_law_rows" := by kernel_rfl
theorem c74_s : (lcP (stAt 74 0)).nsz = "_law_size" := by kernel_rfl
def irE74 : IR := .lc (.rng1 (.var 1)) (.one 3) [3] (.bi1 .int (.cmp .In (.bin .Sub (.var 2) (.var 3)) (.lst [.lit (.int 1), .neg (.lit (.int 1))])))
theorem c74_e : cE (ccOf (topS 74)) 60 (relS (lcP (stAt 74 0)).scope (defScope (topS 74))) (lcP (stAt 74 0)).elt = some irE74 := by kernel_rfl
theorem c74_b : blkC N74 (defScope (topS 74)) (lcP (stAt 74 0)).scope (ownOf N74 (lcP (stAt 74 0)).scope) = true := by decide +kernel
theorem c74_t : isTg N74 (lcP (stAt 74 0)).scope (lcP (stAt 74 0)).tg (.one 2) = true := by decide +kernel
theorem c74_o : (ownOf N74 (lcP (stAt 74 0)).scope).map (·.2) = [2] := by decide +kernel
theorem c74_k : (lcP (stAt 74 0)).scope.kind = .function := by kernel_rfl
theorem c74_w : swB (defScope (topS 74)) (lcP (stAt 74 0)).n (lcP (stAt 74 0)).p (.ListComp (lcP (stAt 74 0)).elt [⟨(lcP (stAt 74 0)).tg, .Call (.Name "range" (lcP (stAt 74 0)).rp) [.Name (lcP (stAt 74 0)).nsz (lcP (stAt 74 0)).sp] [] (lcP (stAt 74 0)).cp, [], 0⟩] (lcP (stAt 74 0)).scope (lcP (stAt 74 0)).lpos) = true := by kernel_rfl
theorem irK74_ok : cX (ccOf (topS 74)) wfT 0 60 (defScope (topS 74)) (foP (stAt 74 1)).arg = some irK74 := by kernel_rfl
theorem irX74_ok : cX (ccOf (topS 74)) wfT 0 60 (defScope (topS 74)) (asgE (st74 0)) = some irD74 := by kernel_rfl
theorem irY74_ok : cX (ccOf (topS 74)) wfT 0 60 (defScope (topS 74)) (asgE (st74 1)) = some irD74 := by kernel_rfl
def asP (s : Stmt) : Str × Pos × Pos := ((namE (asg1 s).1).1, (namE (asg1 s).1).2, (asg1 s).2.2)
theorem e74_x : st74 0 = .Assign [.Name "_law_x" (asP (st74 0)).2.1] (asgE (st74 0)) (asP (st74 0)).2.2 := by kernel_rfl
theorem e74_y : st74 1 = .Assign [.Name "_law_y" (asP (st74 1)).2.1] (asgE (st74 1)) (asP (st74 1)).2.2 := by kernel_rfl
theorem nc74 : noComp (asgE (st74 0)) = true ∧ noComp (asgE (st74 1)) = true ∧ noComp (stP (st74s 0)).e = true ∧ noComp (stP (st74s 1)).e = true := ⟨by kernel_rfl, by kernel_rfl, by kernel_rfl, by kernel_rfl⟩
theorem irC74_ok : cT (ccOf (topS 74)) 60 (defScope (topS 74)) (ifP (st74 2)).c = some (.tCmp .NotEq (.var 2) (.var 3)) := by kernel_rfl
def irR74 : IR := .ix (.ix (.var 4) (.var 2)) (.var 3)
theorem irS0_ok : cE (ccOf (topS 74)) 60 (defScope (topS 74)) (stP (st74s 0)).e = some (.bin .Sub (.lit (.int 1)) irR74) := by kernel_rfl
theorem irS1_ok : cE (ccOf (topS 74)) 60 (defScope (topS 74)) (stP (st74s 1)).e = some irR74 := by kernel_rfl
theorem n74_0 : (stP (st74s 0)).nr = "_law_rows" ∧ (stP (st74s 0)).nx = "_law_x" ∧ (stP (st74s 0)).ny = "_law_y" := ⟨by kernel_rfl, by kernel_rfl, by kernel_rfl⟩
theorem n74_1 : (stP (st74s 1)).nr = "_law_rows" ∧ (stP (st74s 1)).nx = "_law_y" ∧ (stP (st74s 1)).ny = "_law_x" := ⟨by kernel_rfl, by kernel_rfl, by kernel_rfl⟩
theorem pl74 : plainE (foP (stAt 74 1)).arg = true := by kernel_rfl
/-- an entry read -/
theorem matD_ix {M : List (List Int)} {n x y : Nat} (sq : sqM M n) (hx : x < n) (hy : y < n) : ((pyIx (matD M) (.int (x : Int))).bind fun r => pyIx r (.int (y : Int))) = some (.int (mAt M x y)) := by
  obtain ⟨row, hr, hl, e⟩ := sq.at hx
  show ((atI (M.map fun r => PySem.PyData.list (r.map .int)) (x : Int)).bind _) = _
  rw [atI_nat (d := .list (row.map .int)) (by rw [List.getElem?_map, hr]; rfl)]
  show atI (row.map PySem.PyData.int) (y : Int) = _
  have hy' : y < row.length := by rw [hl]; exact hy
  rw [atI_nat (d := PySem.PyData.int row[y]) (by rw [List.getElem?_map, List.getElem?_eq_getElem hy']; rfl)]
  unfold mAt
  rw [e, List.getD_eq_getElem?_getD, List.getElem?_eq_getElem hy']
  rfl
theorem mset_at {M : List (List Int)} {n x y : Nat} {t : Int} (sq : sqM M n) (hx : x < n) (hy : y < n) : mAt (mset M x y t) x y = t := by
  obtain ⟨row, hr, hl, e⟩ := sq.at hx
  have hx' : x < M.length := (List.getElem?_eq_some_iff.mp hr).1
  have hy' : y < row.length := by rw [hl]; exact hy
  unfold mAt mset
  rw [e, show (M.set x (row.set y t)).getD x [] = row.set y t by rw [List.getD_eq_getElem?_getD, List.getElem?_set_self hx']; rfl, List.getD_eq_getElem?_getD, List.getElem?_set_self hy']
  rfl
theorem ev_R74 {Φ : Fns} {τ : Rho} {M : List (List Int)} {n x y : Nat} (sq : sqM M n) (hx : x < n) (hy : y < n) (h4 : getR τ 4 = some (matD M)) (h2 : getR τ 2 = some (.int (x : Int))) (h3 : getR τ 3 = some (.int (y : Int))) : ev Φ irR74 τ τ = some (.int (mAt M x y)) := by
  have := matD_ix sq hx hy
  unfold irR74
  simp only [ev, h4, h2, h3, Option.bind_some]
  exact this
end SN
end
section
set_option Elab.async false
set_option linter.all false
set_option maxRecDepth 100000
set_option maxHeartbeats 2000000
/-! S42: _law_line keeps its promise. -/
namespace SN
open PySem L2 LamX NdefX PyProof.Rows
section
variable {g : Gs} {Φ : Fns} {Ψ : Wns} {X : Cx} {H0 H : Hp} {B0 : Addr → Bool} {S : PSt} {W : WT} {M : List (List Int)} {σ : L2.St} {a pr : Addr} {rs : List Addr} {D : Ends} {n : Nat}
theorem MI.look (I : MI g H0 B0 a 4 S W M σ H pr rs) {i : Nat} {z : Int} (h : getR S.sh i = some (.int z)) : σ[i]? = some (some (.int z)) := by
  obtain ⟨v, h1, h2⟩ := I.si.da _ _ h
  rw [h2.int_inv] at h1
  exact h1
theorem MI.evR (gs : GS g (defScope (topS 74)) X) (m : Mok (ccOf (topS 74)) g Φ) (I : MI g H0 B0 a 4 S W M σ H pr rs) (hlen : S.sh.length = 6) {e : Expr} {ir : IR} {t : Int} (hE : cE (ccOf (topS 74)) 60 (defScope (topS 74)) e = some ir) (hv : ev Φ ir (S.sh.set 4 (some (matD M))) (S.sh.set 4 (some (matD M))) = some (.int t)) : EvD g (defScope (topS 74)) σ (nw g.wl H) (fun _ => false) W e (.int t) W :=
  ((((all_sound m 60).E _ _ _ hE).loose I.offN I.tau hv)).scal rfl
/-- the exchange of a tie -/
theorem ln_if (gs : GS g (defScope (topS 74)) X) (m : Mok (ccOf (topS 74)) g Φ) (I : MI g H0 B0 a 4 S W M σ H pr rs) (sq : sqM M n) (hlen : S.sh.length = 6) {x y : Nat} (hx : x < n) (hy : y < n) (h2 : getR S.sh 2 = some (.int (x : Int))) (h3 : getR S.sh 3 = some (.int (y : Int)))
    (q : ∀ H', MI g H0 B0 a 4 S W (if (x : Int) = (y : Int) then M else mset (mset M x y (1 - mAt M x y)) y x (1 - mAt M x y)) σ H' pr rs → D.nx σ H') : wXS X (st74 2) D σ H := by
  have hN : g.N = N74 := m.N.trans (by decide +kernel)
  rw [e74_i]
  refine wXS.of (ps_if (wT.pt gs.toGX) (by rw [b74_i]; exact pss_cons (wXS.ps (st := st74s 0)) (pss_one (wXS.ps (st := st74s 1)))) pss_nil) ?_
  have hne : ∀ d : PD, (4 : Nat) ≠ 2 ∧ (4 : Nat) ≠ 3 := fun _ => ⟨by decide, by decide⟩
  have k2 : ∀ o, getR (S.sh.set 4 o) 2 = some (.int (x : Int)) := fun o => by
    unfold getR
    rw [List.getElem?_set_ne (by decide)]
    exact h2
  have k3 : ∀ o, getR (S.sh.set 4 o) 3 = some (.int (y : Int)) := fun o => by
    unfold getR
    rw [List.getElem?_set_ne (by decide)]
    exact h3
  have k4 : ∀ d, getR (S.sh.set 4 (some d)) 4 = some d := fun d => by
    unfold getR
    rw [List.getElem?_set_self (by rw [hlen]; decide)]
    rfl
  refine (((all_sound m 60).T _ _ _ irC74_ok).1 σ _ (nw g.wl H) (fun _ => false) (decide ((x : Int) ≠ (y : Int))) W I.offN I.tau (by simp [evT, ev, k2, k3, pyCmp, SeqAt.shaped, PyData.canLay0, PyData.depth, PyData.eqv, asBool]; rw [Bool.eq_iff_iff]; simp)) H nw_ex I.si.hs _ fun H1 f t => ?_
  have J := I.step f t
  by_cases hxy : (x : Int) = (y : Int)
  · rw [if_pos hxy] at q
    rw [decide_eq_false (by simp [hxy])]
    exact iteF (q H1 J)
  · rw [if_neg hxy] at q
    rw [decide_eq_true hxy]
    refine iteT ?_
    obtain ⟨row, hr, hl, e1⟩ := sq.at hx
    show wXS X (st74s 0) _ σ H1
    rw [e74_s0]
    refine mi_storeQ (k := 4) (ix := 2) (iy := 3) (i := x) (j := y) (row := row) (t := 1 - mAt M x y) gs J (stP (st74s 0)) (by rw [hN, n74_0.1]; rfl) (by rw [hN, n74_0.2.1]; rfl) (by rw [hN, n74_0.2.2]; rfl) (by rw [n74_0.1]; decide +kernel) (by rw [n74_0.2.1]; decide +kernel) (by rw [n74_0.2.2]; decide +kernel) (by rw [n74_0.1]; decide) (by rw [n74_0.2.1]; decide) (by rw [n74_0.2.2]; decide) (J.look h2) (J.look h3) hr (by rw [hl]; exact hy) nc74.2.2.1
      (J.evR gs m hlen irS0_ok (by
        have := ev_R74 (Φ := Φ) sq hx hy (k4 (matD M)) (k2 _) (k3 _)
        simp only [ev, Option.bind_some]
        rw [this]; rfl)) fun H2 J2 => ?_
    rw [← e1] at J2
    have sq2 : sqM (mset M x y (1 - mAt M x y)) n := sq.set
    obtain ⟨row2, hr2, hl2, e2⟩ := sq2.at hy
    show wXS X (st74s 1) _ σ H2
    rw [e74_s1]
    refine mi_storeQ (k := 4) (ix := 3) (iy := 2) (i := y) (j := x) (row := row2) (t := 1 - mAt M x y) gs J2 (stP (st74s 1)) (by rw [hN, n74_1.1]; rfl) (by rw [hN, n74_1.2.1]; rfl) (by rw [hN, n74_1.2.2]; rfl) (by rw [n74_1.1]; decide +kernel) (by rw [n74_1.2.1]; decide +kernel) (by rw [n74_1.2.2]; decide +kernel) (by rw [n74_1.1]; decide) (by rw [n74_1.2.1]; decide) (by rw [n74_1.2.2]; decide) (J2.look h3) (J2.look h2) hr2 (by rw [hl2]; exact hx) nc74.2.2.2
      (J2.evR gs m hlen irS1_ok (by
        have := ev_R74 (Φ := Φ) sq2 hx hy (k4 (matD (mset M x y (1 - mAt M x y)))) (k2 _) (k3 _)
        rw [mset_at sq hx hy] at this
        exact this)) fun H3 J3 => ?_
    rw [← e2] at J3
    exact q _ J3
/-- one turn -/
theorem ln_turn (gs : GS g (defScope (topS 74)) X) (m : Mok (ccOf (topS 74)) g Φ) (kk : Wok wfT g.ws g Ψ) (hws : g.ws = 0) (I : MI g H0 B0 a 4 S W M σ H pr rs) (sq : sqM M n) (hlen : S.sh.length = 6) {j : Nat} {s' : LoSt} (he : lnTurn Φ Ψ n j (S, W, M) = some s')
    (q : ∀ σ' H', MI g H0 B0 a 4 s'.1 s'.2.1 s'.2.2 σ' H' pr rs → sqM s'.2.2 n → s'.1.sh.length = 6 → D.nx σ' H') : tSeq (wXS X (st74 0)) (tSeq (wXS X (st74 1)) (wXS X (st74 2))) D (σ.set 5 (some (.int (j : Int)))) H := by
  have hN : g.N = N74 := m.N.trans (by decide +kernel)
  unfold lnTurn at he
  obtain ⟨⟨d1, W1⟩, h1, he⟩ := obind he
  cases d1 with
  | int x =>
    obtain ⟨⟨d2, W2⟩, h2, he⟩ := obind he
    cases d2 with
    | int y =>
      have he' : (if 0 ≤ x ∧ x < n ∧ 0 ≤ y ∧ y < n then some (((S.put 5 (.int (j : Int))).put 2 (.int x)).put 3 (.int y), W2, if x = y then M else mset (mset M x.toNat y.toNat (1 - mAt M x.toNat y.toNat)) y.toNat x.toNat (1 - mAt M x.toNat y.toNat)) else none) = some s' := he
      split at he'
      · rename_i hb
        cases he'
        obtain ⟨b1, b2, b3, b4⟩ := hb
        obtain ⟨x, rfl⟩ : ∃ k : Nat, x = (k : Int) := ⟨x.toNat, by omega⟩
        obtain ⟨y, rfl⟩ : ∃ k : Nat, y = (k : Int) := ⟨y.toNat, by omega⟩
        rw [Int.toNat_natCast, Int.toNat_natCast] at q
        have J0 := I.put (i := 5) (d := .int (j : Int)) (by decide) (by rw [hws]; decide) rfl (v := .int (j : Int)) (Hx := H) (.int _)
        show wXS X (st74 0) _ _ H
        rw [e74_x]
        refine mi_set (i := 2) (n := "_law_x") (k := 4) gs m kk (by rw [hws]; exact irX74_ok) J0 (by rw [hN]; rfl) (by decide +kernel) (fun env => noComp.sw nc74.1 _ _ env) (by decide) (by rw [hws]; decide) h1 rfl fun v H1 J1 => ?_
        show wXS X (st74 1) _ _ H1
        rw [e74_y]
        refine mi_set (i := 3) (n := "_law_y") (k := 4) gs m kk (by rw [hws]; exact irY74_ok) J1 (by rw [hN]; rfl) (by decide +kernel) (fun env => noComp.sw nc74.2.1 _ _ env) (by decide) (by rw [hws]; decide) h2 rfl fun v2 H2 J2 => ?_
        have hl3 : (((S.put 5 (.int (j : Int))).put 2 (.int (x : Int))).put 3 (.int (y : Int))).sh.length = 6 := by rw [shlen, shlen, shlen]; exact hlen
        refine ln_if gs m J2 sq hl3 (by omega) (by omega) ((shput (by decide)).trans (shget (by rw [shlen, hlen]; decide))) (shget (by rw [shlen, shlen, hlen]; decide)) fun H3 J3 => ?_
        refine q _ H3 J3 ?_ hl3
        split
        · exact sq
        · exact sq.set.set
      · cases he'
    | _ => cases he
  | _ => cases he
end
end SN
end
section
set_option Elab.async false
set_option linter.all false
set_option maxRecDepth 100000
set_option maxHeartbeats 2000000
/-! S43: _law_line, the whole. -/
namespace SN
open PySem L2 LamX NdefX PyProof.Rows
section
variable {g : Gs} {Φ : Fns} {Ψ : Wns} {f : Addr} {fd : FuncData}
theorem row74 {sz i : Nat} (hsz : sz ≤ 1000) : ev Φ irE74 [none, some (.int (sz : Int)), some (.int (i : Int)), none, none, none] [none, some (.int (sz : Int)), some (.int (i : Int)), none, none, none] = some (.list (((List.range sz).map fun (y : Nat) => if (i : Int) - (y : Int) = 1 ∨ (i : Int) - (y : Int) = -1 then (1 : Int) else 0).map .int)) := by
  unfold irE74
  rw [ev_lc (f := fun d => match d with
    | .int y => .int (if (i : Int) - y = 1 ∨ (i : Int) - y = -1 then 1 else 0)
    | _ => .none) (ev_rng1 (n := sz) rfl (by omega)) (fun d hd => ?_) (by rw [List.length_map, List.length_range]; unfold big; omega)]
  · rw [List.map_map, List.map_map]
    rfl
  · obtain ⟨y, hy, rfl⟩ := List.mem_map.mp hd
    have e : ((wipeR [none, some (PySem.PyData.int (sz : Int)), some (.int (i : Int)), none, none, none] [3]).set 3 (some (.int (y : Int))) : Rho) = [none, some (.int (sz : Int)), some (.int (i : Int)), some (.int (y : Int)), none, none] := rfl
    rw [e]
    have hin : pyIn (PySem.PyData.int ((i : Int) - (y : Int))) (.list [.int 1, .int (-1)]) = some (decide ((i : Int) - (y : Int) = 1 ∨ (i : Int) - (y : Int) = -1)) := by
      show (some (inV (V.int ((i : Int) - (y : Int))) [V.int 1, V.int (-1)]) : Option Bool) = _
      congr 1
      rw [Bool.eq_iff_iff]
      simp only [inV, List.any_cons, List.any_nil, Bool.or_false, Bool.or_eq_true, decide_eq_true_eq, eqV]
      simp
      omega
    by_cases h : (i : Int) - (y : Int) = 1 ∨ (i : Int) - (y : Int) = -1
    · simp [ev, evs, getR, pyBin, pyCmp, hin, asBool, Bi.sc, pyFn, scal, h]
    · simp [ev, evs, getR, pyBin, pyCmp, hin, asBool, Bi.sc, pyFn, scal, h]
theorem line_ok (F : FunD g.K "_law_line" "_law_line" (defArgs (topS 74)) (defBody (topS 74)) (defScope (topS 74)) [] [] f fd) (m : ∀ a, Mok (ccOf (topS 74)) { g with wl := some a } Φ) (kk : ∀ a, Wok wfT 0 { g with wl := some a } Ψ) (hws : g.ws = 0) : FnG g.P g.w g.K g.mg g.base (g.k + 1) f fd ["_law_well_here", "_law_size"] (spW g.T (lineS Φ Ψ) 1) := by
  have hN : g.N = N74 := (m 0).N.trans (by decide +kernel)
  have S : FnScope g.N ["_law_well_here", "_law_size"] (defScope (topS 74)) := by
    rw [hN]
    exact ⟨rfl, rfl, rfl, by decide +kernel, rfl, by decide +kernel, by decide +kernel⟩
  refine fnG_ofC F S (fun vs H Q q => ?_) fun A out s H vs Q rm gd q => ?_
  · obtain ⟨a, us, rfl, h, _⟩ := q
    rw [List.length_cons, h]; rfl
  obtain ⟨a, us, rfl, hl, B, ds, W, d, W2, hs, ht, ha, hB, hd, q⟩ := q
  have gs : GS { g with wl := some a } (defScope (topS 74)) (cxOf CX0 g.P g.w g.K g.mg g.base g.N "_law_line" (defScope (topS 74)) f fd.code A out s H E0).nox := gs_def (g := { g with wl := some a }) S rm gd
  have m := m a
  have kk := kk a
  have hwl : ({ g with wl := some a } : Gs).wl = some a := rfl
  have hws' : ({ g with wl := some a } : Gs).ws = 0 := hws
  have hN' : ({ g with wl := some a } : Gs).N = N74 := hN
  have I0 := si_startW (g := { g with wl := some a }) hwl hws' (by rw [hl, hN']; decide) ht ha hB hd
  have hN8 : ({ g with wl := some a } : Gs).N.length = 6 := by rw [hN']; rfl
  rw [hN8] at I0
  have hNX : (cxOf CX0 g.P g.w g.K g.mg g.base g.N "_law_line" (defScope (topS 74)) f fd.code A out s H E0).nox.N = N74 := by rw [gs.N, hN']
  have hq : ∀ v H', Ex (some a) H H' → Tabs ({ g with wl := some a } : Gs).T H' → H' a = some (.lst (W2.map .int)) → Da (rs (al B H) H') v d → Q v H' := q
  have es : L2.start ({ g with wl := some a } : Gs).N (.ref a :: us) = L2.start g.N (.ref a :: us) := rfl
  rw [es] at I0
  generalize hX : (cxOf CX0 g.P g.w g.K g.mg g.base g.N "_law_line" (defScope (topS 74)) f fd.code A out s H E0).nox = X at gs hNX
  generalize ({ g with wl := some a } : Gs) = g' at *
  have v4 : Vis X.env.scope "_law_rows" := by rw [gs.sc]; exact vis_of (by decide +kernel)
  have p4 : ∀ {pos : Pos}, PE X (.Name "_law_rows" pos) (tVar 4) := fun {pos} => pe_var (i := 4) (by rw [hNX]; rfl) v4
  refine ⟨_, pss_cons (wXS.ps (st := stAt 74 0)) (pss_cons (wXS.ps (st := stAt 74 1)) (pss_one (ps_ret p4))), ?_⟩
  have hds : ∃ n k W1 fin, ds = [.int n] ∧ (0 ≤ n ∧ n ≤ 1000) ∧ (0 ≤ k ∧ k ≤ 1000) ∧ evX Φ Ψ irK74 (st0 6 [none, some (.int n)]).sh (st0 6 [none, some (.int n)]).all W = some (.int k, W1) ∧ lnGo Φ Ψ n.toNat (List.range k.toNat) (st0 6 [none, some (.int n)], W1, lnM n.toNat) = some fin ∧ d = matD fin.2.2 ∧ W2 = fin.2.1 := by
    unfold lineS at hs
    split at hs
    · split at hs
      · obtain ⟨⟨dk, W1⟩, h1, h2⟩ := obind hs
        cases dk with
        | int k =>
          have h2' : (if 0 ≤ k ∧ k ≤ 1000 then (lnGo Φ Ψ (Int.toNat _) (List.range k.toNat) (st0 6 [none, some (.int _)], W1, lnM (Int.toNat _))).map fun s => (matD s.2.2, s.2.1) else none) = some (d, W2) := h2
          split at h2'
          · obtain ⟨r, h3, h4⟩ := omap h2'
            cases h4
            exact ⟨_, k, W1, r, rfl, by assumption, by assumption, h1, h3, rfl, rfl⟩
          · cases h2'
        | _ => cases h2
      · cases hs
    · cases hs
  obtain ⟨n, k, W1, fin, rfl, hn, hk, hev, hgo, rfl, rfl⟩ := hds
  obtain ⟨sz, rfl⟩ : ∃ sz : Nat, n = (sz : Int) := ⟨n.toNat, by omega⟩
  obtain ⟨k, rfl⟩ : ∃ k' : Nat, k = (k' : Int) := ⟨k.toNat, by omega⟩
  rw [Int.toNat_natCast, Int.toNat_natCast] at hgo
  have hsz : sz ≤ 1000 := by omega
  have fl0 : flatS (st0 6 [none, some (.int (sz : Int))]) = true := rfl
  have I1 := I0.flat (S := st0 6 [none, some (.int (sz : Int))]) fl0 I0.hs I0.ex
  show wXS X (stAt 74 0) _ _ H
  rw [e74_c]
  have sw := swB.yes gs.sc gs.code c74_w (lcP (stAt 74 0)).spos.line
  have hls : (L2.start g.N (V.ref a :: us)).length = 6 := by rw [I1.ls]; rfl
  refine mi_lc (k := 4) (isz := 1) (it := 2) (sz := sz) (f := fun (x : Nat) => (List.range sz).map fun (y : Nat) => if (x : Int) - (y : Int) = 1 ∨ (x : Int) - (y : Int) = -1 then (1 : Int) else 0) gs m I1 fl0 hwl (by rw [hN', c74_n]; rfl) (by rw [c74_n]; decide +kernel) rfl (by rw [hws']; decide) (by rw [hls]; decide) (by decide +kernel) m.rng (by rw [hN', c74_s]; rfl) (by rw [c74_s]; decide +kernel) (by rw [c74_s]; decide) rfl hsz (by rw [hN']; exact c74_b) c74_k (by rw [hN']; exact c74_t) (by rw [hN']; exact c74_o) c74_e rfl sw.2 (fun i hi => ?_) (fun pr rs H1 J => ?_)
  · have e : (((wipeR (st0 6 [none, some (PySem.PyData.int (sz : Int))]).sh [2]).set 2 (some (.int (i : Int)))) : Rho) = [none, some (.int (sz : Int)), some (.int (i : Int)), none, none, none] := rfl
    rw [e]
    exact row74 hsz
  · show wXS X (stAt 74 1) _ _ H1
    rw [e74_f]
    have sq0 : sqM (lnM sz) sz := ⟨by simp [lnM], fun r hr => by
      obtain ⟨_, _, rfl⟩ := List.mem_map.mp hr
      simp⟩
    refine for_rng (j := 5) (n := k) (tb := tSeq (wXS X (st74 0)) (tSeq (wXS X (st74 1)) (wXS X (st74 2)))) gs (by rw [hN', x74_f]; rfl) (by rw [x74_f]; decide +kernel) (by decide +kernel) m.rng (wA.pe gs.toGX) pl74 (by rw [b74_f]; exact pss_cons wXS.ps (pss_cons wXS.ps (pss_one wXS.ps))) (by omega)
      (fun i σ' H' => ∃ S W M pr rs, MI g' H B a 4 S W M σ' H' pr rs ∧ sqM M sz ∧ S.sh.length = 6 ∧ lnGo Φ Ψ sz ((List.range k).drop i) (S, W, M) = some fin)
      (fun Q hQ => ?_) (fun j σ2 H2 hj ⟨S2, W2, M2, pr2, rs2, J2, sq2, hl2, go2⟩ => ?_) (fun σ2 H2 ⟨S2, W2, M2, pr2, rs2, J2, sq2, hl2, go2⟩ => ?_)
    · refine (allX m kk 60).E _ _ _ irK74_ok _ _ _ (nw g'.wl H1) _ _ _ _ J.offN J.si.sl J.si.slA J.si.wv hev H1 nw_ex J.si.hs Q fun v H2 f t dv => ?_
      rw [dv.int_inv]
      exact hQ H2 ⟨_, _, _, pr, rs, J.step f t, sq0, rfl, by rw [List.drop_zero]; exact hgo⟩
    · have hj' : j < (List.range k).length := by rw [List.length_range]; exact hj
      rw [List.drop_eq_getElem_cons hj', List.getElem_range] at go2
      unfold lnGo at go2
      obtain ⟨s', h1, h2⟩ := obind go2
      exact ln_turn gs m (by rw [hws']; exact kk) hws' J2 sq2 hl2 h1 fun σ' H' J' sq' hl' => ⟨_, _, _, pr2, rs2, J', sq', hl', h2⟩
    · rw [List.drop_of_length_le (by rw [List.length_range]; exact Nat.le_refl _)] at go2
      cases go2
      obtain ⟨r1, r2, r3, r4⟩ := J2.ret
      exact ⟨_, J2.sl, hq _ H2 r1 r2 r3 r4⟩
end
end SN
end
section
set_option Elab.async false
set_option linter.all false
set_option maxRecDepth 100000
set_option maxHeartbeats 2000000
/-! S44: law: its pieces. -/
namespace SN
open PySem L2 LamX NdefX PyProof.Rows
/-- the script: a list of ints that stays as it is -/
def ScrAt (K : PySem.W.Frag) (H : Hp) (a : Addr) (ns : List Int) : Prop := ∃ (its : List Value) (n : Nat), Vals (ns.map .int) its ∧ ns.length ≤ 1000 ∧
  (H a = some (.frz { cls := .type "list", data := .seq its.toArray n } (.lst (ns.map .int))) ∨ K.lookup a = some { cls := .type "list", data := .seq its.toArray n })
theorem ScrAt.ex {K : PySem.W.Frag} {H H' : Hp} {a : Addr} {ns : List Int} (h : ScrAt K H a ns) (e : Ex none H H') : ScrAt K H' a ns := by
  obtain ⟨its, n, h1, h2, h3⟩ := h
  exact ⟨its, n, h1, h2, h3.imp (fun z => e.at z rfl (by simp)) id⟩
theorem op_catScr {X : Cx} : OpR X (binaryOp .Add) (fun x y H Q => ∃ l b ns zs, x = V.ref l ∧ y = V.ref b ∧ ScrAt X.K H l ns ∧ H b = some (.lst zs) ∧ zs.length ≤ 1000 ∧ ∀ p, H p = none → Q (V.ref p) (upd H p (.lst (ns.map V.int ++ zs)))) := by
  intro pins s σ H x y v u Q I rx ry h
  obtain ⟨l, b, ns, zs, rfl, rfl, hS, hB, hz, q⟩ := h
  cases rx
  cases ry
  obtain ⟨its, n, rv, hn, hS⟩ := hS
  have e : s.heap.get? l = some { cls := .type "list", data := .seq its.toArray n } := by
    rcases hS with h | h
    · exact (I.hok _ _ h).1
    · exact I.kIn _ _ h
  obtain ⟨z2, its2, n2, r2, hl2, e2⟩ := I.lstM hB
  have hil := rv.length
  rw [List.length_map] at hil
  refine PySem.P.add_list e e2 ?_ (by rw [List.size_toArray, List.size_toArray, sizeLine_eq]; omega)
  have ea : its.toArray ++ its2.toArray = (its ++ its2).toArray := by simp
  rw [ea]
  exact ⟨.ref _, _, I.lnew (t' := s.toks) (rv.append r2) (by rw [List.length_append, List.length_map, sizeLine_eq]; omega), rfl, q _ I.fresh⟩
def N84 : List Str := ["_law_script", "_law_cell", "_law_well_here", "_law_web_here", "_law_rows", "_law_root", "_law_one", "_law_other"]
def st84 (j : Nat) : Stmt := (foS (stAt 84 0)).2.2.1.getD j (.Pass noP)
def ir84 : List SR := [.set 3 [] (.wfn "_law_web" []), .set 4 [] (.pure (.fn "nodes" [.var 3])), .set 5 [] (.pure (.ix (.var 4) (.neg (.lit (.int 1))))), .ite (.tOr (.tNot (.tVal (.isa .tuple (.var 5)))) (.tOr (.tCmp .NotEq (.bi1 .len (.var 5)) (.lit (.int 3))) (.tCmp .NotEq (.ix (.var 5) (.lit (.int 0))) (.trng (.bi1 .len (.var 3)))))) [.ret [] (.pure (.lit (.bool false)))] [], .ite (.tNot (.tVal (.fn "_law_root_right" [.var 3, .var 5]))) [.ret [] (.pure (.lit (.bool false)))] []]
def ir84p : List SR := [.ite (.tCmp .Eq (.ix (.ix (.var 3) (.var 6)) (.var 7)) (.lit (.int 1))) [.ite (.tCmp .NotEq (.fn "distance" [.var 3, .var 7, .var 6]) (.lit (.int 1))) [.ret [] (.pure (.lit (.bool false)))] []] [.ite (.tNot (.tVal (.fn "_law_same" [.fn "distance" [.var 3, .var 6, .var 7], .fn "_law_told_distance" [.var 3, .var 4, .var 6, .var 7]]))) [.ret [] (.pure (.lit (.bool false)))] []]]
def ir84i : XW := .wfn "_law_pairs" [.pure (.bi1 .len (.var 3))]
theorem ir84_ok : cSs (ccOf (topS 84)) wfT 2 [] 60 (defScope (topS 84)) [st84 1, st84 2, st84 3, st84 4, st84 5] = some ir84 := by kernel_rfl
theorem ir84p_ok : cSs (ccOf (topS 84)) wfT 2 [] 60 (defScope (topS 84)) (foS (st84 6)).2.2.1 = some ir84p := by kernel_rfl
theorem ir84i_ok : cX (ccOf (topS 84)) wfT 2 60 (defScope (topS 84)) (foS (st84 6)).2.1 = some ir84i := by kernel_rfl
/-- one cell's turn -/
def lawTurn (Φ : Fns) (Ψ : Wns) (fu : Nat) (cell : Int) : Option Out := (Φ "_law_well").bind fun f => (f [.int cell, .int 260]).bind fun d => match d with
  | .list es => (asInts es).bind fun W => (execs Φ Ψ 2 fu ir84 (st0 8 [none, some (.int cell)]) W).bind fun o => o.thn fun S1 W1 => (evX Φ Ψ ir84i S1.sh S1.all W1).bind fun r => match r.1 with
    | .list items => loopF (fun d S W => (S.putT 2 (.two 6 7) d).bind fun S' => execs Φ Ψ 2 fu ir84p S' W) items S1 r.2
    | _ => none
  | _ => none
/-- what the law is asked -/
def spLaw (T : List (Addr × Str)) (K : PySem.W.Frag) (ok : Int → Prop) : Sp := fun vs H Q _ => ∃ a ns, vs = [.ref a] ∧ ScrAt K H a ns ∧ Tabs T H ∧ (∀ c ∈ (ns ++ [0]).take 3, ok c) ∧ ∀ H', Q (.bl true) H'
end SN
end
section
set_option Elab.async false
set_option linter.all false
set_option maxRecDepth 100000
set_option maxHeartbeats 2000000
/-! S45: law: rows of statements in one context; one cell's turn. -/
namespace SN
open PySem L2 LamX NdefX PyProof.Rows
def tLX (X : Cx) : List Stmt → TS → TS
  | [], u => u
  | s :: L, u => tSeq (wXS X s) (tLX X L u)
theorem pss_tLX {X : Cx} {rest : List Stmt} {u : TS} (h : PSs X rest u) : ∀ L : List Stmt, PSs X (L ++ rest) (tLX X L u)
  | [] => h
  | s :: L => pss_cons wXS.ps (pss_tLX h L)
section
variable {g : Gs} {Φ : Fns} {Ψ : Wns} {c : Cc} {wf : List (Str × Nat)} {mu : List Nat} {sc : Scope} {X : Cx} {fu : Nat} {H0 : Hp} {B0 : Addr → Bool} {u : TS} {D : Ends}
theorem wXS.w {st : Stmt} {σ : L2.St} {H : Hp} (gs : GS g sc X) (h : wS g sc st D σ H) : wXS X st D σ H := fun pins s I => h X gs pins s I
theorem tLX_run (gs : GS g sc X) (m : Mok c g Φ) (kk : Wok wf g.ws g Ψ) : ∀ (L : List Stmt) (n : Nat) (srs : List SR) (B : Addr → Bool) (S : PSt) (W : WT) (σ : L2.St) (H : Hp) (S' : PSt) (W' : WT), cSs c wf g.ws mu n sc L = some srs → SI g H0 B0 B S W σ H → execs Φ Ψ g.ws fu srs S W = some (.nx S' W') →
    (∀ B' σ' H', SI g H0 B0 B' S' W' σ' H' → u D σ' H') → tLX X L u D σ H
  | [], n, srs, B, S, W, σ, H, S', W', hc, I, hx, q => by
    cases n with
    | zero => simp [cSs] at hc
    | succ n =>
      unfold cSs at hc
      cases hc
      unfold execs at hx
      cases hx
      exact q B σ H I
  | s :: L, n, srs, B, S, W, σ, H, S', W', hc, I, hx, q => by
    cases n with
    | zero => simp [cSs] at hc
    | succ n =>
      unfold cSs at hc
      obtain ⟨sr, h1, hc⟩ := obind hc
      obtain ⟨srs', h2, rfl⟩ := omap hc
      unfold execs at hx
      obtain ⟨o, h3, h4⟩ := obind hx
      refine wXS.w gs ((allSt m kk n).E _ _ _ h1 H0 B0 B S W σ H _ o I h3 ?_)
      cases o with
      | rt d W1 => cases h4
      | nx S1 W1 => exact fun B' σ' H' J _ => tLX_run gs m kk L n srs' B' S1 W1 σ' H' S' W' h2 J h4 q
end
end SN
end
section
set_option Elab.async false
set_option linter.all false
set_option maxRecDepth 100000
set_option maxHeartbeats 2000000
/-! S46: law: one cell's turn. -/
namespace SN
open PySem L2 LamX NdefX PyProof.Rows
theorem e84_0 : st84 0 = .Assign [.Name "_law_well_here" (asP (st84 0)).2.1] (asgE (st84 0)) (asP (st84 0)).2.2 := by kernel_rfl
theorem c84_0 : cE (ccOf (topS 84)) 60 (defScope (topS 84)) (asgE (st84 0)) = some (.fn "_law_well" [.var 1, .lit (.int 260)]) := by kernel_rfl
theorem n84_0 : noComp (asgE (st84 0)) = true := by kernel_rfl
theorem e84_6 : st84 6 = .For (foS (st84 6)).1 (foS (st84 6)).2.1 (foS (st84 6)).2.2.1 [] (foS (st84 6)).2.2.2 := by kernel_rfl
theorem t84_6 : isTg N84 (defScope (topS 84)) (foS (st84 6)).1 (.two 6 7) = true := by decide +kernel
theorem p84_6 : plainE (foS (st84 6)).2.1 = true := by kernel_rfl
def b84 : List Stmt := [st84 0, st84 1, st84 2, st84 3, st84 4, st84 5, st84 6]
theorem b84_eq : (foS (stAt 84 0)).2.2.1 = b84 := by kernel_rfl
section
variable {g : Gs} {Φ : Fns} {Ψ : Wns} {X : Cx} {fu : Nat} {D : Ends} {σ : L2.St} {H : Hp} {cell : Int}
theorem law_turn (gs0 : GS g (defScope (topS 84)) X) (gs : ∀ p, GS { g with wl := some p, ws := 2 } (defScope (topS 84)) X) (hw : g.wl = none) (m0 : Mok (ccOf (topS 84)) g Φ) (m : ∀ p, Mok (ccOf (topS 84)) { g with wl := some p, ws := 2 } Φ) (kk : ∀ p, Wok wfT 2 { g with wl := some p, ws := 2 } Ψ)
    (ht : Tabs g.T H) (hl : σ.length = 8) (h1 : σ[1]? = some (some (.int cell))) {S2 : PSt} {W2 : WT} (hx : lawTurn Φ Ψ fu cell = some (.nx S2 W2)) (hl2 : S2.sh.length = 8)
    (q : ∀ σ' H', Ex none H H' → Tabs g.T H' → σ'.length = 8 → D.nx σ' H') : tLX X b84 tNext D σ H := by
  have hN : g.N = N84 := m0.N.trans (by decide +kernel)
  unfold lawTurn at hx
  obtain ⟨f, hf, hx⟩ := obind hx
  obtain ⟨d, hd, hx⟩ := obind hx
  cases d with
  | list es =>
    obtain ⟨W, hW, hx⟩ := obind hx
    obtain ⟨o, ho, hx⟩ := obind hx
    cases o with
    | rt d W => cases hx
    | nx S1 W1 =>
      obtain ⟨⟨di, W3⟩, hi, hx⟩ := obind hx
      cases di with
      | list items =>
        show wXS X (st84 0) _ σ H
        rw [e84_0]
        have hsl : ∀ {B : Addr → Bool} {Ha : Hp}, Sl B Ha [none, some (.int cell), none, none, none, none, none, none] σ := fun {B Ha} => ⟨hl, fun i d h => by
          match i with
          | 0 => cases h
          | 1 => cases h; exact ⟨_, h1, .int _⟩
          | 2 => cases h
          | 3 => cases h
          | 4 => cases h
          | 5 => cases h
          | 6 => cases h
          | 7 => cases h
          | i + 8 => simp [getR] at h⟩
        have hs0 : Hs g.T g.wl [] H := ⟨ht, fun a z => by rw [hw] at z; cases z⟩
        have off : Off g.wl (fun _ => false) H := fun a z => by rw [hw] at z; cases z
        refine wXS.of (ps_set (i := 2) gs0.nd (by rw [gs0.N, hN]; rfl) (by rw [gs0.sc]; exact loc_of (by decide +kernel)) (wA.pe gs0.toGX) (noComp.sw n84_0 _ _ _) (.inl (gs0.fn _))) ?_
        refine (all_sound m0 60).E _ _ _ c84_0 σ _ _ H (fun _ => false) (.list es) [] off hsl hsl (by
          show (Φ "_law_well").bind (fun f => (evs Φ [.var 1, .lit (.int 260)] _ _).bind f) = _
          rw [hf]
          exact hd) H (Ex.refl H) hs0 _ fun v H1 f1 t1 dv => ?_
        rw [hw] at f1
        obtain ⟨p, xs, rfl, hp, dx⟩ := dv.list_inv
        rw [asInts_eq hW] at dx
        rw [dx.ints] at hp
        obtain ⟨hp1, hp2⟩ := rs_at hp
        have hpn : nt (H p) = true := by
          unfold al at hp2
          rwa [Bool.false_or] at hp2
        have I : SI { g with wl := some p, ws := 2 } H1 (fun _ => false) (fun _ => false) (st0 8 [none, some (.int cell)]) W (σ.set 2 (some (.ref p))) H1 := by
          refine ⟨by rw [List.length_set]; exact hl, rfl, ⟨t1.tabs, fun a z => by cases z; exact hp1⟩, Ex.refl H1, fun a h _ => (by cases h), fun a _ => rfl, fun a z => by cases z; exact List.getElem?_set_self (by rw [hl]; decide), fun i d h => ?_, fun i d h => ?_⟩
          · match i with
            | 0 => cases h
            | 1 =>
              cases h
              exact ⟨_, by rw [List.getElem?_set_ne (by decide)]; exact h1, .int _⟩
            | 2 => cases h
            | 3 => cases h
            | 4 => cases h
            | 5 => cases h
            | 6 => cases h
            | 7 => cases h
            | i + 8 => simp [st0, getR] at h
          · rw [show getR (st0 8 [none, some (.int cell)]).ow i = none from getR_rep _ _] at h
            cases h
        show tLX X [st84 1, st84 2, st84 3, st84 4, st84 5] (tLX X [st84 6] tNext) D (σ.set 2 (some (.ref p))) H1
        refine tLX_run (g := { g with wl := some p, ws := 2 }) (mu := []) (gs p) (m p) (kk p) _ 60 ir84 _ _ W _ H1 S1 W1 ir84_ok I ho fun B' σ3 H3 J => ?_
        show wXS X (st84 6) D σ3 H3
        rw [e84_6]
        refine wXS.w (gs p) (so_loop (t := .two 6 7) (y := ir84p) (items := items) (W1 := W3) (by rw [show ({ g with wl := some p, ws := 2 } : Gs).N = N84 from hN]; exact t84_6) p84_6 ((allSt (mu := []) (fu := fu) (m p) (kk p) 60).S _ _ _ ir84p_ok) J (itd_list ((allX (m p) (kk p) 60).E _ _ _ ir84i_ok σ3 _ _ (nw (some p) H3) _ (.list items) W1 W3 J.offA J.sl J.slA J.wv hi)) hx ?_)
        exact fun B4 σ4 H4 J4 _ => q σ4 H4 (fun a n _ => by
          have hap : a ≠ p := fun z => by rw [z, hpn] at n; cases n
          have e1 := f1 a n (by simp)
          rw [J4.ex a (by rw [e1]; exact n) (fun z => hap (Option.some.inj z).symm), e1]) J4.hs.tabs (by rw [J4.ls, hl2])
      | _ => cases hx
  | _ => cases hx
end
end SN
end
section
set_option Elab.async false
set_option linter.all false
set_option maxRecDepth 100000
set_option maxHeartbeats 2000000
/-! S47: law keeps its promise. -/
namespace SN
open PySem L2 LamX NdefX PyProof.Rows
def it84 : Expr := (foS (stAt 84 0)).2.1
def slP : Expr → Expr × Option Expr × Pos × Pos
  | .Subscript a (.Slice _ hi _ q) p => (a, hi, q, p)
  | e => (e, none, noP, noP)
def biP : Expr → Expr × Expr × Pos
  | .BinOp a _ b p => (a, b, p)
  | e => (e, e, noP)
def liP : Expr → Pos × Pos
  | .List [.Constant _ _ q] p => (q, p)
  | _ => (noP, noP)
def ca84 : Expr := (slP it84).1
theorem e84_f : stAt 84 0 = .For (.Name "_law_cell" (namE (foS (stAt 84 0)).1).2) it84 b84 [] (foS (stAt 84 0)).2.2.2 := by kernel_rfl
theorem e84_i : it84 = .Subscript ca84 (.Slice none (slP it84).2.1 none (slP it84).2.2.1) (slP it84).2.2.2 := by kernel_rfl
theorem h84_i : partB (slP it84).2.1 = some (some 3) := by kernel_rfl
theorem e84_c : ca84 = .BinOp (.Name "_law_script" (pE (biP ca84).1)) .Add (.List [.Constant (.int 0) 0 (liP (biP ca84).2.1).1] (liP (biP ca84).2.1).2) (biP ca84).2.2 := by kernel_rfl
theorem p84_i : plainE it84 = true := by kernel_rfl
def lawOk (Φ : Fns) (Ψ : Wns) (fu : Nat) (cell : Int) : Prop := ∃ S2 W2, lawTurn Φ Ψ fu cell = some (.nx S2 W2) ∧ S2.sh.length = 8
theorem cut3 (ds : List PD) : cutD ds none (some 3) = ds.take 3 := by
  unfold cutD
  rw [HT.sIx_none, show (some (3 : Int)) = some ((3 : Nat) : Int) from rfl, HT.sIx_nat, List.drop_zero, Nat.sub_zero]
  by_cases h : 3 ≤ ds.length
  · rw [Nat.min_eq_left h]
  · rw [Nat.min_eq_right (by omega), List.take_length, List.take_of_length_le (by omega)]
section
variable {g : Gs} {Φ : Fns} {Ψ : Wns} {fu : Nat} {f : Addr} {fd : FuncData}
theorem law_ok (F : FunD g.K "law" "law" (defArgs (topS 84)) (defBody (topS 84)) (defScope (topS 84)) [] [] f fd) (hw : g.wl = none) (m0 : Mok (ccOf (topS 84)) g Φ) (m : ∀ p, Mok (ccOf (topS 84)) { g with wl := some p, ws := 2 } Φ) (kk : ∀ p, Wok wfT 2 { g with wl := some p, ws := 2 } Ψ) :
    FnG g.P g.w g.K g.mg g.base (g.k + 1) f fd ["_law_script"] (spLaw g.T g.K (lawOk Φ Ψ fu)) := by
  have hN : g.N = N84 := m0.N.trans (by decide +kernel)
  have S : FnScope g.N ["_law_script"] (defScope (topS 84)) := by
    rw [hN]
    exact ⟨rfl, rfl, rfl, by decide +kernel, rfl, by decide +kernel, by decide +kernel⟩
  refine fnG_ofC F S (fun vs H Q q => ?_) fun A out s H vs Q rm gd q => ?_
  · obtain ⟨a, ns, rfl, _⟩ := q
    rfl
  obtain ⟨a, ns, rfl, hS, ht, hok, q⟩ := q
  have gs0 := gs_def (g := g) (x := "law") (cv := fd.code) (out := out) (s := s) (H := H) (f := f) (S := S) rm gd
  have gs : ∀ p, GS { g with wl := some p, ws := 2 } (defScope (topS 84)) (cxOf CX0 g.P g.w g.K g.mg g.base g.N "law" (defScope (topS 84)) f fd.code A out s H E0).nox := fun p => gs_def (g := { g with wl := some p, ws := 2 }) S rm gd
  generalize hX : (cxOf CX0 g.P g.w g.K g.mg g.base g.N "law" (defScope (topS 84)) f fd.code A out s H E0).nox = X at gs0 gs
  have hs0 : ∀ {H : Hp}, Tabs g.T H → Hs g.T g.wl [] H := fun {H} t => ⟨t, fun a z => by rw [hw] at z; cases z⟩
  refine ⟨_, pss_cons (wXS.ps (st := stAt 84 0)) (pss_one (ps_ret pe_bl)), ?_⟩
  have hl : (L2.start g.N [V.ref a]).length = 8 := by rw [start_len (by rw [hN]; show 1 ≤ 8; decide), hN]; rfl
  have h0 : (L2.start g.N [V.ref a])[0]? = some (some (V.ref a)) := start_at rfl
  generalize L2.start g.N [V.ref a] = σ at hl h0
  show wXS X (stAt 84 0) _ σ H
  rw [e84_f]
  refine wXS.of (ps_for (never_of gs0.nv) gs0.calm (wI.pi (sc := defScope (topS 84)) gs0.toGX) (pg_name (i := 1) gs0.nd (by rw [gs0.N, hN]; rfl) (by rw [gs0.sc]; exact loc_of (by decide +kernel)) (.inl (gs0.fn _))) (by
    have := pss_tLX (X := X) pss_nil b84
    rw [List.append_nil] at this
    exact this) (fun x => plainE.fold p84_i _ x)) ?_
  have base : EvD g (defScope (topS 84)) σ H (fun _ => false) [] ca84 (.list ((ns ++ [0]).map .int)) [] := fun H1 e1 t1 Q1 q1 => wA.of fun X' gx => by
    rw [e84_c]
    have v0 : Vis X'.env.scope "_law_script" := by rw [gx.sc]; exact vis_of (by decide +kernel)
    refine ⟨_, pe_op op_catScr (pe_var (i := 0) (by rw [gx.N, hN]; rfl) v0) (pe_lst (pa_cons pe_int pa_nil)), .ref a, h0, by show 1 ≤ sizeLine; rw [sizeLine_eq]; decide, fun b hb => ⟨a, b, ns, [.int 0], rfl, rfl, ?_, upd_same, by decide, fun p hp => ?_⟩⟩
    · rw [gx.K]
      exact (hS.ex e1).ex (ex_new' hb)
    · have hpb : p ≠ b := fun z => by rw [z, upd_same] at hp; cases hp
      have hp0 : H1 p = none := by rw [upd_ne hpb] at hp; exact hp
      refine q1 _ _ (by rw [hw]; exact (ex_new' hb).trans (ex_new' hp)) (hs_new (hs_new t1 hb) hp) (.lst (xs := ns.map V.int ++ [V.int 0]) ?_ ?_)
      · unfold rs
        rw [if_pos (al_new (by rw [hp0]; rfl)), upd_same]
      · rw [show ns.map V.int ++ [V.int 0] = (ns ++ [0]).map V.int by simp]
        exact Das.of_ints _
  have hit : ItD g (defScope (topS 84)) σ H (fun _ => false) [] (.Name "_law_cell" (namE (foS (stAt 84 0)).1).2) it84 (((ns ++ [0]).take 3).map .int) [] := by
    refine itd_list ?_
    rw [e84_i]
    refine ed_sl rfl h84_i base ?_
    show some (PySem.PyData.list (cutD ((ns ++ [0]).map .int) none (some 3))) = _
    rw [cut3, List.map_take]
  refine hit H (Ex.refl H) (hs0 ht) _ fun J H2 f2 t2 ⟨G, Y, wk, hG, hY⟩ => ?_
  rw [hw] at f2
  refine for_it wk (fun i σ' H' => Ex none H2 H' ∧ Tabs g.T H' ∧ σ'.length = 8) ⟨Ex.refl H2, t2.tabs, hl⟩ (fun i σ' H' _ p => hG H' (rs_ex.trans p.1)) (fun i x σ' H' H3 hi ⟨ex, tb, ln⟩ yv => ?_) (fun σ' H' p => q H')
  obtain ⟨n, dx⟩ := hY i _ H' x H3 (List.getElem?_eq_getElem hi) (rs_ex.trans ex) yv
  have hi2 : i < ((ns ++ [0]).take 3).length := by rw [List.length_map] at hi; exact hi
  rw [List.getElem_map] at dx
  rw [dx.int_inv]
  obtain ⟨S2, W2, hx, hl2⟩ := hok _ (List.getElem_mem hi2)
  exact law_turn (fu := fu) gs0 gs hw m0 m kk (n.2 _ _ _ (hs0 tb)).tabs (by rw [List.length_set]; exact ln) (List.getElem?_set_self (by rw [ln]; decide)) hx hl2 fun σ4 H4 e4 t4 l4 => ⟨(ex.trans n.1).trans e4, t4, l4⟩
end
end SN
end
section
set_option Elab.async false
set_option linter.all false
set_option maxRecDepth 100000
set_option maxHeartbeats 4000000
/-! K1: rules by which the small language's terms and statements are computed. -/
namespace SN
open PySem L2 LamX NdefX PyProof.Rows
abbrev nD (x : Nat) : PD := .int (x : Int)
def natL (l : List Nat) : PD := .list (l.map nD)
def natT (l : List Nat) : PD := .tuple (l.map nD)
def call (Φ : Fns) (n : Str) (ds : List PD) : Option PD := (Φ n).bind fun f => f ds
def callW (Ψ : Wns) (n : Str) (ds : List PD) (W : WT) : Option (PD × WT) := (Ψ n).bind fun f => f ds W
section
variable {Φ : Fns} {ρ τ : Rho} {n : Str} {a b c e elt : IR} {x y z d : PD} {p q : Bool}
theorem e_v {i : Nat} (h : getR ρ i = some d) : ev Φ (.var i) ρ τ = some d := h
theorem e_l : ev Φ (.lit d) ρ τ = some d := rfl
theorem e_fn0 (h : call Φ n [] = some d) : ev Φ (.fn n []) ρ τ = some d := h
theorem e_fn1 (h1 : ev Φ a ρ τ = some x) (h : call Φ n [x] = some d) : ev Φ (.fn n [a]) ρ τ = some d := by
  unfold ev evs evs
  rw [h1]; exact h
theorem e_fn2 (h1 : ev Φ a ρ τ = some x) (h2 : ev Φ b ρ τ = some y) (h : call Φ n [x, y] = some d) : ev Φ (.fn n [a, b]) ρ τ = some d := by
  unfold ev evs evs evs
  rw [h1, h2]; exact h
theorem e_fn3 (h1 : ev Φ a ρ τ = some x) (h2 : ev Φ b ρ τ = some y) (h3 : ev Φ c ρ τ = some z) (h : call Φ n [x, y, z] = some d) : ev Φ (.fn n [a, b, c]) ρ τ = some d := by
  unfold ev evs evs evs evs
  rw [h1, h2, h3]; exact h
theorem e_fn4 {z' : PD} (h1 : ev Φ a ρ τ = some x) (h2 : ev Φ b ρ τ = some y) (h3 : ev Φ c ρ τ = some z) (h4 : ev Φ e ρ τ = some z') (h : call Φ n [x, y, z, z'] = some d) : ev Φ (.fn n [a, b, c, e]) ρ τ = some d := by
  unfold ev evs evs evs evs evs
  rw [h1, h2, h3, h4]; exact h
theorem e_bin {op : Operator} (h1 : ev Φ a ρ τ = some x) (h2 : ev Φ b ρ τ = some y) (h : pyBin op x y = some d) : ev Φ (.bin op a b) ρ τ = some d := by
  unfold ev
  rw [h1, h2]; exact h
theorem e_neg {i : Int} (h1 : ev Φ a ρ τ = some (.int i)) : ev Φ (.neg a) ρ τ = some (.int (-i)) := by
  unfold ev
  rw [h1]; rfl
theorem e_cmp {op : CmpOp} (h1 : ev Φ a τ τ = some x) (h2 : ev Φ b τ τ = some y) (h : pyCmp op x y = some (.bool p)) : ev Φ (.cmp op a b) ρ τ = some (.bool p) := by
  unfold ev
  rw [h1, h2, Option.bind_some, Option.bind_some, h]; rfl
theorem e_chain {op op' : CmpOp} (h1 : ev Φ a τ τ = some x) (h2 : ev Φ b τ τ = some y) (h3 : ev Φ c τ τ = some z) (h : pyCmp op x y = some (.bool p)) (h' : pyCmp op' y z = some (.bool q)) : ev Φ (.chain op op' a b c) ρ τ = some (.bool (p && q)) := by
  unfold ev
  rw [h1, h2, h3, Option.bind_some, Option.bind_some, Option.bind_some, h, h']; rfl
theorem e_notV (h1 : ev Φ a τ τ = some (.bool p)) : ev Φ (.notV a) ρ τ = some (.bool (!p)) := by
  unfold ev
  rw [h1]; rfl
theorem e_andV (h1 : ev Φ a τ τ = some (.bool p)) (h2 : p = true → ev Φ b τ τ = some (.bool q)) : ev Φ (.andV a b) ρ τ = some (.bool (p && q)) := by
  unfold ev
  rw [h1]
  cases p with
  | false => rfl
  | true => rw [h2 rfl]; rfl
theorem e_andT (h1 : ev Φ a τ τ = some (.bool true)) (h2 : ev Φ b τ τ = some (.bool q)) : ev Φ (.andV a b) ρ τ = some (.bool q) := by
  have := e_andV (ρ := ρ) h1 fun _ => h2
  simpa using this
theorem e_notT (h1 : ev Φ a τ τ = some (.bool true)) : ev Φ (.notV a) ρ τ = some (.bool false) := e_notV h1
theorem e_notF (h1 : ev Φ a τ τ = some (.bool false)) : ev Φ (.notV a) ρ τ = some (.bool true) := e_notV h1
theorem e_orV (h1 : ev Φ a τ τ = some (.bool p)) (h2 : p = false → ev Φ b τ τ = some (.bool q)) : ev Φ (.orV a b) ρ τ = some (.bool (p || q)) := by
  unfold ev
  rw [h1]
  cases p with
  | true => rfl
  | false => rw [h2 rfl]; rfl
theorem e_ite {t : IR} (h : evT Φ t τ = some p) (h1 : p = true → ev Φ a ρ τ = some d) (h2 : p = false → ev Φ b ρ τ = some d) : ev Φ (.ite t a b) ρ τ = some d := by
  unfold ev
  rw [h]
  cases p with
  | true => exact h1 rfl
  | false => exact h2 rfl
theorem e_sc {f : Bi} (hs : f.sc = true) (h1 : ev Φ a τ τ = some x) (h : pyFn f [x] = some d) (hd : scal d = true) : ev Φ (.bi1 f a) ρ τ = some d := by
  unfold ev
  rw [if_pos hs, h1, Option.bind_some, h, Option.bind_some, if_pos hd]
theorem e_ns {f : Bi} (hs : f.sc = false) (h1 : ev Φ a ρ τ = some x) (h : pyFn f [x] = some d) : ev Φ (.bi1 f a) ρ τ = some d := by
  unfold ev
  rw [if_neg (by rw [hs]; simp), h1]; exact h
theorem e_len {ds : List PD} (h1 : ev Φ a τ τ = some (.list ds) ∨ ev Φ a τ τ = some (.tuple ds)) : ev Φ (.bi1 .len a) ρ τ = some (.int (ds.length : Int)) :=
  h1.elim (fun h => e_sc rfl h rfl rfl) fun h => e_sc rfl h rfl rfl
theorem e_tupL {ds : List PD} (h1 : ev Φ a ρ τ = some (.list ds)) : ev Φ (.bi1 .tuple a) ρ τ = some (.tuple ds) := e_ns rfl h1 rfl
theorem e_bi2 {f : Bi} (h1 : ev Φ a τ τ = some x) (h2 : ev Φ b τ τ = some y) (h : pyFn f [x, y] = some d) (hd : scal d = true) : ev Φ (.bi2 f a b) ρ τ = some d := by
  unfold ev
  rw [h1, h2, Option.bind_some, Option.bind_some, h, Option.bind_some, if_pos hd]
theorem e_isa {t : Ty} (h1 : ev Φ a τ τ = some x) (h : isTy t x = some p) : ev Φ (.isa t a) ρ τ = some (.bool p) := by
  unfold ev
  rw [h1, Option.bind_some, h]; rfl
theorem e_ix (h1 : ev Φ a ρ τ = some x) (h2 : ev Φ b τ τ = some y) (h : pyIx x y = some d) : ev Φ (.ix a b) ρ τ = some d := by
  unfold ev
  rw [h1, h2]; exact h
theorem e_sl {lo hi : Option Int} (h1 : ev Φ a ρ τ = some x) (h : pySl x lo hi = some d) : ev Φ (.sl a lo hi) ρ τ = some d := by
  unfold ev
  rw [h1]; exact h
theorem e_tup {as : List IR} {ds : List PD} (h : evs Φ as ρ τ = some ds) (hl : ds.length ≤ 1000) : ev Φ (.tup as) ρ τ = some (.tuple ds) := by
  unfold ev
  rw [h, Option.bind_some, if_pos hl]
theorem e_lst {as : List IR} {ds : List PD} (h : evs Φ as ρ τ = some ds) (hl : ds.length ≤ 1000) : ev Φ (.lst as) ρ τ = some (.list ds) := by
  unfold ev
  rw [h, Option.bind_some, if_pos hl]
theorem v_nil : evs Φ [] ρ τ = some [] := rfl
theorem v_cons {as : List IR} {ds : List PD} (h1 : ev Φ a ρ τ = some x) (h : evs Φ as ρ τ = some ds) : evs Φ (a :: as) ρ τ = some (x :: ds) := by
  unfold evs
  rw [h1, h]; rfl
theorem rng_nat {m : Nat} : rngD 0 ((m : Int)).toNat = (List.range m).map nD := by
  rw [Int.toNat_natCast, rngD_nat]
theorem e_lrng {m : Nat} (h : ev Φ a τ τ = some (nD m)) (hm : m ≤ 1000) : ev Φ (.lrng a) ρ τ = some (natL (List.range m)) := by
  unfold ev
  rw [h, Option.bind_some]
  show (if (m : Int) ≤ 100000 ∧ -100000 ≤ (m : Int) then some (PySem.PyData.list (rngD 0 (m : Int).toNat)) else none) = _
  rw [if_pos (by omega), rng_nat]; rfl
theorem e_trng {m : Nat} (h : ev Φ a τ τ = some (nD m)) (hm : m ≤ 1000) : ev Φ (.trng a) ρ τ = some (natT (List.range m)) := by
  unfold ev
  rw [h, Option.bind_some]
  show (if (m : Int) ≤ 100000 ∧ -100000 ≤ (m : Int) then some (PySem.PyData.tuple (rngD 0 (m : Int).toNat)) else none) = _
  rw [if_pos (by omega), rng_nat]; rfl
/-! what is walked -/
theorem i_rng {m : Nat} (h : ev Φ a τ τ = some (nD m)) (hm : m ≤ 1000) : evI Φ (.rng1 a) ρ τ = some ((List.range m).map nD) := ev_rng1 h (by omega)
theorem rng2_nat {l m : Nat} : rngD (l : Int) ((m : Int) - (l : Int)).toNat = (List.range' l (m - l)).map nD := by
  unfold rngD
  rw [show ((m : Int) - (l : Int)).toNat = m - l by omega, List.range'_eq_map_range, List.map_map]
  refine List.map_congr_left fun i _ => ?_
  show PySem.PyData.int ((l : Int) + (i : Int)) = PySem.PyData.int ((l + i : Nat) : Int)
  rw [show (l : Int) + (i : Int) = ((l + i : Nat) : Int) by omega]
theorem i_rng2 {l m : Nat} (h1 : ev Φ a τ τ = some (nD l)) (h2 : ev Φ b τ τ = some (nD m)) (hl : l ≤ 1000) (hm : m ≤ 1000) : evI Φ (.rng2 a b) ρ τ = some ((List.range' l (m - l)).map nD) := by
  unfold evI
  rw [h1, h2, Option.bind_some, Option.bind_some]
  show (if (m : Int) < 2 ^ 62 ∧ -(2 ^ 62) ≤ (m : Int) ∧ (l : Int) < 2 ^ 62 ∧ -(2 ^ 62) ≤ (l : Int) then some (rngD (l : Int) ((m : Int) - (l : Int)).toNat) else none) = _
  rw [if_pos (by omega), rng2_nat]
theorem i_val {ds : List PD} (h : ev Φ a ρ τ = some (.list ds) ∨ ev Φ a ρ τ = some (.tuple ds)) : evI Φ (.tVal a) ρ τ = some ds := by
  unfold evI
  rcases h with h | h <;> rw [h] <;> rfl
theorem i_enum {ds : List PD} (h : ev Φ a ρ τ = some (.list ds) ∨ ev Φ a ρ τ = some (.tuple ds)) : evI Φ (.enum a) ρ τ = some (enumD ds) := by
  unfold evI
  rcases h with h | h <;> rw [h] <;> rfl
/-! comprehensions -/
section
variable {α β : Type} {src src1 : IR} {i j : Nat} {own own1 : List Nat} {l : List α} {enc : α → PD} {m : α → List β} {enc1 : α → β → PD}
theorem e_lc {f : α → PD} (h1 : evI Φ src ρ τ = some (l.map enc)) (h2 : ∀ x, x ∈ l → ev Φ elt ((wipeR ρ own).set i (some (enc x))) ((wipeR τ own).set i (some (enc x))) = some (f x)) (hz : l.length ≤ big) :
    ev Φ (.lc src (.one i) own elt) ρ τ = some (.list (l.map f)) := by
  unfold ev
  rw [h1, Option.bind_some, List.mapM_map, mapM_some (f := f) (fun x hx => by
    show ev Φ elt ((wipeR ρ own).set i (some (enc x))) ((wipeR τ own).set i (some (enc x))) = _
    exact h2 x hx), Option.bind_some]
  unfold bigL
  rw [if_pos (by rw [List.length_map]; exact hz)]
theorem e_lcIf {p : α → Bool} {f : α → PD} (h1 : evI Φ src ρ τ = some (l.map enc)) (h2 : ∀ x, x ∈ l → evT Φ c ((wipeR τ own).set i (some (enc x))) = some (p x)) (h3 : ∀ x, x ∈ l → p x = true → ev Φ elt ((wipeR ρ own).set i (some (enc x))) ((wipeR τ own).set i (some (enc x))) = some (f x)) (hz : l.length ≤ big) :
    ev Φ (.lcIf src (.one i) own c elt) ρ τ = some (.list ((l.filter p).map f)) := by
  unfold ev
  rw [h1, Option.bind_some, List.mapM_map, mapM_some (f := fun x => if p x then some (f x) else none) (fun x hx => by
    show (evT Φ c ((wipeR τ own).set i (some (enc x)))).bind (fun q => if q then (ev Φ elt ((wipeR ρ own).set i (some (enc x))) ((wipeR τ own).set i (some (enc x)))).map some else some none) = _
    rw [h2 x hx, Option.bind_some]
    cases hp : p x with
    | true => simp only [if_true]; rw [h3 x hx hp]; rfl
    | false => rfl), Option.bind_some]
  unfold bigL
  rw [if_pos (by rw [List.length_map]; exact hz), filterMap_if]
theorem e_lc2 {f : α → β → PD} (h1 : evI Φ src ρ τ = some (l.map enc)) (h2 : ∀ x, x ∈ l → evI Φ src1 ((wipeR ρ own).set i (some (enc x))) ((wipeR τ own).set i (some (enc x))) = some ((m x).map (enc1 x)))
    (h3 : ∀ x, x ∈ l → ∀ y, y ∈ m x → ev Φ elt ((wipeR ((wipeR ρ own).set i (some (enc x))) own1).set j (some (enc1 x y))) ((wipeR ((wipeR τ own).set i (some (enc x))) own1).set j (some (enc1 x y))) = some (f x y)) (hz : (l.map fun x => (m x).length).sum ≤ big) :
    ev Φ (.lc2 src (.one i) own src1 (.one j) own1 elt) ρ τ = some (.list (l.flatMap fun x => (m x).map (f x))) := by
  unfold ev
  rw [h1, Option.bind_some, List.mapM_map, mapM_some (f := fun x => (m x).map (f x)) (fun x hx => by
    show (evI Φ src1 ((wipeR ρ own).set i (some (enc x))) ((wipeR τ own).set i (some (enc x)))).bind _ = _
    rw [h2 x hx, Option.bind_some, List.mapM_map, mapM_some (f := f x) (fun y hy => by
      show ev Φ elt ((wipeR ((wipeR ρ own).set i (some (enc x))) own1).set j (some (enc1 x y))) ((wipeR ((wipeR τ own).set i (some (enc x))) own1).set j (some (enc1 x y))) = _
      exact h3 x hx y hy)]), Option.bind_some]
  unfold bigL
  rw [if_pos (by simpa [List.map_map, Function.comp_def] using hz), List.flatMap_def]
theorem e_lc2If {p : α → β → Bool} {f : α → β → PD} (h1 : evI Φ src ρ τ = some (l.map enc)) (h2 : ∀ x, x ∈ l → evI Φ src1 ((wipeR ρ own).set i (some (enc x))) ((wipeR τ own).set i (some (enc x))) = some ((m x).map (enc1 x)))
    (h4 : ∀ x, x ∈ l → ∀ y, y ∈ m x → evT Φ c ((wipeR ((wipeR τ own).set i (some (enc x))) own1).set j (some (enc1 x y))) = some (p x y))
    (h3 : ∀ x, x ∈ l → ∀ y, y ∈ m x → p x y = true → ev Φ elt ((wipeR ((wipeR ρ own).set i (some (enc x))) own1).set j (some (enc1 x y))) ((wipeR ((wipeR τ own).set i (some (enc x))) own1).set j (some (enc1 x y))) = some (f x y)) (hz : (l.map fun x => (m x).length).sum ≤ big) :
    ev Φ (.lc2If src (.one i) own src1 (.one j) own1 c elt) ρ τ = some (.list (l.flatMap fun x => ((m x).filter (p x)).map (f x))) := by
  unfold ev
  rw [h1, Option.bind_some, List.mapM_map, mapM_some (f := fun x => (m x).map fun y => if p x y then some (f x y) else none) (fun x hx => by
    show (evI Φ src1 ((wipeR ρ own).set i (some (enc x))) ((wipeR τ own).set i (some (enc x)))).bind _ = _
    rw [h2 x hx, Option.bind_some, List.mapM_map, mapM_some (f := fun y => if p x y then some (f x y) else none) (fun y hy => by
      show (evT Φ c ((wipeR ((wipeR τ own).set i (some (enc x))) own1).set j (some (enc1 x y)))).bind (fun q => if q then (ev Φ elt ((wipeR ((wipeR ρ own).set i (some (enc x))) own1).set j (some (enc1 x y))) ((wipeR ((wipeR τ own).set i (some (enc x))) own1).set j (some (enc1 x y)))).map some else some none) = _
      rw [h4 x hx y hy, Option.bind_some]
      cases hp : p x y with
      | true => simp only [if_true]; rw [h3 x hx y hy hp]; rfl
      | false => rfl)]), Option.bind_some]
  unfold bigL
  rw [if_pos (by simpa [List.map_map, Function.comp_def] using hz)]
  congr 2
  clear h1 h2 h3 h4 hz
  induction l with
  | nil => rfl
  | cons x l ih => rw [List.map_cons, List.flatten_cons, List.filterMap_append, ih, filterMap_if, List.flatMap_cons]
theorem asBools_mapB {p : α → Bool} : ∀ l : List α, asBools (l.map fun x => PySem.PyData.bool (p x)) = some (l.map p) := fun l => by
  have := asBools_map (l.map p)
  rwa [List.map_map] at this
theorem asInts_mapI {p : α → Int} : ∀ l : List α, asInts (l.map fun x => PySem.PyData.int (p x)) = some (l.map p) := fun l => by
  have := asInts_map (l.map p)
  rwa [List.map_map] at this
theorem e_all {p : α → Bool} (h : ev Φ a τ τ = some (.list (l.map fun x => .bool (p x)))) : ev Φ (.bi1 .all a) ρ τ = some (.bool (l.all p)) := by
  refine e_sc rfl h ?_ rfl
  show (asBools _).map _ = _
  rw [asBools_mapB]
  simp [List.all_map, Function.comp_def]
theorem e_any {p : α → Bool} (h : ev Φ a τ τ = some (.list (l.map fun x => .bool (p x)))) : ev Φ (.bi1 .any a) ρ τ = some (.bool (l.any p)) := by
  refine e_sc rfl h ?_ rfl
  show (asBools _).map _ = _
  rw [asBools_mapB]
  simp [List.any_map, Function.comp_def]
end
/-! tests -/
theorem t_v (h : ev Φ a τ τ = some x) (h2 : pyTruth x = some p) : evT Φ (.tVal a) τ = some p := by
  unfold evT
  rw [h]; exact h2
theorem t_vb (h : ev Φ a τ τ = some (.bool p)) : evT Φ (.tVal a) τ = some p := t_v h rfl
theorem t_not (h : evT Φ a τ = some p) : evT Φ (.tNot a) τ = some (!p) := by
  unfold evT
  rw [h]; rfl
theorem t_notT (h : evT Φ a τ = some true) : evT Φ (.tNot a) τ = some false := t_not h
theorem t_notF (h : evT Φ a τ = some false) : evT Φ (.tNot a) τ = some true := t_not h
theorem t_and (h : evT Φ a τ = some p) (h2 : p = true → evT Φ b τ = some q) : evT Φ (.tAnd a b) τ = some (p && q) := by
  unfold evT
  rw [h]
  cases p with
  | false => rfl
  | true => rw [Option.bind_some, if_pos rfl, h2 rfl]; rfl
theorem t_or (h : evT Φ a τ = some p) (h2 : p = false → evT Φ b τ = some q) : evT Φ (.tOr a b) τ = some (p || q) := by
  unfold evT
  rw [h]
  cases p with
  | true => rfl
  | false => rw [Option.bind_some, if_neg (by simp), h2 rfl]; rfl
theorem t_orF (h : evT Φ a τ = some false) (h2 : evT Φ b τ = some q) : evT Φ (.tOr a b) τ = some q := by
  have := t_or h fun _ => h2
  simpa using this
theorem t_orT (h : evT Φ a τ = some true) : evT Φ (.tOr a b) τ = some true := by
  unfold evT
  rw [h]; rfl
theorem t_andT (h : evT Φ a τ = some true) (h2 : evT Φ b τ = some q) : evT Φ (.tAnd a b) τ = some q := by
  have := t_and h fun _ => h2
  simpa using this
theorem t_andF (h : evT Φ a τ = some false) : evT Φ (.tAnd a b) τ = some false := by
  unfold evT
  rw [h]; rfl
theorem t_cmp {op : CmpOp} (h1 : ev Φ a τ τ = some x) (h2 : ev Φ b τ τ = some y) (h : pyCmp op x y = some (.bool p)) : evT Φ (.tCmp op a b) τ = some p := by
  unfold evT
  rw [h1, h2, Option.bind_some, Option.bind_some, h]; rfl
theorem t_chain {op op' : CmpOp} (h1 : ev Φ a τ τ = some x) (h2 : ev Φ b τ τ = some y) (h3 : ev Φ c τ τ = some z) (h : pyCmp op x y = some (.bool p)) (h' : pyCmp op' y z = some (.bool q)) : evT Φ (.tChain op op' a b c) τ = some (p && q) := by
  unfold evT
  rw [h1, h2, h3, Option.bind_some, Option.bind_some, Option.bind_some, h, h']; rfl
end
/-! ### comparing -/
theorem sh_int {i : Int} : SeqAt.shaped (.int i) = true := rfl
theorem c_eq {i j : Int} : pyCmp .Eq (.int i) (.int j) = some (.bool (decide (i = j))) := by
  show (if (SeqAt.shaped (.int i) && SeqAt.shaped (.int j)) = true then some (PySem.PyData.bool (i == j)) else none) = _
  rw [if_pos (by rfl), show (i == j) = decide (i = j) from rfl]
theorem c_ne {i j : Int} : pyCmp .NotEq (.int i) (.int j) = some (.bool (decide (i ≠ j))) := by
  show (if (SeqAt.shaped (.int i) && SeqAt.shaped (.int j)) = true then some (PySem.PyData.bool (!(i == j))) else none) = _
  rw [if_pos (by rfl)]
  by_cases h : i = j <;> simp [h]
theorem c_eqN {i j : Nat} : pyCmp .Eq (nD i) (nD j) = some (.bool (decide (i = j))) := by
  rw [c_eq]
  by_cases h : i = j <;> simp [h, Int.ofNat_inj]
theorem c_neN {i j : Nat} : pyCmp .NotEq (nD i) (nD j) = some (.bool (decide (i ≠ j))) := by
  rw [c_ne]
  by_cases h : i = j <;> simp [h, Int.ofNat_inj]
theorem c_ltN {i j : Nat} : pyCmp .Lt (nD i) (nD j) = some (.bool (decide (i < j))) := by
  show some (PySem.PyData.bool (decide ((i : Int) < (j : Int)))) = _
  by_cases h : i < j <;> simp [h]
theorem lay_nats : ∀ l : List Nat, PyData.canLayAll0 (l.map nD) = true
  | [] => rfl
  | x :: l => by
    show (PyData.canLay0 (nD x) && PyData.canLayAll0 (l.map nD)) = true
    rw [lay_nats l]; rfl
theorem dep_nats : ∀ l : List Nat, PyData.depthAll (l.map nD) = 0
  | [] => rfl
  | x :: l => by
    show max 0 (PyData.depthAll (l.map nD)) = 0
    rw [dep_nats l]; rfl
theorem sh_natT (l : List Nat) : SeqAt.shaped (natT l) = true := by
  show (PyData.canLayAll0 (l.map nD) && decide (PyData.depthAll (l.map nD) + 1 ≤ 64)) = true
  rw [lay_nats, dep_nats]; rfl
theorem sh_natL (l : List Nat) : SeqAt.shaped (natL l) = true := sh_natT l
theorem eqv_nats : ∀ a b : List Nat, PyData.eqvAll (a.map nD) (b.map nD) = decide (a = b)
  | [], [] => rfl
  | [], _ :: _ => rfl
  | _ :: _, [] => rfl
  | x :: a, y :: b => by
    show (((x : Int) == (y : Int)) && PyData.eqvAll (a.map nD) (b.map nD)) = _
    rw [eqv_nats a b]
    by_cases h : x = y <;> by_cases h2 : a = b <;> simp [h, h2, Int.ofNat_inj]
theorem c_eqT {a b : List Nat} : pyCmp .Eq (natT a) (natT b) = some (.bool (decide (a = b))) := by
  show (if (SeqAt.shaped (natT a) && SeqAt.shaped (natT b)) = true then some (PySem.PyData.bool (PyData.eqvAll (a.map nD) (b.map nD))) else none) = _
  rw [sh_natT, sh_natT, if_pos (by rfl), eqv_nats]
theorem c_neT {a b : List Nat} : pyCmp .NotEq (natT a) (natT b) = some (.bool (decide (a ≠ b))) := by
  show (if (SeqAt.shaped (natT a) && SeqAt.shaped (natT b)) = true then some (PySem.PyData.bool (!PyData.eqvAll (a.map nD) (b.map nD))) else none) = _
  rw [sh_natT, sh_natT, if_pos (by rfl), eqv_nats]
  by_cases h : a = b <;> simp [h]
theorem flats_ints : ∀ l : List Int, flats (l.map .int) = some (l.map V.int)
  | [] => rfl
  | x :: l => by
    show (match flat (.int x), flats (l.map .int) with
      | some v, some vs => some (v :: vs)
      | _, _ => none) = _
    rw [flats_ints l]; rfl
theorem inV_ints {x : Int} : ∀ l : List Int, inV (.int x) (l.map V.int) = decide (x ∈ l)
  | [] => rfl
  | y :: l => by
    show ((y == x) || inV (.int x) (l.map V.int)) = _
    rw [inV_ints l]
    by_cases h : x = y
    · simp [h]
    · have h' : ¬ y = x := fun e => h e.symm
      simp [h, h']
theorem in_ints {x : Int} {l : List Int} {d : PD} (hd : d = .list (l.map .int) ∨ d = .tuple (l.map .int)) : pyIn (.int x) d = some (decide (x ∈ l)) := by
  rcases hd with rfl | rfl
  · show (flats (l.map .int)).map _ = _
    rw [flats_ints, Option.map_some, inV_ints]
  · show (flats (l.map .int)).map _ = _
    rw [flats_ints, Option.map_some, inV_ints]
theorem map_nD (l : List Nat) : l.map nD = (l.map fun (x : Nat) => (x : Int)).map PySem.PyData.int := by rw [List.map_map]; rfl
theorem mem_cast {x : Nat} {l : List Nat} : ((x : Int) ∈ l.map fun (x : Nat) => (x : Int)) ↔ x ∈ l := by
  rw [List.mem_map]
  constructor
  · rintro ⟨y, hy, e⟩
    rw [← Int.ofNat_inj.mp e]; exact hy
  · exact fun h => ⟨x, h, rfl⟩
theorem c_in {x : Nat} {l : List Nat} {d : PD} (hd : d = natL l ∨ d = natT l) : pyCmp .In (nD x) d = some (.bool (decide (x ∈ l))) := by
  show (pyIn (.int (x : Int)) d).map _ = _
  rw [in_ints (l := l.map fun (x : Nat) => (x : Int)) (by rw [← map_nD]; exact hd)]
  simp only [mem_cast]; rfl
theorem c_nin {x : Nat} {l : List Nat} {d : PD} (hd : d = natL l ∨ d = natT l) : pyCmp .NotIn (nD x) d = some (.bool (decide (x ∉ l))) := by
  show (pyIn (.int (x : Int)) d).map _ = _
  rw [in_ints (l := l.map fun (x : Nat) => (x : Int)) (by rw [← map_nD]; exact hd)]
  simp only [mem_cast, Option.map_some]
  by_cases h : x ∈ l <;> simp [h]
/-! ### bits -/
theorem b_and {a b : Nat} : pyBin .BitAnd (nD a) (nD b) = some (nD (a &&& b)) := by
  show some (PySem.PyData.int (Builtin.bitAnd (a : Int) (b : Int))) = _
  rw [bitAnd_pp (by omega) (by omega)]; rfl
theorem b_orI {a b : Nat} : Builtin.bitOr (a : Int) (b : Int) = ((a ||| b : Nat) : Int) := by
  rw [bitOr_and, bitAnd_pp (by omega) (by omega)]
  have := nat_or_add_and a b
  simp only [Int.toNat_natCast]
  omega
theorem b_or {a b : Nat} : pyBin .BitOr (nD a) (nD b) = some (nD (a ||| b)) := by
  show some (PySem.PyData.int (Builtin.bitOr (a : Int) (b : Int))) = _
  rw [b_orI]
theorem b_shr {a b : Nat} : pyBin .RShift (nD a) (nD b) = some (nD (a >>> b)) := by
  show (if 0 ≤ (b : Int) then some (PySem.PyData.int ((a : Int) / 2 ^ (b : Int).toNat)) else none) = _
  rw [if_pos (by omega), Int.toNat_natCast, Nat.shiftRight_eq_div_pow]
  show _ = some (PySem.PyData.int ((a / 2 ^ b : Nat) : Int))
  rw [Int.natCast_ediv, Int.natCast_pow]
  rfl
theorem b_shl {b : Nat} (hb : b ≤ 1000) : pyBin .LShift (nD 1) (nD b) = some (nD (1 <<< b)) := by
  show (if 0 ≤ (b : Int) ∧ (b : Int) ≤ 1000000 ∧ ((1 : Nat) : Int).natAbs < 2 ^ 64 then some (PySem.PyData.int (((1 : Nat) : Int) * 2 ^ (b : Int).toNat)) else none) = _
  rw [if_pos ⟨by omega, by omega, by decide⟩, Int.toNat_natCast, Nat.shiftLeft_eq]
  show _ = some (PySem.PyData.int ((1 * 2 ^ b : Nat) : Int))
  rw [Int.natCast_mul, Int.natCast_pow]
  rfl
section
variable {Φ : Fns} {ρ τ : Rho} {a b : IR}
theorem t_bit {m x : Nat} (h1 : ev Φ a τ τ = some (nD m)) (h2 : ev Φ b τ τ = some (nD x)) : evT Φ (.tVal (.bin .BitAnd (.bin .RShift a b) (.lit (.int 1)))) τ = some (m.testBit x) := by
  refine t_v (e_bin (e_bin h1 h2 b_shr) (e_l (d := nD 1)) b_and) ?_
  show some (((m >>> x &&& 1 : Nat) : Int) != 0) = _
  rw [Nat.testBit_eq_decide_div_mod_eq, Nat.and_one_is_mod, Nat.shiftRight_eq_div_pow]
  congr 1
  rcases Nat.mod_two_eq_zero_or_one (m / 2 ^ x) with h | h <;> rw [h] <;> rfl
theorem e_shl1 {b : IR} {x : Nat} (h : ev Φ b ρ τ = some (nD x)) (hx : x ≤ 1000) : ev Φ (.bin .LShift (.lit (.int 1)) b) ρ τ = some (nD (1 <<< x)) := e_bin (e_l (d := nD 1)) h (b_shl hx)
end
theorem tb_one {x i : Nat} : (1 <<< x).testBit i = decide (i = x) := by
  rw [Nat.one_shiftLeft, Nat.testBit_two_pow]
  by_cases h : x = i
  · simp [h]
  · have h' : ¬ i = x := fun e => h e.symm
    simp [h, h']
/-! ### statements -/
theorem pt1 {S : PSt} {ws i : Nat} {d : PD} {f : PSt → Option Out} (h : i ≠ ws) : (S.putT ws (.one i) d).bind f = f (S.put i d) := by
  show (if i = ws then none else some (S.put i d)).bind f = _
  rw [if_neg h]; rfl
theorem pt2 {S : PSt} {ws i j : Nat} {a b : PD} {f : PSt → Option Out} (h : i ≠ ws) (h2 : j ≠ ws) : (S.putT ws (.two i j) (.tuple [a, b])).bind f = f ((S.put i a).put j b) := by
  show (if i = ws ∨ j = ws then none else some ((S.put i a).put j b)).bind f = _
  rw [if_neg (by simp [h, h2])]; rfl
theorem shl_nil {S : PSt} : S.share [] = S := rfl
theorem evV_of {Φ : Fns} {ρ τ : Rho} {e : IR} {d : PD} (h : ev Φ e ρ τ = some d) : evV Φ e ρ τ = some d := by
  unfold evV
  rw [h]
theorem evV_t {Φ : Fns} {ρ τ : Rho} {e : IR} {d : PD} (h0 : ev Φ e ρ τ = none) (h : ev Φ e τ τ = some d) (hd : scal d = true) : evV Φ e ρ τ = some d := by
  unfold evV
  rw [h0, h]
  show (if scal d then some d else none) = _
  rw [if_pos hd]
section
variable {Φ : Fns} {Ψ : Wns} {ws fu : Nat} {i j : Nat} {sh : List Nat} {e k c : IR} {ss b b2 : List SR} {S S' : PSt} {W W' : WT} {d x : PD} {o : Option Out} {p : Bool} {ds items : List PD} {t : Tg} {X : XW}
theorem x_nil : execs Φ Ψ ws fu [] S W = some (.nx S W) := rfl
theorem x_ret (h : evX Φ Ψ X (S.share sh).sh (S.share sh).all W = some (d, W')) : execs Φ Ψ ws fu (.ret sh X :: ss) S W = some (.rt d W') := by
  unfold execs exec
  rw [h]; rfl
theorem xp {ρ τ : Rho} (h : evV Φ e ρ τ = some d) : evX Φ Ψ (.pure e) ρ τ W = some (d, W) := by
  unfold evX
  rw [h]; rfl
theorem x_retP (h : ev Φ e (S.share sh).sh (S.share sh).all = some d) : execs Φ Ψ ws fu (.ret sh (.pure e) :: ss) S W = some (.rt d W) := x_ret (xp (evV_of h))
theorem x_set (hi : i ≠ ws) (h : evX Φ Ψ X (S.share sh).sh (S.share sh).all W = some (d, W')) (r : execs Φ Ψ ws fu ss ((S.share sh).put i d) W' = o) : execs Φ Ψ ws fu (.set i sh X :: ss) S W = o := by
  unfold execs exec
  rw [if_neg hi, h]; exact r
theorem x_setP (hi : i ≠ ws) (h : ev Φ e (S.share sh).sh (S.share sh).all = some d) (r : execs Φ Ψ ws fu ss ((S.share sh).put i d) W = o) : execs Φ Ψ ws fu (.set i sh (.pure e) :: ss) S W = o := x_set hi (xp (evV_of h)) r
theorem x_own (hi : i ≠ ws) (hf : fresh e = true) (h : ev Φ e (S.share sh).sh (S.share sh).all = some (.list ds)) (r : execs Φ Ψ ws fu ss ((S.share sh).putO i ds) W = o) : execs Φ Ψ ws fu (.own i sh e :: ss) S W = o := by
  unfold execs exec
  rw [if_neg (by rw [hf]; simp [hi]), h]; exact r
theorem x_aug {y z : Nat} (hi : i ≠ ws) (h0 : getR S.all i = some (nD y)) (h : ev Φ e S.all S.all = some (nD z)) (r : execs Φ Ψ ws fu ss (S.put i (nD (y ||| z))) W = o) : execs Φ Ψ ws fu (.aug i .BitOr e :: ss) S W = o := by
  unfold execs exec
  rw [if_neg (by simp [hi]), h0, h]
  show (some (Out.nx (S.put i (.int (Builtin.bitOr (y : Int) (z : Int)))) W)).bind _ = o
  rw [b_orI]; exact r
theorem x_two (h : ev Φ e S.sh S.all = some d) (h2 : S.putT ws (.two i j) d = some S') (r : execs Φ Ψ ws fu ss S' W = o) : execs Φ Ψ ws fu (.two i j e :: ss) S W = o := by
  unfold execs exec
  rw [h, Option.bind_some, h2]; exact r
theorem x_drop (h : ev Φ e S.all S.all = some d) (r : execs Φ Ψ ws fu ss S W = o) : execs Φ Ψ ws fu (.drop e :: ss) S W = o := by
  unfold execs exec
  rw [h]; exact r
theorem x_appV (h0 : getR (S.share sh).ow i = some (.list ds)) (h : evV Φ e (S.share sh).sh (S.share sh).all = some d) (hl : ds.length < big) (r : execs Φ Ψ ws fu ss ((S.share sh).putO i (ds ++ [d])) W = o) : execs Φ Ψ ws fu (.app i sh e :: ss) S W = o := by
  unfold execs exec
  rw [h0]
  show ((evV Φ e (S.share sh).sh (S.share sh).all).bind _).bind _ = o
  rw [h, Option.bind_some, if_pos hl]; exact r
theorem x_app (h0 : getR (S.share sh).ow i = some (.list ds)) (h : ev Φ e (S.share sh).sh (S.share sh).all = some d) (hl : ds.length < big) (r : execs Φ Ψ ws fu ss ((S.share sh).putO i (ds ++ [d])) W = o) : execs Φ Ψ ws fu (.app i sh e :: ss) S W = o := x_appV h0 (evV_of h) hl r
theorem x_put {n : Nat} (h : evV Φ e S.sh S.all = some d) (h0 : getR S.ow i = some (.list ds)) (h2 : ev Φ k S.all S.all = some (nD n)) (hn : n < ds.length) (r : execs Φ Ψ ws fu ss (S.putO i (ds.set n d)) W = o) : execs Φ Ψ ws fu (.put i k e :: ss) S W = o := by
  unfold execs exec
  rw [h, h0]
  show ((ev Φ k S.all S.all).bind _).bind _ = o
  rw [h2]
  show ((ixN ds.length (n : Int)).map _).bind _ = o
  have : ixN ds.length (n : Int) = some n := by
    unfold ixN
    rw [if_pos (by omega), if_pos (by omega)]
    simp
  rw [this]; exact r
theorem x_ite (h : evT Φ c S.all = some p) (r1 : p = true → (execs Φ Ψ ws fu b S W).bind (fun o => o.thn (execs Φ Ψ ws fu ss)) = o) (r2 : p = false → (execs Φ Ψ ws fu b2 S W).bind (fun o => o.thn (execs Φ Ψ ws fu ss)) = o) : execs Φ Ψ ws fu (.ite c b b2 :: ss) S W = o := by
  unfold execs exec
  rw [h]
  cases p with
  | true => exact r1 rfl
  | false => exact r2 rfl
theorem x_itT (h : evT Φ c S.all = some true) (r : (execs Φ Ψ ws fu b S W).bind (fun o => o.thn (execs Φ Ψ ws fu ss)) = o) : execs Φ Ψ ws fu (.ite c b b2 :: ss) S W = o := x_ite h (fun _ => r) (fun h => by cases h)
theorem x_itF (h : evT Φ c S.all = some false) (r : execs Φ Ψ ws fu ss S W = o) : execs Φ Ψ ws fu (.ite c b [] :: ss) S W = o := x_ite h (fun h => by cases h) (fun _ => r)
/-- if c: return -/
theorem x_itR {ss2 : List SR} (h : evT Φ c S.all = some true) (r : execs Φ Ψ ws fu b S W = some (.rt d W')) : execs Φ Ψ ws fu (.ite c b b2 :: ss) S W = some (.rt d W') := x_itT h (by rw [r]; rfl)
/-- if c: pure steps -/
theorem x_itN (h : evT Φ c S.all = some p) (r1 : p = true → execs Φ Ψ ws fu b S W = some (.nx S' W')) (r2 : p = false → execs Φ Ψ ws fu b2 S W = some (.nx S' W')) (r : execs Φ Ψ ws fu ss S' W' = o) : execs Φ Ψ ws fu (.ite c b b2 :: ss) S W = o :=
  x_ite h (fun q => by rw [r1 q]; exact r) fun q => by rw [r2 q]; exact r
theorem x_iter (h : evI Φ e (S.share sh).sh (S.share sh).all = some items) (hl : loopF (fun d S W => (S.putT ws t d).bind fun S' => execs Φ Ψ ws fu b S' W) items (S.share sh) W = some (.nx S' W')) (r : execs Φ Ψ ws fu ss S' W' = o) : execs Φ Ψ ws fu (.iter t sh e b :: ss) S W = o := by
  unfold execs exec
  rw [h, Option.bind_some, hl]; exact r
theorem x_whl (hl : loopW (fun S => evT Φ c S.all) (execs Φ Ψ ws fu b) fu S W = some (.nx S' W')) (r : execs Φ Ψ ws fu ss S' W' = o) : execs Φ Ψ ws fu (.whl c b :: ss) S W = o := by
  unfold execs exec
  rw [hl]; exact r
theorem loopF_inv {α : Type} {enc : α → PD} {f : PD → PSt → WT → Option Out} (I : Nat → PSt → WT → Prop) : ∀ (l : List α) (s : Nat) (S : PSt) (W : WT), I s S W → (∀ i x S W, l[i]? = some x → I (s + i) S W → ∃ S' W', f (enc x) S W = some (.nx S' W') ∧ I (s + i + 1) S' W') → ∃ S' W', loopF f (l.map enc) S W = some (.nx S' W') ∧ I (s + l.length) S' W'
  | [], s, S, W, h, _ => ⟨S, W, rfl, h⟩
  | x :: l, s, S, W, h, hs => by
    obtain ⟨S1, W1, h1, h2⟩ := hs 0 x S W rfl h
    obtain ⟨S2, W2, h3, h4⟩ := loopF_inv I l (s + 1) S1 W1 h2 fun i y S W hi hI => by
      have := hs (i + 1) y S W (by simpa using hi) (by rw [show s + (i + 1) = s + 1 + i by omega]; exact hI)
      rw [show s + (i + 1) + 1 = s + 1 + i + 1 by omega] at this
      exact this
    refine ⟨S2, W2, ?_, by rw [List.length_cons, show s + (l.length + 1) = s + 1 + l.length by omega]; exact h4⟩
    show (f (enc x) S W).bind (fun o => o.thn (loopF f (l.map enc))) = _
    rw [h1]; exact h3
/-- over a list, told by what was done -/
theorem loopF_hd {α : Type} {enc : α → PD} {f : PD → PSt → WT → Option Out} (I : List α → PSt → WT → Prop) : ∀ (l m : List α) (S : PSt) (W : WT), I m S W → (∀ m x r S W, l = m ++ x :: r → I m S W → ∃ S' W', f (enc x) S W = some (.nx S' W') ∧ I (m ++ [x]) S' W') → ∀ r, l = m ++ r → ∃ S' W', loopF f (r.map enc) S W = some (.nx S' W') ∧ I l S' W'
  | l, m, S, W, h, hs, [], e => ⟨S, W, rfl, by rw [e, List.append_nil]; exact h⟩
  | l, m, S, W, h, hs, x :: r, e => by
    obtain ⟨S1, W1, h1, h2⟩ := hs m x r S W e h
    obtain ⟨S2, W2, h3, h4⟩ := loopF_hd I l (m ++ [x]) S1 W1 h2 hs r (by rw [e]; simp)
    refine ⟨S2, W2, ?_, h4⟩
    show (f (enc x) S W).bind (fun o => o.thn (loopF f (r.map enc))) = _
    rw [h1]; exact h3
theorem loopF_pre {α : Type} {enc : α → PD} {f : PD → PSt → WT → Option Out} (I : List α → PSt → WT → Prop) (l : List α) (S : PSt) (W : WT) (h : I [] S W) (hs : ∀ m x r S W, l = m ++ x :: r → I m S W → ∃ S' W', f (enc x) S W = some (.nx S' W') ∧ I (m ++ [x]) S' W') : ∃ S' W', loopF f (l.map enc) S W = some (.nx S' W') ∧ I l S' W' :=
  loopF_hd I l [] S W h hs l rfl
theorem loopW_inv {c : PSt → Option Bool} {b : PSt → WT → Option Out} (I : PSt → WT → Prop) (μ : PSt → Nat) (hs : ∀ S W, I S W → ∃ p, c S = some p ∧ (p = true → ∃ S' W', b S W = some (.nx S' W') ∧ I S' W' ∧ μ S' < μ S)) : ∀ (n : Nat) (S : PSt) (W : WT), I S W → μ S < n → ∃ S' W', loopW c b n S W = some (.nx S' W') ∧ I S' W' ∧ c S' = some false
  | 0, S, W, _, h => by omega
  | n + 1, S, W, h, hm => by
    obtain ⟨p, h1, h2⟩ := hs S W h
    unfold loopW
    rw [h1, Option.bind_some]
    cases p with
    | false => exact ⟨S, W, rfl, h, h1⟩
    | true =>
      obtain ⟨S1, W1, h3, h4, h5⟩ := h2 rfl
      rw [if_pos rfl, h3]
      exact loopW_inv I μ hs n S1 W1 h4 (by omega)
end
theorem call_rt {Φ Φ' : Fns} {fu m : Nat} {q : List SR} {n : Str} {ds : List PD} {d : PD} {W : WT} (h : Φ' n = some (runD Φ fu m q)) (h2 : execs Φ noW 1000 fu q (st0 m (ds.map some)) [] = some (.rt d W)) : call Φ' n ds = some d := by
  unfold call
  rw [h]
  show (execs Φ noW 1000 fu q (st0 m (ds.map some)) []).map _ = _
  rw [h2]; rfl
theorem call_nx {Φ Φ' : Fns} {fu m : Nat} {q : List SR} {n : Str} {ds : List PD} {S : PSt} {W : WT} (h : Φ' n = some (runD Φ fu m q)) (h2 : execs Φ noW 1000 fu q (st0 m (ds.map some)) [] = some (.nx S W)) : call Φ' n ds = some .none := by
  unfold call
  rw [h]
  show (execs Φ noW 1000 fu q (st0 m (ds.map some)) []).map _ = _
  rw [h2]; rfl
end SN
end
section
set_option Elab.async false
set_option linter.all false
set_option maxRecDepth 100000
set_option maxHeartbeats 0
/-! H1: the head's run. -/
namespace SN
open PySem L2 LamX NdefX PyProof.Rows
def dfOf (i : Nat) : He.DefD := ⟨(defName (topS i), none), defName (topS i), defName (topS i), defArgs (topS i), defBody (topS i), defScope (topS i), [], []⟩
def hFn : List He.DefD := defsAt.map dfOf
def biNames : List Str := ["len", "all", "any", "sum", "abs", "min", "max", "int", "tuple", "list", "sorted", "repr", "bool", "isinstance", "range", "enumerate", "set"]
def hFa : List He.Fa := (defsAt.map fun i => He.Fa.glo (defName (topS i))) ++ (biNames.map He.Fa.free ++ [He.Fa.int "MOST_THINGS" 12, He.Fa.int "MOST_COLOUR" 9])
def hTf : List He.Defn := [("in_lot_order", none), ("linear_row", none), ("nodes", none)]
def hEx (K : PySem.W.Frag) : Bool := decide ((He.cT K ("in_lot_order", none)).2 ≠ (He.cT K ("linear_row", none)).2) && (decide ((He.cT K ("in_lot_order", none)).2 ≠ (He.cT K ("nodes", none)).2) && decide ((He.cT K ("linear_row", none)).2 ≠ (He.cT K ("nodes", none)).2))
abbrev hR : PySem.W.OpenRow := PySem.W.OpenLaw.row PySem.Challenge.rw_seenasone_k23_whole_one_of_three_kinds
abbrev hHk : PySem.W.Hook := He.hookX 4 hFa hFn [] hTf hEx
def hOb (s : PySem.W.SharedT) : He.AlX := He.obsX 4 hFa hFn [] hTf hEx (HandSHeadRun.getT s)
theorem hOb_eq (s : PySem.W.SharedT) : hOb s = hHk.obs s.abs := He.obsX_eq (HandSHeadRun.getT_eq s)
def looseN : List Str := (prg.main.scope.names.filter fun y => match y.2 with
  | .local => decide (y.1 ≠ "law") && decide (y.1 ≠ "__name__")
  | _ => false).map (·.1)
end SN
end
section
set_option Elab.async false
set_option linter.all false
set_option maxRecDepth 100000
set_option maxHeartbeats 2000000
/-! H3: the law's call where a promise under no guards is kept. -/
namespace SN
open PySem PySem.Spec L2 LamX NdefX PyProof.Rows
section
variable {P : Program} {w : World} {K : PySem.W.Frag} {mg mb : Str → Option Value} {k : Nat} {fa a : Addr} {cs : List (Addr × Addr)} {fd : FuncData} {x : Str} {sp : Sp} {s1 : Shared} {vs : List Value} {ns : List Int}
/-- what the abstract heap shows at the call: the script (where K does not hold it), the tables -/
def scrH (K : PySem.W.Frag) (cs : List (Addr × Addr)) (a : Addr) (vs : List Value) (ns : List Int) : Hp := fun b =>
  if b ∈ cs.map Prod.snd then some (.tbl #[]) else if b = a ∧ K.lookup a = none then some (.frz { cls := .type "list", data := .seq vs.toArray } (.lst (ns.map V.int))) else none
theorem law_callG (kin : K.In s1.heap) (gNs : s1.heap.Ns mainGlobals mg) (bNs : s1.heap.Ns builtinsNs mb) (bEq : ∀ y : Str, y ≠ "__name__" → mb y = bootBuiltins y) (nLim : s1.heap.NoLimit) (gens0 : s1.gens = #[])
    (tabO : ∀ z ∈ cs, s1.heap.get? z.2 = some { cls := .none, data := .fields #[] }) (tabK : ∀ z ∈ cs, K.lookup z.2 = none) (codeH : ∀ z ∈ cs, PySem.W.CodeHd s1.heap z.1 z.2)
    (bMod : ∃ (bm : Addr) (ob : Obj), mg "__builtins__" = some (.ref bm) ∧ bm ≠ builtinsNs ∧ s1.heap.get? bm = some ob ∧ ob.cls = .type "module" ∧ ob.dict = some builtinsNs ∧ ob.data = .plain)
    (scrO : s1.heap.get? a = some { cls := .type "list", data := .seq vs.toArray }) (scrI : IntsAre vs ns) (scrL : ns.length ≤ 1000) (room : Room k callerA)
    (fnOk : ∀ base : Heap, K.In base → base.Ns mainGlobals mg → (∀ z ∈ cs, TabB base mg z.1 z.2) → FnG P w K mg base k fa fd [x] sp) (bnd : ∀ (s : Shared) (u : Value), BindsTo s fd ⟨[u], []⟩ [(x, u)])
    (ask : ∀ H : Hp, (∀ z ∈ cs, H z.2 = some (.tbl #[])) → ScrAt K H a ns → sp [.ref a] H (fun v _ => v = .bl true) E0) :
    codeAny (model P w) callerA (.call (.ref fa) ⟨[.ref a], []⟩) (fun r s' => r = .ok (.ret (.bool true)) ∧ OldK s1.heap s'.heap ∧ s'.os = s1.os ∧ AllBare s'.gens) s1 := by
  have rvs := vals_ints scrI
  have vlen : vs.length = ns.length := scrI.length
  have tabAt : ∀ b, b ∈ cs.map Prod.snd → s1.heap.get? b = some { cls := .none, data := .fields #[] } := fun b hb => by
    obtain ⟨z, hz, rfl⟩ := List.mem_map.mp hb
    exact tabO z hz
  have aNot : a ∉ cs.map Prod.snd := fun hb => by
    have e := tabAt a hb
    rw [scrO] at e
    have e2 := congrArg Obj.data (Option.some.inj e)
    cases e2
  -- what is shown
  have shT : ∀ b, b ∈ cs.map Prod.snd → scrH K cs a vs ns b = some (.tbl #[]) := fun b hb => if_pos hb
  have shN : ∀ b, b ∉ cs.map Prod.snd → ¬ (b = a ∧ K.lookup a = none) → scrH K cs a vs ns b = none := fun b h1 h2 => (if_neg h1).trans (if_neg h2)
  have shA : K.lookup a = none → scrH K cs a vs ns a = some (.frz { cls := .type "list", data := .seq vs.toArray } (.lst (ns.map V.int))) := fun h => (if_neg aNot).trans (if_pos ⟨rfl, h⟩)
  have cases3 : ∀ b, (b ∈ cs.map Prod.snd) ∨ (b = a ∧ K.lookup a = none) ∨ scrH K cs a vs ns b = none := fun b => by
    by_cases h1 : b ∈ cs.map Prod.snd
    · exact .inl h1
    · by_cases h2 : b = a ∧ K.lookup a = none
      · exact .inr (.inl h2)
      · exact .inr (.inr (shN b h1 h2))
  -- an object of another make is not shown
  have off : ∀ {b : Addr} {o : Obj}, s1.heap.get? b = some o → (∀ us n, o.data ≠ .seq us n) → o.data ≠ .fields #[] → scrH K cs a vs ns b = none := fun {b o} e n1 n2 => by
    rcases cases3 b with h | ⟨rfl, _⟩ | h
    · rw [tabAt b h] at e
      cases e
      exact absurd rfl n2
    · rw [scrO] at e
      cases e
      exact absurd rfl (n1 _ _)
    · exact h
  have hid : ∀ {b : Addr} {o : Obj}, s1.heap.get? b = some o → scrH K cs a vs ns b = none → (hidT s1.heap (scrH K cs a vs ns)).get? b = some o := fun e n => hidT_get e n
  have dictOff : ∀ {b : Addr} {o : Obj} {es : Array DictEntry} {ep : Nat}, s1.heap.get? b = some o → o.data = .dict es ep → scrH K cs a vs ns b = none := fun {b o es ep} e d => off e (fun us n z => by rw [d] at z; cases z) (fun z => by rw [d] at z; cases z)
  have nsH : ∀ {b : Addr} {m : Str → Option Value}, s1.heap.Ns b m → (hidT s1.heap (scrH K cs a vs ns)).Ns b m := fun {b m} n => by
    obtain ⟨o, es, ep, e, d, r⟩ := n
    exact ⟨o, es, ep, hid e (dictOff e d), d, r⟩
  have kinH : K.In (hidT s1.heap (scrH K cs a vs ns)) := fun b o e => hid (kin b o e) (by
    rcases cases3 b with h | ⟨rfl, hn⟩ | h
    · obtain ⟨z, hz, rfl⟩ := List.mem_map.mp h
      rw [tabK z hz] at e
      cases e
    · rw [hn] at e
      cases e
    · exact h)
  have modH : L2.Mod K mg (hidT s1.heap (scrH K cs a vs ns)) := by
    obtain ⟨ml, l1, l2⟩ := nLim
    exact ⟨kinH, nsH gNs, ⟨mb, nsH bNs, bEq⟩, ⟨ml, nsH l1, l2⟩⟩
  have glN : ∀ z ∈ cs, mainGlobals ≠ z.2 := fun z hz e => by
    obtain ⟨o, es, ep, q, d, _⟩ := gNs
    rw [e, tabO z hz] at q
    cases q
    cases d
  have tabB : ∀ z ∈ cs, TabB (hidT s1.heap (scrH K cs a vs ns)) mg z.1 z.2 := fun z hz => by
    refine ⟨?_, ?_, glN z hz⟩
    · obtain ⟨o, us, t1, t2, t3, t4, t5, t6, t7, q, r1, r2, r3, rest⟩ := codeH z hz
      refine ⟨o, us, t1, t2, t3, t4, t5, t6, t7, hid q (off q (fun us' n y => ?_) fun y => ?_), r1, r2, r3, rest⟩
      · rw [r2] at y
        cases y
      · rw [r2] at y
        cases y
        simp at r3
    · obtain ⟨bm, ob, c1, c2, c3, c4, c5, c6⟩ := bMod
      refine ⟨bm, ob, c1, c2, fun y => ?_, fun y => ?_, hid c3 (off c3 (fun us' n y => ?_) fun y => ?_), c4, c5, c6⟩
      · obtain ⟨o, es, ep, q, d, _⟩ := gNs
        rw [y, q] at c3
        cases c3
        rw [d] at c6
        cases c6
      · rw [y, tabO z hz] at c3
        cases c3
        cases c6
      · rw [c6] at y
        cases y
      · rw [c6] at y
        cases y
  have hokH : HOk P w (scrH K cs a vs ns) s1.heap := fun b o e => by
    rcases cases3 b with h | ⟨rfl, hn⟩ | h
    · rw [shT b h] at e
      cases e
      exact tabAt b h
    · rw [shA hn] at e
      cases e
      exact ⟨scrO, by rw [List.length_map, sizeLine_eq]; omega, vs, 0, rvs, scrO⟩
    · rw [h] at e
      cases e
  have env : Env0 P w K mg (hidT s1.heap (scrH K cs a vs ns)) callerA [] s1 (scrH K cs a vs ns) := ⟨rfl, modH, fun b o e => of_hidT e, Nat.le_of_eq (hidT_size _ _), trivial, fun b hb => (by cases hb), hokH, .of_eq gens0⟩
  have scr : ScrAt K (scrH K cs a vs ns) a ns := by
    refine ⟨vs, 0, rvs, scrL, ?_⟩
    cases q : K.lookup a with
    | none => exact .inl (shA q)
    | some o =>
      have e := kin a o q
      rw [scrO] at e
      cases e
      exact .inr rfl
  have asked := ask (scrH K cs a vs ns) (fun z hz => shT _ (List.mem_map.mpr ⟨z, hz, rfl⟩)) scr
  have run := (fnOk _ kinH (nsH gNs) tabB).run callerA [] s1 (scrH K cs a vs ns) ⟨[.ref a], []⟩ [.ref a] [.ref a] _ room rfl env (bnd s1 (.ref a)) (.cons rfl .nil) asked
  refine codeAny_mono run fun r s' h => ?_
  match r, h with
  | .ok (.ret u), h =>
    obtain ⟨v, H', os, bare, un, hok', rv, rfl⟩ := h
    obtain rfl : u = Value.bool true := rv
    have kept : ∀ b o, b ∉ cs.map Prod.snd → s1.heap.get? b = some o → s'.heap.get? b = some o := fun b o nb e => by
      rcases cases3 b with h | ⟨rfl, hn⟩ | h
      · exact absurd h nb
      · rw [scrO] at e
        cases e
        exact (hok' _ _ (un.frzs _ _ _ (shA hn))).1
      · exact un.keep b o e h (fun z => by cases z) (by simp)
    have grow : ∀ z ∈ cs, ∃ more : Array Value, s'.heap.get? z.2 = some { cls := .none, data := .fields more } := fun z hz => by
      obtain ⟨more, q⟩ := un.tbls z.2 #[] (shT _ (List.mem_map.mpr ⟨z, hz, rfl⟩))
      exact ⟨_, hok' _ _ q⟩
    refine ⟨rfl, ⟨fun b o e => ?_, fun b o e => ?_⟩, os, bare⟩
    · by_cases hb : b ∈ cs.map Prod.snd
      · obtain ⟨z, hz, rfl⟩ := List.mem_map.mp hb
        obtain ⟨more, hm⟩ := grow z hz
        rw [tabO z hz] at e
        cases e
        exact .inr (.inl ⟨((codeH z hz).tab (tabO z hz)).isCodeTable, rfl, #[], more, rfl, by rw [Array.empty_append]; exact hm⟩)
      · exact .inl (kept b o hb e)
    · by_cases hb : b ∈ cs.map Prod.snd
      · obtain ⟨z, hz, rfl⟩ := List.mem_map.mp hb
        obtain ⟨more, hm⟩ := grow z hz
        exact ⟨_, hm⟩
      · exact ⟨o, kept b o hb e⟩
  | .ok .next, h => exact h.elim
  | .ok .brk, h => exact h.elim
  | .ok .cont, h => exact h.elim
end
end SN
end
section
set_option Elab.async false
set_option linter.all false
set_option maxRecDepth 100000
set_option maxHeartbeats 4000000
/-! H4: the program's facts, by what the head tells. -/
namespace SN
open PySem L2 LamX NdefX PyProof.Rows
/-- all of a def's text that the rules ask, decided -/
def scOkB (i : Nat) : Bool :=
  let sc := defScope (topS i)
  let N := slN (topS i)
  let ps := parNames (topS i)
  decide (sc.kind = .function) && (!sc.isCoroutine && (!sc.isGenerator && (decide N.Nodup && (decide (N.take ps.length = ps) && (ps.all (fun x => decide (sc.names.lookup x = some .local) || decide (sc.names.lookup x = some .cell)) && sc.names.all fun y => !decide (y.2 = .free))))))
theorem scOk_all : defsAt.all scOkB = true := by kernel_rfl
theorem scOk {i : Nat} (h : i ∈ defsAt) : FnScope (slN (topS i)) (parNames (topS i)) (defScope (topS i)) := by
  have := List.all_eq_true.mp scOk_all i h
  unfold scOkB at this
  simp only [Bool.and_eq_true, decide_eq_true_eq, Bool.not_eq_true', List.all_eq_true, Bool.or_eq_true, decide_eq_false_iff_not] at this
  obtain ⟨h1, h2, h3, h4, h5, h6, h7⟩ := this
  exact ⟨h1, h2, h3, h4, h5, h6, h7⟩
section
variable {w : World} {h : Heap} {K : PySem.W.Frag} {mg : Str → Option Value}
theorem mem_fn {i : Nat} (hi : i ∈ defsAt) : dfOf i ∈ hFn := List.mem_map.mpr ⟨i, hi, rfl⟩
theorem fun_at (c : He.SaysX hFa hFn [] hTf hEx w h K) {i : Nat} (hi : i ∈ defsAt) : ∃ fd, FunD K (defName (topS i)) (defName (topS i)) (defArgs (topS i)) (defBody (topS i)) (defScope (topS i)) [] [] (He.ga K (defName (topS i))) fd := by
  obtain ⟨fd, F⟩ := c.t.d.defs (mem_fn hi)
  exact ⟨fd, F⟩
theorem mg_at (c : He.SaysX hFa hFn [] hTf hEx w h K) (kin : K.In h) (gn : h.Ns mainGlobals mg) {i : Nat} (hi : i ∈ defsAt) : mg (defName (topS i)) = some (.ref (He.ga K (defName (topS i)))) :=
  He.glo_ok kin gn (c.t.d.facts (f := .glo (defName (topS i))) (List.mem_append_left _ (List.mem_map.mpr ⟨i, hi, rfl⟩)))
theorem free_at (c : He.SaysX hFa hFn [] hTf hEx w h K) (kin : K.In h) (gn : h.Ns mainGlobals mg) {x : Str} (hx : x ∈ biNames) : mg x = none :=
  He.free_ok kin gn (c.t.d.facts (f := .free x) (List.mem_append_right _ (List.mem_append_left _ (List.mem_map.mpr ⟨x, hx, rfl⟩))))
theorem int_at (c : He.SaysX hFa hFn [] hTf hEx w h K) (kin : K.In h) (gn : h.Ns mainGlobals mg) {x : Str} {i : Int} (hx : giT.lookup x = some i) : ∃ t, mg x = some (.int i t) := by
  have hm := PySem.mem_of_lookup hx
  refine He.int_ok kin gn (c.t.d.facts (f := .int x i) (List.mem_append_right _ (List.mem_append_right _ ?_)))
  rcases List.mem_cons.mp hm with e | hm
  · cases e; exact List.mem_cons_self ..
  · rcases List.mem_cons.mp hm with e | hm
    · cases e; exact List.mem_cons_of_mem _ (List.mem_cons_self ..)
    · cases hm
end
end SN
end
section
set_option Elab.async false
set_option linter.all false
set_option maxRecDepth 100000
set_option maxHeartbeats 4000000
/-! H5: the defs bind their arguments. -/
namespace SN
open PySem L2 LamX NdefX PyProof.Rows
def BindOK (i : Nat) : Prop := ∀ (kV doc pm : Value) (an : Option Addr) (cdv ct : Value) (us : List Value), us.length = (parNames (topS i)).length → bindArgs (PySem.W.fnOf (defName (topS i)) (defName (topS i)) (defArgs (topS i)) (defBody (topS i)) (defScope (topS i)) .none kV doc pm an cdv ct) ⟨us, []⟩ = pure ((parNames (topS i)).zip us)
theorem bd10 : BindOK 10 := fun kV doc pm an cdv ct us h => match us, h with
  | [a], _ => rfl
theorem bd11 : BindOK 11 := fun kV doc pm an cdv ct us h => match us, h with
  | [a, b, c], _ => rfl
theorem bd12 : BindOK 12 := fun kV doc pm an cdv ct us h => match us, h with
  | [a, b], _ => rfl
theorem bd13 : BindOK 13 := fun kV doc pm an cdv ct us h => match us, h with
  | [a, b], _ => rfl
theorem bd14 : BindOK 14 := fun kV doc pm an cdv ct us h => match us, h with
  | [a, b], _ => rfl
theorem bd15 : BindOK 15 := fun kV doc pm an cdv ct us h => match us, h with
  | [a, b], _ => rfl
theorem bd16 : BindOK 16 := fun kV doc pm an cdv ct us h => match us, h with
  | [a, b, c], _ => rfl
theorem bd18 : BindOK 18 := fun kV doc pm an cdv ct us h => match us, h with
  | [a, b, c], _ => rfl
theorem bd19 : BindOK 19 := fun kV doc pm an cdv ct us h => match us, h with
  | [a], _ => rfl
theorem bd20 : BindOK 20 := fun kV doc pm an cdv ct us h => match us, h with
  | [a], _ => rfl
theorem bd21 : BindOK 21 := fun kV doc pm an cdv ct us h => match us, h with
  | [a], _ => rfl
theorem bd22 : BindOK 22 := fun kV doc pm an cdv ct us h => match us, h with
  | [a], _ => rfl
theorem bd23 : BindOK 23 := fun kV doc pm an cdv ct us h => match us, h with
  | [a], _ => rfl
theorem bd24 : BindOK 24 := fun kV doc pm an cdv ct us h => match us, h with
  | [a, b], _ => rfl
theorem bd25 : BindOK 25 := fun kV doc pm an cdv ct us h => match us, h with
  | [a], _ => rfl
theorem bd26 : BindOK 26 := fun kV doc pm an cdv ct us h => match us, h with
  | [a], _ => rfl
theorem bd28 : BindOK 28 := fun kV doc pm an cdv ct us h => match us, h with
  | [a, b], _ => rfl
theorem bd29 : BindOK 29 := fun kV doc pm an cdv ct us h => match us, h with
  | [a, b, c], _ => rfl
theorem bd30 : BindOK 30 := fun kV doc pm an cdv ct us h => match us, h with
  | [a, b], _ => rfl
theorem bd31 : BindOK 31 := fun kV doc pm an cdv ct us h => match us, h with
  | [a, b], _ => rfl
theorem bd33 : BindOK 33 := fun kV doc pm an cdv ct us h => match us, h with
  | [a], _ => rfl
theorem bd34 : BindOK 34 := fun kV doc pm an cdv ct us h => match us, h with
  | [a, b, c], _ => rfl
theorem bd36 : BindOK 36 := fun kV doc pm an cdv ct us h => match us, h with
  | [a, b], _ => rfl
theorem bd37 : BindOK 37 := fun kV doc pm an cdv ct us h => match us, h with
  | [a, b], _ => rfl
theorem bd38 : BindOK 38 := fun kV doc pm an cdv ct us h => match us, h with
  | [a], _ => rfl
theorem bd39 : BindOK 39 := fun kV doc pm an cdv ct us h => match us, h with
  | [a], _ => rfl
theorem bd40 : BindOK 40 := fun kV doc pm an cdv ct us h => match us, h with
  | [a, b], _ => rfl
theorem bd41 : BindOK 41 := fun kV doc pm an cdv ct us h => match us, h with
  | [a], _ => rfl
theorem bd42 : BindOK 42 := fun kV doc pm an cdv ct us h => match us, h with
  | [a, b], _ => rfl
theorem bd43 : BindOK 43 := fun kV doc pm an cdv ct us h => match us, h with
  | [a], _ => rfl
theorem bd44 : BindOK 44 := fun kV doc pm an cdv ct us h => match us, h with
  | [a], _ => rfl
theorem bd45 : BindOK 45 := fun kV doc pm an cdv ct us h => match us, h with
  | [a, b], _ => rfl
theorem bd46 : BindOK 46 := fun kV doc pm an cdv ct us h => match us, h with
  | [a, b], _ => rfl
theorem bd47 : BindOK 47 := fun kV doc pm an cdv ct us h => match us, h with
  | [a], _ => rfl
theorem bd49 : BindOK 49 := fun kV doc pm an cdv ct us h => match us, h with
  | [a, b], _ => rfl
theorem bd50 : BindOK 50 := fun kV doc pm an cdv ct us h => match us, h with
  | [a], _ => rfl
theorem bd51 : BindOK 51 := fun kV doc pm an cdv ct us h => match us, h with
  | [a, b], _ => rfl
theorem bd52 : BindOK 52 := fun kV doc pm an cdv ct us h => match us, h with
  | [a], _ => rfl
theorem bd53 : BindOK 53 := fun kV doc pm an cdv ct us h => match us, h with
  | [a, b, c], _ => rfl
theorem bd54 : BindOK 54 := fun kV doc pm an cdv ct us h => match us, h with
  | [a], _ => rfl
theorem bd55 : BindOK 55 := fun kV doc pm an cdv ct us h => match us, h with
  | [a], _ => rfl
theorem bd56 : BindOK 56 := fun kV doc pm an cdv ct us h => match us, h with
  | [a], _ => rfl
theorem bd57 : BindOK 57 := fun kV doc pm an cdv ct us h => match us, h with
  | [a], _ => rfl
theorem bd58 : BindOK 58 := fun kV doc pm an cdv ct us h => match us, h with
  | [a], _ => rfl
theorem bd59 : BindOK 59 := fun kV doc pm an cdv ct us h => match us, h with
  | [a], _ => rfl
theorem bd60 : BindOK 60 := fun kV doc pm an cdv ct us h => match us, h with
  | [a], _ => rfl
theorem bd61 : BindOK 61 := fun kV doc pm an cdv ct us h => match us, h with
  | [a, b], _ => rfl
theorem bd62 : BindOK 62 := fun kV doc pm an cdv ct us h => match us, h with
  | [a, b], _ => rfl
theorem bd64 : BindOK 64 := fun kV doc pm an cdv ct us h => match us, h with
  | [a, b], _ => rfl
theorem bd65 : BindOK 65 := fun kV doc pm an cdv ct us h => match us, h with
  | [a, b], _ => rfl
theorem bd66 : BindOK 66 := fun kV doc pm an cdv ct us h => match us, h with
  | [a, b], _ => rfl
theorem bd67 : BindOK 67 := fun kV doc pm an cdv ct us h => match us, h with
  | [a, b, c], _ => rfl
theorem bd68 : BindOK 68 := fun kV doc pm an cdv ct us h => match us, h with
  | [a, b, c], _ => rfl
theorem bd69 : BindOK 69 := fun kV doc pm an cdv ct us h => match us, h with
  | [a, b, c], _ => rfl
theorem bd70 : BindOK 70 := fun kV doc pm an cdv ct us h => match us, h with
  | [a, b], _ => rfl
theorem bd71 : BindOK 71 := fun kV doc pm an cdv ct us h => match us, h with
  | [a, b], _ => rfl
theorem bd72 : BindOK 72 := fun kV doc pm an cdv ct us h => match us, h with
  | [a, b], _ => rfl
theorem bd73 : BindOK 73 := fun kV doc pm an cdv ct us h => match us, h with
  | [a, b], _ => rfl
theorem bd74 : BindOK 74 := fun kV doc pm an cdv ct us h => match us, h with
  | [a, b], _ => rfl
theorem bd75 : BindOK 75 := fun kV doc pm an cdv ct us h => match us, h with
  | [a], _ => rfl
theorem bd76 : BindOK 76 := fun kV doc pm an cdv ct us h => match us, h with
  | [a, b], _ => rfl
theorem bd77 : BindOK 77 := fun kV doc pm an cdv ct us h => match us, h with
  | [a, b], _ => rfl
theorem bd78 : BindOK 78 := fun kV doc pm an cdv ct us h => match us, h with
  | [a, b], _ => rfl
theorem bd79 : BindOK 79 := fun kV doc pm an cdv ct us h => match us, h with
  | [a], _ => rfl
theorem bd80 : BindOK 80 := fun kV doc pm an cdv ct us h => match us, h with
  | [a], _ => rfl
theorem bd81 : BindOK 81 := fun kV doc pm an cdv ct us h => match us, h with
  | [a, b], _ => rfl
theorem bd82 : BindOK 82 := fun kV doc pm an cdv ct us h => match us, h with
  | [a, b, c, d], _ => rfl
theorem bd83 : BindOK 83 := fun kV doc pm an cdv ct us h => match us, h with
  | [a, b], _ => rfl
theorem bd84 : BindOK 84 := fun kV doc pm an cdv ct us h => match us, h with
  | [a], _ => rfl
theorem bd_all : ∀ i ∈ defsAt, BindOK i := by
  have e : defsAt = [10, 11, 12, 13, 14, 15, 16, 18, 19, 20, 21, 22, 23, 24, 25, 26, 28, 29, 30, 31, 33, 34, 36, 37, 38, 39, 40, 41, 42, 43, 44, 45, 46, 47, 49, 50, 51, 52, 53, 54, 55, 56, 57, 58, 59, 60, 61, 62, 64, 65, 66, 67, 68, 69, 70, 71, 72, 73, 74, 75, 76, 77, 78, 79, 80, 81, 82, 83, 84] := by kernel_rfl
  rw [e]
  intro i hi
  simp only [List.mem_cons, List.not_mem_nil, or_false] at hi
  rcases hi with rfl | rfl | rfl | rfl | rfl | rfl | rfl | rfl | rfl | rfl | rfl | rfl | rfl | rfl | rfl | rfl | rfl | rfl | rfl | rfl | rfl | rfl | rfl | rfl | rfl | rfl | rfl | rfl | rfl | rfl | rfl | rfl | rfl | rfl | rfl | rfl | rfl | rfl | rfl | rfl | rfl | rfl | rfl | rfl | rfl | rfl | rfl | rfl | rfl | rfl | rfl | rfl | rfl | rfl | rfl | rfl | rfl | rfl | rfl | rfl | rfl | rfl | rfl | rfl | rfl | rfl | rfl | rfl | rfl
  · exact bd10
  · exact bd11
  · exact bd12
  · exact bd13
  · exact bd14
  · exact bd15
  · exact bd16
  · exact bd18
  · exact bd19
  · exact bd20
  · exact bd21
  · exact bd22
  · exact bd23
  · exact bd24
  · exact bd25
  · exact bd26
  · exact bd28
  · exact bd29
  · exact bd30
  · exact bd31
  · exact bd33
  · exact bd34
  · exact bd36
  · exact bd37
  · exact bd38
  · exact bd39
  · exact bd40
  · exact bd41
  · exact bd42
  · exact bd43
  · exact bd44
  · exact bd45
  · exact bd46
  · exact bd47
  · exact bd49
  · exact bd50
  · exact bd51
  · exact bd52
  · exact bd53
  · exact bd54
  · exact bd55
  · exact bd56
  · exact bd57
  · exact bd58
  · exact bd59
  · exact bd60
  · exact bd61
  · exact bd62
  · exact bd64
  · exact bd65
  · exact bd66
  · exact bd67
  · exact bd68
  · exact bd69
  · exact bd70
  · exact bd71
  · exact bd72
  · exact bd73
  · exact bd74
  · exact bd75
  · exact bd76
  · exact bd77
  · exact bd78
  · exact bd79
  · exact bd80
  · exact bd81
  · exact bd82
  · exact bd83
  · exact bd84
end SN
end
section
set_option Elab.async false
set_option linter.all false
set_option maxRecDepth 100000
set_option maxHeartbeats 4000000
/-! H6: what each def computes, level by level. -/
namespace SN
open PySem L2 LamX NdefX PyProof.Rows
def isLam (i : Nat) : Bool := decide (i = 41) || (decide (i = 51) || decide (i = 60))
/-- the table's names -/
def tabT (K : PySem.W.Frag) : List (Addr × Str) := hTf.map fun p => ((He.cT K p).2, (p.1 ++ ".<locals>.") ++ "<lambda>")
structure WF (P : Program) (w : World) (K : PySem.W.Frag) (mg : Str → Option Value) (base : Heap) (T : List (Addr × Str)) : Prop where
  fn : ∀ i ∈ defsAt, ∃ fd, FunD K (defName (topS i)) (defName (topS i)) (defArgs (topS i)) (defBody (topS i)) (defScope (topS i)) [] [] (He.ga K (defName (topS i))) fd ∧ mg (defName (topS i)) = some (.ref (He.ga K (defName (topS i)))) ∧
    (isLam i = true → ∃ c Q, fd.code = .ref c ∧ TabB base mg c Q ∧ (Q, (defName (topS i) ++ ".<locals>.") ++ "<lambda>") ∈ T ∧ ∀ p ∈ T, p.1 = Q → p.2 = (defName (topS i) ++ ".<locals>.") ++ "<lambda>")
  free : ∀ x ∈ biNames, mg x = none
  int : ∀ x i, giT.lookup x = some i → ∃ t, mg x = some (.int i t)
def fnIx (x : Str) : Option Nat := defsAt.find? fun i => decide (defName (topS i) = x)
def semF (fu k : Nat) (Φ : Fns) (i : Nat) : Option (List PD → Option PD) :=
  if i = 29 then some (reachS fu)
  else if i = 41 then (if 3 ≤ k then some lotS else none)
  else if i = 51 then (if 3 ≤ k then some linS else none)
  else if i = 60 then (if 3 ≤ k then some (nodS Φ fu) else none)
  else if isW (topS i) then none else (srOf i).map fun srs => runD Φ fu (slN (topS i)).length srs
def phi (fu : Nat) : Nat → Fns
  | 0 => fun _ => none
  | k + 1 => fun x => (fnIx x).bind (semF fu k (phi fu k))
def semW (fu k : Nat) (Φ : Fns) (Ψ : Wns) (i : Nat) : Option (List PD → WT → Option (PD × WT)) :=
  if i = 65 then some drawS
  else if i = 66 then (if 1 ≤ k then some rowS else none)
  else if i = 69 then some (looseS Φ Ψ)
  else if i = 74 then some (lineS Φ Ψ)
  else if isW (topS i) then (srOf i).map fun srs => runW Φ Ψ fu (slN (topS i)).length srs else none
def psi (fu : Nat) : Nat → Wns
  | 0 => fun _ => none
  | k + 1 => fun x => (fnIx x).bind (semW fu k (phi fu k) (psi fu k))
theorem fnIx_some {x : Str} {i : Nat} (h : fnIx x = some i) : i ∈ defsAt ∧ defName (topS i) = x := ⟨List.mem_of_find?_eq_some h, by simpa using List.find?_some h⟩
theorem fnsT_at : (defsAt.all fun i => isW (topS i) || decide (fnsT.lookup (defName (topS i)) = some (parNames (topS i)).length)) = true := by kernel_rfl
theorem wfT_at : (defsAt.all fun i => !isW (topS i) || (decide (wfT.lookup (defName (topS i)) = some ((parNames (topS i)).length - 1)) && decide (0 < (parNames (topS i)).length))) = true := by kernel_rfl
theorem nm_all : (defsAt.map fun i => (i, isW (topS i))).all (fun p => if p.2 then ![29, 41, 51, 60].contains p.1 else ![65, 66, 69, 74].contains p.1) = true := by kernel_rfl
theorem fns_len {i : Nat} (hi : i ∈ defsAt) (hw : isW (topS i) = false) : fnsT.lookup (defName (topS i)) = some (parNames (topS i)).length := by
  have := List.all_eq_true.mp fnsT_at i hi
  rw [hw, Bool.false_or] at this
  exact of_decide_eq_true this
theorem wfs_len {i : Nat} (hi : i ∈ defsAt) (hw : isW (topS i) = true) : wfT.lookup (defName (topS i)) = some ((parNames (topS i)).length - 1) ∧ 0 < (parNames (topS i)).length := by
  have := List.all_eq_true.mp wfT_at i hi
  rw [hw, Bool.not_true, Bool.false_or, Bool.and_eq_true] at this
  exact ⟨of_decide_eq_true this.1, of_decide_eq_true this.2⟩
theorem semF_w {fu k i : Nat} {Φ : Fns} {sem} (hi : i ∈ defsAt) (h : semF fu k Φ i = some sem) : isW (topS i) = false := by
  cases q : isW (topS i) with
  | false => rfl
  | true =>
    have := List.all_eq_true.mp nm_all (i, true) (List.mem_map.mpr ⟨i, hi, by rw [q]⟩)
    simp only [if_true, Bool.not_eq_true', List.contains_eq_mem, decide_eq_false_iff_not, List.mem_cons, List.not_mem_nil, or_false, not_or] at this
    unfold semF at h
    rw [if_neg this.1, if_neg this.2.1, if_neg this.2.2.1, if_neg this.2.2.2, if_pos q] at h
    cases h
theorem semW_w {fu k i : Nat} {Φ : Fns} {Ψ : Wns} {sem} (hi : i ∈ defsAt) (h : semW fu k Φ Ψ i = some sem) : isW (topS i) = true := by
  cases q : isW (topS i) with
  | true => rfl
  | false =>
    have := List.all_eq_true.mp nm_all (i, false) (List.mem_map.mpr ⟨i, hi, by rw [q]⟩)
    simp only [Bool.false_eq_true, if_false, Bool.not_eq_true', List.contains_eq_mem, decide_eq_false_iff_not, List.mem_cons, List.not_mem_nil, or_false, not_or] at this
    unfold semW at h
    rw [if_neg this.1, if_neg this.2.1, if_neg this.2.2.1, if_neg this.2.2.2, if_neg (by rw [q]; simp)] at h
    cases h
section
variable {P : Program} {w : World} {K : PySem.W.Frag} {mg : Str → Option Value} {base : Heap} {T : List (Addr × Str)} {fu k : Nat} {Φ : Fns} {Ψ : Wns}
abbrev gAt (P : Program) (w : World) (K : PySem.W.Frag) (mg : Str → Option Value) (base : Heap) (T : List (Addr × Str)) (k i : Nat) (wl : Option Addr) (ws : Nat) : Gs := ⟨P, w, K, mg, base, k, slN (topS i), T, wl, ws⟩
def AllF (P : Program) (w : World) (K : PySem.W.Frag) (mg : Str → Option Value) (base : Heap) (T : List (Addr × Str)) (k : Nat) (Φ : Fns) : Prop := ∀ x ar sem, fnsT.lookup x = some ar → Φ x = some sem → FnAt (gAt P w K mg base T k 0 none 0) x (spD T sem ar)
def AllW (P : Program) (w : World) (K : PySem.W.Frag) (mg : Str → Option Value) (base : Heap) (T : List (Addr × Str)) (k : Nat) (Ψ : Wns) : Prop := ∀ x ar sem, wfT.lookup x = some ar → Ψ x = some sem → FnAt (gAt P w K mg base T k 0 none 0) x (spW T sem ar)
theorem bi_mem (f : Bi) : (f.nm : Str) ∈ biNames := by cases f <;> decide +kernel
theorem ty_mem (f : Ty) : (f.nm : Str) ∈ biNames := by cases f <;> decide +kernel
theorem mok_at (F : WF P w K mg base T) (h : AllF P w K mg base T k Φ) (i : Nat) (wl : Option Addr) (ws : Nat) : Mok (ccOf (topS i)) (gAt P w K mg base T k i wl ws) Φ :=
  ⟨rfl, F.int, fun f => F.free _ (bi_mem f), fun f => F.free _ (ty_mem f), F.free _ (by decide +kernel), F.free _ (by decide +kernel), F.free _ (by decide +kernel), F.free _ (by decide +kernel), fun x ar sem h1 h2 => h x ar sem h1 h2⟩
theorem wok_at (h : AllW P w K mg base T k Ψ) (i a ws : Nat) : Wok wfT ws (gAt P w K mg base T k i (some a) ws) Ψ :=
  ⟨rfl, fun _ => ⟨a, rfl⟩, fun x ar sem h1 h2 => h x ar sem h1 h2⟩
theorem fnAt_of (F : WF P w K mg base T) {i : Nat} (hi : i ∈ defsAt) {sp : Sp} (h : ∀ fd, FunD K (defName (topS i)) (defName (topS i)) (defArgs (topS i)) (defBody (topS i)) (defScope (topS i)) [] [] (He.ga K (defName (topS i))) fd →
    (isLam i = true → LDef (gAt P w K mg base T 0 i none 1000) (defName (topS i)) fd) → FnG P w K mg base k (He.ga K (defName (topS i))) fd (parNames (topS i)) sp) : FnAt (gAt P w K mg base T k 0 none 0) (defName (topS i)) sp := by
  obtain ⟨fd, F1, F2, F3⟩ := F.fn i hi
  exact ⟨_, fd, parNames (topS i), F2, h fd F1 fun z => ⟨F3 z⟩, F1.bindsN (bd_all i hi), F1.kp⟩
end
end SN
end
section
set_option Elab.async false
set_option linter.all false
set_option maxRecDepth 100000
set_option maxHeartbeats 4000000
/-! H7: each def keeps what its level promises. -/
namespace SN
open PySem L2 LamX NdefX PyProof.Rows
theorem nm29 : defName (topS 29) = "reached" := by kernel_rfl
theorem nm41 : defName (topS 41) = "in_lot_order" := by kernel_rfl
theorem nm51 : defName (topS 51) = "linear_row" := by kernel_rfl
theorem nm60 : defName (topS 60) = "nodes" := by kernel_rfl
theorem nm65 : defName (topS 65) = "_law_draw" := by kernel_rfl
theorem nm66 : defName (topS 66) = "_law_row" := by kernel_rfl
theorem nm69 : defName (topS 69) = "_law_loose" := by kernel_rfl
theorem nm74 : defName (topS 74) = "_law_line" := by kernel_rfl
theorem nm84 : defName (topS 84) = "law" := by kernel_rfl
theorem pn29 : parNames (topS 29) = (["web", "things", "start"] : List Str) := by kernel_rfl
theorem pn41 : parNames (topS 41) = (["lots"] : List Str) := by kernel_rfl
theorem pn51 : parNames (topS 51) = (["table", "low"] : List Str) := by kernel_rfl
theorem pn60 : parNames (topS 60) = (["table"] : List Str) := by kernel_rfl
theorem pn65 : parNames (topS 65) = (["_law_well_here", "_law_many"] : List Str) := by kernel_rfl
theorem pn66 : parNames (topS 66) = (["_law_well_here", "_law_size"] : List Str) := by kernel_rfl
theorem pn69 : parNames (topS 69) = (["_law_well_here", "_law_size", "_law_mood"] : List Str) := by kernel_rfl
theorem pn74 : parNames (topS 74) = (["_law_well_here", "_law_size"] : List Str) := by kernel_rfl
theorem pn84 : parNames (topS 84) = (["_law_script"] : List Str) := by kernel_rfl
theorem sl41 : slN (topS 41) = (["lots"] : List Str) := by kernel_rfl
theorem sl65 : slN (topS 65) = (["_law_well_here", "_law_many"] : List Str) := by kernel_rfl
theorem sl66 : slN (topS 66) = N66 := by kernel_rfl
section
variable {P : Program} {w : World} {K : PySem.W.Frag} {mg : Str → Option Value} {base : Heap} {T : List (Addr × Str)} {fu k : Nat} {Φ : Fns} {Ψ : Wns}
theorem sem_plain {i : Nat} {f : Addr} {fd : FuncData} {srs : List SR} (hi : i ∈ defsAt) (F : WF P w K mg base T) (h : AllF P w K mg base T k Φ) (hw : isW (topS i) = false) (hs : srOf i = some srs)
    (F1 : FunD K (defName (topS i)) (defName (topS i)) (defArgs (topS i)) (defBody (topS i)) (defScope (topS i)) [] [] f fd) : FnG P w K mg base (k + 1) f fd (parNames (topS i)) (spD T (runD Φ fu (slN (topS i)).length srs) (parNames (topS i)).length) := by
  unfold srOf at hs
  rw [hw] at hs
  exact fn_plain (g := gAt P w K mg base T k i none 1000) F1 (scOk hi) (mok_at F h i none 1000) rfl rfl hs
theorem sem_well {i : Nat} {f : Addr} {fd : FuncData} {srs : List SR} (hi : i ∈ defsAt) (F : WF P w K mg base T) (h : AllF P w K mg base T k Φ) (h2 : AllW P w K mg base T k Ψ) (hw : isW (topS i) = true) (hs : srOf i = some srs)
    (F1 : FunD K (defName (topS i)) (defName (topS i)) (defArgs (topS i)) (defBody (topS i)) (defScope (topS i)) [] [] f fd) : FnG P w K mg base (k + 1) f fd (parNames (topS i)) (spW T (runW Φ Ψ fu (slN (topS i)).length srs) ((parNames (topS i)).length - 1)) := by
  unfold srOf at hs
  rw [hw, if_pos rfl] at hs
  exact fn_well (g := gAt P w K mg base T k i none 0) F1 (scOk hi) (fun a => mok_at F h i (some a) 0) (fun a => wok_at h2 i a 0) (wfs_len hi hw).2 rfl hs
theorem semF_ok (F : WF P w K mg base T) (h : AllF P w K mg base T k Φ) {i : Nat} (hi : i ∈ defsAt) {sem : List PD → Option PD} (hs : semF fu k Φ i = some sem) : FnAt (gAt P w K mg base T (k + 1) 0 none 0) (defName (topS i)) (spD T sem (parNames (topS i)).length) := by
  refine fnAt_of F hi fun fd F1 L => ?_
  have hw := semF_w hi hs
  unfold semF at hs
  split at hs
  · rename_i e
    subst e
    cases hs
    rw [nm29] at F1 ⊢
    rw [pn29]
    exact reached_ok (g := gAt P w K mg base T k 29 none 1000) F1 (mok_at F h 29 none 1000) rfl fu
  split at hs
  · rename_i _ e
    subst e
    split at hs
    · rename_i hk
      cases hs
      rw [nm41] at F1 L ⊢
      rw [pn41]
      exact lot_ok (g := gAt P w K mg base T k 41 none 1000) F1 ⟨(L rfl).ex⟩ (mok_at F h 41 none 1000) rfl (j := k - 3) (show k = k - 3 + 3 by omega) sl41
    · cases hs
  split at hs
  · rename_i _ _ e
    subst e
    split at hs
    · rename_i hk
      cases hs
      rw [nm51] at F1 L ⊢
      rw [pn51]
      exact linear_ok (g := gAt P w K mg base T k 51 none 1000) F1 ⟨(L rfl).ex⟩ (mok_at F h 51 none 1000) rfl rfl (j := k - 3) (show k = k - 3 + 3 by omega)
    · cases hs
  split at hs
  · rename_i _ _ _ e
    subst e
    split at hs
    · rename_i hk
      cases hs
      rw [nm60] at F1 L ⊢
      rw [pn60]
      exact nodes_ok (g := gAt P w K mg base T k 60 none 1000) F1 ⟨(L rfl).ex⟩ (mok_at F h 60 none 1000) rfl rfl (j := k - 3) (show k = k - 3 + 3 by omega) fu
    · cases hs
  rw [hw] at hs
  cases q : srOf i with
  | none =>
    rw [q] at hs
    cases hs
  | some srs =>
    rw [q] at hs
    cases hs
    exact sem_plain hi F h hw q F1
theorem semW_ok (F : WF P w K mg base T) (h : AllF P w K mg base T k Φ) (h2 : AllW P w K mg base T k Ψ) (hd : 1 ≤ k → Ψ "_law_draw" = some drawS) {i : Nat} (hi : i ∈ defsAt) {sem : List PD → WT → Option (PD × WT)} (hs : semW fu k Φ Ψ i = some sem) : FnAt (gAt P w K mg base T (k + 1) 0 none 0) (defName (topS i)) (spW T sem ((parNames (topS i)).length - 1)) := by
  refine fnAt_of F hi fun fd F1 L => ?_
  have hw := semW_w hi hs
  unfold semW at hs
  split at hs
  · rename_i e
    subst e
    cases hs
    rw [nm65] at F1 ⊢
    rw [pn65]
    exact draw_ok (g := gAt P w K mg base T k 65 none 0) F1 (F.free _ (by decide +kernel)) sl65
  split at hs
  · rename_i _ e
    subst e
    split at hs
    · rename_i hk
      cases hs
      rw [nm66] at F1 ⊢
      rw [pn66]
      refine row_ok (g := gAt P w K mg base T k 66 none 0) F1 sl66 (F.free _ (by decide +kernel)) (F.free _ (by decide +kernel)) (F.free _ (by decide +kernel)) (F.free _ (by decide +kernel)) ?_
      exact h2 "_law_draw" 1 drawS (by kernel_rfl) (hd hk)
    · cases hs
  split at hs
  · rename_i _ _ e
    subst e
    cases hs
    rw [nm69] at F1 ⊢
    rw [pn69]
    exact loose_ok (g := gAt P w K mg base T k 69 none 0) F1 (fun a => mok_at F h 69 (some a) 0) (fun a => wok_at h2 69 a 0) rfl
  split at hs
  · rename_i _ _ _ e
    subst e
    cases hs
    rw [nm74] at F1 ⊢
    rw [pn74]
    exact line_ok (g := gAt P w K mg base T k 74 none 0) F1 (fun a => mok_at F h 74 (some a) 0) (fun a => wok_at h2 74 a 0) rfl
  cases q : srOf i with
  | none =>
    rw [q] at hs
    cases hs
  | some srs =>
    rw [q] at hs
    cases hs
    exact sem_well hi F h h2 hw q F1
theorem psi_draw (fu : Nat) {k : Nat} (hk : 1 ≤ k) : psi fu k "_law_draw" = some drawS := by
  cases k with
  | zero => omega
  | succ k =>
    show (fnIx "_law_draw").bind (semW fu k (phi fu k) (psi fu k)) = some drawS
    rw [show fnIx "_law_draw" = some 65 by kernel_rfl]
    rfl
theorem all_at (F : WF P w K mg base T) (fu : Nat) : ∀ k, AllF P w K mg base T k (phi fu k) ∧ AllW P w K mg base T k (psi fu k)
  | 0 => ⟨fun x ar sem h1 h2 => (by cases h2), fun x ar sem h1 h2 => (by cases h2)⟩
  | k + 1 => by
    obtain ⟨h1, h2⟩ := all_at F fu k
    refine ⟨fun x ar sem q1 q2 => ?_, fun x ar sem q1 q2 => ?_⟩
    · cases e : fnIx x with
      | none =>
        unfold phi at q2
        rw [e] at q2
        cases q2
      | some i =>
        unfold phi at q2
        rw [e] at q2
        obtain ⟨hi, rfl⟩ := fnIx_some e
        rw [fns_len hi (semF_w hi q2)] at q1
        cases q1
        exact semF_ok F h1 hi q2
    · cases e : fnIx x with
      | none =>
        unfold psi at q2
        rw [e] at q2
        cases q2
      | some i =>
        unfold psi at q2
        rw [e] at q2
        obtain ⟨hi, rfl⟩ := fnIx_some e
        rw [(wfs_len hi (semW_w hi q2)).1] at q1
        cases q1
        exact semW_ok F h1 h2 (fun hk => psi_draw fu hk) hi q2
theorem law_at (F : WF P w K mg base T) (fu k : Nat) {f : Addr} {fd : FuncData} (F1 : FunD K (defName (topS 84)) (defName (topS 84)) (defArgs (topS 84)) (defBody (topS 84)) (defScope (topS 84)) [] [] f fd) :
    FnG P w K mg base (k + 1) f fd ["_law_script"] (spLaw T K (lawOk (phi fu k) (psi fu k) fu)) := by
  obtain ⟨h1, h2⟩ := all_at F fu k
  rw [nm84] at F1
  exact law_ok (g := gAt P w K mg base T k 84 none 2) F1 rfl (mok_at F h1 84 none 2) (fun p => mok_at F h1 84 (some p) 2) (fun p => wok_at h2 84 p 2)
end
end SN
end
section
set_option Elab.async false
set_option linter.all false
set_option maxRecDepth 100000
set_option maxHeartbeats 0
/-! H2: the head's run, by the kernel. -/
namespace SN
open PySem L2 LamX NdefX PyProof.Rows
theorem hRun (w : World) : HandSHeadRun.RunEq hR (PySem.W.view hR.prog [84]) hHk hOb 6000 looseN w := by
  intro os
  kernel_rfl
end SN
end
section
set_option Elab.async false
set_option linter.all false
set_option maxRecDepth 100000
set_option maxHeartbeats 4000000
/-! H8: the row holds where the plain law holds. -/
namespace SN
open PySem L2 LamX NdefX PyProof.Rows
section
variable {w : World} {h : Heap} {K : PySem.W.Frag} {mg : Str → Option Value}
theorem tab_inj (hx : hEx K = true) : ∀ p ∈ hTf, ∀ q ∈ hTf, (He.cT K p).2 = (He.cT K q).2 → p = q := by
  unfold hEx at hx
  simp only [Bool.and_eq_true, decide_eq_true_eq] at hx
  obtain ⟨x1, x2, x3⟩ := hx
  intro p hp q hq e
  unfold hTf at hp hq
  simp only [List.mem_cons, List.not_mem_nil, or_false] at hp hq
  rcases hp with rfl | rfl | rfl <;> rcases hq with rfl | rfl | rfl
  · rfl
  · exact absurd e x1
  · exact absurd e x2
  · exact absurd e.symm x1
  · rfl
  · exact absurd e x3
  · exact absurd e.symm x2
  · exact absurd e.symm x3
  · rfl
theorem wf_at (c : He.SaysX hFa hFn [] hTf hEx w h K) (kin : K.In h) (gn : h.Ns mainGlobals mg) {base : Heap} (tb : ∀ z ∈ hTf.map (He.cT K), TabB base mg z.1 z.2) : WF prg w K mg base (tabT K) := by
  refine ⟨fun i hi => ?_, fun x hx => free_at c kin gn hx, fun x i hx => int_at c kin gn hx⟩
  obtain ⟨fd, F⟩ := fun_at c hi
  refine ⟨fd, F, mg_at c kin gn hi, fun hl => ?_⟩
  obtain ⟨oc, od, dV, kV, doc, pm, an, cdv, ct, osl, e, lk, hcd, _, _⟩ := F.ex
  obtain ⟨cc, rfl⟩ := He.codeIn_ref hcd
  have hcode : fd.code = .ref cc := by rw [e]
  have hmem : (defName (topS i), (none : Option Str)) ∈ hTf := by
    unfold isLam at hl
    simp only [Bool.or_eq_true, decide_eq_true_eq] at hl
    rcases hl with rfl | rfl | rfl
    · rw [nm41]; decide +kernel
    · rw [nm51]; decide +kernel
    · rw [nm60]; decide +kernel
  have hco : He.codeOf K (defName (topS i), none) = cc := He.codeOf_eq (p := (defName (topS i), none)) lk hcode
  refine ⟨cc, (He.cT K (defName (topS i), none)).2, hcode, ?_, List.mem_map.mpr ⟨_, hmem, rfl⟩, fun p hp hq => ?_⟩
  · have := tb _ (List.mem_map.mpr ⟨_, hmem, rfl⟩)
    rw [show (He.cT K (defName (topS i), none)).1 = cc from hco] at this
    exact this
  · obtain ⟨p', hp', rfl⟩ := List.mem_map.mp hp
    rw [tab_inj c.more _ hp' _ hmem hq]
theorem trip_nil : TriplesOk (#[] : Array Value).toList := by
  first | exact .nil | exact trivial | (unfold TriplesOk; simp)
theorem tabs_of {H : Hp} (h : ∀ z ∈ hTf.map (He.cT K), H z.2 = some (.tbl #[])) : Tabs (tabT K) H := by
  intro p hp
  obtain ⟨q, hq, rfl⟩ := List.mem_map.mp hp
  exact ⟨#[], h _ (List.mem_map.mpr ⟨q, hq, rfl⟩), trip_nil, fun pos cv e => (by cases e)⟩
end
/-- fuel, level -/
abbrev FU : Nat := 60
abbrev LV : Nat := 60
theorem room_lv : Room (LV + 1) callerA := ⟨rfl, by decide, by decide⟩
theorem top84 : HandSHeadRun.topDef prg 84 = ⟨defName (topS 84), defArgs (topS 84), defBody (topS 84), defScope (topS 84), (HandSHeadRun.topDef prg 84).pos⟩ := by kernel_rfl
end SN
open PySem PySem.W PySem.Calls PyProof.Rows
theorem SN.row_of (hp : ∀ c : Int, SN.lawOk (SN.phi SN.FU SN.LV) (SN.psi SN.FU SN.LV) SN.FU c) : PySem.Challenge.rw_seenasone_k23_whole_one_of_three_kinds.Holds := by
  w_on; o_law
  refine HandSHeadRun.head_any (r := SN.hR) (q := view SN.hR.prog [84]) (H := SN.hHk) (ob := SN.hOb) (M := 6000) (loose := SN.looseN) (d := HandSHeadRun.topDef SN.hR.prog 84) (kwd := []) SN.hOb_eq
    (by kernel_rfl) (fun s => by kernel_rfl) SN.hRun (by kernel_rfl) (by kernel_rfl) (by kernel_rfl) (by rfl) (by first | assumption | decide +kernel) (by decide +kernel) ⟨rfl, rfl, rfl, rfl, rfl, by decide +kernel⟩ ?hw ?hc
  case hw => w_witness2
  case hc =>
    refine Att.attach_callB (l := PySem.Challenge.rw_seenasone_k23_whole_one_of_three_kinds) (n := 63) rfl (by kernel_rfl) fun w s₀ s₁ mg mb fa o pm cd doc a vs ns G Y ho hd hcd hmg hobj hints hlen hbits hg => ?_
    obtain ⟨K, KX, c⟩ := Y
    have nm : (HandSHeadRun.topDef SN.hR.prog 84).name = SN.defName (SN.topS 84) := by kernel_rfl
    rw [nm] at hmg
    obtain ⟨fd, F⟩ := SN.fun_at c (i := 84) (by decide +kernel)
    have e := hmg.symm.trans (SN.mg_at c KX G.T.g (i := 84) (by decide +kernel))
    cases e
    have bnd : ∀ (s : Shared) (u : Value), PySem.BindsTo s fd ⟨[u], []⟩ [("_law_script", u)] := fun s u => by
      have := L2.FunD.bindsA F (SN.bd_all 84 (by decide +kernel)) s [u] (by rw [SN.pn84]; rfl)
      rw [SN.pn84] at this
      exact this
    refine SN.law_callG (k := SN.LV + 1) (cs := SN.hTf.map (He.cT K)) (sp := SN.spLaw (SN.tabT K) K (SN.lawOk (SN.phi SN.FU SN.LV) (SN.psi SN.FU SN.LV) SN.FU)) KX G.T.g G.T.b G.T.builtins G.T.nolimit hg (fun z hz => ?_) (fun z hz => ?_) (fun z hz => ?_) G.T.bmain hobj hints (Nat.le_trans hlen (by decide)) SN.room_lv
      (fun base kb gb tb => SN.law_at (SN.wf_at c KX G.T.g tb) SN.FU SN.LV F) bnd (fun H ht hs => ⟨a, ns, rfl, hs, SN.tabs_of ht, fun c _ => hp c, fun _ => rfl⟩)
    · obtain ⟨p, hp, rfl⟩ := List.mem_map.mp hz
      exact c.empty p hp
    · obtain ⟨p, hp, rfl⟩ := List.mem_map.mp hz
      exact c.out p hp
    · obtain ⟨p, hp, rfl⟩ := List.mem_map.mp hz
      exact PySem.W.codeHd_of_K KX (c.hd p hp)
end
section
set_option Elab.async false
set_option linter.all false
set_option maxRecDepth 100000
set_option maxHeartbeats 4000000
/-! P1: the small language's form of each def, printed by the compiler. -/
namespace SN
open PySem L2 LamX NdefX PyProof.Rows
def q10 : List SR := [(.ret [] (.pure (.andV (.isa .int (.var 0)) (.notV (.isa .bool (.var 0))))))]
theorem sr10 : srOf 10 = some q10 := by kernel_rfl
theorem ph10 (fu k : Nat) : phi fu (k + 1) "is_integer" = some (runD (phi fu k) fu 1 q10) := by
  show (fnIx "is_integer").bind (semF fu k (phi fu k)) = _
  rw [show fnIx "is_integer" = some 10 by kernel_rfl]
  show semF fu k (phi fu k) 10 = _
  unfold semF
  rw [if_neg (by decide), if_neg (by decide), if_neg (by decide), if_neg (by decide), if_neg (show ¬ isW (topS 10) = true by decide +kernel), sr10, show slN (topS 10) = slN (topS 10) from rfl]
  exact congrArg (fun m => some (runD (phi fu k) fu m q10)) (show (slN (topS 10)).length = 1 by kernel_rfl)
def q11 : List SR := [(.ret [] (.pure (.andV (.fn "is_integer" [(.var 1)]) (.chain .LtE .LtE (.var 0) (.var 1) (.var 2)))))]
theorem sr11 : srOf 11 = some q11 := by kernel_rfl
theorem ph11 (fu k : Nat) : phi fu (k + 1) "is_between" = some (runD (phi fu k) fu 3 q11) := by
  show (fnIx "is_between").bind (semF fu k (phi fu k)) = _
  rw [show fnIx "is_between" = some 11 by kernel_rfl]
  show semF fu k (phi fu k) 11 = _
  unfold semF
  rw [if_neg (by decide), if_neg (by decide), if_neg (by decide), if_neg (by decide), if_neg (show ¬ isW (topS 11) = true by decide +kernel), sr11, show slN (topS 11) = slN (topS 11) from rfl]
  exact congrArg (fun m => some (runD (phi fu k) fu m q11)) (show (slN (topS 11)).length = 3 by kernel_rfl)
def q12 : List SR := [(.ret [] (.pure (.andV (.isa .tuple (.var 1)) (.cmp .Eq (.bi1 .len (.var 1)) (.var 0)))))]
theorem sr12 : srOf 12 = some q12 := by kernel_rfl
theorem ph12 (fu k : Nat) : phi fu (k + 1) "is_tuple_of" = some (runD (phi fu k) fu 2 q12) := by
  show (fnIx "is_tuple_of").bind (semF fu k (phi fu k)) = _
  rw [show fnIx "is_tuple_of" = some 12 by kernel_rfl]
  show semF fu k (phi fu k) 12 = _
  unfold semF
  rw [if_neg (by decide), if_neg (by decide), if_neg (by decide), if_neg (by decide), if_neg (show ¬ isW (topS 12) = true by decide +kernel), sr12, show slN (topS 12) = slN (topS 12) from rfl]
  exact congrArg (fun m => some (runD (phi fu k) fu m q12)) (show (slN (topS 12)).length = 2 by kernel_rfl)
def q13 : List SR := [(.ite (.tOr (.tNot (.tVal (.isa .tuple (.var 1)))) (.tCmp .Eq (.bi1 .len (.var 1)) (.lit (.int (0))))) [(.ret [] (.pure (.lit (.bool false))))] []), (.ite (.tNot (.tVal (.bi1 .all (.lc (.tVal (.var 1)) (.one 2) [2] (.fn "is_between" [(.lit (.int (0))), (.var 2), (.bin .Sub (.var 0) (.lit (.int (1))))]))))) [(.ret [] (.pure (.lit (.bool false))))] []), (.ret [] (.pure (.bi1 .all (.lc (.rng1 (.bin .Sub (.bi1 .len (.var 1)) (.lit (.int (1))))) (.one 3) [3] (.cmp .Lt (.ix (.var 1) (.var 3)) (.ix (.var 1) (.bin .Add (.var 3) (.lit (.int (1))))))))))]
theorem sr13 : srOf 13 = some q13 := by kernel_rfl
theorem ph13 (fu k : Nat) : phi fu (k + 1) "is_lot_of" = some (runD (phi fu k) fu 4 q13) := by
  show (fnIx "is_lot_of").bind (semF fu k (phi fu k)) = _
  rw [show fnIx "is_lot_of" = some 13 by kernel_rfl]
  show semF fu k (phi fu k) 13 = _
  unfold semF
  rw [if_neg (by decide), if_neg (by decide), if_neg (by decide), if_neg (by decide), if_neg (show ¬ isW (topS 13) = true by decide +kernel), sr13, show slN (topS 13) = slN (topS 13) from rfl]
  exact congrArg (fun m => some (runD (phi fu k) fu m q13)) (show (slN (topS 13)).length = 4 by kernel_rfl)
def q14 : List SR := [(.ite (.tNot (.tVal (.fn "is_lot_of" [(.var 0), (.var 1)]))) [.rai] [])]
theorem sr14 : srOf 14 = some q14 := by kernel_rfl
theorem ph14 (fu k : Nat) : phi fu (k + 1) "check_lot" = some (runD (phi fu k) fu 2 q14) := by
  show (fnIx "check_lot").bind (semF fu k (phi fu k)) = _
  rw [show fnIx "check_lot" = some 14 by kernel_rfl]
  show semF fu k (phi fu k) 14 = _
  unfold semF
  rw [if_neg (by decide), if_neg (by decide), if_neg (by decide), if_neg (by decide), if_neg (show ¬ isW (topS 14) = true by decide +kernel), sr14, show slN (topS 14) = slN (topS 14) from rfl]
  exact congrArg (fun m => some (runD (phi fu k) fu m q14)) (show (slN (topS 14)).length = 2 by kernel_rfl)
def q15 : List SR := [(.ite (.tNot (.tVal (.fn "is_between" [(.lit (.int (0))), (.var 1), (.bin .Sub (.var 0) (.lit (.int (1))))]))) [.rai] [])]
theorem sr15 : srOf 15 = some q15 := by kernel_rfl
theorem ph15 (fu k : Nat) : phi fu (k + 1) "check_thing" = some (runD (phi fu k) fu 2 q15) := by
  show (fnIx "check_thing").bind (semF fu k (phi fu k)) = _
  rw [show fnIx "check_thing" = some 15 by kernel_rfl]
  show semF fu k (phi fu k) 15 = _
  unfold semF
  rw [if_neg (by decide), if_neg (by decide), if_neg (by decide), if_neg (by decide), if_neg (show ¬ isW (topS 15) = true by decide +kernel), sr15, show slN (topS 15) = slN (topS 15) from rfl]
  exact congrArg (fun m => some (runD (phi fu k) fu m q15)) (show (slN (topS 15)).length = 2 by kernel_rfl)
def q16 : List SR := [(.ite (.tOr (.tNot (.tVal (.fn "is_between" [(.lit (.int (0))), (.var 1), (.bin .Sub (.var 0) (.lit (.int (1))))]))) (.tCmp .Eq (.var 1) (.var 2))) [.rai] [])]
theorem sr16 : srOf 16 = some q16 := by kernel_rfl
theorem ph16 (fu k : Nat) : phi fu (k + 1) "check_other" = some (runD (phi fu k) fu 3 q16) := by
  show (fnIx "check_other").bind (semF fu k (phi fu k)) = _
  rw [show fnIx "check_other" = some 16 by kernel_rfl]
  show semF fu k (phi fu k) 16 = _
  unfold semF
  rw [if_neg (by decide), if_neg (by decide), if_neg (by decide), if_neg (by decide), if_neg (show ¬ isW (topS 16) = true by decide +kernel), sr16, show slN (topS 16) = slN (topS 16) from rfl]
  exact congrArg (fun m => some (runD (phi fu k) fu m q16)) (show (slN (topS 16)).length = 3 by kernel_rfl)
def q18 : List SR := [(.ite (.tOr (.tNot (.tVal (.fn "is_tuple_of" [(.var 1), (.var 0)]))) (.tNot (.tVal (.bi1 .all (.lc (.tVal (.var 0)) (.one 3) [3] (.fn "is_between" [(.lit (.int (0))), (.var 3), (.lit (.int (9)))])))))) [(.ret [] (.pure (.lit (.bool false))))] []), (.ret [] (.pure (.cmp .Eq (.ix (.var 0) (.var 2)) (.lit (.int (0))))))]
theorem sr18 : srOf 18 = some q18 := by kernel_rfl
theorem ph18 (fu k : Nat) : phi fu (k + 1) "is_line" = some (runD (phi fu k) fu 4 q18) := by
  show (fnIx "is_line").bind (semF fu k (phi fu k)) = _
  rw [show fnIx "is_line" = some 18 by kernel_rfl]
  show semF fu k (phi fu k) 18 = _
  unfold semF
  rw [if_neg (by decide), if_neg (by decide), if_neg (by decide), if_neg (by decide), if_neg (show ¬ isW (topS 18) = true by decide +kernel), sr18, show slN (topS 18) = slN (topS 18) from rfl]
  exact congrArg (fun m => some (runD (phi fu k) fu m q18)) (show (slN (topS 18)).length = 4 by kernel_rfl)
def q19 : List SR := [(.ite (.tOr (.tNot (.tVal (.isa .tuple (.var 0)))) (.tNot (.tChain .LtE .LtE (.lit (.int (1))) (.bi1 .len (.var 0)) (.lit (.int (12)))))) [(.ret [] (.pure (.lit (.bool false))))] []), (.ret [] (.pure (.bi1 .all (.lc (.enum (.var 0)) (.two 1 2) [1, 2] (.fn "is_line" [(.var 2), (.bi1 .len (.var 0)), (.var 1)])))))]
theorem sr19 : srOf 19 = some q19 := by kernel_rfl
theorem ph19 (fu k : Nat) : phi fu (k + 1) "is_table" = some (runD (phi fu k) fu 3 q19) := by
  show (fnIx "is_table").bind (semF fu k (phi fu k)) = _
  rw [show fnIx "is_table" = some 19 by kernel_rfl]
  show semF fu k (phi fu k) 19 = _
  unfold semF
  rw [if_neg (by decide), if_neg (by decide), if_neg (by decide), if_neg (by decide), if_neg (show ¬ isW (topS 19) = true by decide +kernel), sr19, show slN (topS 19) = slN (topS 19) from rfl]
  exact congrArg (fun m => some (runD (phi fu k) fu m q19)) (show (slN (topS 19)).length = 3 by kernel_rfl)
def q20 : List SR := [(.ret [] (.pure (.bi1 .all (.lc2 (.tVal (.var 0)) (.one 1) [1, 2] (.tVal (.var 1)) (.one 2) [2] (.cmp .LtE (.var 2) (.lit (.int (1))))))))]
theorem sr20 : srOf 20 = some q20 := by kernel_rfl
theorem ph20 (fu k : Nat) : phi fu (k + 1) "has_two_colours" = some (runD (phi fu k) fu 3 q20) := by
  show (fnIx "has_two_colours").bind (semF fu k (phi fu k)) = _
  rw [show fnIx "has_two_colours" = some 20 by kernel_rfl]
  show semF fu k (phi fu k) 20 = _
  unfold semF
  rw [if_neg (by decide), if_neg (by decide), if_neg (by decide), if_neg (by decide), if_neg (show ¬ isW (topS 20) = true by decide +kernel), sr20, show slN (topS 20) = slN (topS 20) from rfl]
  exact congrArg (fun m => some (runD (phi fu k) fu m q20)) (show (slN (topS 20)).length = 3 by kernel_rfl)
def q21 : List SR := [(.ite (.tOr (.tNot (.tVal (.fn "is_table" [(.var 0)]))) (.tNot (.tVal (.fn "has_two_colours" [(.var 0)])))) [(.ret [] (.pure (.lit (.bool false))))] []), (.ret [] (.pure (.bi1 .all (.lc2 (.rng1 (.bi1 .len (.var 0))) (.one 1) [1, 2] (.rng1 (.var 1)) (.one 2) [2] (.cmp .Eq (.ix (.ix (.var 0) (.var 1)) (.var 2)) (.ix (.ix (.var 0) (.var 2)) (.var 1)))))))]
theorem sr21 : srOf 21 = some q21 := by kernel_rfl
theorem ph21 (fu k : Nat) : phi fu (k + 1) "is_web" = some (runD (phi fu k) fu 3 q21) := by
  show (fnIx "is_web").bind (semF fu k (phi fu k)) = _
  rw [show fnIx "is_web" = some 21 by kernel_rfl]
  show semF fu k (phi fu k) 21 = _
  unfold semF
  rw [if_neg (by decide), if_neg (by decide), if_neg (by decide), if_neg (by decide), if_neg (show ¬ isW (topS 21) = true by decide +kernel), sr21, show slN (topS 21) = slN (topS 21) from rfl]
  exact congrArg (fun m => some (runD (phi fu k) fu m q21)) (show (slN (topS 21)).length = 3 by kernel_rfl)
def q22 : List SR := [(.ite (.tNot (.tVal (.fn "is_table" [(.var 0)]))) [.rai] [])]
theorem sr22 : srOf 22 = some q22 := by kernel_rfl
theorem ph22 (fu k : Nat) : phi fu (k + 1) "check_table" = some (runD (phi fu k) fu 1 q22) := by
  show (fnIx "check_table").bind (semF fu k (phi fu k)) = _
  rw [show fnIx "check_table" = some 22 by kernel_rfl]
  show semF fu k (phi fu k) 22 = _
  unfold semF
  rw [if_neg (by decide), if_neg (by decide), if_neg (by decide), if_neg (by decide), if_neg (show ¬ isW (topS 22) = true by decide +kernel), sr22, show slN (topS 22) = slN (topS 22) from rfl]
  exact congrArg (fun m => some (runD (phi fu k) fu m q22)) (show (slN (topS 22)).length = 1 by kernel_rfl)
def q23 : List SR := [(.ite (.tNot (.tVal (.fn "is_web" [(.var 0)]))) [.rai] [])]
theorem sr23 : srOf 23 = some q23 := by kernel_rfl
theorem ph23 (fu k : Nat) : phi fu (k + 1) "check_web" = some (runD (phi fu k) fu 1 q23) := by
  show (fnIx "check_web").bind (semF fu k (phi fu k)) = _
  rw [show fnIx "check_web" = some 23 by kernel_rfl]
  show semF fu k (phi fu k) 23 = _
  unfold semF
  rw [if_neg (by decide), if_neg (by decide), if_neg (by decide), if_neg (by decide), if_neg (show ¬ isW (topS 23) = true by decide +kernel), sr23, show slN (topS 23) = slN (topS 23) from rfl]
  exact congrArg (fun m => some (runD (phi fu k) fu m q23)) (show (slN (topS 23)).length = 1 by kernel_rfl)
def q24 : List SR := [(.ret [] (.pure (.bi1 .tuple (.lc (.tVal (.var 1)) (.one 2) [2] (.bi1 .tuple (.lc (.tVal (.var 1)) (.one 3) [3] (.ix (.ix (.var 0) (.var 2)) (.var 3))))))))]
theorem sr24 : srOf 24 = some q24 := by kernel_rfl
theorem ph24 (fu k : Nat) : phi fu (k + 1) "table_part" = some (runD (phi fu k) fu 4 q24) := by
  show (fnIx "table_part").bind (semF fu k (phi fu k)) = _
  rw [show fnIx "table_part" = some 24 by kernel_rfl]
  show semF fu k (phi fu k) 24 = _
  unfold semF
  rw [if_neg (by decide), if_neg (by decide), if_neg (by decide), if_neg (by decide), if_neg (show ¬ isW (topS 24) = true by decide +kernel), sr24, show slN (topS 24) = slN (topS 24) from rfl]
  exact congrArg (fun m => some (runD (phi fu k) fu m q24)) (show (slN (topS 24)).length = 4 by kernel_rfl)
def q25 : List SR := [(.ret [] (.pure (.bi1 .tuple (.lc (.rng1 (.bi1 .len (.var 0))) (.one 1) [1] (.bi1 .tuple (.lc (.rng1 (.bi1 .len (.var 0))) (.one 2) [2] (.ite (.tCmp .Eq (.var 1) (.var 2)) (.lit (.int (0))) (.bin .Sub (.lit (.int (1))) (.ix (.ix (.var 0) (.var 1)) (.var 2))))))))))]
theorem sr25 : srOf 25 = some q25 := by kernel_rfl
theorem ph25 (fu k : Nat) : phi fu (k + 1) "web_mirrored" = some (runD (phi fu k) fu 3 q25) := by
  show (fnIx "web_mirrored").bind (semF fu k (phi fu k)) = _
  rw [show fnIx "web_mirrored" = some 25 by kernel_rfl]
  show semF fu k (phi fu k) 25 = _
  unfold semF
  rw [if_neg (by decide), if_neg (by decide), if_neg (by decide), if_neg (by decide), if_neg (show ¬ isW (topS 25) = true by decide +kernel), sr25, show slN (topS 25) = slN (topS 25) from rfl]
  exact congrArg (fun m => some (runD (phi fu k) fu m q25)) (show (slN (topS 25)).length = 3 by kernel_rfl)
def q26 : List SR := [(.drop (.fn "check_web" [(.var 0)])), (.ret [] (.pure (.fn "web_mirrored" [(.var 0)])))]
theorem sr26 : srOf 26 = some q26 := by kernel_rfl
theorem ph26 (fu k : Nat) : phi fu (k + 1) "mirrored" = some (runD (phi fu k) fu 1 q26) := by
  show (fnIx "mirrored").bind (semF fu k (phi fu k)) = _
  rw [show fnIx "mirrored" = some 26 by kernel_rfl]
  show semF fu k (phi fu k) 26 = _
  unfold semF
  rw [if_neg (by decide), if_neg (by decide), if_neg (by decide), if_neg (by decide), if_neg (show ¬ isW (topS 26) = true by decide +kernel), sr26, show slN (topS 26) = slN (topS 26) from rfl]
  exact congrArg (fun m => some (runD (phi fu k) fu m q26)) (show (slN (topS 26)).length = 1 by kernel_rfl)
def q28 : List SR := [(.ret [] (.pure (.lcIf (.rng1 (.bi1 .len (.var 0))) (.one 2) [2] (.tCmp .Eq (.ix (.ix (.var 0) (.var 1)) (.var 2)) (.lit (.int (1)))) (.var 2))))]
theorem sr28 : srOf 28 = some q28 := by kernel_rfl
theorem ph28 (fu k : Nat) : phi fu (k + 1) "neighbours" = some (runD (phi fu k) fu 3 q28) := by
  show (fnIx "neighbours").bind (semF fu k (phi fu k)) = _
  rw [show fnIx "neighbours" = some 28 by kernel_rfl]
  show semF fu k (phi fu k) 28 = _
  unfold semF
  rw [if_neg (by decide), if_neg (by decide), if_neg (by decide), if_neg (by decide), if_neg (show ¬ isW (topS 28) = true by decide +kernel), sr28, show slN (topS 28) = slN (topS 28) from rfl]
  exact congrArg (fun m => some (runD (phi fu k) fu m q28)) (show (slN (topS 28)).length = 3 by kernel_rfl)
def q30 : List SR := [(.own 2 [] (.lst [])), (.iter (.one 3) [] (.tVal (.var 1)) [(.ite (.tNot (.tVal (.bi1 .any (.lc (.tVal (.var 2)) (.one 4) [4] (.cmp .In (.var 3) (.var 4)))))) [(.app 2 [] (.fn "reached" [(.var 0), (.var 1), (.var 3)]))] [])]), (.ret [2] (.pure (.var 2)))]
theorem sr30 : srOf 30 = some q30 := by kernel_rfl
theorem ph30 (fu k : Nat) : phi fu (k + 1) "pieces_of" = some (runD (phi fu k) fu 5 q30) := by
  show (fnIx "pieces_of").bind (semF fu k (phi fu k)) = _
  rw [show fnIx "pieces_of" = some 30 by kernel_rfl]
  show semF fu k (phi fu k) 30 = _
  unfold semF
  rw [if_neg (by decide), if_neg (by decide), if_neg (by decide), if_neg (by decide), if_neg (show ¬ isW (topS 30) = true by decide +kernel), sr30, show slN (topS 30) = slN (topS 30) from rfl]
  exact congrArg (fun m => some (runD (phi fu k) fu m q30)) (show (slN (topS 30)).length = 5 by kernel_rfl)
def q31 : List SR := [(.own 2 [] (.bin .Mult (.lst [(.lit .none)]) (.bi1 .len (.var 0)))), (.put 2 (.var 1) (.lit (.int (0)))), (.set 3 [] (.pure (.lst [(.var 1)]))), (.whl (.tVal (.var 3)) [(.own 4 [] (.lst [])), (.iter (.one 5) [] (.tVal (.var 3)) [(.iter (.one 6) [] (.tVal (.fn "neighbours" [(.var 0), (.var 5)])) [(.ite (.tCmp .Is (.ix (.var 2) (.var 6)) (.lit .none)) [(.put 2 (.var 6) (.bin .Add (.ix (.var 2) (.var 5)) (.lit (.int (1))))), (.app 4 [] (.var 6))] [])])]), (.set 3 [4] (.pure (.bi1 .list (.var 4))))]), (.ret [2] (.pure (.var 2)))]
theorem sr31 : srOf 31 = some q31 := by kernel_rfl
theorem ph31 (fu k : Nat) : phi fu (k + 1) "distances_from" = some (runD (phi fu k) fu 7 q31) := by
  show (fnIx "distances_from").bind (semF fu k (phi fu k)) = _
  rw [show fnIx "distances_from" = some 31 by kernel_rfl]
  show semF fu k (phi fu k) 31 = _
  unfold semF
  rw [if_neg (by decide), if_neg (by decide), if_neg (by decide), if_neg (by decide), if_neg (show ¬ isW (topS 31) = true by decide +kernel), sr31, show slN (topS 31) = slN (topS 31) from rfl]
  exact congrArg (fun m => some (runD (phi fu k) fu m q31)) (show (slN (topS 31)).length = 7 by kernel_rfl)
def q33 : List SR := [(.drop (.fn "check_web" [(.var 0)])), (.ret [] (.pure (.fn "pieces_of" [(.var 0), (.lrng (.bi1 .len (.var 0)))])))]
theorem sr33 : srOf 33 = some q33 := by kernel_rfl
theorem ph33 (fu k : Nat) : phi fu (k + 1) "pieces" = some (runD (phi fu k) fu 1 q33) := by
  show (fnIx "pieces").bind (semF fu k (phi fu k)) = _
  rw [show fnIx "pieces" = some 33 by kernel_rfl]
  show semF fu k (phi fu k) 33 = _
  unfold semF
  rw [if_neg (by decide), if_neg (by decide), if_neg (by decide), if_neg (by decide), if_neg (show ¬ isW (topS 33) = true by decide +kernel), sr33, show slN (topS 33) = slN (topS 33) from rfl]
  exact congrArg (fun m => some (runD (phi fu k) fu m q33)) (show (slN (topS 33)).length = 1 by kernel_rfl)
def q34 : List SR := [(.drop (.fn "check_web" [(.var 0)])), (.drop (.fn "check_thing" [(.bi1 .len (.var 0)), (.var 1)])), (.drop (.fn "check_other" [(.bi1 .len (.var 0)), (.var 2), (.var 1)])), (.ret [] (.pure (.ix (.fn "distances_from" [(.var 0), (.var 1)]) (.var 2))))]
theorem sr34 : srOf 34 = some q34 := by kernel_rfl
theorem ph34 (fu k : Nat) : phi fu (k + 1) "distance" = some (runD (phi fu k) fu 3 q34) := by
  show (fnIx "distance").bind (semF fu k (phi fu k)) = _
  rw [show fnIx "distance" = some 34 by kernel_rfl]
  show semF fu k (phi fu k) 34 = _
  unfold semF
  rw [if_neg (by decide), if_neg (by decide), if_neg (by decide), if_neg (by decide), if_neg (show ¬ isW (topS 34) = true by decide +kernel), sr34, show slN (topS 34) = slN (topS 34) from rfl]
  exact congrArg (fun m => some (runD (phi fu k) fu m q34)) (show (slN (topS 34)).length = 3 by kernel_rfl)
def q36 : List SR := [(.set 2 [] (.pure (.bi1 .len (.var 0)))), (.own 3 [] (.lst [])), (.iter (.one 4) [] (.rng1 (.var 2)) [(.set 5 [] (.pure (.lit (.int (0))))), (.iter (.one 6) [] (.rng1 (.var 2)) [(.ite (.tOr (.tCmp .NotEq (.ix (.ix (.var 0) (.var 6)) (.var 4)) (.ix (.ix (.var 0) (.var 6)) (.var 1))) (.tCmp .NotEq (.ix (.ix (.var 0) (.var 4)) (.var 6)) (.ix (.ix (.var 0) (.var 1)) (.var 6)))) [(.aug 5 .BitOr (.bin .LShift (.lit (.int (1))) (.var 6)))] [])]), (.app 3 [] (.var 5))]), (.ret [3] (.pure (.var 3)))]
theorem sr36 : srOf 36 = some q36 := by kernel_rfl
theorem ph36 (fu k : Nat) : phi fu (k + 1) "split_masks" = some (runD (phi fu k) fu 7 q36) := by
  show (fnIx "split_masks").bind (semF fu k (phi fu k)) = _
  rw [show fnIx "split_masks" = some 36 by kernel_rfl]
  show semF fu k (phi fu k) 36 = _
  unfold semF
  rw [if_neg (by decide), if_neg (by decide), if_neg (by decide), if_neg (by decide), if_neg (show ¬ isW (topS 36) = true by decide +kernel), sr36, show slN (topS 36) = slN (topS 36) from rfl]
  exact congrArg (fun m => some (runD (phi fu k) fu m q36)) (show (slN (topS 36)).length = 7 by kernel_rfl)
def q37 : List SR := [(.set 2 [] (.pure (.lit (.int (0))))), (.whl (.tCmp .NotEq (.var 1) (.var 2)) [(.set 2 [] (.pure (.var 1))), (.iter (.two 3 4) [] (.enum (.var 0)) [(.ite (.tVal (.bin .BitAnd (.bin .RShift (.var 2) (.var 3)) (.lit (.int (1))))) [(.aug 1 .BitOr (.var 4))] [])])]), (.ret [] (.pure (.var 1)))]
theorem sr37 : srOf 37 = some q37 := by kernel_rfl
theorem ph37 (fu k : Nat) : phi fu (k + 1) "closed_mask" = some (runD (phi fu k) fu 5 q37) := by
  show (fnIx "closed_mask").bind (semF fu k (phi fu k)) = _
  rw [show fnIx "closed_mask" = some 37 by kernel_rfl]
  show semF fu k (phi fu k) 37 = _
  unfold semF
  rw [if_neg (by decide), if_neg (by decide), if_neg (by decide), if_neg (by decide), if_neg (show ¬ isW (topS 37) = true by decide +kernel), sr37, show slN (topS 37) = slN (topS 37) from rfl]
  exact congrArg (fun m => some (runD (phi fu k) fu m q37)) (show (slN (topS 37)).length = 5 by kernel_rfl)
def q38 : List SR := [(.ret [] (.pure (.bi1 .sum (.lc (.tVal (.var 0)) (.one 1) [1] (.bin .LShift (.lit (.int (1))) (.var 1))))))]
theorem sr38 : srOf 38 = some q38 := by kernel_rfl
theorem ph38 (fu k : Nat) : phi fu (k + 1) "mask_of" = some (runD (phi fu k) fu 2 q38) := by
  show (fnIx "mask_of").bind (semF fu k (phi fu k)) = _
  rw [show fnIx "mask_of" = some 38 by kernel_rfl]
  show semF fu k (phi fu k) 38 = _
  unfold semF
  rw [if_neg (by decide), if_neg (by decide), if_neg (by decide), if_neg (by decide), if_neg (show ¬ isW (topS 38) = true by decide +kernel), sr38, show slN (topS 38) = slN (topS 38) from rfl]
  exact congrArg (fun m => some (runD (phi fu k) fu m q38)) (show (slN (topS 38)).length = 2 by kernel_rfl)
def q39 : List SR := [(.ret [] (.pure (.bi1 .tuple (.lcIf (.rng1 (.lit (.int (12)))) (.one 1) [1] (.tVal (.bin .BitAnd (.bin .RShift (.var 0) (.var 1)) (.lit (.int (1))))) (.var 1)))))]
theorem sr39 : srOf 39 = some q39 := by kernel_rfl
theorem ph39 (fu k : Nat) : phi fu (k + 1) "lot_by" = some (runD (phi fu k) fu 2 q39) := by
  show (fnIx "lot_by").bind (semF fu k (phi fu k)) = _
  rw [show fnIx "lot_by" = some 39 by kernel_rfl]
  show semF fu k (phi fu k) 39 = _
  unfold semF
  rw [if_neg (by decide), if_neg (by decide), if_neg (by decide), if_neg (by decide), if_neg (show ¬ isW (topS 39) = true by decide +kernel), sr39, show slN (topS 39) = slN (topS 39) from rfl]
  exact congrArg (fun m => some (runD (phi fu k) fu m q39)) (show (slN (topS 39)).length = 2 by kernel_rfl)
def q40 : List SR := [(.ret [] (.pure (.fn "lot_by" [(.fn "closed_mask" [(.fn "split_masks" [(.var 0), (.ix (.var 1) (.lit (.int (0))))]), (.fn "mask_of" [(.var 1)])])])))]
theorem sr40 : srOf 40 = some q40 := by kernel_rfl
theorem ph40 (fu k : Nat) : phi fu (k + 1) "closed" = some (runD (phi fu k) fu 2 q40) := by
  show (fnIx "closed").bind (semF fu k (phi fu k)) = _
  rw [show fnIx "closed" = some 40 by kernel_rfl]
  show semF fu k (phi fu k) 40 = _
  unfold semF
  rw [if_neg (by decide), if_neg (by decide), if_neg (by decide), if_neg (by decide), if_neg (show ¬ isW (topS 40) = true by decide +kernel), sr40, show slN (topS 40) = slN (topS 40) from rfl]
  exact congrArg (fun m => some (runD (phi fu k) fu m q40)) (show (slN (topS 40)).length = 2 by kernel_rfl)
def q42 : List SR := [(.ret [] (.pure (.bi1 .all (.lc (.tVal (.var 0)) (.one 2) [2] (.cmp .In (.var 2) (.var 1))))))]
theorem sr42 : srOf 42 = some q42 := by kernel_rfl
theorem ph42 (fu k : Nat) : phi fu (k + 1) "is_within" = some (runD (phi fu k) fu 3 q42) := by
  show (fnIx "is_within").bind (semF fu k (phi fu k)) = _
  rw [show fnIx "is_within" = some 42 by kernel_rfl]
  show semF fu k (phi fu k) 42 = _
  unfold semF
  rw [if_neg (by decide), if_neg (by decide), if_neg (by decide), if_neg (by decide), if_neg (show ¬ isW (topS 42) = true by decide +kernel), sr42, show slN (topS 42) = slN (topS 42) from rfl]
  exact congrArg (fun m => some (runD (phi fu k) fu m q42)) (show (slN (topS 42)).length = 3 by kernel_rfl)
def q43 : List SR := [(.own 1 [] (.lst [])), (.iter (.one 2) [] (.rng1 (.bi1 .len (.var 0))) [(.set 3 [] (.pure (.fn "split_masks" [(.var 0), (.var 2)]))), (.iter (.one 4) [] (.rng2 (.bin .Add (.var 2) (.lit (.int (1)))) (.bi1 .len (.var 0))) [(.set 5 [] (.pure (.fn "closed_mask" [(.var 3), (.bin .BitOr (.bin .LShift (.lit (.int (1))) (.var 2)) (.bin .LShift (.lit (.int (1))) (.var 4)))]))), (.ite (.tCmp .NotIn (.var 5) (.var 1)) [(.app 1 [] (.var 5))] [])])]), (.ret [1] (.pure (.var 1)))]
theorem sr43 : srOf 43 = some q43 := by kernel_rfl
theorem ph43 (fu k : Nat) : phi fu (k + 1) "pair_masks" = some (runD (phi fu k) fu 6 q43) := by
  show (fnIx "pair_masks").bind (semF fu k (phi fu k)) = _
  rw [show fnIx "pair_masks" = some 43 by kernel_rfl]
  show semF fu k (phi fu k) 43 = _
  unfold semF
  rw [if_neg (by decide), if_neg (by decide), if_neg (by decide), if_neg (by decide), if_neg (show ¬ isW (topS 43) = true by decide +kernel), sr43, show slN (topS 43) = slN (topS 43) from rfl]
  exact congrArg (fun m => some (runD (phi fu k) fu m q43)) (show (slN (topS 43)).length = 6 by kernel_rfl)
def q44 : List SR := [(.ret [] (.pure (.lc (.tVal (.fn "pair_masks" [(.var 0)])) (.one 1) [1] (.fn "lot_by" [(.var 1)]))))]
theorem sr44 : srOf 44 = some q44 := by kernel_rfl
theorem ph44 (fu k : Nat) : phi fu (k + 1) "pair_closures" = some (runD (phi fu k) fu 2 q44) := by
  show (fnIx "pair_closures").bind (semF fu k (phi fu k)) = _
  rw [show fnIx "pair_closures" = some 44 by kernel_rfl]
  show semF fu k (phi fu k) 44 = _
  unfold semF
  rw [if_neg (by decide), if_neg (by decide), if_neg (by decide), if_neg (by decide), if_neg (show ¬ isW (topS 44) = true by decide +kernel), sr44, show slN (topS 44) = slN (topS 44) from rfl]
  exact congrArg (fun m => some (runD (phi fu k) fu m q44)) (show (slN (topS 44)).length = 2 by kernel_rfl)
def q45 : List SR := [(.set 2 [] (.pure (.lit (.int (0))))), (.whl (.tCmp .NotEq (.var 1) (.var 2)) [(.set 2 [] (.pure (.var 1))), (.iter (.one 3) [] (.tVal (.var 0)) [(.set 4 [] (.pure (.bin .BitAnd (.var 1) (.var 3)))), (.ite (.tCmp .NotIn (.var 4) (.tup [(.lit (.int (0))), (.var 1), (.var 3)])) [(.aug 1 .BitOr (.var 3))] [])])]), (.ret [] (.pure (.var 1)))]
theorem sr45 : srOf 45 = some q45 := by kernel_rfl
theorem ph45 (fu k : Nat) : phi fu (k + 1) "strong_over" = some (runD (phi fu k) fu 5 q45) := by
  show (fnIx "strong_over").bind (semF fu k (phi fu k)) = _
  rw [show fnIx "strong_over" = some 45 by kernel_rfl]
  show semF fu k (phi fu k) 45 = _
  unfold semF
  rw [if_neg (by decide), if_neg (by decide), if_neg (by decide), if_neg (by decide), if_neg (show ¬ isW (topS 45) = true by decide +kernel), sr45, show slN (topS 45) = slN (topS 45) from rfl]
  exact congrArg (fun m => some (runD (phi fu k) fu m q45)) (show (slN (topS 45)).length = 5 by kernel_rfl)
def q46 : List SR := [(.ret [] (.pure (.fn "lot_by" [(.fn "strong_over" [(.lc (.tVal (.var 0)) (.one 2) [2] (.fn "mask_of" [(.var 2)])), (.fn "mask_of" [(.var 1)])])])))]
theorem sr46 : srOf 46 = some q46 := by kernel_rfl
theorem ph46 (fu k : Nat) : phi fu (k + 1) "least_strong_over" = some (runD (phi fu k) fu 3 q46) := by
  show (fnIx "least_strong_over").bind (semF fu k (phi fu k)) = _
  rw [show fnIx "least_strong_over" = some 46 by kernel_rfl]
  show semF fu k (phi fu k) 46 = _
  unfold semF
  rw [if_neg (by decide), if_neg (by decide), if_neg (by decide), if_neg (by decide), if_neg (show ¬ isW (topS 46) = true by decide +kernel), sr46, show slN (topS 46) = slN (topS 46) from rfl]
  exact congrArg (fun m => some (runD (phi fu k) fu m q46)) (show (slN (topS 46)).length = 3 by kernel_rfl)
def q47 : List SR := [(.set 1 [] (.pure (.fn "pair_masks" [(.var 0)]))), (.own 2 [] (.lc (.rng1 (.bi1 .len (.var 0))) (.one 5) [5] (.bin .LShift (.lit (.int (1))) (.var 5)))), (.iter (.one 3) [] (.tVal (.var 1)) [(.set 4 [] (.pure (.fn "strong_over" [(.var 1), (.var 3)]))), (.ite (.tCmp .NotIn (.var 4) (.var 2)) [(.app 2 [] (.var 4))] [])]), (.ret [2] (.pure (.fn "in_lot_order" [(.lc (.tVal (.var 2)) (.one 3) [3] (.fn "lot_by" [(.var 3)]))])))]
theorem sr47 : srOf 47 = some q47 := by kernel_rfl
theorem ph47 (fu k : Nat) : phi fu (k + 1) "strong_lots" = some (runD (phi fu k) fu 6 q47) := by
  show (fnIx "strong_lots").bind (semF fu k (phi fu k)) = _
  rw [show fnIx "strong_lots" = some 47 by kernel_rfl]
  show semF fu k (phi fu k) 47 = _
  unfold semF
  rw [if_neg (by decide), if_neg (by decide), if_neg (by decide), if_neg (by decide), if_neg (show ¬ isW (topS 47) = true by decide +kernel), sr47, show slN (topS 47) = slN (topS 47) from rfl]
  exact congrArg (fun m => some (runD (phi fu k) fu m q47)) (show (slN (topS 47)).length = 6 by kernel_rfl)
def q49 : List SR := [(.set 2 [] (.pure (.lcIf (.tVal (.var 0)) (.one 3) [3] (.tAnd (.tCmp .NotEq (.var 3) (.var 1)) (.tVal (.fn "is_within" [(.var 3), (.var 1)]))) (.var 3)))), (.ret [] (.pure (.lcIf (.tVal (.var 2)) (.one 4) [4] (.tNot (.tVal (.bi1 .any (.lc (.tVal (.var 2)) (.one 3) [3] (.andV (.cmp .NotEq (.var 4) (.var 3)) (.fn "is_within" [(.var 4), (.var 3)])))))) (.var 4))))]
theorem sr49 : srOf 49 = some q49 := by kernel_rfl
theorem ph49 (fu k : Nat) : phi fu (k + 1) "lots_below" = some (runD (phi fu k) fu 5 q49) := by
  show (fnIx "lots_below").bind (semF fu k (phi fu k)) = _
  rw [show fnIx "lots_below" = some 49 by kernel_rfl]
  show semF fu k (phi fu k) 49 = _
  unfold semF
  rw [if_neg (by decide), if_neg (by decide), if_neg (by decide), if_neg (by decide), if_neg (show ¬ isW (topS 49) = true by decide +kernel), sr49, show slN (topS 49) = slN (topS 49) from rfl]
  exact congrArg (fun m => some (runD (phi fu k) fu m q49)) (show (slN (topS 49)).length = 5 by kernel_rfl)
def q50 : List SR := [(.set 1 [] (.pure (.bi1 .len (.var 0)))), (.ret [] (.pure (.sset (.lc2If (.rng1 (.var 1)) (.one 2) [2, 3] (.rng1 (.var 1)) (.one 3) [3] (.tCmp .NotEq (.var 2) (.var 3)) (.ix (.ix (.var 0) (.var 2)) (.var 3))))))]
theorem sr50 : srOf 50 = some q50 := by kernel_rfl
theorem ph50 (fu k : Nat) : phi fu (k + 1) "outer_colours" = some (runD (phi fu k) fu 4 q50) := by
  show (fnIx "outer_colours").bind (semF fu k (phi fu k)) = _
  rw [show fnIx "outer_colours" = some 50 by kernel_rfl]
  show semF fu k (phi fu k) 50 = _
  unfold semF
  rw [if_neg (by decide), if_neg (by decide), if_neg (by decide), if_neg (by decide), if_neg (show ¬ isW (topS 50) = true by decide +kernel), sr50, show slN (topS 50) = slN (topS 50) from rfl]
  exact congrArg (fun m => some (runD (phi fu k) fu m q50)) (show (slN (topS 50)).length = 4 by kernel_rfl)
def q52 : List SR := [(.set 1 [] (.pure (.fn "outer_colours" [(.var 0)]))), (.set 2 [] (.pure (.lrng (.bi1 .len (.var 0))))), (.ite (.tCmp .Eq (.bi1 .len (.var 1)) (.lit (.int (1)))) [(.ret [] (.pure (.tup [(.lit (.str "full")), (.var 2)])))] []), (.set 3 [] (.pure (.ite (.tCmp .Eq (.bi1 .len (.var 1)) (.lit (.int (2)))) (.fn "linear_row" [(.var 0), (.ix (.var 1) (.lit (.int (0))))]) (.lit .none)))), (.ret [] (.pure (.ite (.tCmp .Is (.var 3) (.lit .none)) (.tup [(.lit (.str "prime")), (.var 2)]) (.tup [(.lit (.str "linear")), (.var 3)]))))]
theorem sr52 : srOf 52 = some q52 := by kernel_rfl
theorem ph52 (fu k : Nat) : phi fu (k + 1) "kind_and_row" = some (runD (phi fu k) fu 4 q52) := by
  show (fnIx "kind_and_row").bind (semF fu k (phi fu k)) = _
  rw [show fnIx "kind_and_row" = some 52 by kernel_rfl]
  show semF fu k (phi fu k) 52 = _
  unfold semF
  rw [if_neg (by decide), if_neg (by decide), if_neg (by decide), if_neg (by decide), if_neg (show ¬ isW (topS 52) = true by decide +kernel), sr52, show slN (topS 52) = slN (topS 52) from rfl]
  exact congrArg (fun m => some (runD (phi fu k) fu m q52)) (show (slN (topS 52)).length = 4 by kernel_rfl)
def q53 : List SR := [(.ite (.tCmp .Eq (.bi1 .len (.var 2)) (.lit (.int (1)))) [(.ret [] (.pure (.tup [(.lit (.str "leaf")), (.ix (.var 2) (.lit (.int (0))))])))] []), (.set 3 [] (.pure (.bi1 .sorted (.fn "lots_below" [(.var 1), (.var 2)])))), (.set 4 [] (.pure (.fn "table_part" [(.var 0), (.lc (.tVal (.var 3)) (.one 8) [8] (.ix (.var 8) (.lit (.int (0)))))]))), (.two 5 6 (.fn "kind_and_row" [(.var 4)])), (.set 7 [] (.pure (.bi1 .tuple (.lc (.tVal (.var 6)) (.one 9) [9] (.fn "node_value" [(.var 0), (.var 1), (.ix (.var 3) (.var 9))]))))), (.ite (.tCmp .Eq (.var 5) (.lit (.str "prime"))) [(.ret [] (.pure (.tup [(.var 5), (.var 4), (.var 7)])))] []), (.ret [] (.pure (.bin .Add (.bin .Add (.tup [(.var 5)]) (.bi1 .tuple (.fn "outer_colours" [(.var 4)]))) (.tup [(.var 7)]))))]
theorem sr53 : srOf 53 = some q53 := by kernel_rfl
theorem ph53 (fu k : Nat) : phi fu (k + 1) "node_value" = some (runD (phi fu k) fu 10 q53) := by
  show (fnIx "node_value").bind (semF fu k (phi fu k)) = _
  rw [show fnIx "node_value" = some 53 by kernel_rfl]
  show semF fu k (phi fu k) 53 = _
  unfold semF
  rw [if_neg (by decide), if_neg (by decide), if_neg (by decide), if_neg (by decide), if_neg (show ¬ isW (topS 53) = true by decide +kernel), sr53, show slN (topS 53) = slN (topS 53) from rfl]
  exact congrArg (fun m => some (runD (phi fu k) fu m q53)) (show (slN (topS 53)).length = 10 by kernel_rfl)
def q54 : List SR := [(.ret [] (.pure (.fn "node_value" [(.var 0), (.fn "strong_lots" [(.var 0)]), (.trng (.bi1 .len (.var 0)))])))]
theorem sr54 : srOf 54 = some q54 := by kernel_rfl
theorem ph54 (fu k : Nat) : phi fu (k + 1) "built" = some (runD (phi fu k) fu 1 q54) := by
  show (fnIx "built").bind (semF fu k (phi fu k)) = _
  rw [show fnIx "built" = some 54 by kernel_rfl]
  show semF fu k (phi fu k) 54 = _
  unfold semF
  rw [if_neg (by decide), if_neg (by decide), if_neg (by decide), if_neg (by decide), if_neg (show ¬ isW (topS 54) = true by decide +kernel), sr54, show slN (topS 54) = slN (topS 54) from rfl]
  exact congrArg (fun m => some (runD (phi fu k) fu m q54)) (show (slN (topS 54)).length = 1 by kernel_rfl)
def q55 : List SR := [(.ret [] (.pure (.ite (.tCmp .Eq (.ix (.var 0) (.lit (.int (0)))) (.lit (.str "leaf"))) (.tup []) (.ix (.var 0) (.neg (.lit (.int (1))))))))]
theorem sr55 : srOf 55 = some q55 := by kernel_rfl
theorem ph55 (fu k : Nat) : phi fu (k + 1) "children_of" = some (runD (phi fu k) fu 1 q55) := by
  show (fnIx "children_of").bind (semF fu k (phi fu k)) = _
  rw [show fnIx "children_of" = some 55 by kernel_rfl]
  show semF fu k (phi fu k) 55 = _
  unfold semF
  rw [if_neg (by decide), if_neg (by decide), if_neg (by decide), if_neg (by decide), if_neg (show ¬ isW (topS 55) = true by decide +kernel), sr55, show slN (topS 55) = slN (topS 55) from rfl]
  exact congrArg (fun m => some (runD (phi fu k) fu m q55)) (show (slN (topS 55)).length = 1 by kernel_rfl)
def q56 : List SR := [(.ite (.tCmp .Eq (.ix (.var 0) (.lit (.int (0)))) (.lit (.str "leaf"))) [(.ret [] (.pure (.lst [(.ix (.var 0) (.lit (.int (1))))])))] []), (.ret [] (.pure (.lc2 (.tVal (.ix (.var 0) (.neg (.lit (.int (1)))))) (.one 1) [1, 2] (.tVal (.fn "things_of" [(.var 1)])) (.one 2) [2] (.var 2))))]
theorem sr56 : srOf 56 = some q56 := by kernel_rfl
theorem ph56 (fu k : Nat) : phi fu (k + 1) "things_of" = some (runD (phi fu k) fu 3 q56) := by
  show (fnIx "things_of").bind (semF fu k (phi fu k)) = _
  rw [show fnIx "things_of" = some 56 by kernel_rfl]
  show semF fu k (phi fu k) 56 = _
  unfold semF
  rw [if_neg (by decide), if_neg (by decide), if_neg (by decide), if_neg (by decide), if_neg (show ¬ isW (topS 56) = true by decide +kernel), sr56, show slN (topS 56) = slN (topS 56) from rfl]
  exact congrArg (fun m => some (runD (phi fu k) fu m q56)) (show (slN (topS 56)).length = 3 by kernel_rfl)
def q57 : List SR := [(.ret [] (.pure (.bi1 .tuple (.bi1 .sorted (.fn "things_of" [(.var 0)])))))]
theorem sr57 : srOf 57 = some q57 := by kernel_rfl
theorem ph57 (fu k : Nat) : phi fu (k + 1) "lot_of" = some (runD (phi fu k) fu 1 q57) := by
  show (fnIx "lot_of").bind (semF fu k (phi fu k)) = _
  rw [show fnIx "lot_of" = some 57 by kernel_rfl]
  show semF fu k (phi fu k) 57 = _
  unfold semF
  rw [if_neg (by decide), if_neg (by decide), if_neg (by decide), if_neg (by decide), if_neg (show ¬ isW (topS 57) = true by decide +kernel), sr57, show slN (topS 57) = slN (topS 57) from rfl]
  exact congrArg (fun m => some (runD (phi fu k) fu m q57)) (show (slN (topS 57)).length = 1 by kernel_rfl)
def q58 : List SR := [(.set 1 [] (.pure (.bi1 .len (.ix (.var 0) (.neg (.lit (.int (1)))))))), (.ite (.tCmp .Eq (.ix (.var 0) (.lit (.int (0)))) (.lit (.str "prime"))) [(.ret [] (.pure (.ix (.var 0) (.lit (.int (1))))))] []), (.two 2 3 (.tup [(.ix (.var 0) (.lit (.int (1)))), (.ix (.var 0) (.neg (.lit (.int (2)))))])), (.ret [] (.pure (.bi1 .tuple (.lc (.rng1 (.var 1)) (.one 4) [4] (.bi1 .tuple (.lc (.rng1 (.var 1)) (.one 5) [5] (.ite (.tCmp .Eq (.var 4) (.var 5)) (.lit (.int (0))) (.ite (.tCmp .Lt (.var 4) (.var 5)) (.var 2) (.var 3)))))))))]
theorem sr58 : srOf 58 = some q58 := by kernel_rfl
theorem ph58 (fu k : Nat) : phi fu (k + 1) "kind_table" = some (runD (phi fu k) fu 6 q58) := by
  show (fnIx "kind_table").bind (semF fu k (phi fu k)) = _
  rw [show fnIx "kind_table" = some 58 by kernel_rfl]
  show semF fu k (phi fu k) 58 = _
  unfold semF
  rw [if_neg (by decide), if_neg (by decide), if_neg (by decide), if_neg (by decide), if_neg (show ¬ isW (topS 58) = true by decide +kernel), sr58, show slN (topS 58) = slN (topS 58) from rfl]
  exact congrArg (fun m => some (runD (phi fu k) fu m q58)) (show (slN (topS 58)).length = 6 by kernel_rfl)
def q59 : List SR := [(.ret [] (.pure (.bin .Add (.lst [(.var 0)]) (.lc2 (.tVal (.fn "children_of" [(.var 0)])) (.one 1) [1, 2] (.tVal (.fn "node_trees" [(.var 1)])) (.one 2) [2] (.var 2)))))]
theorem sr59 : srOf 59 = some q59 := by kernel_rfl
theorem ph59 (fu k : Nat) : phi fu (k + 1) "node_trees" = some (runD (phi fu k) fu 3 q59) := by
  show (fnIx "node_trees").bind (semF fu k (phi fu k)) = _
  rw [show fnIx "node_trees" = some 59 by kernel_rfl]
  show semF fu k (phi fu k) 59 = _
  unfold semF
  rw [if_neg (by decide), if_neg (by decide), if_neg (by decide), if_neg (by decide), if_neg (show ¬ isW (topS 59) = true by decide +kernel), sr59, show slN (topS 59) = slN (topS 59) from rfl]
  exact congrArg (fun m => some (runD (phi fu k) fu m q59)) (show (slN (topS 59)).length = 3 by kernel_rfl)
def q61 : List SR := [(.drop (.fn "check_table" [(.var 0)])), (.drop (.fn "check_lot" [(.bi1 .len (.var 0)), (.var 1)])), (.ret [] (.pure (.fn "least_strong_over" [(.fn "pair_closures" [(.var 0)]), (.fn "closed" [(.var 0), (.var 1)])])))]
theorem sr61 : srOf 61 = some q61 := by kernel_rfl
theorem ph61 (fu k : Nat) : phi fu (k + 1) "least_strong" = some (runD (phi fu k) fu 2 q61) := by
  show (fnIx "least_strong").bind (semF fu k (phi fu k)) = _
  rw [show fnIx "least_strong" = some 61 by kernel_rfl]
  show semF fu k (phi fu k) 61 = _
  unfold semF
  rw [if_neg (by decide), if_neg (by decide), if_neg (by decide), if_neg (by decide), if_neg (show ¬ isW (topS 61) = true by decide +kernel), sr61, show slN (topS 61) = slN (topS 61) from rfl]
  exact congrArg (fun m => some (runD (phi fu k) fu m q61)) (show (slN (topS 61)).length = 2 by kernel_rfl)
def q62 : List SR := [(.drop (.fn "check_table" [(.var 0)])), (.drop (.fn "check_lot" [(.bi1 .len (.var 0)), (.var 1)])), (.set 2 [] (.pure (.lcIf (.tVal (.fn "node_trees" [(.fn "built" [(.var 0)])])) (.one 3) [3] (.tAnd (.tCmp .Gt (.bi1 .len (.var 1)) (.lit (.int (1)))) (.tCmp .Eq (.fn "lot_of" [(.var 3)]) (.var 1))) (.var 3)))), (.ite (.tNot (.tVal (.var 2))) [.rai] []), (.ret [] (.pure (.fn "kind_table" [(.ix (.var 2) (.lit (.int (0))))])))]
theorem sr62 : srOf 62 = some q62 := by kernel_rfl
theorem ph62 (fu k : Nat) : phi fu (k + 1) "quotient" = some (runD (phi fu k) fu 4 q62) := by
  show (fnIx "quotient").bind (semF fu k (phi fu k)) = _
  rw [show fnIx "quotient" = some 62 by kernel_rfl]
  show semF fu k (phi fu k) 62 = _
  unfold semF
  rw [if_neg (by decide), if_neg (by decide), if_neg (by decide), if_neg (by decide), if_neg (show ¬ isW (topS 62) = true by decide +kernel), sr62, show slN (topS 62) = slN (topS 62) from rfl]
  exact congrArg (fun m => some (runD (phi fu k) fu m q62)) (show (slN (topS 62)).length = 4 by kernel_rfl)
def q64 : List SR := [(.set 2 [] (.pure (.bi1 .abs (.bi1 .int (.var 0))))), (.set 3 [] (.pure (.bin .Add (.bin .Mod (.bi1 .int (.var 2)) (.lit (.int (2147483587)))) (.lit (.int (2)))))), (.set 2 [] (.pure (.bin .Mult (.var 2) (.bi1 .int (.cmp .GtE (.var 2) (.bin .Pow (.lit (.int (10))) (.lit (.int (18))))))))), (.own 4 [] (.lst [])), (.iter (.one 5) [] (.rng1 (.var 1)) [(.set 3 [] (.pure (.bin .Mod (.bi1 .int (.bin .Add (.bin .Add (.bin .Mult (.var 3) (.lit (.int (69621)))) (.bin .Mult (.bin .Mult (.var 5) (.var 5)) (.var 5))) (.lit (.int (5))))) (.lit (.int (2147483587)))))), (.ite (.tCmp .Gt (.var 2) (.lit (.int (0)))) [(.app 4 [] (.bin .Mod (.bi1 .int (.var 2)) (.lit (.int (55440))))), (.set 2 [] (.pure (.bin .FloorDiv (.var 2) (.lit (.int (55440))))))] [(.app 4 [] (.bin .Mod (.bin .FloorDiv (.bin .Mod (.bi1 .int (.bin .Mult (.var 3) (.bin .Add (.bin .FloorDiv (.var 3) (.lit (.int (8)))) (.lit (.int (7)))))) (.lit (.int (2147483549)))) (.lit (.int (11)))) (.lit (.int (55440)))))])]), (.ret [4] (.pure (.rev (.var 4))))]
theorem sr64 : srOf 64 = some q64 := by kernel_rfl
theorem ph64 (fu k : Nat) : phi fu (k + 1) "_law_well" = some (runD (phi fu k) fu 6 q64) := by
  show (fnIx "_law_well").bind (semF fu k (phi fu k)) = _
  rw [show fnIx "_law_well" = some 64 by kernel_rfl]
  show semF fu k (phi fu k) 64 = _
  unfold semF
  rw [if_neg (by decide), if_neg (by decide), if_neg (by decide), if_neg (by decide), if_neg (show ¬ isW (topS 64) = true by decide +kernel), sr64, show slN (topS 64) = slN (topS 64) from rfl]
  exact congrArg (fun m => some (runD (phi fu k) fu m q64)) (show (slN (topS 64)).length = 6 by kernel_rfl)
def q67 : List SR := [(.set 3 [] (.cmp .Eq (.wfn "_law_draw" [(.pure (.lit (.int (3))))]) (.pure (.lit (.int (2)))))), (.set 4 [] (.wfn "_law_draw" [(.pure (.bi1 .len (.var 1)))])), (.set 5 [] (.wfn "_law_draw" [(.pure (.lit (.int (2))))])), (.iter (.one 6) [] (.rng1 (.bin .Sub (.var 2) (.bi1 .len (.var 1)))) [(.ite (.tNot (.tVal (.var 3))) [(.set 4 [] (.wfn "_law_draw" [(.pure (.bi1 .len (.var 1)))])), (.set 5 [] (.wfn "_law_draw" [(.pure (.lit (.int (2))))]))] []), (.own 7 [] (.lc (.tVal (.var 1)) (.one 8) [8] (.ix (.var 8) (.var 4)))), (.put 7 (.var 4) (.var 5)), (.set 1 [7, 7] (.pure (.bin .Add (.lc (.rng1 (.bi1 .len (.var 1))) (.one 9) [9] (.bin .Add (.ix (.var 1) (.var 9)) (.lst [(.ix (.var 7) (.var 9))]))) (.lst [(.bin .Add (.var 7) (.lst [(.lit (.int (0)))]))]))))]), (.ret [] (.pure (.var 1)))]
theorem sr67 : srOf 67 = some q67 := by kernel_rfl
theorem ph67 (fu k : Nat) : psi fu (k + 1) "_law_grown" = some (runW (phi fu k) (psi fu k) fu 10 q67) := by
  show (fnIx "_law_grown").bind (semW fu k (phi fu k) (psi fu k)) = _
  rw [show fnIx "_law_grown" = some 67 by kernel_rfl]
  show semW fu k (phi fu k) (psi fu k) 67 = _
  unfold semW
  rw [if_neg (by decide), if_neg (by decide), if_neg (by decide), if_neg (by decide), if_pos (show isW (topS 67) = true by decide +kernel), sr67]
  exact congrArg (fun m => some (runW (phi fu k) (psi fu k) fu m q67)) (show (slN (topS 67)).length = 10 by kernel_rfl)
def q68 : List SR := [(.set 3 [] (.pure (.lcIf (.rng1 (.bi1 .len (.var 0))) (.one 5) [5] (.tCmp .NotEq (.var 5) (.var 1)) (.var 5)))), (.set 4 [] (.pure (.lc (.tVal (.var 3)) (.one 5) [5] (.bin .Add (.lc (.tVal (.var 3)) (.one 6) [6] (.ix (.ix (.var 0) (.var 5)) (.var 6))) (.bin .Mult (.lst [(.ix (.ix (.var 0) (.var 5)) (.var 1))]) (.bi1 .len (.var 2))))))), (.ret [] (.pure (.bin .Add (.var 4) (.lc (.rng1 (.bi1 .len (.var 2))) (.one 7) [7] (.bin .Add (.lc (.tVal (.var 3)) (.one 6) [6] (.ix (.ix (.var 0) (.var 1)) (.var 6))) (.ix (.var 2) (.var 7)))))))]
theorem sr68 : srOf 68 = some q68 := by kernel_rfl
theorem ph68 (fu k : Nat) : phi fu (k + 1) "_law_put" = some (runD (phi fu k) fu 8 q68) := by
  show (fnIx "_law_put").bind (semF fu k (phi fu k)) = _
  rw [show fnIx "_law_put" = some 68 by kernel_rfl]
  show semF fu k (phi fu k) 68 = _
  unfold semF
  rw [if_neg (by decide), if_neg (by decide), if_neg (by decide), if_neg (by decide), if_neg (show ¬ isW (topS 68) = true by decide +kernel), sr68, show slN (topS 68) = slN (topS 68) from rfl]
  exact congrArg (fun m => some (runD (phi fu k) fu m q68)) (show (slN (topS 68)).length = 8 by kernel_rfl)
def q70 : List SR := [(.set 2 [] (.wfn "_law_row" [(.pure (.bi1 .len (.var 1)))])), (.ret [] (.pure (.bi1 .tuple (.lc (.tVal (.var 2)) (.one 3) [3] (.bi1 .tuple (.lc (.tVal (.var 2)) (.one 4) [4] (.ix (.ix (.var 1) (.var 3)) (.var 4))))))))]
theorem sr70 : srOf 70 = some q70 := by kernel_rfl
theorem ph70 (fu k : Nat) : psi fu (k + 1) "_law_numbered" = some (runW (phi fu k) (psi fu k) fu 5 q70) := by
  show (fnIx "_law_numbered").bind (semW fu k (phi fu k) (psi fu k)) = _
  rw [show fnIx "_law_numbered" = some 70 by kernel_rfl]
  show semW fu k (phi fu k) (psi fu k) 70 = _
  unfold semW
  rw [if_neg (by decide), if_neg (by decide), if_neg (by decide), if_neg (by decide), if_pos (show isW (topS 70) = true by decide +kernel), sr70]
  exact congrArg (fun m => some (runW (phi fu k) (psi fu k) fu m q70)) (show (slN (topS 70)).length = 5 by kernel_rfl)
def q71 : List SR := [(.set 2 [] (.bin .Mult (.wfn "_law_draw" [(.pure (.lit (.int (3))))]) (.pure (.bi1 .int (.cmp .Lt (.bi1 .len (.var 1)) (.lit (.int (12)))))))), (.ite (.tCmp .Gt (.var 2) (.lit (.int (0)))) [(.set 1 [] (.pure (.bin .Add (.lc (.tVal (.var 1)) (.one 3) [3] (.bin .Add (.var 3) (.lst [(.bin .Sub (.var 2) (.lit (.int (1))))]))) (.lst [(.bin .Add (.bin .Mult (.lst [(.bin .Sub (.var 2) (.lit (.int (1))))]) (.bi1 .len (.var 1))) (.lst [(.lit (.int (0)))]))]))))] []), (.ret [] (.wfn "_law_numbered" [(.pure (.var 1))]))]
theorem sr71 : srOf 71 = some q71 := by kernel_rfl
theorem ph71 (fu k : Nat) : psi fu (k + 1) "_law_finished" = some (runW (phi fu k) (psi fu k) fu 4 q71) := by
  show (fnIx "_law_finished").bind (semW fu k (phi fu k) (psi fu k)) = _
  rw [show fnIx "_law_finished" = some 71 by kernel_rfl]
  show semW fu k (phi fu k) (psi fu k) 71 = _
  unfold semW
  rw [if_neg (by decide), if_neg (by decide), if_neg (by decide), if_neg (by decide), if_pos (show isW (topS 71) = true by decide +kernel), sr71]
  exact congrArg (fun m => some (runW (phi fu k) (psi fu k) fu m q71)) (show (slN (topS 71)).length = 4 by kernel_rfl)
def q72 : List SR := [(.set 2 [] (.pure (.lst [(.lst [(.lit (.int (0))), (.lit (.int (1))), (.lit (.int (0))), (.lit (.int (0)))]), (.lst [(.lit (.int (1))), (.lit (.int (0))), (.lit (.int (1))), (.lit (.int (0)))]), (.lst [(.lit (.int (0))), (.lit (.int (1))), (.lit (.int (0))), (.lit (.int (1)))]), (.lst [(.lit (.int (0))), (.lit (.int (0))), (.lit (.int (1))), (.lit (.int (0)))])]))), (.set 3 [] (.pure (.lst [(.lst [(.lit (.int (0))), (.lit (.int (1))), (.lit (.int (0))), (.lit (.int (0))), (.lit (.int (1)))]), (.lst [(.lit (.int (1))), (.lit (.int (0))), (.lit (.int (1))), (.lit (.int (0))), (.lit (.int (0)))]), (.lst [(.lit (.int (0))), (.lit (.int (1))), (.lit (.int (0))), (.lit (.int (1))), (.lit (.int (0)))]), (.lst [(.lit (.int (0))), (.lit (.int (0))), (.lit (.int (1))), (.lit (.int (0))), (.lit (.int (1)))]), (.lst [(.lit (.int (1))), (.lit (.int (0))), (.lit (.int (0))), (.lit (.int (1))), (.lit (.int (0)))])]))), (.ite (.tCmp .Eq (.var 1) (.lit (.int (3)))) [(.ret [] (.fn "_law_put" [(.pure (.var 2)), (.wfn "_law_draw" [(.pure (.lit (.int (4))))]), (.pure (.var 2))]))] []), (.ite (.tCmp .Eq (.var 1) (.lit (.int (5)))) [(.ret [] (.pure (.lc (.rng1 (.lit (.int (5)))) (.one 6) [6] (.lc (.rng1 (.lit (.int (5)))) (.one 7) [7] (.bi1 .int (.cmp .Gt (.bi1 .abs (.bin .Sub (.var 6) (.var 7))) (.lit (.int (1)))))))))] []), (.ite (.tCmp .Eq (.var 1) (.lit (.int (6)))) [(.ret [] (.pure (.lc (.rng1 (.lit (.int (6)))) (.one 6) [6] (.lc (.rng1 (.lit (.int (6)))) (.one 7) [7] (.bi1 .int (.andV (.cmp .NotEq (.cmp .Lt (.var 6) (.lit (.int (3)))) (.cmp .Lt (.var 7) (.lit (.int (3))))) (.cmp .LtE (.bin .Add (.bi2 .min (.var 6) (.var 7)) (.lit (.int (3)))) (.bi2 .max (.var 6) (.var 7)))))))))] []), (.ite (.tCmp .Eq (.var 1) (.lit (.int (7)))) [(.set 4 [] (.wfn "_law_draw" [(.pure (.lit (.int (2))))])), (.ret [] (.pure (.fn "_law_put" [(.fn "_law_put" [(.lst [(.lst [(.lit (.int (0))), (.var 4)]), (.lst [(.var 4), (.lit (.int (0)))])]), (.lit (.int (0))), (.var 2)]), (.lit (.int (0))), (.var 2)])))] []), (.set 5 [] (.pure (.lst [(.lst [(.lit (.int (0))), (.lit (.int (1))), (.lit (.int (0))), (.lit (.int (0))), (.lit (.int (0)))]), (.lst [(.lit (.int (1))), (.lit (.int (0))), (.lit (.int (1))), (.lit (.int (1))), (.lit (.int (0)))]), (.lst [(.lit (.int (0))), (.lit (.int (1))), (.lit (.int (0))), (.lit (.int (1))), (.lit (.int (0)))]), (.lst [(.lit (.int (0))), (.lit (.int (1))), (.lit (.int (1))), (.lit (.int (0))), (.lit (.int (1)))]), (.lst [(.lit (.int (0))), (.lit (.int (0))), (.lit (.int (0))), (.lit (.int (1))), (.lit (.int (0)))])]))), (.ret [] (.pure (.ix (.lst [(.var 2), (.var 3), (.lst [(.lst [(.lit (.int (0)))])]), (.var 2), (.var 5)]) (.var 1))))]
theorem sr72 : srOf 72 = some q72 := by kernel_rfl
theorem ph72 (fu k : Nat) : psi fu (k + 1) "_law_base" = some (runW (phi fu k) (psi fu k) fu 8 q72) := by
  show (fnIx "_law_base").bind (semW fu k (phi fu k) (psi fu k)) = _
  rw [show fnIx "_law_base" = some 72 by kernel_rfl]
  show semW fu k (phi fu k) (psi fu k) 72 = _
  unfold semW
  rw [if_neg (by decide), if_neg (by decide), if_neg (by decide), if_neg (by decide), if_pos (show isW (topS 72) = true by decide +kernel), sr72]
  exact congrArg (fun m => some (runW (phi fu k) (psi fu k) fu m q72)) (show (slN (topS 72)).length = 8 by kernel_rfl)
def q73 : List SR := [(.set 2 [] (.wfn "_law_row" [(.pure (.var 1))])), (.ret [] (.pure (.lc (.rng1 (.var 1)) (.one 3) [3] (.lc (.rng1 (.var 1)) (.one 4) [4] (.bi1 .int (.cmp .NotEq (.cmp .Lt (.var 3) (.var 4)) (.cmp .Lt (.ix (.var 2) (.var 3)) (.ix (.var 2) (.var 4)))))))))]
theorem sr73 : srOf 73 = some q73 := by kernel_rfl
theorem ph73 (fu k : Nat) : psi fu (k + 1) "_law_crossed" = some (runW (phi fu k) (psi fu k) fu 5 q73) := by
  show (fnIx "_law_crossed").bind (semW fu k (phi fu k) (psi fu k)) = _
  rw [show fnIx "_law_crossed" = some 73 by kernel_rfl]
  show semW fu k (phi fu k) (psi fu k) 73 = _
  unfold semW
  rw [if_neg (by decide), if_neg (by decide), if_neg (by decide), if_neg (by decide), if_pos (show isW (topS 73) = true by decide +kernel), sr73]
  exact congrArg (fun m => some (runW (phi fu k) (psi fu k) fu m q73)) (show (slN (topS 73)).length = 5 by kernel_rfl)
def q75 : List SR := [(.set 1 [] (.bin .Add (.pure (.lit (.int (1)))) (.wfn "_law_draw" [(.ix (.pure (.lst [(.lit (.int (6))), (.lit (.int (6))), (.lit (.int (6))), (.lit (.int (12)))])) (.wfn "_law_draw" [(.pure (.lit (.int (4))))]))]))), (.set 2 [] (.wfn "_law_draw" [(.pure (.lit (.int (13))))])), (.ite (.tCmp .Lt (.var 2) (.lit (.int (3)))) [(.set 3 [] (.wfn "_law_loose" [(.pure (.var 1)), (.pure (.var 2))]))] [(.ite (.tCmp .Eq (.var 2) (.lit (.int (3)))) [(.set 3 [] (.wfn "_law_line" [(.pure (.var 1))]))] [(.ite (.tCmp .Eq (.var 2) (.lit (.int (4)))) [(.set 3 [] (.wfn "_law_crossed" [(.pure (.var 1))]))] [(.set 3 [] (.wfn "_law_grown" [(.wfn "_law_base" [(.pure (.bin .Sub (.var 2) (.lit (.int (5)))))]), (.pure (.var 1))]))])])]), (.ret [] (.wfn "_law_finished" [(.pure (.var 3))]))]
theorem sr75 : srOf 75 = some q75 := by kernel_rfl
theorem ph75 (fu k : Nat) : psi fu (k + 1) "_law_web" = some (runW (phi fu k) (psi fu k) fu 4 q75) := by
  show (fnIx "_law_web").bind (semW fu k (phi fu k) (psi fu k)) = _
  rw [show fnIx "_law_web" = some 75 by kernel_rfl]
  show semW fu k (phi fu k) (psi fu k) 75 = _
  unfold semW
  rw [if_neg (by decide), if_neg (by decide), if_neg (by decide), if_neg (by decide), if_pos (show isW (topS 75) = true by decide +kernel), sr75]
  exact congrArg (fun m => some (runW (phi fu k) (psi fu k) fu m q75)) (show (slN (topS 75)).length = 4 by kernel_rfl)
def q76 : List SR := [(.ret [] (.pure (.andV (.cmp .Eq (.var 0) (.var 1)) (.cmp .Eq (.bi1 .repr (.var 0)) (.bi1 .repr (.var 1))))))]
theorem sr76 : srOf 76 = some q76 := by kernel_rfl
theorem ph76 (fu k : Nat) : phi fu (k + 1) "_law_same" = some (runD (phi fu k) fu 2 q76) := by
  show (fnIx "_law_same").bind (semF fu k (phi fu k)) = _
  rw [show fnIx "_law_same" = some 76 by kernel_rfl]
  show semF fu k (phi fu k) 76 = _
  unfold semF
  rw [if_neg (by decide), if_neg (by decide), if_neg (by decide), if_neg (by decide), if_neg (show ¬ isW (topS 76) = true by decide +kernel), sr76, show slN (topS 76) = slN (topS 76) from rfl]
  exact congrArg (fun m => some (runD (phi fu k) fu m q76)) (show (slN (topS 76)).length = 2 by kernel_rfl)
def q77 : List SR := [(.set 2 [] (.pure (.lst [(.ix (.var 1) (.lit (.int (0))))]))), (.iter (.one 3) [] (.rng1 (.bi1 .len (.var 1))) [(.set 2 [] (.pure (.bin .Add (.var 2) (.lcIf (.tVal (.var 1)) (.one 4) [4] (.tAnd (.tCmp .NotIn (.var 4) (.var 2)) (.tCmp .In (.lit (.int (1))) (.lc (.tVal (.var 2)) (.one 5) [5] (.ix (.ix (.var 0) (.var 5)) (.var 4))))) (.var 4)))))]), (.ret [] (.pure (.bi1 .tuple (.bi1 .sorted (.var 2)))))]
theorem sr77 : srOf 77 = some q77 := by kernel_rfl
theorem ph77 (fu k : Nat) : phi fu (k + 1) "_law_flood" = some (runD (phi fu k) fu 6 q77) := by
  show (fnIx "_law_flood").bind (semF fu k (phi fu k)) = _
  rw [show fnIx "_law_flood" = some 77 by kernel_rfl]
  show semF fu k (phi fu k) 77 = _
  unfold semF
  rw [if_neg (by decide), if_neg (by decide), if_neg (by decide), if_neg (by decide), if_neg (show ¬ isW (topS 77) = true by decide +kernel), sr77, show slN (topS 77) = slN (topS 77) from rfl]
  exact congrArg (fun m => some (runD (phi fu k) fu m q77)) (show (slN (topS 77)).length = 6 by kernel_rfl)
def q78 : List SR := [(.own 2 [] (.lst [])), (.set 3 [] (.pure (.bi1 .list (.var 1)))), (.iter (.one 4) [] (.rng1 (.bi1 .len (.var 1))) [(.ite (.tCmp .NotEq (.var 3) (.lst [])) [(.app 2 [] (.fn "_law_flood" [(.var 0), (.var 3)])), (.set 3 [] (.pure (.lcIf (.tVal (.var 3)) (.one 5) [5] (.tCmp .NotIn (.var 5) (.ix (.var 2) (.neg (.lit (.int (1)))))) (.var 5))))] [])]), (.ret [2] (.pure (.var 2)))]
theorem sr78 : srOf 78 = some q78 := by kernel_rfl
theorem ph78 (fu k : Nat) : phi fu (k + 1) "_law_pieces" = some (runD (phi fu k) fu 6 q78) := by
  show (fnIx "_law_pieces").bind (semF fu k (phi fu k)) = _
  rw [show fnIx "_law_pieces" = some 78 by kernel_rfl]
  show semF fu k (phi fu k) 78 = _
  unfold semF
  rw [if_neg (by decide), if_neg (by decide), if_neg (by decide), if_neg (by decide), if_neg (show ¬ isW (topS 78) = true by decide +kernel), sr78, show slN (topS 78) = slN (topS 78) from rfl]
  exact congrArg (fun m => some (runD (phi fu k) fu m q78)) (show (slN (topS 78)).length = 6 by kernel_rfl)
def q79 : List SR := [(.set 1 [] (.pure (.bi1 .len (.var 0)))), (.own 2 [] (.lst [])), (.iter (.one 3) [] (.rng1 (.var 1)) [(.own 4 [] (.bin .Mult (.lst [(.lit .none)]) (.var 1))), (.put 4 (.var 3) (.lit (.int (0)))), (.iter (.one 5) [] (.rng2 (.lit (.int (1))) (.var 1)) [(.set 7 [] (.pure (.lcIf (.rng1 (.var 1)) (.one 6) [6] (.tCmp .Eq (.ix (.var 4) (.var 6)) (.bin .Sub (.var 5) (.lit (.int (1))))) (.var 6)))), (.iter (.one 6) [] (.rng1 (.var 1)) [(.ite (.tAnd (.tCmp .Is (.ix (.var 4) (.var 6)) (.lit .none)) (.tCmp .In (.lit (.int (1))) (.lc (.tVal (.var 7)) (.one 8) [8] (.ix (.ix (.var 0) (.var 8)) (.var 6))))) [(.put 4 (.var 6) (.var 5))] [])])]), (.app 2 [4] (.var 4))]), (.ret [2] (.pure (.var 2)))]
theorem sr79 : srOf 79 = some q79 := by kernel_rfl
theorem ph79 (fu k : Nat) : phi fu (k + 1) "_law_far" = some (runD (phi fu k) fu 9 q79) := by
  show (fnIx "_law_far").bind (semF fu k (phi fu k)) = _
  rw [show fnIx "_law_far" = some 79 by kernel_rfl]
  show semF fu k (phi fu k) 79 = _
  unfold semF
  rw [if_neg (by decide), if_neg (by decide), if_neg (by decide), if_neg (by decide), if_neg (show ¬ isW (topS 79) = true by decide +kernel), sr79, show slN (topS 79) = slN (topS 79) from rfl]
  exact congrArg (fun m => some (runD (phi fu k) fu m q79)) (show (slN (topS 79)).length = 9 by kernel_rfl)
def q80 : List SR := [(.set 1 [] (.pure (.bi1 .len (.var 0)))), (.ret [] (.pure (.bi1 .tuple (.lc (.rng1 (.var 1)) (.one 2) [2] (.bi1 .tuple (.lc (.rng1 (.var 1)) (.one 3) [3] (.bin .Sub (.bi1 .int (.cmp .NotEq (.var 2) (.var 3))) (.ix (.ix (.var 0) (.var 2)) (.var 3)))))))))]
theorem sr80 : srOf 80 = some q80 := by kernel_rfl
theorem ph80 (fu k : Nat) : phi fu (k + 1) "_law_mirrored" = some (runD (phi fu k) fu 4 q80) := by
  show (fnIx "_law_mirrored").bind (semF fu k (phi fu k)) = _
  rw [show fnIx "_law_mirrored" = some 80 by kernel_rfl]
  show semF fu k (phi fu k) 80 = _
  unfold semF
  rw [if_neg (by decide), if_neg (by decide), if_neg (by decide), if_neg (by decide), if_neg (show ¬ isW (topS 80) = true by decide +kernel), sr80, show slN (topS 80) = slN (topS 80) from rfl]
  exact congrArg (fun m => some (runD (phi fu k) fu m q80)) (show (slN (topS 80)).length = 4 by kernel_rfl)
def q81 : List SR := [(.set 2 [] (.pure (.lrng (.bi1 .len (.var 0))))), (.set 3 [] (.pure (.fn "_law_pieces" [(.var 0), (.var 2)]))), (.set 4 [] (.pure (.fn "_law_pieces" [(.fn "_law_mirrored" [(.var 0)]), (.var 2)]))), (.ite (.tOr (.tNot (.tVal (.fn "_law_same" [(.fn "pieces" [(.var 0)]), (.var 3)]))) (.tNot (.tVal (.fn "_law_same" [(.fn "pieces" [(.fn "mirrored" [(.var 0)])]), (.var 4)])))) [(.ret [] (.pure (.lit (.bool false))))] []), (.ite (.tCmp .Eq (.bi1 .len (.var 2)) (.lit (.int (1)))) [(.ret [] (.pure (.cmp .Eq (.var 1) (.tup [(.tup [(.lit (.int (0)))]), (.lit (.str "leaf")), (.tup [])]))))] []), (.set 5 [] (.pure (.lit (.str "prime")))), (.iter (.one 6) [] (.tVal (.lst [(.var 3), (.var 4)])) [(.ite (.tCmp .Gt (.bi1 .len (.var 6)) (.lit (.int (1)))) [(.set 5 [] (.pure (.tup [(.lit (.str "full")), (.bi1 .tuple (.var 6))])))] [])]), (.ite (.tAnd (.tCmp .Gt (.bi1 .len (.var 3)) (.lit (.int (1)))) (.tCmp .Gt (.bi1 .len (.var 4)) (.lit (.int (1))))) [(.ret [] (.pure (.lit (.bool false))))] []), (.ite (.tCmp .Eq (.var 5) (.lit (.str "prime"))) [(.ret [] (.pure (.cmp .Eq (.ix (.var 1) (.lit (.int (1)))) (.lit (.str "prime")))))] []), (.set 7 [] (.pure (.bi1 .int (.cmp .Gt (.bi1 .len (.var 4)) (.lit (.int (1))))))), (.set 8 [] (.pure (.fn "quotient" [(.var 0), (.ix (.var 1) (.lit (.int (0))))]))), (.ret [] (.pure (.andV (.cmp .Eq (.sl (.var 1) (some (1)) none) (.var 5)) (.andV (.cmp .Eq (.ix (.ix (.var 8) (.lit (.int (0)))) (.lit (.int (1)))) (.var 7)) (.cmp .Eq (.ix (.ix (.var 8) (.lit (.int (1)))) (.lit (.int (0)))) (.var 7))))))]
theorem sr81 : srOf 81 = some q81 := by kernel_rfl
theorem ph81 (fu k : Nat) : phi fu (k + 1) "_law_root_right" = some (runD (phi fu k) fu 9 q81) := by
  show (fnIx "_law_root_right").bind (semF fu k (phi fu k)) = _
  rw [show fnIx "_law_root_right" = some 81 by kernel_rfl]
  show semF fu k (phi fu k) 81 = _
  unfold semF
  rw [if_neg (by decide), if_neg (by decide), if_neg (by decide), if_neg (by decide), if_neg (show ¬ isW (topS 81) = true by decide +kernel), sr81, show slN (topS 81) = slN (topS 81) from rfl]
  exact congrArg (fun m => some (runD (phi fu k) fu m q81)) (show (slN (topS 81)).length = 9 by kernel_rfl)
def q82 : List SR := [(.set 4 [] (.pure (.fn "least_strong" [(.var 0), (.tup [(.var 2), (.var 3)])]))), (.ite (.tCmp .In (.lit (.int (1))) (.lcIf (.rng1 (.bi1 .len (.var 0))) (.one 8) [8] (.tCmp .NotIn (.var 8) (.var 4)) (.ix (.ix (.var 0) (.var 2)) (.var 8)))) [(.ret [] (.pure (.lit (.int (2)))))] []), (.set 5 [] (.pure (.ix (.lcIf (.tVal (.var 1)) (.one 5) [5] (.tCmp .Eq (.ix (.var 5) (.lit (.int (0)))) (.var 4)) (.var 5)) (.lit (.int (0)))))), (.ite (.tCmp .Eq (.ix (.var 5) (.lit (.int (1)))) (.lit (.str "full"))) [(.ret [] (.pure (.lit .none)))] []), (.set 6 [] (.pure (.ix (.lcIf (.rng1 (.bi1 .len (.ix (.var 5) (.lit (.int (2)))))) (.one 9) [9] (.tCmp .In (.var 2) (.ix (.ix (.var 5) (.lit (.int (2)))) (.var 9))) (.var 9)) (.lit (.int (0)))))), (.set 7 [] (.pure (.ix (.lcIf (.rng1 (.bi1 .len (.ix (.var 5) (.lit (.int (2)))))) (.one 9) [9] (.tCmp .In (.var 3) (.ix (.ix (.var 5) (.lit (.int (2)))) (.var 9))) (.var 9)) (.lit (.int (0)))))), (.ret [] (.pure (.ix (.ix (.fn "_law_far" [(.fn "quotient" [(.var 0), (.var 4)])]) (.var 6)) (.var 7))))]
theorem sr82 : srOf 82 = some q82 := by kernel_rfl
theorem ph82 (fu k : Nat) : phi fu (k + 1) "_law_told_distance" = some (runD (phi fu k) fu 10 q82) := by
  show (fnIx "_law_told_distance").bind (semF fu k (phi fu k)) = _
  rw [show fnIx "_law_told_distance" = some 82 by kernel_rfl]
  show semF fu k (phi fu k) 82 = _
  unfold semF
  rw [if_neg (by decide), if_neg (by decide), if_neg (by decide), if_neg (by decide), if_neg (show ¬ isW (topS 82) = true by decide +kernel), sr82, show slN (topS 82) = slN (topS 82) from rfl]
  exact congrArg (fun m => some (runD (phi fu k) fu m q82)) (show (slN (topS 82)).length = 10 by kernel_rfl)
def q83 : List SR := [(.set 2 [] (.pure (.lst []))), (.iter (.one 3) [] (.rng1 (.var 1)) [(.set 2 [] (.pure (.bin .Add (.var 2) (.lc (.rng1 (.var 3)) (.one 4) [4] (.tup [(.var 4), (.var 3)])))))]), (.ite (.tCmp .Lt (.var 1) (.lit (.int (8)))) [(.ret [] (.pure (.var 2)))] []), (.ret [] (.lcX (.rng1 (.lit (.int (5)))) (.one 5) [5] (.ix (.pure (.var 2)) (.wfn "_law_draw" [(.pure (.bi1 .len (.var 2)))]))))]
theorem sr83 : srOf 83 = some q83 := by kernel_rfl
theorem ph83 (fu k : Nat) : psi fu (k + 1) "_law_pairs" = some (runW (phi fu k) (psi fu k) fu 6 q83) := by
  show (fnIx "_law_pairs").bind (semW fu k (phi fu k) (psi fu k)) = _
  rw [show fnIx "_law_pairs" = some 83 by kernel_rfl]
  show semW fu k (phi fu k) (psi fu k) 83 = _
  unfold semW
  rw [if_neg (by decide), if_neg (by decide), if_neg (by decide), if_neg (by decide), if_pos (show isW (topS 83) = true by decide +kernel), sr83]
  exact congrArg (fun m => some (runW (phi fu k) (psi fu k) fu m q83)) (show (slN (topS 83)).length = 6 by kernel_rfl)
end SN
end
section
set_option linter.all false
/-! M1: blocks of a web, strong ones; plain. -/
namespace SN
open Classical
abbrev Pd := Nat → Prop
def Mo (n : Nat) (w : Nat → Nat → Bool) (A : Pd) : Prop := (∀ x, A x → x < n) ∧ ∀ x y z, x < n → ¬ A x → A y → A z → w x y = w x z
def Ov (A B : Pd) : Prop := (∃ x, A x ∧ B x) ∧ (∃ x, A x ∧ ¬ B x) ∧ ∃ x, B x ∧ ¬ A x
def Stg (n : Nat) (w : Nat → Nat → Bool) (A : Pd) : Prop := Mo n w A ∧ ∀ B, Mo n w B → ¬ Ov A B
/-- the least block over two things -/
def cl (n : Nat) (w : Nat → Nat → Bool) (x y : Nat) : Pd := fun z => ∀ B, Mo n w B → B x → B y → B z
/-- the least strong block over two things -/
def ls (n : Nat) (w : Nat → Nat → Bool) (x y : Nat) : Pd := fun z => ∀ B, Stg n w B → B x → B y → B z
section
variable {n : Nat} {w : Nat → Nat → Bool} {A B : Pd} {x y z : Nat}
theorem Mo.all : Mo n w (· < n) := ⟨fun _ h => h, fun x y z h1 h2 => absurd h1 h2⟩
theorem Mo.one (hx : x < n) : Mo n w (· = x) := ⟨fun _ h => h ▸ hx, fun a y z _ _ h1 h2 => by rw [h1, h2]⟩
theorem Mo.or (hA : Mo n w A) (hB : Mo n w B) (h : ∃ x, A x ∧ B x) : Mo n w fun x => A x ∨ B x := by
  obtain ⟨p, pA, pB⟩ := h
  refine ⟨fun x h => h.elim (hA.1 x) (hB.1 x), fun x y z hx hn hy hz => ?_⟩
  have nA : ¬ A x := fun h => hn (.inl h)
  have nB : ¬ B x := fun h => hn (.inr h)
  have key : ∀ y, (A y ∨ B y) → w x y = w x p := fun y h => h.elim (fun h => hA.2 x y p hx nA h pA) (fun h => hB.2 x y p hx nB h pB)
  rw [key y hy, key z hz]
theorem Stg.all : Stg n w (· < n) := ⟨Mo.all, fun B hB ⟨_, _, x, h1, h2⟩ => h2 (hB.1 x h1)⟩
theorem Stg.one (hx : x < n) : Stg n w (· = x) := ⟨Mo.one hx, fun B hB ⟨⟨a, e, h⟩, ⟨b, e2, h2⟩, _⟩ => h2 (e2 ▸ e ▸ h)⟩
/-- two strong ones with a thing in common -/
theorem Stg.chain (hA : Stg n w A) (hB : Mo n w B) (h : A x) (h2 : B x) : (∀ z, A z → B z) ∨ ∀ z, B z → A z := by
  refine byContradiction fun q => ?_
  simp only [not_or, Classical.not_forall] at q
  obtain ⟨⟨a, a1, a2⟩, b, b1, b2⟩ := q
  exact hA.2 B hB ⟨⟨x, h, h2⟩, ⟨a, a1, a2⟩, b, b1, b2⟩
theorem cl_mo (hx : x < n) (hy : y < n) : Mo n w (cl n w x y) := by
  refine ⟨fun z h => h _ Mo.all hx hy, fun a b c ha hn hb hc => ?_⟩
  have hn' : ∃ B, Mo n w B ∧ B x ∧ B y ∧ ¬ B a := byContradiction fun q => hn fun B h1 h2 h3 => byContradiction fun h4 => q ⟨B, h1, h2, h3, h4⟩
  obtain ⟨B, h1, h2, h3, h4⟩ := hn'
  exact h1.2 a b c ha h4 (hb B h1 h2 h3) (hc B h1 h2 h3)
theorem cl_l : cl n w x y x := fun B _ h _ => h
theorem cl_r : cl n w x y y := fun B _ _ h => h
theorem ls_l : ls n w x y x := fun B _ h _ => h
theorem ls_r : ls n w x y y := fun B _ _ h => h
theorem ls_cl : cl n w x y z → ls n w x y z := fun h B hB hx hy => h B hB.1 hx hy
theorem ls_str (hx : x < n) (hy : y < n) : Stg n w (ls n w x y) := by
  have out : ∀ a, ¬ ls n w x y a → ∃ B, Stg n w B ∧ B x ∧ B y ∧ ¬ B a := fun a hn => byContradiction fun q => hn fun B h1 h2 h3 => byContradiction fun h4 => q ⟨B, h1, h2, h3, h4⟩
  refine ⟨⟨fun z h => h _ Stg.all hx hy, fun a b c ha hn hb hc => ?_⟩, fun C hC ⟨⟨p, p1, p2⟩, ⟨q, q1, q2⟩, r, r1, r2⟩ => ?_⟩
  · obtain ⟨B, h1, h2, h3, h4⟩ := out a hn
    exact h1.1.2 a b c ha h4 (hb B h1 h2 h3) (hc B h1 h2 h3)
  · obtain ⟨B, h1, h2, h3, h4⟩ := out r r2
    exact h1.2 C hC ⟨⟨p, p1 B h1 h2 h3, p2⟩, ⟨q, q1 B h1 h2 h3, q2⟩, r, r1, h4⟩
/-- strong by the closures of pairs -/
theorem Stg.of (hA : Mo n w A) (h : ∀ x y, x < y → y < n → ¬ Ov A (cl n w x y)) : Stg n w A := by
  refine ⟨hA, fun B hB ⟨⟨p, p1, p2⟩, ⟨q, q1, q2⟩, r, r1, r2⟩ => ?_⟩
  have hne : p ≠ r := fun e => r2 (e ▸ p1)
  have hr := hB.1 r r1
  have hp := hB.1 p p2
  rcases Nat.lt_or_gt_of_ne hne with hl | hl
  · exact h p r hl hr ⟨⟨p, p1, cl_l⟩, ⟨q, q1, fun z => q2 (z B hB p2 r1)⟩, r, cl_r, r2⟩
  · exact h r p hl hp ⟨⟨p, p1, cl_r⟩, ⟨q, q1, fun z => q2 (z B hB r1 p2)⟩, r, cl_l, r2⟩
theorem ls_comm : ls n w x y = ls n w y x := funext fun z => propext ⟨fun h B hB h1 h2 => h B hB h2 h1, fun h B hB h1 h2 => h B hB h2 h1⟩
/-- each strong block of two things or more is least over two of its things -/
theorem Stg.eq_ls (hA : Stg n w A) (hx : A x) (hy : A y) (hne : x ≠ y) : ∃ a b, a < b ∧ b < n ∧ A a ∧ A b ∧ ∀ z, ls n w a b z ↔ A z := by
  have go : ∀ m, (∃ b, b < m ∧ A b ∧ b ≠ x) → ∃ b, b < m ∧ A b ∧ b ≠ x ∧ ∀ c, c < m → A c → ls n w x b c := by
    intro m
    induction m with
    | zero => exact fun ⟨b, h, _⟩ => by omega
    | succ m ih =>
      intro ⟨b0, hb0, h1, h2⟩
      by_cases hm : A m ∧ m ≠ x
      · by_cases hp : ∃ b, b < m ∧ A b ∧ b ≠ x
        · obtain ⟨b, b1, b2, b3, b4⟩ := ih hp
          have xn := hA.1.1 x hx
          by_cases hin : ls n w x b m
          · exact ⟨b, by omega, b2, b3, fun c hc ac => if e : c = m then by rw [e]; exact hin else b4 c (by omega) ac⟩
          · refine ⟨m, by omega, hm.1, hm.2, fun c hc ac => ?_⟩
            rcases (ls_str (w := w) xn (hA.1.1 b b2)).chain (ls_str (w := w) xn (hA.1.1 m hm.1)).1 ls_l ls_l with k | k
            · by_cases e : c = m
              · rw [e]; exact ls_r
              · exact k c (b4 c (by omega) ac)
            · exact absurd (k m ls_r) hin
        · refine ⟨m, by omega, hm.1, hm.2, fun c hc ac => ?_⟩
          by_cases e : c = m
          · rw [e]; exact ls_r
          · by_cases e2 : c = x
            · rw [e2]; exact ls_l
            · exact absurd ⟨c, by omega, ac, e2⟩ hp
      · have hp : ∃ b, b < m ∧ A b ∧ b ≠ x := ⟨b0, by
          by_cases e : b0 = m
          · exact absurd ⟨e ▸ h1, e ▸ h2⟩ hm
          · omega, h1, h2⟩
        obtain ⟨b, b1, b2, b3, b4⟩ := ih hp
        refine ⟨b, by omega, b2, b3, fun c hc ac => ?_⟩
        by_cases e : c = m
        · by_cases e2 : c = x
          · rw [e2]; exact ls_l
          · exact absurd ⟨e ▸ ac, e ▸ e2⟩ hm
        · exact b4 c (by omega) ac
  obtain ⟨b, b1, b2, b3, b4⟩ := go n ⟨y, hA.1.1 y hy, hy, Ne.symm hne⟩
  have both : ∀ z, ls n w x b z ↔ A z := fun z => ⟨fun h => h A hA hx b2, fun h => b4 z (hA.1.1 z h) h⟩
  rcases Nat.lt_or_gt_of_ne b3 with hl | hl
  · exact ⟨b, x, hl, hA.1.1 x hx, b2, hx, by rw [ls_comm]; exact both⟩
  · exact ⟨x, b, hl, hA.1.1 b b2, hx, b2, both⟩
end
/-! ### pieces -/
/-- ways of the ties k -/
inductive Cn (n : Nat) (w : Nat → Nat → Bool) (k : Bool) (x : Nat) : Nat → Prop
  | refl : Cn n w k x x
  | step {y z} : Cn n w k x y → z < n → y ≠ z → w y z = k → Cn n w k x z
section
variable {n : Nat} {w : Nat → Nat → Bool} {A B : Pd} {x y z : Nat} {k : Bool}
theorem Cn.trans (h : Cn n w k x y) (h2 : Cn n w k y z) : Cn n w k x z := by
  induction h2 with
  | refl => exact h
  | step _ a b c ih => exact ih.step a b c
theorem Cn.lt (h : Cn n w k x y) (hx : x < n) : y < n := by
  cases h with
  | refl => exact hx
  | step _ a _ _ => exact a
theorem Cn.symm (hs : ∀ x y, w x y = w y x) (hx : x < n) (h : Cn n w k x y) : Cn n w k y x := by
  induction h with
  | refl => exact .refl
  | step h a b c ih => exact (Cn.step .refl (h.lt hx) (Ne.symm b) (by rw [hs]; exact c)).trans ih
theorem Cn.cross (h : Cn n w k x y) (hx : B x) (hy : ¬ B y) : ∃ u v, Cn n w k x u ∧ B u ∧ ¬ B v ∧ v < n ∧ u ≠ v ∧ w u v = k := by
  induction h with
  | refl => exact absurd hx hy
  | step h a b c ih =>
    rename_i u v
    by_cases q : B u
    · exact ⟨u, v, h, q, hy, a, b, c⟩
    · exact ih q
/-- the piece of a thing -/
abbrev pc (n : Nat) (w : Nat → Nat → Bool) (k : Bool) (x : Nat) : Pd := fun y => Cn n w k x y
theorem pc_mo (hs : ∀ x y, w x y = w y x) (hx : x < n) : Mo n w (pc n w k x) := by
  refine ⟨fun y h => h.lt hx, fun a y z ha hn hy hz => ?_⟩
  have key : ∀ y, pc n w k x y → w a y = !k := fun y h => by
    have : ¬ w a y = k := fun e => hn (h.step ha (fun e => hn (e ▸ h)) (by rw [hs]; exact e))
    cases q : w a y <;> cases k <;> simp_all
  rw [key y hy, key z hz]
theorem pc_str (hs : ∀ x y, w x y = w y x) (hx : x < n) : Stg n w (pc n w k x) := by
  refine ⟨pc_mo hs hx, fun B hB ⟨⟨p, p1, p2⟩, ⟨q, q1, q2⟩, r, r1, r2⟩ => ?_⟩
  obtain ⟨u, v, c1, c2, c3, c4, c5, c6⟩ := ((p1.symm hs hx).trans q1).cross p2 q2
  have e : w v r = w v u := hB.2 v r u c4 c3 r1 c2
  refine r2 (((p1.trans c1).step c4 c5 c6).step (hB.1 r r1) (fun e => c3 (e ▸ r1)) (by rw [e, hs]; exact c6))
/-- a strong block but all things lies in a piece, where there are two -/
theorem Stg.in_pc (hs : ∀ x y, w x y = w y x) (hA : Stg n w A) (hx : A x) (hz : z < n) (hn : ¬ A z) : ∀ y, A y → Cn n w k x y := by
  intro y hy
  refine byContradiction fun q => ?_
  have xn := hA.1.1 x hx
  have yn := hA.1.1 y hy
  have sub : ∀ {x y}, A x → A y → ¬ Cn n w k x y → ∀ v, Cn n w k x v → A v := fun {x y} hx hy q => by
    rcases hA.chain (pc_mo (k := k) hs (hA.1.1 x hx)) hx (.refl : pc n w k x x) with h | h
    · exact absurd (h y hy) q
    · exact h
  have sx := sub hx hy q
  have sy := sub hy hx fun h => q (h.symm hs yn)
  have hB : Mo n w fun v => Cn n w k x v ∨ Cn n w k z v := by
    refine ⟨fun v h => h.elim (fun h => h.lt xn) fun h => h.lt hz, fun a b c ha hn hb hc => ?_⟩
    have key : ∀ b, (Cn n w k x b ∨ Cn n w k z b) → w a b = !k := fun b h => by
      have : ¬ w a b = k := fun e => hn (h.imp (fun h => h.step ha (fun e => hn (.inl (e ▸ h))) (by rw [hs]; exact e)) fun h => h.step ha (fun e => hn (.inr (e ▸ h))) (by rw [hs]; exact e))
      cases q : w a b <;> cases k <;> simp_all
    rw [key b hb, key c hc]
  refine hA.2 _ hB ⟨⟨x, hx, .inl .refl⟩, ⟨y, hy, fun h => h.elim q fun h => hn (sy z (h.symm hs hz))⟩, z, .inr .refl, hn⟩
theorem Cn.other (hs : ∀ x y, w x y = w y x) {a b : Nat} (ha : a < n) (hb : b < n) (q : ¬ Cn n w k a b) (hx : x < n) (hy : y < n) : Cn n w (!k) x y := by
  have dif : ∀ {x y}, x < n → y < n → ¬ Cn n w k x y → Cn n w (!k) x y := fun {x y} hx hy q => by
    refine Cn.step .refl hy (fun e => q (e ▸ .refl)) ?_
    have : ¬ w x y = k := fun e => q (Cn.step .refl hy (fun e => q (e ▸ .refl)) e)
    cases h : w x y <;> cases k <;> simp_all
  by_cases h : Cn n w k x y
  · have : ∃ e, e < n ∧ ¬ Cn n w k x e := byContradiction fun z => by
      simp only [not_exists, not_and, Classical.not_not] at z
      exact q (((z a ha).symm hs hx).trans (z b hb))
    obtain ⟨e, he, hn⟩ := this
    exact (dif hx he hn).trans (dif he hy fun z => hn (h.trans (z.symm hs he)))
  · exact dif hx hy h
end
/-! ### distances -/
def Ball (w : Nat → Nat → Bool) (s : Nat) : Nat → Nat → Prop
  | 0, t => t = s
  | k + 1, t => Ball w s k t ∨ ∃ u, Ball w s k u ∧ w u t = true
def Dst (w : Nat → Nat → Bool) (s t : Nat) : Option Nat → Prop
  | some d => Ball w s d t ∧ ∀ e, e < d → ¬ Ball w s e t
  | none => ∀ k, ¬ Ball w s k t
section
variable {w v : Nat → Nat → Bool} {s t : Nat}
theorem Ball.mono {k l : Nat} (h : Ball w s k t) (hl : k ≤ l) : Ball w s l t := by
  induction l with
  | zero => rw [show k = 0 by omega] at h; exact h
  | succ l ih =>
    by_cases e : k = l + 1
    · exact e ▸ h
    · exact .inl (ih (by omega))
theorem Dst.uniq {d e : Option Nat} (h : Dst w s t d) (h2 : Dst w s t e) : d = e := by
  cases d with
  | none => cases e with
    | none => rfl
    | some e => exact absurd h2.1 (h e)
  | some d => cases e with
    | none => exact absurd h.1 (h2 d)
    | some e =>
      rcases Nat.lt_trichotomy d e with q | q | q
      · exact absurd h.1 (h2.2 d q)
      · rw [q]
      · exact absurd h2.1 (h.2 e q)
theorem Dst.iff {s' t' : Nat} {d : Option Nat} (h : ∀ k, Ball w s k t ↔ Ball v s' k t') (hd : Dst w s t d) : Dst v s' t' d := by
  cases d with
  | none => exact fun k z => hd k ((h k).mpr z)
  | some d => exact ⟨(h d).mp hd.1, fun e he z => hd.2 e he ((h e).mpr z)⟩
/-- distances in a quotient -/
theorem ball_quot {L : Pd} {ix : Nat → Nat} {m : Nat} {q : Nat → Nat → Bool} (hs : L s) (hin : ∀ a b, L a → w a b = true → L b)
    (hix : ∀ a, L a → ix a < m) (hsur : ∀ i, i < m → ∃ a, L a ∧ ix a = i) (hq : ∀ a b, L a → L b → ix a ≠ ix b → w a b = q (ix a) (ix b)) (hb : ∀ i j, q i j = true → i < m ∧ j < m ∧ i ≠ j) :
    (∀ k t, Ball w s k t → L t ∧ Ball q (ix s) k (ix t)) ∧ ∀ k i, Ball q (ix s) k i → i < m ∧ ∀ t, L t → ix t = i → i ≠ ix s → Ball w s k t := by
  constructor
  · intro k
    induction k with
    | zero => intro t h; rw [show t = s from h]; exact ⟨hs, rfl⟩
    | succ k ih =>
      intro t h
      rcases h with h | ⟨u, h, e⟩
      · exact ⟨(ih t h).1, .inl (ih t h).2⟩
      · obtain ⟨u1, u2⟩ := ih u h
        have t1 := hin u t u1 e
        refine ⟨t1, ?_⟩
        by_cases z : ix u = ix t
        · rw [← z]; exact .inl u2
        · exact .inr ⟨ix u, u2, by rw [← hq u t u1 t1 z]; exact e⟩
  · intro k
    induction k with
    | zero => intro i h; exact ⟨by rw [show i = ix s from h]; exact hix s hs, fun t _ _ z => absurd h z⟩
    | succ k ih =>
      intro i h
      rcases h with h | ⟨j, h, e⟩
      · exact ⟨(ih i h).1, fun t h1 h2 h3 => .inl ((ih i h).2 t h1 h2 h3)⟩
      · obtain ⟨b1, b2, b3⟩ := hb j i e
        refine ⟨b2, fun t h1 h2 h3 => ?_⟩
        obtain ⟨_, j2⟩ := ih j h
        by_cases z : j = ix s
        · refine .inr ⟨s, Ball.mono (k := 0) rfl (Nat.zero_le _), ?_⟩
          rw [hq s t hs h1 (by rw [h2, ← z]; exact b3), h2, ← z]; exact e
        · obtain ⟨u, u1, u2⟩ := hsur j b1
          refine .inr ⟨u, j2 u u1 u2 z, ?_⟩
          rw [hq u t u1 h1 (by rw [h2, u2]; exact b3), h2, u2]; exact e
end
end SN
end
section
set_option linter.all false
/-! M2: the family of strong blocks as ascending lists; children; quotients. -/
namespace SN
abbrev ofL (l : List Nat) : Pd := fun x => x ∈ l
abbrev Asc (l : List Nat) : Prop := l.Pairwise (· < ·)
theorem Asc.sub : ∀ {b a : List Nat}, Asc a → Asc b → (∀ x, x ∈ a → x ∈ b) → a.Sublist b
  | [], a, _, _, h => by
    cases a with
    | nil => exact .slnil
    | cons x a => exact absurd (h x (List.mem_cons_self ..)) (by simp)
  | y :: b, [], _, _, _ => List.nil_sublist _
  | y :: b, x :: a, ha, hb, h => by
    obtain ⟨a1, a2⟩ := List.pairwise_cons.mp ha
    obtain ⟨b1, b2⟩ := List.pairwise_cons.mp hb
    by_cases e : x = y
    · subst e
      refine List.Sublist.cons_cons x (Asc.sub a2 b2 fun z hz => ?_)
      rcases List.mem_cons.mp (h z (List.mem_cons_of_mem _ hz)) with q | q
      · have := a1 z hz; omega
      · exact q
    · have xb : x ∈ b := (List.mem_cons.mp (h x (List.mem_cons_self ..))).resolve_left e
      have yx := b1 x xb
      refine List.Sublist.cons y (Asc.sub ha b2 fun z hz => ?_)
      rcases List.mem_cons.mp (h z hz) with q | q
      · subst q
        rcases List.mem_cons.mp hz with q | q
        · exact absurd q.symm e
        · have := a1 z q; omega
      · exact q
theorem Asc.ext {a b : List Nat} (ha : Asc a) (hb : Asc b) (h : ∀ x, x ∈ a ↔ x ∈ b) : a = b :=
  (ha.sub hb fun x => (h x).mp).eq_of_length (Nat.le_antisymm (ha.sub hb fun x => (h x).mp).length_le (hb.sub ha fun x => (h x).mpr).length_le)
theorem Asc.lt {a b : List Nat} (ha : Asc a) (hb : Asc b) (h : ∀ x, x ∈ a → x ∈ b) (hn : a ≠ b) : a.length < b.length := by
  have s := ha.sub hb h
  rcases Nat.lt_or_ge a.length b.length with q | q
  · exact q
  · exact absurd (s.eq_of_length_le q) hn
def hd (l : List Nat) : Nat := l.headD 0
theorem hd_mem {l : List Nat} (h : l ≠ []) : hd l ∈ l := by
  cases l with
  | nil => exact absurd rfl h
  | cons x l => exact List.mem_cons_self ..
theorem pw_ext {α : Type} {R : α → α → Prop} (hi : ∀ a, ¬ R a a) (has : ∀ a b, R a b → ¬ R b a) : ∀ {l m : List α}, l.Pairwise R → m.Pairwise R → (∀ x, x ∈ l ↔ x ∈ m) → l = m
  | [], [], _, _, _ => rfl
  | [], y :: m, _, _, h => absurd ((h y).mpr (List.mem_cons_self ..)) (by simp)
  | x :: l, [], _, _, h => absurd ((h x).mp (List.mem_cons_self ..)) (by simp)
  | x :: l, y :: m, hl, hm, h => by
    obtain ⟨l1, l2⟩ := List.pairwise_cons.mp hl
    obtain ⟨m1, m2⟩ := List.pairwise_cons.mp hm
    have e : x = y := by
      rcases List.mem_cons.mp ((h x).mp (List.mem_cons_self ..)) with q | q
      · exact q
      · rcases List.mem_cons.mp ((h y).mpr (List.mem_cons_self ..)) with p | p
        · exact p.symm
        · exact absurd (m1 x q) (has _ _ (l1 y p))
    subst e
    rw [pw_ext hi has l2 m2 fun z => ⟨fun hz => ?_, fun hz => ?_⟩]
    · rcases List.mem_cons.mp ((h z).mp (List.mem_cons_of_mem _ hz)) with q | q
      · exact absurd (q ▸ l1 z hz) (hi x)
      · exact q
    · rcases List.mem_cons.mp ((h z).mpr (List.mem_cons_of_mem _ hz)) with q | q
      · exact absurd (q ▸ m1 z hz) (hi x)
      · exact q
def within (a b : List Nat) : Bool := a.all fun x => decide (x ∈ b)
theorem within_iff {a b : List Nat} : within a b = true ↔ ∀ x, x ∈ a → x ∈ b := by simp [within]
def inner (F : List (List Nat)) (l : List Nat) : List (List Nat) := F.filter fun o => decide (o ≠ l) && within o l
def below (F : List (List Nat)) (l : List Nat) : List (List Nat) := (inner F l).filter fun o => !((inner F l).any fun p => decide (o ≠ p) && within o p)
structure Fam (n : Nat) (w : Nat → Nat → Bool) (F : List (List Nat)) : Prop where
  nd : F.Nodup
  st : ∀ l, l ∈ F → Asc l ∧ l ≠ [] ∧ Stg n w (ofL l)
  all : ∀ A, Stg n w A → (∃ x, A x) → ∃ l, l ∈ F ∧ ∀ x, x ∈ l ↔ A x
def kids (F : List (List Nat)) (l : List Nat) : List (List Nat) := (below F l).mergeSort fun a b => decide (hd a ≤ hd b)
theorem kids_perm {F : List (List Nat)} {l : List Nat} : (kids F l).Perm (below F l) := List.mergeSort_perm _ _
theorem mem_inner {F : List (List Nat)} {l K : List Nat} : K ∈ inner F l ↔ K ∈ F ∧ K ≠ l ∧ ∀ x, x ∈ K → x ∈ l := by
  unfold inner
  rw [List.mem_filter, Bool.and_eq_true, within_iff]
  simp
theorem mem_below {F : List (List Nat)} {l K : List Nat} : K ∈ below F l ↔ (K ∈ F ∧ K ≠ l ∧ ∀ x, x ∈ K → x ∈ l) ∧ ∀ p, p ∈ F → p ≠ l → (∀ x, x ∈ p → x ∈ l) → (∀ x, x ∈ K → x ∈ p) → p = K := by
  unfold below
  rw [List.mem_filter, mem_inner]
  refine and_congr_right fun _ => ?_
  rw [Bool.not_eq_true', List.any_eq_false]
  constructor
  · intro h p h1 h2 h3 h4
    have := h p (mem_inner.mpr ⟨h1, h2, h3⟩)
    rw [Bool.and_eq_true, within_iff, decide_eq_true_eq] at this
    exact Classical.byContradiction fun e => this ⟨fun z => e z.symm, h4⟩
  · intro h p hp
    obtain ⟨h1, h2, h3⟩ := mem_inner.mp hp
    rw [Bool.and_eq_true, within_iff, decide_eq_true_eq]
    exact fun ⟨e, h4⟩ => e (h p h1 h2 h3 h4).symm
theorem mem_kids {F : List (List Nat)} {l K : List Nat} : K ∈ kids F l ↔ K ∈ below F l := kids_perm.mem_iff
section
variable {n : Nat} {w : Nat → Nat → Bool} {F : List (List Nat)} {l K K1 K2 : List Nat} {x y : Nat}
theorem Fam.one (f : Fam n w F) (hx : x < n) : [x] ∈ F := by
  obtain ⟨l, hl, h⟩ := f.all _ (Stg.one hx) ⟨x, rfl⟩
  have : l = [x] := (f.st l hl).1.ext (List.pairwise_singleton _ _) fun z => by rw [h z]; simp
  exact this ▸ hl
theorem Fam.root (f : Fam n w F) (hn : 0 < n) : List.range n ∈ F := by
  obtain ⟨l, hl, h⟩ := f.all _ Stg.all ⟨0, hn⟩
  have : l = List.range n := (f.st l hl).1.ext List.pairwise_lt_range fun z => by rw [h z]; simp
  exact this ▸ hl
theorem Fam.exls (f : Fam n w F) (hx : x < n) (hy : y < n) : ∃ l, l ∈ F ∧ ∀ z, z ∈ l ↔ ls n w x y z := f.all _ (ls_str hx hy) ⟨x, ls_l⟩
theorem Fam.lt (f : Fam n w F) (hl : l ∈ F) (hx : x ∈ l) : x < n := (f.st l hl).2.2.1.1 x hx
theorem Fam.eq (f : Fam n w F) (h1 : K1 ∈ F) (h2 : K2 ∈ F) (h : ∀ x, x ∈ K1 ↔ x ∈ K2) : K1 = K2 := (f.st _ h1).1.ext (f.st _ h2).1 h
theorem Fam.disj (f : Fam n w F) (h1 : K1 ∈ below F l) (h2 : K2 ∈ below F l) (x1 : x ∈ K1) (x2 : x ∈ K2) : K1 = K2 := by
  obtain ⟨⟨a1, a2, a3⟩, a4⟩ := mem_below.mp h1
  obtain ⟨⟨b1, b2, b3⟩, b4⟩ := mem_below.mp h2
  rcases (f.st _ a1).2.2.chain (f.st _ b1).2.2.1 x1 x2 with q | q
  · exact (a4 K2 b1 b2 b3 q).symm
  · exact b4 K1 a1 a2 a3 q
theorem Fam.cover (f : Fam n w F) (hl : l ∈ F) (h2 : 2 ≤ l.length) (hx : x ∈ l) : ∃ K, K ∈ below F l ∧ x ∈ K := by
  have go : ∀ m K, K ∈ F → K ≠ l → (∀ x, x ∈ K → x ∈ l) → x ∈ K → l.length - K.length ≤ m → ∃ K, K ∈ below F l ∧ x ∈ K := by
    intro m
    induction m with
    | zero =>
      intro K h1 h2 h3 h4 h5
      have := (f.st _ h1).1.lt (f.st _ hl).1 h3 h2
      omega
    | succ m ih =>
      intro K h1 h2 h3 h4 h5
      by_cases q : K ∈ below F l
      · exact ⟨K, q, h4⟩
      · have : ∃ p, p ∈ F ∧ p ≠ l ∧ (∀ x, x ∈ p → x ∈ l) ∧ (∀ x, x ∈ K → x ∈ p) ∧ p ≠ K := Classical.byContradiction fun z => q (mem_below.mpr ⟨⟨h1, h2, h3⟩, fun p a b c d => Classical.byContradiction fun e => z ⟨p, a, b, c, d, e⟩⟩)
        obtain ⟨p, p1, p2, p3, p4, p5⟩ := this
        have := (f.st _ h1).1.lt (f.st _ p1).1 p4 (Ne.symm p5)
        exact ih p p1 p2 p3 (p4 x h4) (by omega)
  exact go _ [x] (f.one (f.lt hl hx)) (fun e => by rw [← e] at h2; simp at h2) (fun z hz => by rw [List.mem_singleton.mp hz]; exact hx) (List.mem_singleton.mpr rfl) (Nat.le_refl _)
theorem Fam.small (f : Fam n w F) (hl : l ∈ F) (h : K ∈ below F l) : K.length < l.length := by
  obtain ⟨⟨a1, a2, a3⟩, _⟩ := mem_below.mp h
  exact (f.st _ a1).1.lt (f.st _ hl).1 a3 a2
theorem hd_le {l : List Nat} (h : Asc l) (hx : x ∈ l) : hd l ≤ x := by
  cases l with
  | nil => cases hx
  | cons y l =>
    rcases List.mem_cons.mp hx with q | q
    · rw [q]; exact Nat.le_refl _
    · exact Nat.le_of_lt ((List.pairwise_cons.mp h).1 x q)
theorem Fam.kin (f : Fam n w F) (h : K ∈ kids F l) : K ∈ F := (mem_below.mp (mem_kids.mp h)).1.1
theorem Fam.ksub (f : Fam n w F) (h : K ∈ kids F l) (hx : x ∈ K) : x ∈ l := (mem_below.mp (mem_kids.mp h)).1.2.2 x hx
theorem Fam.kids_pw (f : Fam n w F) : (kids F l).Pairwise fun a b => hd a < hd b := by
  have h1 : (kids F l).Pairwise fun a b => decide (hd a ≤ hd b) = true := List.pairwise_mergeSort (fun a b c h1 h2 => by
    simp only [decide_eq_true_eq] at *
    omega) (fun a b => by
    simp only [Bool.or_eq_true, decide_eq_true_eq]
    omega) _
  have h2 : (kids F l).Nodup := kids_perm.nodup_iff.mpr ((f.nd.filter _).filter _)
  refine (h1.and h2).imp_of_mem fun {a b} ha hb ⟨p, q⟩ => ?_
  have p := of_decide_eq_true p
  rcases Nat.lt_or_ge (hd a) (hd b) with z | z
  · exact z
  · have e : hd a = hd b := by omega
    exact absurd (f.disj (mem_kids.mp ha) (mem_kids.mp hb) (hd_mem (f.st _ (f.kin ha)).2.1) (e ▸ hd_mem (f.st _ (f.kin hb)).2.1)) q
/-- kids are told by their members -/
theorem Fam.kids_eq (f : Fam n w F) {ks : List (List Nat)} (hp : ks.Pairwise fun a b => hd a < hd b) (h : ∀ K, K ∈ ks ↔ K ∈ below F l) : ks = kids F l :=
  pw_ext (R := fun a b => hd a < hd b) (fun a => Nat.lt_irrefl _) (fun a b h => Nat.lt_asymm h) hp f.kids_pw fun K => (h K).trans mem_kids.symm
/-- ties between two children -/
theorem Fam.tie (f : Fam n w F) (hs : ∀ x y, w x y = w y x) (h1 : K1 ∈ kids F l) (h2 : K2 ∈ kids F l) (hne : K1 ≠ K2) {a b c d : Nat} (ha : a ∈ K1) (hb : b ∈ K2) (hc : c ∈ K1) (hd : d ∈ K2) : w a b = w c d := by
  have m1 := (f.st _ (f.kin h1)).2.2.1
  have m2 := (f.st _ (f.kin h2)).2.2.1
  have out : ∀ {x}, x ∈ K1 → ¬ x ∈ K2 := fun {x} p q => hne (f.disj (mem_kids.mp h1) (mem_kids.mp h2) p q)
  rw [m2.2 a b d (m1.1 a ha) (out ha) hb hd, hs a d, hs c d]
  exact m1.2 d a c (m2.1 d hd) (fun p => out p hd) ha hc
theorem Fam.kids_two (f : Fam n w F) (hl : l ∈ F) (h2 : 2 ≤ l.length) : 2 ≤ (kids F l).length := by
  have ne := (f.st l hl).2.1
  obtain ⟨K1, k1, x1⟩ := f.cover hl h2 (hd_mem ne)
  have : ∃ y, y ∈ l ∧ ¬ y ∈ K1 := Classical.byContradiction fun z => by
    simp only [not_exists, not_and, Classical.not_not] at z
    obtain ⟨⟨a1, a2, a3⟩, _⟩ := mem_below.mp k1
    exact a2 (f.eq a1 hl fun x => ⟨a3 x, z x⟩)
  obtain ⟨y, y1, y2⟩ := this
  obtain ⟨K2, k2, x2⟩ := f.cover hl h2 y1
  have q1 := mem_kids.mpr k1
  have q2 := mem_kids.mpr k2
  match e : kids F l with
  | [] => rw [e] at q1; cases q1
  | [a] =>
    rw [e] at q1 q2
    rw [List.mem_singleton.mp q1] at y2
    rw [List.mem_singleton.mp q2] at x2
    exact absurd x2 y2
  | a :: b :: r => simp
end
/-! ### kinds -/
def kd (ks : List (List Nat)) (i : Nat) : List Nat := ks.getD i []
/-- the quotient -/
def qv (w : Nat → Nat → Bool) (ks : List (List Nat)) (i j : Nat) : Bool := decide (i < ks.length) && (decide (j < ks.length) && (decide (i ≠ j) && w (hd (kd ks i)) (hd (kd ks j))))
def allOff (w : Nat → Nat → Bool) (ks : List (List Nat)) (b : Bool) : Bool := (List.range ks.length).all fun i => (List.range ks.length).all fun j => decide (i = j) || decide (qv w ks i j = b)
def kindc (w : Nat → Nat → Bool) (ks : List (List Nat)) : Option Bool := if allOff w ks false then some false else if allOff w ks true then some true else none
theorem allOff_iff {w : Nat → Nat → Bool} {ks : List (List Nat)} {b : Bool} : allOff w ks b = true ↔ ∀ i j, i < ks.length → j < ks.length → i ≠ j → qv w ks i j = b := by
  unfold allOff
  simp only [List.all_eq_true, List.mem_range, Bool.or_eq_true, decide_eq_true_eq]
  exact ⟨fun h i j a b c => (h i a j b).resolve_left c, fun h i a j b => if e : i = j then .inl e else .inr (h i j a b e)⟩
section
variable {n : Nat} {w : Nat → Nat → Bool} {F : List (List Nat)} {l K K1 K2 : List Nat} {x y : Nat}
theorem kd_mem {ks : List (List Nat)} {i : Nat} (h : i < ks.length) : kd ks i ∈ ks := by
  unfold kd
  rw [List.getD_eq_getElem?_getD, List.getElem?_eq_getElem h]
  exact List.getElem_mem h
theorem kd_ex {ks : List (List Nat)} (h : K ∈ ks) : ∃ i, i < ks.length ∧ kd ks i = K := by
  obtain ⟨i, hi, e⟩ := List.getElem_of_mem h
  refine ⟨i, hi, ?_⟩
  unfold kd
  rw [List.getD_eq_getElem?_getD, List.getElem?_eq_getElem hi]
  exact e
theorem Fam.kd_inj (f : Fam n w F) {i j : Nat} (hi : i < (kids F l).length) (hj : j < (kids F l).length) (e : kd (kids F l) i = kd (kids F l) j) : i = j := by
  have pw := f.kids_pw (l := l)
  have g : ∀ {i}, (h : i < (kids F l).length) → kd (kids F l) i = (kids F l)[i] := fun {i} h => by
    unfold kd
    rw [List.getD_eq_getElem?_getD, List.getElem?_eq_getElem h]; rfl
  rw [g hi, g hj] at e
  rcases Nat.lt_trichotomy i j with q | q | q
  · have := List.pairwise_iff_getElem.mp pw i j hi hj q
    rw [e] at this; omega
  · exact q
  · have := List.pairwise_iff_getElem.mp pw j i hj hi q
    rw [e] at this; omega
theorem Fam.qv_tie (f : Fam n w F) (hs : ∀ x y, w x y = w y x) {i j a b : Nat} (hi : i < (kids F l).length) (hj : j < (kids F l).length) (hne : i ≠ j) (ha : a ∈ kd (kids F l) i) (hb : b ∈ kd (kids F l) j) : w a b = qv w (kids F l) i j := by
  have h1 := kd_mem hi
  have h2 := kd_mem hj
  unfold qv
  rw [decide_eq_true hi, decide_eq_true hj, decide_eq_true hne, Bool.true_and, Bool.true_and, Bool.true_and]
  exact f.tie hs h1 h2 (fun e => hne (f.kd_inj hi hj e)) ha hb (hd_mem (f.st _ (f.kin h1)).2.1) (hd_mem (f.st _ (f.kin h2)).2.1)
/-- the child of a thing -/
def ixk (ks : List (List Nat)) (x : Nat) : Nat := ks.findIdx fun K => decide (x ∈ K)
theorem ixk_lt {ks : List (List Nat)} (h : ∃ K, K ∈ ks ∧ x ∈ K) : ixk ks x < ks.length ∧ x ∈ kd ks (ixk ks x) := by
  obtain ⟨K, h1, h2⟩ := h
  have hl : ixk ks x < ks.length := List.findIdx_lt_length_of_exists ⟨K, h1, by simpa using h2⟩
  refine ⟨hl, ?_⟩
  have := List.findIdx_getElem (w := hl)
  unfold kd
  rw [List.getD_eq_getElem?_getD, List.getElem?_eq_getElem hl]
  exact of_decide_eq_true this
theorem Fam.ix (f : Fam n w F) (hl : l ∈ F) (h2 : 2 ≤ l.length) (hx : x ∈ l) : ixk (kids F l) x < (kids F l).length ∧ x ∈ kd (kids F l) (ixk (kids F l) x) := by
  obtain ⟨K, k1, k2⟩ := f.cover hl h2 hx
  exact ixk_lt ⟨K, mem_kids.mpr k1, k2⟩
theorem Fam.ix_eq (f : Fam n w F) (hl : l ∈ F) (h2 : 2 ≤ l.length) {i : Nat} (hi : i < (kids F l).length) (hx : x ∈ kd (kids F l) i) : ixk (kids F l) x = i := by
  have xl := f.ksub (kd_mem hi) hx
  obtain ⟨a, b⟩ := f.ix hl h2 xl
  exact f.kd_inj a hi (f.disj (mem_kids.mp (kd_mem a)) (mem_kids.mp (kd_mem hi)) b hx)
/-! ### the node of all things -/
theorem Fam.root_split (f : Fam n w F) (hs : ∀ x y, w x y = w y x) {k : Bool} {a b : Nat} (ha : a < n) (hb : b < n) (q : ¬ Cn n w k a b) : ∀ K, K ∈ below F (List.range n) ↔ K ∈ F ∧ ∃ x, x < n ∧ ∀ z, z ∈ K ↔ Cn n w k x z := by
  have n2 : 2 ≤ (List.range n).length := by
    rw [List.length_range]
    rcases Nat.lt_or_ge n 2 with h | h
    · have : a = b := by omega
      exact absurd (this ▸ .refl) q
    · exact h
  have rt := f.root (by omega)
  -- each piece is in the family, not all
  have pcs : ∀ x, x < n → ∃ P, P ∈ F ∧ P ≠ List.range n ∧ ∀ z, z ∈ P ↔ Cn n w k x z := fun x hx => by
    obtain ⟨P, p1, p2⟩ := f.all _ (pc_str (k := k) hs hx) ⟨x, .refl⟩
    refine ⟨P, p1, fun e => ?_, p2⟩
    have h1 : Cn n w k x a := (p2 a).mp (by rw [e]; exact List.mem_range.mpr ha)
    have h2 : Cn n w k x b := (p2 b).mp (by rw [e]; exact List.mem_range.mpr hb)
    exact q ((h1.symm hs hx).trans h2)
  have sub : ∀ K, K ∈ F → K ≠ List.range n → ∀ x, x ∈ K → ∀ y, y ∈ K → Cn n w k x y := fun K k1 k2 x hx => by
    have : ∃ z, z < n ∧ ¬ z ∈ K := Classical.byContradiction fun h => by
      simp only [not_exists, not_and, Classical.not_not] at h
      exact k2 (f.eq k1 rt fun z => ⟨fun hz => List.mem_range.mpr (f.lt k1 hz), fun hz => h z (List.mem_range.mp hz)⟩)
    obtain ⟨z, z1, z2⟩ := this
    exact (f.st _ k1).2.2.in_pc hs hx z1 z2
  intro K
  rw [mem_below]
  constructor
  · intro ⟨⟨h1, h2, h3⟩, h4⟩
    have hx := hd_mem (f.st _ h1).2.1
    have xn := f.lt h1 hx
    obtain ⟨P, p1, p2, p3⟩ := pcs _ xn
    have e : P = K := h4 P p1 p2 (fun z hz => List.mem_range.mpr (f.lt p1 hz)) fun z hz => (p3 z).mpr (sub K h1 h2 _ hx z hz)
    exact ⟨h1, _, xn, fun z => e ▸ p3 z⟩
  · intro ⟨h1, x, xn, h3⟩
    obtain ⟨P, p1, p2, p3⟩ := pcs x xn
    have e : P = K := f.eq p1 h1 fun z => (p3 z).trans (h3 z).symm
    subst e
    refine ⟨⟨h1, p2, fun z hz => List.mem_range.mpr (f.lt h1 hz)⟩, fun p q1 q2 q3 q4 => f.eq q1 h1 fun z => ⟨fun hz => (h3 z).mpr (sub p q1 q2 x (q4 x ((h3 x).mpr .refl)) z hz), q4 z⟩⟩
theorem Fam.kind_split (f : Fam n w F) (hs : ∀ x y, w x y = w y x) {k : Bool} {a b : Nat} (ha : a < n) (hb : b < n) (q : ¬ Cn n w k a b) : kindc w (kids F (List.range n)) = some (!k) := by
  have n2 : 2 ≤ (List.range n).length := by
    rw [List.length_range]
    rcases Nat.lt_or_ge n 2 with h | h
    · have : a = b := by omega
      exact absurd (this ▸ .refl) q
    · exact h
  have rt := f.root (n := n) (by omega)
  have all : allOff w (kids F (List.range n)) (!k) = true := allOff_iff.mpr fun i j hi hj hne => by
    have m1 := kd_mem hi
    have m2 := kd_mem hj
    obtain ⟨g1, x1, e1, d1⟩ := (f.root_split hs ha hb q _).mp (mem_kids.mp m1)
    obtain ⟨g2, x2, e2, d2⟩ := (f.root_split hs ha hb q _).mp (mem_kids.mp m2)
    have a1 := hd_mem (f.st _ g1).2.1
    have a2 := hd_mem (f.st _ g2).2.1
    rw [← f.qv_tie hs hi hj hne a1 a2]
    have nk : ¬ w (hd (kd (kids F (List.range n)) i)) (hd (kd (kids F (List.range n)) j)) = k := fun e => by
      have c1 := (d1 _).mp a1
      have hn : ¬ hd (kd (kids F (List.range n)) j) ∈ kd (kids F (List.range n)) i := fun z => hne (f.kd_inj hi hj (f.disj (mem_kids.mp m1) (mem_kids.mp m2) z a2))
      exact hn ((d1 _).mpr (c1.step (f.lt g2 a2) (fun z => hn (z ▸ a1)) e))
    cases h : w (hd (kd (kids F (List.range n)) i)) (hd (kd (kids F (List.range n)) j)) <;> cases k <;> simp_all
  have two := f.kids_two rt n2
  unfold kindc
  cases k with
  | true =>
    have all : allOff w (kids F (List.range n)) false = true := all
    rw [if_pos all]; rfl
  | false =>
    have all : allOff w (kids F (List.range n)) true = true := all
    rw [if_neg (fun z => ?_), if_pos all]
    · rfl
    have e1 := allOff_iff.mp z 0 1 (by omega) (by omega) (by omega)
    have e2 := allOff_iff.mp all 0 1 (by omega) (by omega) (by omega)
    rw [e1] at e2; cases e2
theorem stay (hs : ∀ x y, w x y = w y x) {k : Bool} {P : Pd} (hP : ∀ a b, P a → b < n → a ≠ b → w a b = k → P b) {a b : Nat} (ha : P a) (h : Cn n w k a b) : P b := by
  induction h with
  | refl => exact ha
  | step _ h1 h2 h3 ih => exact hP _ _ ih h1 h2 h3
theorem Fam.kind_joined (f : Fam n w F) (hs : ∀ x y, w x y = w y x) (n2 : 2 ≤ n) (hc : ∀ k a b, a < n → b < n → Cn n w k a b) : kindc w (kids F (List.range n)) = none := by
  have rt := f.root (n := n) (by omega)
  have l2 : 2 ≤ (List.range n).length := by rw [List.length_range]; exact n2
  have two := f.kids_two rt l2
  have no : ∀ b, ¬ allOff w (kids F (List.range n)) b = true := fun b z => by
    have z := allOff_iff.mp z
    have m1 := kd_mem (ks := kids F (List.range n)) (i := 0) (by omega)
    have m2 := kd_mem (ks := kids F (List.range n)) (i := 1) (by omega)
    have a1 := hd_mem (f.st _ (f.kin m1)).2.1
    have a2 := hd_mem (f.st _ (f.kin m2)).2.1
    have := stay (n := n) hs (k := !b) (P := ofL (kd (kids F (List.range n)) 0)) (fun x y hx hy hne e => by
      obtain ⟨i1, i2⟩ := f.ix rt l2 (List.mem_range.mpr hy)
      by_cases q : ixk (kids F (List.range n)) y = 0
      · rw [q] at i2; exact i2
      · have e1 := f.qv_tie hs (l := List.range n) (by omega) i1 (Ne.symm q) hx i2
        rw [z 0 _ (by omega) i1 (Ne.symm q), e] at e1
        cases b <;> cases e1) a1 (hc (!b) _ _ (f.lt (f.kin m1) a1) (f.lt (f.kin m2) a2))
    have := f.kd_inj (l := List.range n) (i := 0) (j := 1) (by omega) (by omega) (f.disj (mem_kids.mp m1) (mem_kids.mp m2) this a2)
    omega
  unfold kindc
  rw [if_neg (no _), if_neg (no _)]
/-! ### told distances -/
theorem Fam.told (f : Fam n w F) (hs : ∀ x y, w x y = w y x) (hb : ∀ x y, w x y = true → x < n ∧ y < n) (hr : ∀ x, w x x = false) {a b : Nat} (ha : a < n) (hbn : b < n) (hne : a ≠ b) (hw : w a b = false) (hl : l ∈ F) (hL : ∀ z, z ∈ l ↔ ls n w a b z) :
    2 ≤ l.length ∧ ((∃ z, ¬ z ∈ l ∧ w a z = true) → Dst w a b (some 2)) ∧ ((∀ z, ¬ z ∈ l → w a z = false) → ∀ c, kindc w (kids F l) = some c → Dst w a b none) ∧
    ((∀ z, ¬ z ∈ l → w a z = false) → ∀ d, Dst (qv w (kids F l)) (ixk (kids F l) a) (ixk (kids F l) b) d → Dst w a b d) := by
  have al : a ∈ l := (hL a).mpr ls_l
  have bl : b ∈ l := (hL b).mpr ls_r
  obtain ⟨as, ne, st⟩ := f.st l hl
  have l2 : 2 ≤ l.length := by
    match l, al, bl with
    | [x], h1, h2 => exact absurd ((List.mem_singleton.mp h1).trans (List.mem_singleton.mp h2).symm) hne
    | x :: y :: r, _, _ => simp
  obtain ⟨i1, i2⟩ := f.ix hl l2 al
  obtain ⟨j1, j2⟩ := f.ix hl l2 bl
  have dif : ixk (kids F l) a ≠ ixk (kids F l) b := fun e => by
    have m1 := kd_mem i1
    have g := f.kin m1
    rw [← e] at j2
    obtain ⟨⟨c1, c2, c3⟩, c4⟩ := mem_below.mp (mem_kids.mp m1)
    refine c2 (f.eq g hl fun z => ⟨c3 z, fun hz => ?_⟩)
    exact (hL z).mp hz _ (f.st _ g).2.2 i2 j2
  refine ⟨l2, fun ⟨z, z1, z2⟩ => ⟨.inr ⟨z, .inr ⟨a, rfl, z2⟩, ?_⟩, fun e he q => ?_⟩, fun ho c hc => ?_, fun ho d hd => ?_⟩
  · have zn := (hb _ _ z2).2
    rw [st.1.2 z b a zn z1 bl al, hs]; exact z2
  · have q1 : Ball w a 1 b := q.mono (by omega)
    rcases q1 with q1 | ⟨u, q1, q2⟩
    · exact hne (show b = a from q1).symm
    · rw [show u = a from q1, hw] at q2; cases q2
  · have off : ∀ i j, i < (kids F l).length → j < (kids F l).length → i ≠ j → qv w (kids F l) i j = false := by
      have e := f.qv_tie hs i1 j1 dif i2 j2
      rw [hw] at e
      unfold kindc at hc
      split at hc
      · rename_i h; exact allOff_iff.mp h
      · split at hc
        · rename_i h
          rw [allOff_iff.mp h _ _ i1 j1 dif] at e
          cases e
        · cases hc
    have go : ∀ k t, Ball w a k t → t ∈ kd (kids F l) (ixk (kids F l) a) := by
      intro k
      induction k with
      | zero => intro t h; rw [show t = a from h]; exact i2
      | succ k ih =>
        intro t h
        rcases h with h | ⟨u, h, e⟩
        · exact ih t h
        · have u1 := ih u h
          have ul := f.ksub (kd_mem i1) u1
          by_cases tl : t ∈ l
          · obtain ⟨t1, t2⟩ := f.ix hl l2 tl
            by_cases z : ixk (kids F l) t = ixk (kids F l) a
            · rw [z] at t2; exact t2
            · have e1 := f.qv_tie hs i1 t1 (Ne.symm z) u1 t2
              rw [off _ _ i1 t1 (Ne.symm z), e] at e1; cases e1
          · have tn := (hb _ _ e).2
            have e1 : w t u = w t a := st.1.2 t u a tn tl ul al
            rw [hs t u, e, hs t a, ho t tl] at e1; cases e1
    intro k z
    have := f.ix_eq hl l2 i1 (go k b z)
    exact dif this.symm
  · have inL : ∀ u t, u ∈ l → w u t = true → t ∈ l := fun u t ul e => Classical.byContradiction fun tl => by
      have tn := (hb _ _ e).2
      have e1 : w t u = w t a := st.1.2 t u a tn tl ul al
      rw [hs t u, e, hs t a, ho t tl] at e1; cases e1
    obtain ⟨h1, h2⟩ := ball_quot (w := w) (s := a) (L := ofL l) (ix := ixk (kids F l)) (m := (kids F l).length) (q := qv w (kids F l)) al inL (fun u hu => (f.ix hl l2 hu).1) (fun i hi => by
        have m := kd_mem hi
        have x := hd_mem (f.st _ (f.kin m)).2.1
        exact ⟨_, f.ksub m x, f.ix_eq hl l2 hi x⟩) (fun u v hu hv h => by
        obtain ⟨u1, u2⟩ := f.ix hl l2 hu
        obtain ⟨v1, v2⟩ := f.ix hl l2 hv
        exact f.qv_tie hs u1 v1 h u2 v2) (fun i j h => by
        unfold qv at h
        simp only [Bool.and_eq_true, decide_eq_true_eq] at h
        exact ⟨h.1, h.2.1, h.2.2.1⟩)
    exact Dst.iff (fun k => ⟨fun z => (h2 k _ z).2 b bl rfl (Ne.symm dif), fun z => (h1 k b z).2⟩) hd
end
end SN
end
section
set_option Elab.async false
set_option linter.all false
set_option maxRecDepth 100000
set_option maxHeartbeats 4000000
/-! K2: checks of webs, lots, things. -/
namespace SN
open PySem L2 LamX NdefX PyProof.Rows
abbrev FX (k : Nat) : Fns := phi FU k
theorem lev {k b : Nat} (h : b + 1 ≤ k) : ∃ j, k = j + 1 ∧ b ≤ j := ⟨k - 1, by omega, by omega⟩
def b01 (b : Bool) : Int := if b then 1 else 0
def rowD (n : Nat) (w : Nat → Nat → Bool) (x : Nat) : PD := .tuple ((List.range n).map fun y => .int (b01 (w x y)))
def webD (n : Nat) (w : Nat → Nat → Bool) : PD := .tuple ((List.range n).map fun x => rowD n w x)
structure Web (n : Nat) (w : Nat → Nat → Bool) : Prop where
  pos : 1 ≤ n
  le : n ≤ 12
  sym : ∀ x y, w x y = w y x
  irr : ∀ x, w x x = false
  bd : ∀ x y, w x y = true → x < n ∧ y < n
theorem b01_eq {a b : Bool} : b01 a = b01 b ↔ a = b := by cases a <;> cases b <;> simp [b01]
theorem b01_one {a : Bool} : b01 a = 1 ↔ a = true := by cases a <;> simp [b01]
theorem ix_map {α : Type} {l : List α} {f : α → PD} {i : Nat} (h : i < l.length) : pyIx (.tuple (l.map f)) (nD i) = some (f l[i]) := atI_nat (by rw [List.getElem?_map, List.getElem?_eq_getElem h]; rfl)
theorem ix_mapL {α : Type} {l : List α} {f : α → PD} {i : Nat} (h : i < l.length) : pyIx (.list (l.map f)) (nD i) = some (f l[i]) := atI_nat (by rw [List.getElem?_map, List.getElem?_eq_getElem h]; rfl)
theorem ix_rng {n i : Nat} {f : Nat → PD} (h : i < n) : pyIx (.tuple ((List.range n).map f)) (nD i) = some (f i) := by
  rw [ix_map (by rw [List.length_range]; exact h), List.getElem_range]
theorem ix_rngL {n i : Nat} {f : Nat → PD} (h : i < n) : pyIx (.list ((List.range n).map f)) (nD i) = some (f i) := by
  rw [ix_mapL (by rw [List.length_range]; exact h), List.getElem_range]
section
variable {Φ : Fns} {ρ τ : Rho} {a b c : IR} {n : Nat} {w : Nat → Nat → Bool} {x y k : Nat}
theorem e_row (h1 : ev Φ a ρ τ = some (webD n w)) (h2 : ev Φ b τ τ = some (nD x)) (hx : x < n) : ev Φ (.ix a b) ρ τ = some (rowD n w x) := e_ix h1 h2 (ix_rng hx)
theorem e_w2 (h1 : ev Φ a ρ τ = some (webD n w)) (h2 : ev Φ b τ τ = some (nD x)) (h3 : ev Φ c τ τ = some (nD y)) (hx : x < n) (hy : y < n) : ev Φ (.ix (.ix a b) c) ρ τ = some (.int (b01 (w x y))) := e_ix (e_row h1 h2 hx) h3 (ix_rng hy)
theorem e_wlen (h1 : ev Φ a τ τ = some (webD n w)) : ev Φ (.bi1 .len a) ρ τ = some (nD n) := by
  have := e_len (ρ := ρ) (.inr h1)
  rwa [List.length_map, List.length_range] at this
theorem e_nlenT {l : List Nat} (h1 : ev Φ a τ τ = some (natT l)) : ev Φ (.bi1 .len a) ρ τ = some (nD l.length) := by
  have := e_len (ρ := ρ) (.inr h1)
  rwa [List.length_map] at this
theorem e_nlenL {l : List Nat} (h1 : ev Φ a τ τ = some (natL l)) : ev Φ (.bi1 .len a) ρ τ = some (nD l.length) := by
  have := e_len (ρ := ρ) (.inl h1)
  rwa [List.length_map] at this
theorem t_w1 (h1 : ev Φ a τ τ = some (webD n w)) (h2 : ev Φ b τ τ = some (nD x)) (h3 : ev Φ c τ τ = some (nD y)) (hx : x < n) (hy : y < n) : evT Φ (.tCmp .Eq (.ix (.ix a b) c) (.lit (.int 1))) τ = some (w x y) := by
  have := t_cmp (op := .Eq) (e_w2 h1 h2 h3 hx hy) (e_l (d := .int 1)) c_eq
  rw [this]
  cases w x y <;> rfl
end
/-! ### the checks -/
theorem sp_is_integer {k : Nat} (hk : 1 ≤ k) (i : Int) : call (FX k) "is_integer" [.int i] = some (.bool true) := by
  obtain ⟨k, rfl, hj⟩ := lev hk
  exact call_rt (ph10 _ _) (x_retP (e_andT (e_isa (e_v rfl) rfl) (e_notF (e_isa (e_v rfl) rfl))))
theorem sp_is_between {k : Nat} (hk : 2 ≤ k) (a b c : Int) : call (FX k) "is_between" [.int a, .int b, .int c] = some (.bool (decide (a ≤ b) && decide (b ≤ c))) := by
  obtain ⟨k, rfl, hj⟩ := lev hk
  exact call_rt (ph11 _ _) (x_retP (e_andT (e_fn1 (e_v rfl) (sp_is_integer hj _)) (e_chain (e_v rfl) (e_v rfl) (e_v rfl) rfl rfl)))
theorem sp_is_between' {k : Nat} (hk : 2 ≤ k) {a b c : Int} (h : a ≤ b) (h2 : b ≤ c) : call (FX k) "is_between" [.int a, .int b, .int c] = some (.bool true) := by
  rw [sp_is_between hk, decide_eq_true h, decide_eq_true h2]; rfl
theorem sp_is_tuple_of {k : Nat} (hk : 1 ≤ k) {ds : List PD} {m : Nat} (h : ds.length = m) : call (FX k) "is_tuple_of" [nD m, .tuple ds] = some (.bool true) := by
  obtain ⟨k, rfl, hj⟩ := lev hk
  have := call_rt (ph12 FU k) (ds := [nD m, .tuple ds]) (W := []) (x_retP (e_andT (e_isa (e_v rfl) rfl) (e_cmp (e_len (.inr (e_v rfl))) (e_v rfl) c_eqN)))
  rw [decide_eq_true h] at this
  exact this
theorem sp_is_line {k : Nat} (hk : 3 ≤ k) {n x : Nat} {w : Nat → Nat → Bool} (hx : x < n) (hn : n ≤ 12) (hi : w x x = false) : call (FX k) "is_line" [rowD n w x, nD n, nD x] = some (.bool true) := by
  obtain ⟨k, rfl, hj⟩ := lev hk
  refine call_rt (ph18 _ _) (x_itF (t_orF (t_notT (t_vb (e_fn2 (e_v rfl) (e_v rfl) (sp_is_tuple_of (by omega) (by simp))))) (t_notT (t_vb ?_))) (x_retP (d := .bool true) ?_))
  · have := e_all (p := fun _ => true) (Φ := FX k) (τ := (st0 4 [some (rowD n w x), some (nD n), some (nD x)]).all) (ρ := (st0 4 [some (rowD n w x), some (nD n), some (nD x)]).all) (e_lc (src := .tVal (.var 0)) (i := 3) (own := [3]) (elt := .fn "is_between" [.lit (.int 0), .var 3, .lit (.int 9)]) (l := List.range n) (f := fun _ => PySem.PyData.bool true) (i_val (.inr (e_v rfl))) (fun y hy => e_fn3 e_l (e_v rfl) e_l (sp_is_between' hj (by unfold b01; split <;> decide) (by unfold b01; split <;> decide))) (by rw [List.length_range]; unfold big; omega))
    rw [show (List.range n).all (fun _ => true) = true by simp] at this
    exact this
  · have := e_cmp (ρ := (st0 4 [some (rowD n w x), some (nD n), some (nD x)]).sh) (τ := (st0 4 [some (rowD n w x), some (nD n), some (nD x)]).all) (op := .Eq) (Φ := FX k) (e_ix (a := .var 0) (b := .var 2) (e_v rfl) (e_v rfl) (ix_rng hx)) (e_l (d := .int 0)) c_eq
    rw [hi] at this
    exact this
theorem enum_map {n : Nat} {f : Nat → PD} : enumD ((List.range n).map f) = (List.range n).map fun x => .tuple [nD x, f x] := by
  unfold enumD
  rw [List.length_map, List.length_range]
  refine List.map_congr_left fun i hi => ?_
  rw [List.mem_range] at hi
  rw [List.getD_eq_getElem?_getD, List.getElem?_map, List.getElem?_range hi]; rfl
theorem e_lcT {Φ : Fns} {ρ τ : Rho} {src elt : IR} {i j : Nat} {own : List Nat} {α : Type} {l : List α} {e1 e2 f : α → PD} (h1 : evI Φ src ρ τ = some (l.map fun x => .tuple [e1 x, e2 x])) (h2 : ∀ x, x ∈ l → ev Φ elt (((wipeR ρ own).set i (some (e1 x))).set j (some (e2 x))) (((wipeR τ own).set i (some (e1 x))).set j (some (e2 x))) = some (f x)) (hz : l.length ≤ big) :
    ev Φ (.lc src (.two i j) own elt) ρ τ = some (.list (l.map f)) := by
  unfold ev
  rw [h1, Option.bind_some, List.mapM_map, mapM_some (f := f) (fun x hx => by
    show ev Φ elt (((wipeR ρ own).set i (some (e1 x))).set j (some (e2 x))) (((wipeR τ own).set i (some (e1 x))).set j (some (e2 x))) = _
    exact h2 x hx), Option.bind_some]
  unfold bigL
  rw [if_pos (by rw [List.length_map]; exact hz)]
theorem sp_is_table {k : Nat} (hk : 4 ≤ k) {n : Nat} {w : Nat → Nat → Bool} (W : Web n w) : call (FX k) "is_table" [webD n w] = some (.bool true) := by
  obtain ⟨k, rfl, hj⟩ := lev hk
  have p := W.pos
  have q := W.le
  refine call_rt (ph19 _ _) (x_itF (t_orF (t_notT (t_vb (e_isa (e_v rfl) rfl))) (t_notT ?_)) (x_retP (d := .bool true) ?_))
  · have := t_chain (Φ := FX k) (τ := (st0 3 [some (webD n w)]).all) (op := .LtE) (op' := .LtE) (e_l (d := .int 1)) (e_wlen (a := .var 0) (e_v rfl)) (e_l (d := .int 12)) rfl rfl
    rw [decide_eq_true (by omega), decide_eq_true (by omega)] at this
    exact this
  · have := e_all (p := fun _ => true) (Φ := FX k) (τ := (st0 3 [some (webD n w)]).all) (ρ := (st0 3 [some (webD n w)]).sh) (e_lcT (src := .enum (.var 0)) (i := 1) (j := 2) (own := [1, 2]) (elt := .fn "is_line" [.var 2, .bi1 .len (.var 0), .var 1]) (l := List.range n) (f := fun _ => PySem.PyData.bool true) (by rw [i_enum (.inr (e_v rfl)), enum_map]) (fun y hy => e_fn3 (e_v rfl) (e_wlen (e_v rfl)) (e_v rfl) (sp_is_line hj (List.mem_range.mp hy) q (W.irr y))) (by rw [List.length_range]; unfold big; omega))
    rw [show (List.range n).all (fun _ => true) = true by simp] at this
    exact this
theorem len_rng_big {n : Nat} (h : n ≤ 1000) : (List.range n).length ≤ big := by rw [List.length_range]; unfold big; omega
theorem sum_le {α : Type} {l : List α} {f : α → Nat} {c : Nat} (h : ∀ x, x ∈ l → f x ≤ c) : (l.map f).sum ≤ l.length * c := by
  induction l with
  | nil => simp
  | cons x l ih =>
    have h1 := h x (List.mem_cons_self ..)
    have h2 := ih fun y hy => h y (List.mem_cons_of_mem _ hy)
    rw [List.map_cons, List.sum_cons, List.length_cons, Nat.add_mul]
    omega
theorem sum_big {α : Type} {l : List α} {f : α → Nat} (h : ∀ x, x ∈ l → f x ≤ 300) (hl : l.length ≤ 300) : (l.map f).sum ≤ big := by
  have := sum_le h
  have h2 : l.length * 300 ≤ 300 * 300 := Nat.mul_le_mul_right _ hl
  unfold big
  omega
theorem all_true {α β : Type} {l : List α} {m : α → List β} : (l.flatMap fun x => (m x).map fun _ => PySem.PyData.bool true) = (l.flatMap fun x => (m x).map fun _ => ()).map fun _ => PySem.PyData.bool true := by
  rw [List.map_flatMap]
  simp [Function.comp_def]
theorem sp_two_colours {k : Nat} (hk : 1 ≤ k) {n : Nat} {w : Nat → Nat → Bool} (hn : n ≤ 12) : call (FX k) "has_two_colours" [webD n w] = some (.bool true) := by
  obtain ⟨k, rfl, hj⟩ := lev hk
  refine call_rt (ph20 _ _) (x_retP (d := .bool true) ?_)
  have := e_lc2 (Φ := FX k) (ρ := (st0 3 [some (webD n w)]).all) (τ := (st0 3 [some (webD n w)]).all) (src := .tVal (.var 0)) (i := 1) (own := [1, 2]) (src1 := .tVal (.var 1)) (j := 2) (own1 := [2]) (elt := .cmp .LtE (.var 2) (.lit (.int 1))) (l := List.range n) (m := fun _ => List.range n) (enc1 := fun x y => .int (b01 (w x y))) (f := fun _ _ => PySem.PyData.bool true)
    (i_val (.inr (e_v rfl))) (fun x hx => i_val (.inr (e_v rfl))) (fun x hx y hy => e_cmp (e_v rfl) e_l (by unfold b01; split <;> rfl)) (sum_big (fun _ _ => by rw [List.length_range]; omega) (by rw [List.length_range]; omega))
  rw [all_true] at this
  have := e_all (ρ := (st0 3 [some (webD n w)]).sh) this
  rw [show ∀ l : List Unit, l.all (fun _ => true) = true from fun l => by simp] at this
  exact this
theorem sp_is_web {k : Nat} (hk : 5 ≤ k) {n : Nat} {w : Nat → Nat → Bool} (W : Web n w) : call (FX k) "is_web" [webD n w] = some (.bool true) := by
  obtain ⟨k, rfl, hj⟩ := lev hk
  have q := W.le
  refine call_rt (ph21 _ _) (x_itF (t_orF (t_notT (t_vb (e_fn1 (e_v rfl) (sp_is_table hj W)))) (t_notT (t_vb (e_fn1 (e_v rfl) (sp_two_colours (by omega) q))))) (x_retP (d := .bool true) ?_))
  have := e_lc2 (Φ := FX k) (ρ := (st0 3 [some (webD n w)]).all) (τ := (st0 3 [some (webD n w)]).all) (src := .rng1 (.bi1 .len (.var 0))) (i := 1) (own := [1, 2]) (src1 := .rng1 (.var 1)) (j := 2) (own1 := [2]) (elt := .cmp .Eq (.ix (.ix (.var 0) (.var 1)) (.var 2)) (.ix (.ix (.var 0) (.var 2)) (.var 1))) (l := List.range n) (m := fun x => List.range x) (enc1 := fun x y => nD y) (f := fun _ _ => PySem.PyData.bool true)
    (i_rng (e_wlen (e_v rfl)) (by omega)) (fun x hx => i_rng (e_v rfl) (by rw [List.mem_range] at hx; omega)) (fun x hx y hy => by
      rw [List.mem_range] at hx hy
      refine e_cmp (e_w2 (e_v rfl) (e_v rfl) (e_v rfl) hx (by omega)) (e_w2 (e_v rfl) (e_v rfl) (e_v rfl) (by omega) hx) ?_
      rw [c_eq, W.sym x y, decide_eq_true rfl]) (sum_big (fun x hx => by rw [List.length_range]; rw [List.mem_range] at hx; omega) (by rw [List.length_range]; omega))
  rw [all_true] at this
  have := e_all (ρ := (st0 3 [some (webD n w)]).sh) this
  rw [show ∀ l : List Unit, l.all (fun _ => true) = true from fun l => by simp] at this
  exact this
theorem sp_check_table {k : Nat} (hk : 5 ≤ k) {n : Nat} {w : Nat → Nat → Bool} (W : Web n w) : call (FX k) "check_table" [webD n w] = some .none := by
  obtain ⟨k, rfl, hj⟩ := lev hk
  exact call_nx (ph22 _ _) (x_itF (t_notT (t_vb (e_fn1 (e_v rfl) (sp_is_table hj W)))) x_nil)
theorem sp_check_web {k : Nat} (hk : 6 ≤ k) {n : Nat} {w : Nat → Nat → Bool} (W : Web n w) : call (FX k) "check_web" [webD n w] = some .none := by
  obtain ⟨k, rfl, hj⟩ := lev hk
  exact call_nx (ph23 _ _) (x_itF (t_notT (t_vb (e_fn1 (e_v rfl) (sp_is_web hj W)))) x_nil)
theorem e_sub1 {Φ : Fns} {ρ τ : Rho} {a : IR} {n : Nat} (h : ev Φ a ρ τ = some (nD n)) : ev Φ (.bin .Sub a (.lit (.int 1))) ρ τ = some (.int ((n : Int) - 1)) := e_bin h e_l rfl
theorem e_add1 {Φ : Fns} {ρ τ : Rho} {a : IR} {n : Nat} (h : ev Φ a ρ τ = some (nD n)) : ev Φ (.bin .Add a (.lit (.int 1))) ρ τ = some (nD (n + 1)) := e_bin h e_l rfl
theorem sp_check_thing {k : Nat} (hk : 3 ≤ k) {n x : Nat} (hx : x < n) : call (FX k) "check_thing" [nD n, nD x] = some .none := by
  obtain ⟨k, rfl, hj⟩ := lev hk
  exact call_nx (ph15 _ _) (x_itF (t_notT (t_vb (e_fn3 e_l (e_v rfl) (e_sub1 (e_v rfl)) (sp_is_between' hj (by omega) (by omega))))) x_nil)
theorem sp_check_other {k : Nat} (hk : 3 ≤ k) {n x y : Nat} (hx : x < n) (h : x ≠ y) : call (FX k) "check_other" [nD n, nD x, nD y] = some .none := by
  obtain ⟨k, rfl, hj⟩ := lev hk
  exact call_nx (ph16 _ _) (x_itF (t_orF (t_notT (t_vb (e_fn3 e_l (e_v rfl) (e_sub1 (e_v rfl)) (sp_is_between' hj (by omega) (by omega))))) (t_cmp (e_v rfl) (e_v rfl) (by rw [c_eqN, decide_eq_false h]))) x_nil)
theorem sp_is_lot_of {k : Nat} (hk : 3 ≤ k) {n : Nat} {l : List Nat} (hl : l ≠ []) (ha : Asc l) (hb : ∀ x, x ∈ l → x < n) (hn : l.length ≤ 1000) : call (FX k) "is_lot_of" [nD n, natT l] = some (.bool true) := by
  obtain ⟨k, rfl, hj⟩ := lev hk
  have hlen : 0 < l.length := List.length_pos_iff.mpr hl
  refine call_rt (ph13 _ _) (x_itF (t_orF (t_notT (t_vb (e_isa (e_v rfl) rfl))) (t_cmp (e_nlenT (e_v rfl)) (e_l (d := nD 0)) (by rw [c_eqN, decide_eq_false (by omega)]))) (x_itF (t_notT (t_vb ?_)) (x_retP (d := .bool true) ?_)))
  · have := e_all (p := fun _ => true) (Φ := FX k) (τ := (st0 4 [some (nD n), some (natT l)]).all) (ρ := (st0 4 [some (nD n), some (natT l)]).all) (e_lc (src := .tVal (.var 1)) (i := 2) (own := [2]) (elt := .fn "is_between" [.lit (.int 0), .var 2, .bin .Sub (.var 0) (.lit (.int 1))]) (l := l) (enc := nD) (f := fun _ => PySem.PyData.bool true) (i_val (.inr (e_v rfl))) (fun y hy => e_fn3 e_l (e_v rfl) (e_sub1 (e_v rfl)) (sp_is_between' hj (by omega) (by have := hb y hy; omega))) (by unfold big; omega))
    rw [show l.all (fun _ => true) = true by simp] at this
    exact this
  · have := e_all (p := fun _ => true) (Φ := FX k) (τ := (st0 4 [some (nD n), some (natT l)]).all) (ρ := (st0 4 [some (nD n), some (natT l)]).sh) (e_lc (src := .rng1 (.bin .Sub (.bi1 .len (.var 1)) (.lit (.int 1)))) (i := 3) (own := [3]) (elt := .cmp .Lt (.ix (.var 1) (.var 3)) (.ix (.var 1) (.bin .Add (.var 3) (.lit (.int 1))))) (l := List.range (l.length - 1)) (enc := nD) (f := fun _ => PySem.PyData.bool true) (i_rng (by
        rw [e_sub1 (e_nlenT (e_v rfl))]
        show some (PySem.PyData.int _) = some (PySem.PyData.int _)
        congr 2
        omega) (by omega)) (fun y hy => by
        rw [List.mem_range] at hy
        refine e_cmp (e_ix (e_v rfl) (e_v rfl) (ix_map (by omega))) (e_ix (e_v rfl) (e_add1 (e_v rfl)) (ix_map (by omega))) ?_
        rw [c_ltN, decide_eq_true (List.pairwise_iff_getElem.mp ha y (y + 1) (by omega) (by omega) (by omega))]) (by rw [List.length_range]; unfold big; omega))
    rw [show (List.range (l.length - 1)).all (fun _ => true) = true by simp] at this
    exact this
theorem sp_check_lot {k : Nat} (hk : 4 ≤ k) {n : Nat} {l : List Nat} (hl : l ≠ []) (ha : Asc l) (hb : ∀ x, x ∈ l → x < n) (hn : l.length ≤ 1000) : call (FX k) "check_lot" [nD n, natT l] = some .none := by
  obtain ⟨k, rfl, hj⟩ := lev hk
  exact call_nx (ph14 _ _) (x_itF (t_notT (t_vb (e_fn2 (e_v rfl) (e_v rfl) (sp_is_lot_of hj hl ha hb hn)))) x_nil)
end SN
end
section
set_option Elab.async false
set_option linter.all false
set_option maxRecDepth 100000
set_option maxHeartbeats 4000000
/-! K3: masks, closures, strong lots. -/
namespace SN
open PySem L2 LamX NdefX PyProof.Rows
/-! ### masks -/
def lotM (m : Nat) : List Nat := (List.range 12).filter fun x => m.testBit x
def maskL (l : List Nat) : Nat := (l.map fun x => 1 <<< x).sum
def Bd (m : Nat) : Prop := ∀ x, m.testBit x = true → x < 12
def IsM (m : Nat) (A : Pd) : Prop := ∀ z, m.testBit z = true ↔ A z
def msub (m p : Nat) : Prop := ∀ z, m.testBit z = true → p.testBit z = true
theorem lotM_asc (m : Nat) : Asc (lotM m) := List.pairwise_lt_range.filter _
theorem mem_lotM {m x : Nat} : x ∈ lotM m ↔ x < 12 ∧ m.testBit x = true := by simp [lotM, List.mem_filter]
theorem lotM_len (m : Nat) : (lotM m).length ≤ 12 := by
  have := List.length_filter_le (fun x => m.testBit x) (List.range 12)
  rwa [List.length_range] at this
theorem or_one {m x : Nat} (h : m.testBit x = false) : 1 <<< x + m = 1 <<< x ||| m := by
  have e := nat_or_add_and (1 <<< x) m
  have z : 1 <<< x &&& m = 0 := Nat.eq_of_testBit_eq fun i => by
    rw [Nat.testBit_and, tb_one, Nat.zero_testBit]
    by_cases q : i = x
    · rw [q, h]; simp
    · simp [q]
  omega
theorem maskL_bit : ∀ {l : List Nat}, l.Nodup → ∀ x, (maskL l).testBit x = decide (x ∈ l)
  | [], _, x => by simp [maskL]
  | y :: l, h, x => by
    obtain ⟨h1, h2⟩ := List.nodup_cons.mp h
    have ih := maskL_bit h2
    show (1 <<< y + maskL l).testBit x = _
    rw [or_one (by rw [ih]; simpa using h1), Nat.testBit_or, tb_one, ih]
    by_cases a : x = y <;> by_cases b : x ∈ l <;> simp [a, b]
theorem maskL_lot {l : List Nat} (h : Asc l) (hb : ∀ x, x ∈ l → x < 12) : lotM (maskL l) = l := by
  refine (lotM_asc _).ext h fun x => ?_
  rw [mem_lotM, maskL_bit (h.imp fun q => by omega)]
  exact ⟨fun q => of_decide_eq_true q.2, fun q => ⟨hb x q, decide_eq_true q⟩⟩
def mskL (p : Nat → Bool) (l : List Nat) : Nat := l.foldl (fun m x => if p x then m ||| 1 <<< x else m) 0
theorem mskL_app {p : Nat → Bool} {l : List Nat} {x : Nat} : mskL p (l ++ [x]) = if p x then mskL p l ||| 1 <<< x else mskL p l := by simp [mskL]
theorem mskL_bit {p : Nat → Bool} {l : List Nat} {x : Nat} : (mskL p l).testBit x = (decide (x ∈ l) && p x) := by
  have go : ∀ (l : List Nat) (m : Nat), (l.foldl (fun m x => if p x then m ||| 1 <<< x else m) m).testBit x = (m.testBit x || (decide (x ∈ l) && p x)) := by
    intro l
    induction l with
    | nil => intro m; simp
    | cons y l ih =>
      intro m
      rw [List.foldl_cons, ih]
      by_cases h : p y
      · rw [if_pos h, Nat.testBit_or, tb_one]
        by_cases e : x = y
        · subst e; simp [h]
        · simp [e]
      · rw [if_neg h]
        by_cases e : x = y
        · subst e; simp [h]
        · simp [e]
  unfold mskL
  rw [go, Nat.zero_testBit, Bool.false_or]
theorem IsM.eq {m p : Nat} {A : Pd} (h : IsM m A) (h2 : IsM p A) : m = p := Nat.eq_of_testBit_eq fun i => by
  have a := h i
  have b := h2 i
  cases q : m.testBit i <;> cases r : p.testBit i <;> simp_all
/-- what is not in a mask -/
def uc (m : Nat) : Nat := ((List.range 12).filter fun x => !m.testBit x).length
theorem uc_le (m : Nat) : uc m ≤ 12 := by
  have := List.length_filter_le (fun x => !m.testBit x) (List.range 12)
  rwa [List.length_range] at this
theorem uc_lt {m p : Nat} (h : msub m p) (hb : Bd p) (hn : m ≠ p) : uc p < uc m := by
  refine Asc.lt (List.pairwise_lt_range.filter _) (List.pairwise_lt_range.filter _) (fun x hx => ?_) fun e => hn (Nat.eq_of_testBit_eq fun i => ?_)
  · rw [List.mem_filter] at hx ⊢
    refine ⟨hx.1, ?_⟩
    cases q : m.testBit x with
    | false => rfl
    | true => rw [h x q] at hx; exact absurd hx.2 (by simp)
  · by_cases hi : i < 12
    · have a : (i ∈ (List.range 12).filter fun x => !p.testBit x) ↔ (i ∈ (List.range 12).filter fun x => !m.testBit x) := by rw [e]
      simp only [List.mem_filter, List.mem_range, hi, true_and] at a
      cases q : m.testBit i <;> cases r : p.testBit i <;> simp_all
    · cases q : m.testBit i with
      | true => rw [h i q]
      | false => cases r : p.testBit i with
        | false => rfl
        | true => exact absurd (hb i r) hi
section
variable {k n : Nat} {w : Nat → Nat → Bool}
theorem sp_table_part (hk : 1 ≤ k) {l : List Nat} (hl : ∀ x, x ∈ l → x < n) (hn : l.length ≤ 1000) : call (FX k) "table_part" [webD n w, .list (l.map nD)] = some (.tuple (l.map fun x => .tuple (l.map fun y => .int (b01 (w x y))))) := by
  obtain ⟨k, rfl, hj⟩ := lev hk
  have hz : l.length ≤ big := by unfold big; omega
  exact call_rt (ph24 _ _) (x_retP (e_tupL (e_lc (l := l) (enc := nD) (i_val (.inl (e_v rfl))) (fun x hx => e_tupL (e_lc (l := l) (enc := nD) (i_val (.inl (e_v rfl))) (fun y hy => e_w2 (e_v rfl) (e_v rfl) (e_v rfl) (hl x hx) (hl y hy)) hz)) hz)))
theorem sp_lot_by (hk : 1 ≤ k) (m : Nat) : call (FX k) "lot_by" [nD m] = some (natT (lotM m)) := by
  obtain ⟨k, rfl, hj⟩ := lev hk
  exact call_rt (ph39 _ _) (x_retP (e_tupL (e_lcIf (l := List.range 12) (enc := nD) (p := fun x => m.testBit x) (f := nD) (i_rng (m := 12) e_l (by omega)) (fun x hx => t_bit (e_v rfl) (e_v rfl)) (fun x hx _ => e_v rfl) (by decide))))
theorem sp_mask_of (hk : 1 ≤ k) {l : List Nat} (hl : ∀ x, x ∈ l → x < 12) (hn : l.length ≤ 1000) : call (FX k) "mask_of" [natT l] = some (nD (maskL l)) := by
  obtain ⟨k, rfl, hj⟩ := lev hk
  refine call_rt (ph38 _ _) (x_retP (e_sc rfl (e_lc (l := l) (enc := nD) (f := fun x => nD (1 <<< x)) (i_val (.inr (e_v rfl))) (fun x hx => e_shl1 (e_v rfl) (by have := hl x hx; omega)) (by unfold big; omega)) ?_ rfl))
  show (asInts (l.map fun x => PySem.PyData.int ((1 <<< x : Nat) : Int))).map _ = _
  rw [asInts_mapI, Option.map_some]
  congr 2
  unfold maskL
  induction l with
  | nil => rfl
  | cons x l ih =>
    rw [List.map_cons, List.map_cons, List.sum_cons, List.sum_cons, ih (fun y hy => hl y (List.mem_cons_of_mem _ hy)) (by rw [List.length_cons] at hn; omega)]
    exact (Int.natCast_add _ _).symm
theorem ne_b01 {a b : Bool} : decide (b01 a ≠ b01 b) = (a != b) := by cases a <;> cases b <;> rfl
theorem sp_split_masks (hk : 1 ≤ k) (W : Web n w) {f : Nat} (hf : f < n) : call (FX k) "split_masks" [webD n w, nD f] = some (natL ((List.range n).map fun h => mskL (fun x => w x h != w x f) (List.range n))) := by
  obtain ⟨k, rfl, hj⟩ := lev hk
  have hn := W.le
  refine call_rt (W := []) (ph36 _ _) ?_
  refine x_setP (by decide) (e_wlen (e_v rfl)) (x_own (by decide) rfl (e_lst v_nil (by decide)) ?_)
  obtain ⟨S', W', h1, h2⟩ := loopF_pre (enc := nD) (f := fun d S W => (S.putT 1000 (.one 4) d).bind fun S' => execs (FX k) noW 1000 FU [.set 5 [] (.pure (.lit (.int 0))), .iter (.one 6) [] (.rng1 (.var 2)) [.ite (.tOr (.tCmp .NotEq (.ix (.ix (.var 0) (.var 6)) (.var 4)) (.ix (.ix (.var 0) (.var 6)) (.var 1))) (.tCmp .NotEq (.ix (.ix (.var 0) (.var 4)) (.var 6)) (.ix (.ix (.var 0) (.var 1)) (.var 6)))) [.aug 5 .BitOr (.bin .LShift (.lit (.int 1)) (.var 6))] []], .app 3 [] (.var 5)] S' W)
    (fun m S W => ∃ a b c, S = ⟨[some (webD n w), some (nD f), some (nD n), none, a, b, c], [none, none, none, some (.list ((m.map fun h => mskL (fun x => w x h != w x f) (List.range n)).map nD)), none, none, none]⟩ ∧ W = []) (List.range n) ⟨[some (webD n w), some (nD f), some (nD n), none, none, none, none], [none, none, none, some (.list []), none, none, none]⟩ [] ⟨none, none, none, rfl, rfl⟩ (fun m h r S W e ⟨a, b, c, eS, eW⟩ => by
      subst eS; subst eW
      have hh : h < n := by
        have : h ∈ List.range n := by rw [e]; simp
        exact List.mem_range.mp this
      have ml : m.length < n := by
        have := congrArg List.length e
        rw [List.length_range, List.length_append, List.length_cons] at this
        omega
      obtain ⟨S2, W2, g1, g2⟩ := loopF_pre (enc := nD) (f := fun d S W => (S.putT 1000 (.one 6) d).bind fun S' => execs (FX k) noW 1000 FU [.ite (.tOr (.tCmp .NotEq (.ix (.ix (.var 0) (.var 6)) (.var 4)) (.ix (.ix (.var 0) (.var 6)) (.var 1))) (.tCmp .NotEq (.ix (.ix (.var 0) (.var 4)) (.var 6)) (.ix (.ix (.var 0) (.var 1)) (.var 6)))) [.aug 5 .BitOr (.bin .LShift (.lit (.int 1)) (.var 6))] []] S' W)
        (fun l S W => ∃ c, S = ⟨[some (webD n w), some (nD f), some (nD n), none, some (nD h), some (nD (mskL (fun x => w x h != w x f) l)), c], [none, none, none, some (.list ((m.map fun h => mskL (fun x => w x h != w x f) (List.range n)).map nD)), none, none, none]⟩ ∧ W = []) (List.range n) ⟨[some (webD n w), some (nD f), some (nD n), none, some (nD h), some (nD 0), c], [none, none, none, some (.list ((m.map fun h => mskL (fun x => w x h != w x f) (List.range n)).map nD)), none, none, none]⟩ [] ⟨c, rfl, rfl⟩ (fun l x r S W e ⟨c, eS, eW⟩ => by
          subst eS; subst eW
          have hx : x < n := by
            have : x ∈ List.range n := by rw [e]; simp
            exact List.mem_range.mp this
          refine ⟨⟨[some (webD n w), some (nD f), some (nD n), none, some (nD h), some (nD (mskL (fun x => w x h != w x f) (l ++ [x]))), some (nD x)], [none, none, none, some (.list ((m.map fun h => mskL (fun x => w x h != w x f) (List.range n)).map nD)), none, none, none]⟩, [], ?_, _, rfl, rfl⟩
          refine (pt1 (by decide)).trans ?_
          refine x_itN (p := w x h != w x f) ?_ (fun q => x_aug (y := mskL (fun x => w x h != w x f) l) (z := 1 <<< x) (by decide) rfl (e_shl1 (e_v rfl) (by omega)) ?_) (fun q => ?_) x_nil
          · have := t_or (Φ := FX k) (t_cmp (op := .NotEq) (e_w2 (a := .var 0) (b := .var 6) (c := .var 4) (τ := [some (webD n w), some (nD f), some (nD n), some (.list ((m.map fun h => mskL (fun x => w x h != w x f) (List.range n)).map nD)), some (nD h), some (nD (mskL (fun x => w x h != w x f) l)), some (nD x)]) (e_v rfl) (e_v rfl) (e_v rfl) hx hh) (e_w2 (a := .var 0) (b := .var 6) (c := .var 1) (e_v rfl) (e_v rfl) (e_v rfl) hx hf) c_ne) fun _ => t_cmp (op := .NotEq) (e_w2 (a := .var 0) (b := .var 4) (c := .var 6) (e_v rfl) (e_v rfl) (e_v rfl) hh hx) (e_w2 (a := .var 0) (b := .var 1) (c := .var 6) (e_v rfl) (e_v rfl) (e_v rfl) hf hx) c_ne
            rw [ne_b01, ne_b01, W.sym h x, W.sym f x, Bool.or_self] at this
            exact this
          · rw [mskL_app, if_pos q]; exact x_nil
          · rw [mskL_app, if_neg (by rw [q]; simp)]; exact x_nil)
      obtain ⟨c', eS, eW⟩ := g2
      subst eS; subst eW
      refine ⟨⟨[some (webD n w), some (nD f), some (nD n), none, some (nD h), some (nD (mskL (fun x => w x h != w x f) (List.range n))), c'], [none, none, none, some (.list (((m ++ [h]).map fun h => mskL (fun x => w x h != w x f) (List.range n)).map nD)), none, none, none]⟩, [], ?_, _, _, _, rfl, rfl⟩
      refine (pt1 (by decide)).trans ?_
      refine x_setP (by decide) e_l (x_iter (i_rng (e_v rfl) (by omega)) g1 (x_app rfl (e_v rfl) (by rw [List.length_map, List.length_map]; unfold big; omega) ?_))
      rw [List.map_append, List.map_append]; rfl)
  obtain ⟨a, b, c, eS, eW⟩ := h2
  subst eS; subst eW
  exact x_iter (i_rng (e_v rfl) (by omega)) h1 (x_retP (e_v rfl))
end
end SN
end
section
set_option Elab.async false
set_option linter.all false
set_option maxRecDepth 100000
set_option maxHeartbeats 4000000
/-! K4: rules with what holds at the end; closed_mask, strong_over. -/
namespace SN
open PySem L2 LamX NdefX PyProof.Rows
def WX (Φ : Fns) (Ψ : Wns) (ws fu : Nat) (ss : List SR) (S : PSt) (W : WT) (Q : Out → Prop) : Prop := ∃ o, execs Φ Ψ ws fu ss S W = some o ∧ Q o
def NX (I : PSt → WT → Prop) : Out → Prop
  | .nx S W => I S W
  | .rt _ _ => False
def RT (P : PD → WT → Prop) : Out → Prop
  | .nx _ _ => False
  | .rt d W => P d W
section
variable {Φ : Fns} {Ψ : Wns} {ws fu : Nat} {i j : Nat} {sh : List Nat} {e k c : IR} {ss b b2 : List SR} {S S' : PSt} {W W' : WT} {d x : PD} {p : Bool} {ds items : List PD} {t : Tg} {X : XW} {Q : Out → Prop}
theorem w_nil (h : Q (.nx S W)) : WX Φ Ψ ws fu [] S W Q := ⟨_, x_nil, h⟩
theorem w_ret (h : evX Φ Ψ X (S.share sh).sh (S.share sh).all W = some (d, W')) (q : Q (.rt d W')) : WX Φ Ψ ws fu (.ret sh X :: ss) S W Q := ⟨_, x_ret h, q⟩
theorem w_retP (h : ev Φ e (S.share sh).sh (S.share sh).all = some d) (q : Q (.rt d W)) : WX Φ Ψ ws fu (.ret sh (.pure e) :: ss) S W Q := ⟨_, x_retP h, q⟩
theorem w_set (hi : i ≠ ws) (h : evX Φ Ψ X (S.share sh).sh (S.share sh).all W = some (d, W')) (r : WX Φ Ψ ws fu ss ((S.share sh).put i d) W' Q) : WX Φ Ψ ws fu (.set i sh X :: ss) S W Q := r.imp fun _ z => ⟨x_set hi h z.1, z.2⟩
theorem w_setP (hi : i ≠ ws) (h : ev Φ e (S.share sh).sh (S.share sh).all = some d) (r : WX Φ Ψ ws fu ss ((S.share sh).put i d) W Q) : WX Φ Ψ ws fu (.set i sh (.pure e) :: ss) S W Q := r.imp fun _ z => ⟨x_setP hi h z.1, z.2⟩
theorem w_own (hi : i ≠ ws) (hf : fresh e = true) (h : ev Φ e (S.share sh).sh (S.share sh).all = some (.list ds)) (r : WX Φ Ψ ws fu ss ((S.share sh).putO i ds) W Q) : WX Φ Ψ ws fu (.own i sh e :: ss) S W Q := r.imp fun _ z => ⟨x_own hi hf h z.1, z.2⟩
theorem w_aug {y z : Nat} (hi : i ≠ ws) (h0 : getR S.all i = some (nD y)) (h : ev Φ e S.all S.all = some (nD z)) (r : WX Φ Ψ ws fu ss (S.put i (nD (y ||| z))) W Q) : WX Φ Ψ ws fu (.aug i .BitOr e :: ss) S W Q := r.imp fun _ z => ⟨x_aug hi h0 h z.1, z.2⟩
theorem w_two (h : ev Φ e S.sh S.all = some d) (h2 : S.putT ws (.two i j) d = some S') (r : WX Φ Ψ ws fu ss S' W Q) : WX Φ Ψ ws fu (.two i j e :: ss) S W Q := r.imp fun _ z => ⟨x_two h h2 z.1, z.2⟩
theorem w_drop (h : ev Φ e S.all S.all = some d) (r : WX Φ Ψ ws fu ss S W Q) : WX Φ Ψ ws fu (.drop e :: ss) S W Q := r.imp fun _ z => ⟨x_drop h z.1, z.2⟩
theorem w_appV (h0 : getR (S.share sh).ow i = some (.list ds)) (h : evV Φ e (S.share sh).sh (S.share sh).all = some d) (hl : ds.length < big) (r : WX Φ Ψ ws fu ss ((S.share sh).putO i (ds ++ [d])) W Q) : WX Φ Ψ ws fu (.app i sh e :: ss) S W Q := r.imp fun _ z => ⟨x_appV h0 h hl z.1, z.2⟩
theorem w_app (h0 : getR (S.share sh).ow i = some (.list ds)) (h : ev Φ e (S.share sh).sh (S.share sh).all = some d) (hl : ds.length < big) (r : WX Φ Ψ ws fu ss ((S.share sh).putO i (ds ++ [d])) W Q) : WX Φ Ψ ws fu (.app i sh e :: ss) S W Q := w_appV h0 (evV_of h) hl r
theorem w_put {n : Nat} (h : evV Φ e S.sh S.all = some d) (h0 : getR S.ow i = some (.list ds)) (h2 : ev Φ k S.all S.all = some (nD n)) (hn : n < ds.length) (r : WX Φ Ψ ws fu ss (S.putO i (ds.set n d)) W Q) : WX Φ Ψ ws fu (.put i k e :: ss) S W Q := r.imp fun _ z => ⟨x_put h h0 h2 hn z.1, z.2⟩
theorem thn_thn (o : Out) (f g : PSt → WT → Option Out) : (o.thn f).bind (fun o => o.thn g) = o.thn fun S W => (f S W).bind fun o => o.thn g := by
  cases o <;> rfl
theorem execs_app : ∀ (a : List SR) (S : PSt) (W : WT), execs Φ Ψ ws fu (a ++ ss) S W = (execs Φ Ψ ws fu a S W).bind fun o => o.thn (execs Φ Ψ ws fu ss)
  | [], S, W => rfl
  | s :: a, S, W => by
    show (exec Φ Ψ ws fu s S W).bind (fun o => o.thn (execs Φ Ψ ws fu (a ++ ss))) = ((exec Φ Ψ ws fu s S W).bind fun o => o.thn (execs Φ Ψ ws fu a)).bind _
    cases exec Φ Ψ ws fu s S W with
    | none => rfl
    | some o =>
      rw [Option.bind_some, Option.bind_some, thn_thn]
      cases o with
      | nx S W => exact execs_app a S W
      | rt d W => rfl
theorem w_ite (h : evT Φ c S.all = some p) (r1 : p = true → WX Φ Ψ ws fu (b ++ ss) S W Q) (r2 : p = false → WX Φ Ψ ws fu (b2 ++ ss) S W Q) : WX Φ Ψ ws fu (.ite c b b2 :: ss) S W Q := by
  unfold WX
  cases p with
  | true =>
    obtain ⟨o, h1, h2⟩ := r1 rfl
    exact ⟨o, x_itT h (by rw [← execs_app]; exact h1), h2⟩
  | false =>
    obtain ⟨o, h1, h2⟩ := r2 rfl
    exact ⟨o, x_ite h (fun z => by cases z) (fun _ => by rw [← execs_app]; exact h1), h2⟩
theorem w_itF (h : evT Φ c S.all = some false) (r : WX Φ Ψ ws fu ss S W Q) : WX Φ Ψ ws fu (.ite c b [] :: ss) S W Q := w_ite h (fun z => by cases z) fun _ => r
theorem w_itT (h : evT Φ c S.all = some true) (r : WX Φ Ψ ws fu (b ++ ss) S W Q) : WX Φ Ψ ws fu (.ite c b b2 :: ss) S W Q := w_ite h (fun _ => r) fun z => by cases z
theorem w_iter1 {α : Type} {l : List α} {enc : α → PD} (I : List α → PSt → WT → Prop) (h : evI Φ e (S.share sh).sh (S.share sh).all = some (l.map enc)) (hi : i ≠ ws) (h0 : I [] (S.share sh) W)
    (hs : ∀ m x r S W, l = m ++ x :: r → I m S W → WX Φ Ψ ws fu b (S.put i (enc x)) W (NX (I (m ++ [x])))) (r : ∀ S' W', I l S' W' → WX Φ Ψ ws fu ss S' W' Q) : WX Φ Ψ ws fu (.iter (.one i) sh e b :: ss) S W Q := by
  obtain ⟨S', W', h1, h2⟩ := loopF_pre (enc := enc) (f := fun d S W => (S.putT ws (.one i) d).bind fun S' => execs Φ Ψ ws fu b S' W) I l (S.share sh) W h0 fun m x r S W e hI => by
    obtain ⟨o, g1, g2⟩ := hs m x r S W e hI
    cases o with
    | nx S' W' => exact ⟨S', W', (pt1 hi).trans g1, g2⟩
    | rt d W' => exact absurd g2 id
  exact (r S' W' h2).imp fun _ z => ⟨x_iter h h1 z.1, z.2⟩
theorem w_iter2 {α : Type} {l : List α} {e1 e2 : α → PD} (I : List α → PSt → WT → Prop) (h : evI Φ e (S.share sh).sh (S.share sh).all = some (l.map fun x => .tuple [e1 x, e2 x])) (hi : i ≠ ws) (hj : j ≠ ws) (h0 : I [] (S.share sh) W)
    (hs : ∀ m x r S W, l = m ++ x :: r → I m S W → WX Φ Ψ ws fu b ((S.put i (e1 x)).put j (e2 x)) W (NX (I (m ++ [x])))) (r : ∀ S' W', I l S' W' → WX Φ Ψ ws fu ss S' W' Q) : WX Φ Ψ ws fu (.iter (.two i j) sh e b :: ss) S W Q := by
  obtain ⟨S', W', h1, h2⟩ := loopF_pre (enc := fun x => .tuple [e1 x, e2 x]) (f := fun d S W => (S.putT ws (.two i j) d).bind fun S' => execs Φ Ψ ws fu b S' W) I l (S.share sh) W h0 fun m x r S W e hI => by
    obtain ⟨o, g1, g2⟩ := hs m x r S W e hI
    cases o with
    | nx S' W' => exact ⟨S', W', (pt2 hi hj).trans g1, g2⟩
    | rt d W' => exact absurd g2 id
  exact (r S' W' h2).imp fun _ z => ⟨x_iter h h1 z.1, z.2⟩
theorem w_whl (I : PSt → WT → Prop) (μ : PSt → Nat) (h0 : I S W) (hs : ∀ S W, I S W → ∃ p, evT Φ c S.all = some p ∧ (p = true → WX Φ Ψ ws fu b S W (NX fun S' W' => I S' W' ∧ μ S' < μ S))) (hm : μ S < fu)
    (r : ∀ S' W', I S' W' → evT Φ c S'.all = some false → WX Φ Ψ ws fu ss S' W' Q) : WX Φ Ψ ws fu (.whl c b :: ss) S W Q := by
  obtain ⟨S', W', h1, h2, h3⟩ := loopW_inv (c := fun S => evT Φ c S.all) (b := execs Φ Ψ ws fu b) I μ (fun S W hI => by
    obtain ⟨p, g1, g2⟩ := hs S W hI
    refine ⟨p, g1, fun q => ?_⟩
    obtain ⟨o, k1, k2⟩ := g2 q
    cases o with
    | nx S' W' => exact ⟨S', W', k1, k2⟩
    | rt d W' => exact absurd k2 id) fu S W h0 hm
  exact (r S' W' h2 h3).imp fun _ z => ⟨x_whl h1 z.1, z.2⟩
end
theorem w_call {Φ Φ' : Fns} {fu m : Nat} {q : List SR} {n : Str} {ds : List PD} {P : PD → Prop} (h : Φ' n = some (runD Φ fu m q)) (h2 : WX Φ noW 1000 fu q (st0 m (ds.map some)) [] (RT fun d _ => P d)) : ∃ d, call Φ' n ds = some d ∧ P d := by
  obtain ⟨o, h1, h3⟩ := h2
  cases o with
  | nx S W => exact absurd h3 id
  | rt d W => exact ⟨d, call_rt h h1, h3⟩
theorem enum_nats {l : List Nat} : enumD (l.map nD) = (List.range l.length).map fun i => .tuple [nD i, nD (l.getD i 0)] := by
  unfold enumD
  rw [List.length_map]
  refine List.map_congr_left fun i hi => ?_
  rw [List.mem_range] at hi
  rw [List.getD_eq_getElem?_getD, List.getD_eq_getElem?_getD, List.getElem?_map, List.getElem?_eq_getElem hi]; rfl
theorem or_sub_l {m p : Nat} : msub m (m ||| p) := fun z h => by rw [Nat.testBit_or, h]; rfl
theorem or_sub_r {m p : Nat} : msub p (m ||| p) := fun z h => by rw [Nat.testBit_or, h, Bool.or_true]
theorem Bd.or {m p : Nat} (h : Bd m) (h2 : Bd p) : Bd (m ||| p) := fun z q => by
  rw [Nat.testBit_or, Bool.or_eq_true] at q
  exact q.elim (h z) (h2 z)
theorem sp_closed_mask {k : Nat} (hk : 1 ≤ k) {ms : List Nat} {m0 : Nat} (hb : ∀ p, p ∈ ms → Bd p) (h0 : Bd m0) (hl : ms.length ≤ 1000) (P : Nat → Prop) (p0 : P m0) (ps : ∀ m h, P m → h < ms.length → m.testBit h = true → P (m ||| ms.getD h 0)) :
    ∃ d, call (FX k) "closed_mask" [natL ms, nD m0] = some d ∧ ∃ r, d = nD r ∧ P r ∧ Bd r ∧ msub m0 r ∧ ∀ h, h < ms.length → r.testBit h = true → msub (ms.getD h 0) r := by
  obtain ⟨k, rfl, hj⟩ := lev hk
  refine w_call (ph37 _ _) ?_
  refine w_setP (by decide) (e_l (d := nD 0)) (w_whl (fun S W => ∃ mask old a b, S = ⟨[some (natL ms), some (nD mask), some (nD old), a, b], List.replicate 5 none⟩ ∧ W = [] ∧ P mask ∧ Bd mask ∧ msub m0 mask ∧ msub old mask ∧ ∀ h, h < ms.length → old.testBit h = true → msub (ms.getD h 0) mask)
    (fun S => match S.sh with
      | [_, some (.int x), some (.int y), _, _] => 2 * uc x.toNat + (if x = y then 0 else 1)
      | _ => 0) ⟨m0, 0, none, none, rfl, rfl, p0, h0, fun _ h => h, fun z h => by simp at h, fun h _ q => by simp at q⟩ ?_ ?_ ?_)
  · intro S W ⟨mask, old, a, b, eS, eW, i1, i2, i3, i4, i5⟩
    subst eS; subst eW
    refine ⟨decide (mask ≠ old), t_cmp (e_v rfl) (e_v rfl) c_neN, fun q => ?_⟩
    have q := of_decide_eq_true q
    refine w_setP (by decide) (e_v rfl) (w_iter2 (l := List.range ms.length) (e1 := fun i => nD i) (e2 := fun i => nD (ms.getD i 0)) (fun l S W => ∃ m a b, S = ⟨[some (natL ms), some (nD m), some (nD mask), a, b], List.replicate 5 none⟩ ∧ W = [] ∧ P m ∧ Bd m ∧ msub mask m ∧ ∀ h, h ∈ l → mask.testBit h = true → msub (ms.getD h 0) m) (by rw [i_enum (.inl (e_v rfl)), enum_nats]) (by decide) (by decide) ⟨mask, a, b, rfl, rfl, i1, i2, fun _ h => h, fun h z => by cases z⟩ ?_ ?_)
    · intro l x r S W e ⟨m, a, b, eS, eW, j1, j2, j3, j4⟩
      subst eS; subst eW
      have hx : x < ms.length := by
        have : x ∈ List.range ms.length := by rw [e]; simp
        exact List.mem_range.mp this
      refine w_ite (t_bit (m := mask) (x := x) (e_v rfl) (e_v rfl)) (fun q => w_aug (y := m) (z := ms.getD x 0) (by decide) rfl (e_v rfl) (w_nil ⟨m ||| ms.getD x 0, some (nD x), some (nD (ms.getD x 0)), rfl, rfl, ps m x j1 hx (j3 x q), j2.or (hb _ ?_), fun z h => or_sub_l z (j3 z h), fun h z hz => ?_⟩)) (fun q => w_nil ⟨m, _, _, rfl, rfl, j1, j2, j3, fun h z hz => ?_⟩)
      · rw [List.getD_eq_getElem?_getD, List.getElem?_eq_getElem hx]; exact List.getElem_mem hx
      · rcases List.mem_append.mp z with z | z
        · exact fun i hi => or_sub_l i (j4 h z hz i hi)
        · rw [List.mem_singleton.mp z]; exact or_sub_r
      · rcases List.mem_append.mp z with z | z
        · exact j4 h z hz
        · rw [List.mem_singleton.mp z, q] at hz; cases hz
    · intro S W ⟨m, a, b, eS, eW, j1, j2, j3, j4⟩
      subst eS; subst eW
      refine w_nil ⟨⟨m, mask, a, b, rfl, rfl, j1, j2, fun z h => j3 z (i3 z h), j3, fun h hh hz => j4 h (List.mem_range.mpr hh) hz⟩, ?_⟩
      show 2 * uc ((m : Int).toNat) + (if (m : Int) = (mask : Int) then 0 else 1) < 2 * uc ((mask : Int).toNat) + (if (mask : Int) = (old : Int) then 0 else 1)
      rw [Int.toNat_natCast, Int.toNat_natCast, if_neg (show ¬ (mask : Int) = (old : Int) by omega)]
      by_cases z : m = mask
      · subst z
        rw [if_pos rfl]; omega
      · have := uc_lt j3 j2 (Ne.symm z)
        rw [if_neg (by omega)]; omega
  · show 2 * uc ((m0 : Int).toNat) + (if (m0 : Int) = 0 then 0 else 1) < FU
    have := uc_le (m0 : Int).toNat
    have hfu : FU = 60 := rfl
    split <;> omega
  · intro S W ⟨mask, old, a, b, eS, eW, i1, i2, i3, i4, i5⟩ hc
    subst eS; subst eW
    have e : mask = old := by
      have := t_cmp (Φ := FX k) (op := .NotEq) (a := .var 1) (b := .var 2) (τ := [some (natL ms), some (nD mask), some (nD old), a, b]) (e_v rfl) (e_v rfl) c_neN
      have := this.symm.trans hc
      simpa using this
    subst e
    exact w_retP (e_v rfl) ⟨mask, rfl, i1, i2, i3, i5⟩
theorem sp_strong_over {k : Nat} (hk : 1 ≤ k) {ms : List Nat} {m0 : Nat} (hb : ∀ p, p ∈ ms → Bd p) (h0 : Bd m0) (hl : ms.length ≤ 1000) (P : Nat → Prop) (p0 : P m0) (ps : ∀ m p, P m → p ∈ ms → m &&& p ≠ 0 → m &&& p ≠ m → m &&& p ≠ p → P (m ||| p)) :
    ∃ d, call (FX k) "strong_over" [natL ms, nD m0] = some d ∧ ∃ r, d = nD r ∧ P r ∧ Bd r ∧ msub m0 r ∧ ∀ p, p ∈ ms → r &&& p = 0 ∨ r &&& p = r ∨ r &&& p = p := by
  obtain ⟨k, rfl, hj⟩ := lev hk
  refine w_call (ph45 _ _) ?_
  refine w_setP (by decide) (e_l (d := nD 0)) (w_whl (fun S W => ∃ mask old a b, S = ⟨[some (natL ms), some (nD mask), some (nD old), a, b], List.replicate 5 none⟩ ∧ W = [] ∧ P mask ∧ Bd mask ∧ msub m0 mask ∧ msub old mask ∧ (mask = old → ∀ p, p ∈ ms → mask &&& p = 0 ∨ mask &&& p = mask ∨ mask &&& p = p))
    (fun S => match S.sh with
      | [_, some (.int x), some (.int y), _, _] => 2 * uc x.toNat + (if x = y then 0 else 1)
      | _ => 0) ⟨m0, 0, none, none, rfl, rfl, p0, h0, fun _ h => h, fun z h => by simp at h, fun e p _ => .inl (by rw [e, Nat.zero_and])⟩ ?_ ?_ ?_)
  · intro S W ⟨mask, old, a, b, eS, eW, i1, i2, i3, i4, i5⟩
    subst eS; subst eW
    refine ⟨decide (mask ≠ old), t_cmp (e_v rfl) (e_v rfl) c_neN, fun q => ?_⟩
    have q := of_decide_eq_true q
    refine w_setP (by decide) (e_v rfl) (w_iter1 (l := ms) (enc := nD) (fun l S W => ∃ m a b, S = ⟨[some (natL ms), some (nD m), some (nD mask), a, b], List.replicate 5 none⟩ ∧ W = [] ∧ P m ∧ Bd m ∧ msub mask m ∧ (m = mask → ∀ p, p ∈ l → m &&& p = 0 ∨ m &&& p = m ∨ m &&& p = p)) (i_val (.inl (e_v rfl))) (by decide) ⟨mask, a, b, rfl, rfl, i1, i2, fun _ h => h, fun _ p z => by cases z⟩ ?_ ?_)
    · intro l x r S W e ⟨m, a, b, eS, eW, j1, j2, j3, j4⟩
      subst eS; subst eW
      have hx : x ∈ ms := by rw [e]; simp
      refine w_setP (by decide) (e_bin (e_v rfl) (e_v rfl) b_and) (w_ite (p := decide (m &&& x ∉ [0, m, x])) (t_cmp (e_v rfl) (e_tup (v_cons e_l (v_cons (e_v rfl) (v_cons (e_v rfl) v_nil))) (by show (3 : Nat) ≤ 1000; decide)) (c_nin (x := m &&& x) (l := [0, m, x]) (.inr rfl))) (fun q => ?_) (fun q => ?_))
      · have q := of_decide_eq_true q
        simp only [List.mem_cons, List.not_mem_nil, or_false, not_or] at q
        refine w_aug (y := m) (z := x) (by decide) rfl (e_v rfl) (w_nil ⟨m ||| x, some (nD x), some (nD (m &&& x)), rfl, rfl, ps m x j1 hx q.1 q.2.1 q.2.2, j2.or (hb x hx), fun z h => or_sub_l z (j3 z h), fun ee => absurd ?_ q.2.2⟩)
        refine Nat.eq_of_testBit_eq fun i => ?_
        rw [Nat.testBit_and]
        have a1 := j3 i
        have a2 : (m ||| x).testBit i = mask.testBit i := by rw [ee]
        rw [Nat.testBit_or] at a2
        cases h1 : m.testBit i <;> cases h2 : x.testBit i <;> cases h3 : mask.testBit i <;> simp_all
      · have q := of_decide_eq_false q
        simp only [List.mem_cons, List.not_mem_nil, or_false, Classical.not_not] at q
        refine w_nil ⟨m, some (nD x), some (nD (m &&& x)), rfl, rfl, j1, j2, j3, fun ee p hp => ?_⟩
        rcases List.mem_append.mp hp with z | z
        · exact j4 ee p z
        · rw [List.mem_singleton.mp z]; exact q
    · intro S W ⟨m, a, b, eS, eW, j1, j2, j3, j4⟩
      subst eS; subst eW
      refine w_nil ⟨⟨m, mask, a, b, rfl, rfl, j1, j2, fun z h => j3 z (i3 z h), j3, fun e => j4 e⟩, ?_⟩
      show 2 * uc ((m : Int).toNat) + (if (m : Int) = (mask : Int) then 0 else 1) < 2 * uc ((mask : Int).toNat) + (if (mask : Int) = (old : Int) then 0 else 1)
      rw [Int.toNat_natCast, Int.toNat_natCast, if_neg (show ¬ (mask : Int) = (old : Int) by omega)]
      by_cases z : m = mask
      · subst z
        rw [if_pos rfl]; omega
      · have := uc_lt j3 j2 (Ne.symm z)
        rw [if_neg (by omega)]; omega
  · show 2 * uc ((m0 : Int).toNat) + (if (m0 : Int) = 0 then 0 else 1) < FU
    have := uc_le (m0 : Int).toNat
    have hfu : FU = 60 := rfl
    split <;> omega
  · intro S W ⟨mask, old, a, b, eS, eW, i1, i2, i3, i4, i5⟩ hc
    subst eS; subst eW
    have e : mask = old := by
      have := t_cmp (Φ := FX k) (op := .NotEq) (a := .var 1) (b := .var 2) (τ := [some (natL ms), some (nD mask), some (nD old), a, b]) (e_v rfl) (e_v rfl) c_neN
      have := this.symm.trans hc
      simpa using this
    subst e
    exact w_retP (e_v rfl) ⟨mask, rfl, i1, i2, i3, i5 rfl⟩
end SN
end
section
set_option Elab.async false
set_option linter.all false
set_option maxRecDepth 100000
set_option maxHeartbeats 4000000
/-! K5: the strong lots are the family. -/
namespace SN
open PySem L2 LamX NdefX PyProof.Rows
theorem ph41 {fu k : Nat} (h : 3 ≤ k) : phi fu (k + 1) "in_lot_order" = some lotS := by
  show (fnIx "in_lot_order").bind (semF fu k (phi fu k)) = _
  rw [show fnIx "in_lot_order" = some 41 by kernel_rfl]
  show semF fu k (phi fu k) 41 = _
  unfold semF
  rw [if_neg (by decide), if_pos rfl, if_pos h]
theorem ph29 {fu k : Nat} : phi fu (k + 1) "reached" = some (reachS fu) := by
  show (fnIx "reached").bind (semF fu k (phi fu k)) = _
  rw [show fnIx "reached" = some 29 by kernel_rfl]
  show semF fu k (phi fu k) 29 = _
  unfold semF
  rw [if_pos rfl]
theorem ph51 {fu k : Nat} (h : 3 ≤ k) : phi fu (k + 1) "linear_row" = some linS := by
  show (fnIx "linear_row").bind (semF fu k (phi fu k)) = _
  rw [show fnIx "linear_row" = some 51 by kernel_rfl]
  show semF fu k (phi fu k) 51 = _
  unfold semF
  rw [if_neg (by decide), if_neg (by decide), if_pos rfl, if_pos h]
theorem ph60 {fu k : Nat} (h : 3 ≤ k) : phi fu (k + 1) "nodes" = some (nodS (phi fu k) fu) := by
  show (fnIx "nodes").bind (semF fu k (phi fu k)) = _
  rw [show fnIx "nodes" = some 60 by kernel_rfl]
  show semF fu k (phi fu k) 60 = _
  unfold semF
  rw [if_neg (by decide), if_neg (by decide), if_neg (by decide), if_pos rfl, if_pos h]
theorem natT_tup (l : List Nat) : natT l = tupD (l.map fun (x : Nat) => (x : Int)) := by
  unfold natT tupD
  rw [map_nD]
theorem asTups_map : ∀ ts : List (List Int), asTups (ts.map tupD) = some ts
  | [] => rfl
  | t :: ts => by
    show (asInts (t.map .int)).bind _ = _
    rw [asInts_map, Option.bind_some, asTups_map ts]; rfl
theorem asTups_nats (ls : List (List Nat)) : asTups (ls.map natT) = some (ls.map fun l => l.map fun (x : Nat) => (x : Int)) := by
  rw [← asTups_map, List.map_map]
  congr 1
  exact List.map_congr_left fun l _ => natT_tup l
theorem perm_map_inv {α β : Type} {f : α → β} : ∀ {l : List β} {m : List α}, l.Perm (m.map f) → ∃ m' : List α, l = m'.map f ∧ m'.Perm m := by
  intro l m h
  generalize e : m.map f = r at h
  replace h := h.symm
  induction h generalizing m with
  | nil => exact ⟨[], rfl, by rw [List.map_eq_nil_iff.mp e]⟩
  | cons x _ ih =>
    obtain ⟨a, m, rfl, rfl, e3⟩ := List.map_eq_cons_iff.mp e
    obtain ⟨m', rfl, h2⟩ := ih e3
    exact ⟨a :: m', rfl, h2.cons a⟩
  | swap x y l =>
    obtain ⟨a, m, rfl, rfl, e3⟩ := List.map_eq_cons_iff.mp e
    obtain ⟨b, m, rfl, rfl, e4⟩ := List.map_eq_cons_iff.mp e3
    exact ⟨b :: a :: m, by rw [← e4]; rfl, List.Perm.swap _ _ _⟩
  | trans _ _ ih1 ih2 =>
    obtain ⟨m1, e1, p1⟩ := ih1 e
    obtain ⟨m2, e2, p2⟩ := ih2 e1.symm
    exact ⟨m2, e2, p2.trans p1⟩
theorem sp_in_lot_order {k : Nat} (hk : 4 ≤ k) (ls : List (List Nat)) : ∃ F : List (List Nat), call (FX k) "in_lot_order" [.list (ls.map natT)] = some (.list (F.map natT)) ∧ F.Perm ls := by
  obtain ⟨k, rfl, hj⟩ := lev hk
  have hp : (ksD ((ls.map fun l => l.map fun (x : Nat) => (x : Int)).map lotK) (ls.map natT)).Perm (ls.map natT) := ksD_perm (by simp)
  obtain ⟨F, e, h⟩ := perm_map_inv hp
  refine ⟨F, ?_, h⟩
  show (phi FU (k + 1) "in_lot_order").bind _ = _
  rw [ph41 hj]
  show (asTups (ls.map natT)).map _ = _
  rw [asTups_nats, Option.map_some, e]
/-! ### closures -/
def sm (n : Nat) (w : Nat → Nat → Bool) (f : Nat) : List Nat := (List.range n).map fun h => mskL (fun x => w x h != w x f) (List.range n)
section
variable {k n : Nat} {w : Nat → Nat → Bool}
theorem sm_len {f : Nat} : (sm n w f).length = n := by unfold sm; rw [List.length_map, List.length_range]
theorem sm_bit {f h x : Nat} (hh : h < n) : ((sm n w f).getD h 0).testBit x = (decide (x < n) && (w x h != w x f)) := by
  unfold sm
  rw [List.getD_eq_getElem?_getD, List.getElem?_map, List.getElem?_range hh]
  show (mskL _ _).testBit x = _
  rw [mskL_bit]
  simp only [List.mem_range]
theorem sm_bd (W : Web n w) {f : Nat} : ∀ p, p ∈ sm n w f → Bd p := by
  intro p hp x hx
  obtain ⟨h, hh, rfl⟩ := List.mem_map.mp hp
  rw [mskL_bit] at hx
  simp only [Bool.and_eq_true, decide_eq_true_eq, List.mem_range] at hx
  have := W.le
  omega
theorem sp_cl (hk : 1 ≤ k) (W : Web n w) {f y m0 : Nat} (hf : f < n) (hy : y < n) (h0 : ∀ z, m0.testBit z = true ↔ z = f ∨ z = y) : ∃ r, call (FX k) "closed_mask" [natL (sm n w f), nD m0] = some (nD r) ∧ IsM r (cl n w f y) := by
  have hn := W.le
  obtain ⟨d, h1, r, rfl, h2, h3, h4, h5⟩ := sp_closed_mask hk (ms := sm n w f) (m0 := m0) (sm_bd W) (fun z h => by rcases (h0 z).mp h with e | e <;> omega) (by rw [sm_len]; omega) (fun m => (∀ z, m.testBit z = true → z < n) ∧ ∀ B, Mo n w B → B f → B y → ∀ z, m.testBit z = true → B z)
    ⟨fun z h => by rcases (h0 z).mp h with e | e <;> omega, fun B hB b1 b2 z h => by rcases (h0 z).mp h with e | e <;> rw [e] <;> assumption⟩ (fun m h ⟨p1, p2⟩ hh hm => by
      rw [sm_len] at hh
      refine ⟨fun z hz => ?_, fun B hB b1 b2 z hz => ?_⟩
      · rw [Nat.testBit_or, Bool.or_eq_true, sm_bit hh, Bool.and_eq_true, decide_eq_true_eq] at hz
        exact hz.elim (p1 z) (·.1)
      · rw [Nat.testBit_or, Bool.or_eq_true, sm_bit hh, Bool.and_eq_true, decide_eq_true_eq] at hz
        rcases hz with hz | ⟨z1, z2⟩
        · exact p2 B hB b1 b2 z hz
        · exact Classical.byContradiction fun q => by
            have := hB.2 z h f z1 q (p2 B hB b1 b2 h hm) b1
            rw [this] at z2
            simp at z2)
  refine ⟨r, h1, fun z => ⟨fun hz B hB b1 b2 => h2.2 B hB b1 b2 z hz, fun hz => hz (fun z => r.testBit z = true) ⟨h2.1, fun a b c ha hna hb hc => ?_⟩ (h4 f ((h0 f).mpr (.inl rfl))) (h4 y ((h0 y).mpr (.inr rfl)))⟩⟩
  have key : ∀ b, r.testBit b = true → w a b = w a f := fun b hb => by
    have bn := h2.1 b hb
    have := h5 b (by rw [sm_len]; exact bn) hb a
    rw [sm_bit bn, decide_eq_true ha, Bool.true_and] at this
    cases q : (w a b != w a f) with
    | true => exact absurd (this q) hna
    | false => simpa using q
  rw [key b hb, key c hc]
theorem sp_closed (hk : 2 ≤ k) (W : Web n w) {x y : Nat} (hxy : x < y) (hy : y < n) : ∃ r, call (FX k) "closed" [webD n w, natT [x, y]] = some (natT (lotM r)) ∧ IsM r (cl n w x y) := by
  obtain ⟨k, rfl, hj⟩ := lev hk
  have hn := W.le
  obtain ⟨r, h1, h2⟩ := sp_cl (k := k) hj W (f := x) (y := y) (m0 := maskL [x, y]) (by omega) hy (fun z => by rw [maskL_bit (by simp; omega)]; simp)
  refine ⟨r, ?_, h2⟩
  refine call_rt (ph40 _ _) (x_retP (e_fn1 (e_fn2 (e_fn2 (e_v rfl) (e_ix (e_v rfl) (e_l (d := nD 0)) (ix_map (l := [x, y]) (i := 0) (by simp))) (sp_split_masks hj W (by show x < n; omega))) (e_fn1 (e_v rfl) (sp_mask_of hj (fun z hz => ?_) (by simp))) h1) (sp_lot_by hj r)))
  simp only [List.mem_cons, List.not_mem_nil, or_false] at hz
  omega
theorem or_pair {x y z : Nat} : (1 <<< x ||| 1 <<< y).testBit z = true ↔ z = x ∨ z = y := by
  rw [Nat.testBit_or, tb_one, tb_one]; simp
structure Prs (n : Nat) (w : Nat → Nat → Bool) (ps : List Nat) : Prop where
  len : ps.length ≤ 200
  st : ∀ p, p ∈ ps → ∃ x y, x < y ∧ y < n ∧ IsM p (cl n w x y)
  all : ∀ x y, x < y → y < n → ∃ p, p ∈ ps ∧ IsM p (cl n w x y)
theorem Prs.bd (W : Web n w) {ps : List Nat} (h : Prs n w ps) : ∀ p, p ∈ ps → Bd p := fun p hp z hz => by
  obtain ⟨x, y, h1, h2, h3⟩ := h.st p hp
  have := (cl_mo (w := w) (show x < n by omega) h2).1 z ((h3 z).mp hz)
  have := W.le
  omega
theorem sp_pair_masks (hk : 2 ≤ k) (W : Web n w) : ∃ ps : List Nat, call (FX k) "pair_masks" [webD n w] = some (natL ps) ∧ Prs n w ps := by
  obtain ⟨k, rfl, hj⟩ := lev hk
  have hn := W.le
  have : ∃ d, call (FX (k + 1)) "pair_masks" [webD n w] = some d ∧ ∃ ps : List Nat, d = natL ps ∧ Prs n w ps := by
    refine w_call (ph43 _ _) ?_
    refine w_own (by decide) rfl (e_lst v_nil (by decide)) (w_iter1 (l := List.range n) (enc := nD) (fun l S W => ∃ (ps : List Nat) (a b c d : Option PD), S = ⟨[some (webD n w), none, a, b, c, d], [none, some (.list (ps.map nD)), none, none, none, none]⟩ ∧ W = [] ∧ ps.length ≤ 12 * l.length ∧ (∀ p, p ∈ ps → ∃ x y, x < y ∧ y < n ∧ IsM p (cl n w x y)) ∧ (∀ x y, x ∈ l → x < y → y < n → ∃ p, p ∈ ps ∧ IsM p (cl n w x y))) (i_rng (e_wlen (e_v rfl)) (by omega)) (by decide) ⟨[], none, none, none, none, rfl, rfl, by simp, by simp, by simp⟩ ?_ ?_)
    · intro l x r S W' e ⟨ps, a, b, c, d, eS, eW, i1, i2, i3⟩
      subst eS; subst eW
      have hx : x < n := by
        have : x ∈ List.range n := by rw [e]; simp
        exact List.mem_range.mp this
      have ll : l.length < n := by
        have := congrArg List.length e
        rw [List.length_range, List.length_append, List.length_cons] at this
        omega
      refine w_setP (by decide) (e_fn2 (e_v rfl) (e_v rfl) (sp_split_masks hj W hx)) (w_iter1 (l := List.range' (x + 1) (n - (x + 1))) (enc := nD) (fun l2 S W => ∃ (ps : List Nat) (c d : Option PD), S = ⟨[some (webD n w), none, some (nD x), some (natL (sm n w x)), c, d], [none, some (.list (ps.map nD)), none, none, none, none]⟩ ∧ W = [] ∧ ps.length ≤ 12 * l.length + l2.length ∧ (∀ p, p ∈ ps → ∃ x y, x < y ∧ y < n ∧ IsM p (cl n w x y)) ∧ (∀ x y, x ∈ l → x < y → y < n → ∃ p, p ∈ ps ∧ IsM p (cl n w x y)) ∧ ∀ y, y ∈ l2 → ∃ p, p ∈ ps ∧ IsM p (cl n w x y)) (i_rng2 (e_add1 (e_v rfl)) (e_wlen (e_v rfl)) (by omega) (by omega)) (by decide) ⟨ps, c, d, rfl, rfl, by simpa using i1, i2, i3, by simp⟩ ?_ ?_)
      · intro l2 y r2 S W' e2 ⟨ps, c, d, eS, eW, j1, j2, j3, j4⟩
        subst eS; subst eW
        have hy : x < y ∧ y < n := by
          have : y ∈ List.range' (x + 1) (n - (x + 1)) := by rw [e2]; simp
          rw [List.mem_range'_1] at this
          omega
        have l2l : l2.length ≤ 12 := by
          have := congrArg List.length e2
          rw [List.length_range', List.length_append, List.length_cons] at this
          omega
        obtain ⟨m, g1, g2⟩ := sp_cl (k := k) hj W (f := x) (y := y) (m0 := 1 <<< x ||| 1 <<< y) hx hy.2 (fun z => or_pair)
        refine w_setP (by decide) (e_fn2 (e_v rfl) (e_bin (e_shl1 (e_v rfl) (by omega)) (e_shl1 (e_v rfl) (by omega)) b_or) g1) (w_ite (p := decide (m ∉ ps)) (t_cmp (e_v rfl) (e_v rfl) (c_nin (.inl rfl))) (fun q => ?_) (fun q => ?_))
        · refine w_app rfl (e_v rfl) (by rw [List.length_map]; unfold big; omega) (w_nil ⟨ps ++ [m], some (nD y), some (nD m), by rw [List.map_append]; rfl, rfl, by simp; omega, fun p hp => ?_, fun a b h1 h2 h3 => ?_, fun b hb => ?_⟩)
          · rcases List.mem_append.mp hp with z | z
            · exact j2 p z
            · rw [List.mem_singleton.mp z]; exact ⟨x, y, hy.1, hy.2, g2⟩
          · obtain ⟨p, p1, p2⟩ := j3 a b h1 h2 h3
            exact ⟨p, List.mem_append_left _ p1, p2⟩
          · rcases List.mem_append.mp hb with z | z
            · obtain ⟨p, p1, p2⟩ := j4 b z
              exact ⟨p, List.mem_append_left _ p1, p2⟩
            · rw [List.mem_singleton.mp z]; exact ⟨m, by simp, g2⟩
        · have q := of_decide_eq_false q
          refine w_nil ⟨ps, some (nD y), some (nD m), rfl, rfl, by simp; omega, j2, j3, fun b hb => ?_⟩
          rcases List.mem_append.mp hb with z | z
          · exact j4 b z
          · rw [List.mem_singleton.mp z]; exact ⟨m, Classical.not_not.mp q, g2⟩
      · intro S W' ⟨ps, c, d, eS, eW, j1, j2, j3, j4⟩
        subst eS; subst eW
        refine w_nil ⟨ps, _, _, c, d, rfl, rfl, ?_, j2, fun a b h1 h2 h3 => ?_⟩
        · rw [List.length_range'] at j1
          simp only [List.length_append, List.length_singleton]
          omega
        · rcases List.mem_append.mp h1 with z | z
          · exact j3 a b z h2 h3
          · rw [List.mem_singleton.mp z] at h2 ⊢
            exact j4 b (List.mem_range'_1.mpr (by omega))
    · intro S W' ⟨ps, a, b, c, d, eS, eW, i1, i2, i3⟩
      subst eS; subst eW
      exact w_retP (e_v rfl) ⟨ps, rfl, by rw [List.length_range] at i1; omega, i2, fun x y h1 h2 => i3 x y (List.mem_range.mpr (by omega)) h1 h2⟩
  obtain ⟨d, h1, ps, rfl, h2⟩ := this
  exact ⟨ps, h1, h2⟩
theorem sp_strong (hk : 1 ≤ k) (W : Web n w) {ps : List Nat} (hp : Prs n w ps) {m0 : Nat} (h0 : Mo n w fun z => m0.testBit z = true) : ∃ r, call (FX k) "strong_over" [natL ps, nD m0] = some (nD r) ∧ Bd r ∧ Stg n w (fun z => r.testBit z = true) ∧ msub m0 r ∧ ∀ B, Stg n w B → (∀ z, m0.testBit z = true → B z) → ∀ z, r.testBit z = true → B z := by
  have hn := W.le
  obtain ⟨d, h1, r, rfl, h2, h3, h4, h5⟩ := sp_strong_over hk (ms := ps) (m0 := m0) (hp.bd W) (fun z h => by have := h0.1 z h; omega) (by have := hp.len; omega) (fun m => Mo n w (fun z => m.testBit z = true) ∧ ∀ B, Stg n w B → (∀ z, m0.testBit z = true → B z) → ∀ z, m.testBit z = true → B z) ⟨h0, fun B _ h => h⟩ (fun m p ⟨a1, a2⟩ pm n1 n2 n3 => by
    obtain ⟨x, y, x1, x2, x3⟩ := hp.st p pm
    have mp : Mo n w (fun z => p.testBit z = true) := by
      rw [show (fun z => p.testBit z = true) = cl n w x y from funext fun z => propext (x3 z)]
      exact cl_mo (by omega) x2
    have cm : ∃ c, m.testBit c = true ∧ p.testBit c = true := Classical.byContradiction fun z => n1 (Nat.eq_of_testBit_eq fun i => by
      rw [Nat.testBit_and, Nat.zero_testBit]
      cases q1 : m.testBit i <;> cases q2 : p.testBit i <;> simp
      exact z ⟨i, q1, q2⟩)
    have eor : (fun z => (m ||| p).testBit z = true) = fun z => m.testBit z = true ∨ p.testBit z = true := funext fun z => by rw [Nat.testBit_or, Bool.or_eq_true]
    refine ⟨by rw [eor]; exact a1.or mp cm, fun B hB hs z hz => ?_⟩
    have mB := a2 B hB hs
    obtain ⟨c, c1, c2⟩ := cm
    rw [Nat.testBit_or, Bool.or_eq_true] at hz
    rcases hz with hz | hz
    · exact mB z hz
    · rcases hB.chain mp (mB c c1) c2 with q | q
      · refine absurd (Nat.eq_of_testBit_eq fun i => ?_) n2
        rw [Nat.testBit_and]
        cases q1 : m.testBit i with
        | false => rfl
        | true => rw [q i (mB i q1)]; rfl
      · exact q z hz)
  refine ⟨r, h1, h3, Stg.of h2.1 fun x y hxy hy ⟨⟨a, a1, a2⟩, ⟨b, b1, b2⟩, c, c1, c2⟩ => ?_, h4, h2.2⟩
  obtain ⟨p, p1, p2⟩ := hp.all x y hxy hy
  have bit : ∀ i, (r &&& p).testBit i = (r.testBit i && p.testBit i) := fun i => Nat.testBit_and ..
  rcases h5 p p1 with e | e | e
  · have := bit a
    rw [e, a1, (p2 a).mpr a2] at this
    simp at this
  · have := bit b
    rw [e, b1] at this
    cases q : p.testBit b with
    | true => exact b2 ((p2 b).mp q)
    | false => rw [q] at this; cases this
  · have := bit c
    rw [e, (p2 c).mpr c1] at this
    cases q : r.testBit c with
    | true => exact c2 q
    | false => rw [q] at this; cases this
theorem ls_isM {x y r : Nat} {m0 : Nat} (hx : x < n) (hy : y < n) (h0 : IsM m0 (cl n w x y)) (hr : Stg n w (fun z => r.testBit z = true)) (hs : msub m0 r) (hm : ∀ B, Stg n w B → (∀ z, m0.testBit z = true → B z) → ∀ z, r.testBit z = true → B z) : IsM r (ls n w x y) :=
  fun z => ⟨fun h B hB b1 b2 => hm B hB (fun z hz => (h0 z).mp hz B hB.1 b1 b2) z h, fun h => h _ hr (hs x ((h0 x).mpr cl_l)) (hs y ((h0 y).mpr cl_r))⟩
theorem mo_isM {x y m0 : Nat} (hx : x < n) (hy : y < n) (h0 : IsM m0 (cl n w x y)) : Mo n w fun z => m0.testBit z = true := by
  rw [show (fun z => m0.testBit z = true) = cl n w x y from funext fun z => propext (h0 z)]
  exact cl_mo hx hy
theorem lot_cast {ps : List Nat} : ps.map (fun m => natT (lotM m)) = (ps.map lotM).map natT := by rw [List.map_map]; rfl
theorem sp_pair_closures (hk : 3 ≤ k) (W : Web n w) : ∃ ps : List Nat, call (FX k) "pair_closures" [webD n w] = some (.list (ps.map fun m => natT (lotM m))) ∧ Prs n w ps := by
  obtain ⟨k, rfl, hj⟩ := lev hk
  obtain ⟨ps, h1, h2⟩ := sp_pair_masks hj W
  exact ⟨ps, call_rt (ph44 _ _) (x_retP (e_lc (l := ps) (enc := nD) (i_val (.inl (e_fn1 (e_v rfl) h1))) (fun m hm => e_fn1 (e_v rfl) (sp_lot_by (by omega) m)) (by have := h2.len; unfold big; omega))), h2⟩
theorem lotM_mask {m : Nat} (h : Bd m) : maskL (lotM m) = m := Nat.eq_of_testBit_eq fun i => by
  rw [maskL_bit ((lotM_asc m).imp fun q => by omega)]
  cases q : m.testBit i with
  | true => exact decide_eq_true (mem_lotM.mpr ⟨h i q, q⟩)
  | false => exact decide_eq_false fun z => by rw [(mem_lotM.mp z).2] at q; cases q
theorem sp_least_strong (hk : 6 ≤ k) (W : Web n w) {x y : Nat} (hxy : x < y) (hy : y < n) : ∃ l : List Nat, call (FX k) "least_strong" [webD n w, natT [x, y]] = some (natT l) ∧ Asc l ∧ ∀ z, z ∈ l ↔ ls n w x y z := by
  obtain ⟨k, rfl, hj⟩ := lev hk
  obtain ⟨ps, h1, h2⟩ := sp_pair_closures (k := k) (by omega) W
  obtain ⟨m, g1, g2⟩ := sp_closed (k := k) (by omega) W hxy hy
  have hn := W.le
  have mb : Bd m := fun z hz => by
    have := (cl_mo (w := w) (show x < n by omega) hy).1 z ((g2 z).mp hz)
    omega
  have : ∃ r, call (FX k) "least_strong_over" [.list (ps.map fun m => natT (lotM m)), natT (lotM m)] = some (natT (lotM r)) ∧ Bd r ∧ IsM r (ls n w x y) := by
    obtain ⟨k, rfl, hj⟩ := lev hj
    obtain ⟨r, q1, q2, q3, q4, q5⟩ := sp_strong (k := k) (by omega) W h2 (mo_isM (by omega) hy g2)
    refine ⟨r, call_rt (ph46 _ _) (x_retP (e_fn1 (e_fn2 (e_lc (l := ps) (enc := fun m => natT (lotM m)) (f := nD) (i_val (.inl (e_v rfl))) (fun p hp => e_fn1 (e_v rfl) ?_) (by have := h2.len; unfold big; omega)) (e_fn1 (e_v rfl) ?_) q1) (sp_lot_by (by omega) r))), q2, ls_isM (by omega) hy g2 q3 q4 q5⟩
    · rw [sp_mask_of (by omega) (fun z hz => (mem_lotM.mp hz).1) (by have := lotM_len p; omega), lotM_mask (h2.bd W p hp)]
    · rw [sp_mask_of (by omega) (fun z hz => (mem_lotM.mp hz).1) (by have := lotM_len m; omega), lotM_mask mb]
  obtain ⟨r, r1, r2, r3⟩ := this
  refine ⟨lotM r, call_rt (ph61 _ _) (x_drop (e_fn1 (e_v rfl) (sp_check_table (by omega) W)) (x_drop (e_fn2 (e_wlen (e_v rfl)) (e_v rfl) (sp_check_lot (by omega) (by simp) (by simp; omega) (fun z hz => ?_) (by simp))) (x_retP (e_fn2 (e_fn1 (e_v rfl) h1) (e_fn2 (e_v rfl) (e_v rfl) g1) r1)))), lotM_asc r, fun z => ?_⟩
  · simp only [List.mem_cons, List.not_mem_nil, or_false] at hz
    omega
  · rw [mem_lotM, ← r3 z]
    exact ⟨fun h => h.2, fun h => ⟨r2 z h, h⟩⟩
theorem sp_strong_lots (hk : 5 ≤ k) (W : Web n w) : ∃ F : List (List Nat), call (FX k) "strong_lots" [webD n w] = some (.list (F.map natT)) ∧ Fam n w F ∧ F.length ≤ 300 := by
  obtain ⟨k, rfl, hj⟩ := lev hk
  have hn := W.le
  obtain ⟨ps, h1, h2⟩ := sp_pair_masks (k := k) (by omega) W
  have bit1 : ∀ x, (fun z => (1 <<< x).testBit z = true) = fun z => z = x := fun x => funext fun z => by rw [tb_one]; simp
  have : ∃ d, call (FX (k + 1)) "strong_lots" [webD n w] = some d ∧ ∃ F : List (List Nat), d = .list (F.map natT) ∧ Fam n w F ∧ F.length ≤ 300 := by
    refine w_call (ph47 _ _) ?_
    refine w_setP (by decide) (e_fn1 (e_v rfl) h1) (w_own (by decide) rfl (e_lc (l := List.range n) (enc := nD) (f := fun x => nD (1 <<< x)) (i_rng (e_wlen (e_v rfl)) (by omega)) (fun x hx => e_shl1 (e_v rfl) (by rw [List.mem_range] at hx; omega)) (by rw [List.length_range]; unfold big; omega)) (w_iter1 (l := ps) (enc := nD) (fun l S W' => ∃ (fs : List Nat) (a b : Option PD), S = ⟨[some (webD n w), some (natL ps), none, a, b, none], [none, none, some (.list (fs.map nD)), none, none, none]⟩ ∧ W' = [] ∧ fs.length ≤ n + l.length ∧ fs.Nodup ∧ (∀ m, m ∈ fs → Bd m ∧ Stg n w (fun z => m.testBit z = true) ∧ ∃ z, m.testBit z = true) ∧ (∀ x, x < n → 1 <<< x ∈ fs) ∧ ∀ p, p ∈ l → ∃ r, r ∈ fs ∧ ∀ x y, x < n → y < n → IsM p (cl n w x y) → IsM r (ls n w x y)) (i_val (.inl (e_v rfl))) (by decide) ⟨(List.range n).map fun x => 1 <<< x, none, none, by rw [List.map_map]; rfl, rfl, by simp, ?_, ?_, ?_, by simp⟩ ?_ ?_))
    · rw [List.nodup_iff_pairwise_ne, List.pairwise_map]
      refine (List.pairwise_lt_range (n := n)).imp fun {a b} h e => ?_
      have : (1 <<< a).testBit b = (1 <<< b).testBit b := by rw [e]
      rw [tb_one, tb_one] at this
      simp at this; omega
    · intro m hm
      obtain ⟨x, hx, rfl⟩ := List.mem_map.mp hm
      rw [List.mem_range] at hx
      refine ⟨fun z hz => ?_, by rw [bit1]; exact Stg.one hx, x, by rw [tb_one]; simp⟩
      rw [tb_one] at hz
      have := of_decide_eq_true hz
      omega
    · intro x hx
      exact List.mem_map.mpr ⟨x, List.mem_range.mpr hx, rfl⟩
    · intro l p r S W' e ⟨fs, a, b, eS, eW, i1, i2, i3, i4, i5⟩
      subst eS; subst eW
      have hp : p ∈ ps := by rw [e]; simp
      have ll : l.length ≤ 200 := by
        have := congrArg List.length e
        rw [List.length_append, List.length_cons] at this
        have := h2.len
        omega
      obtain ⟨x, y, x1, x2, x3⟩ := h2.st p hp
      obtain ⟨s, q1, q2, q3, q4, q5⟩ := sp_strong (k := k) (by omega) W h2 (mo_isM (by omega) x2 x3)
      have key : ∀ x y, x < n → y < n → IsM p (cl n w x y) → IsM s (ls n w x y) := fun x y hx hy h => ls_isM hx hy h q3 q4 q5
      refine w_setP (by decide) (e_fn2 (e_v rfl) (e_v rfl) q1) (w_ite (p := decide (s ∉ fs)) (t_cmp (e_v rfl) (e_v rfl) (c_nin (.inl rfl))) (fun q => ?_) (fun q => ?_))
      · have q := of_decide_eq_true q
        refine w_app rfl (e_v rfl) (by rw [List.length_map]; unfold big; omega) (w_nil ⟨fs ++ [s], some (nD p), some (nD s), by rw [List.map_append]; rfl, rfl, by simp; omega, ?_, fun m hm => ?_, fun x hx => List.mem_append_left _ (i4 x hx), fun p' hp' => ?_⟩)
        · rw [List.nodup_append]
          exact ⟨i2, by simp, fun a ha b hb e => q (by rw [List.mem_singleton.mp hb] at e; exact e ▸ ha)⟩
        · rcases List.mem_append.mp hm with z | z
          · exact i3 m z
          · rw [List.mem_singleton.mp z]
            exact ⟨q2, q3, x, q4 x ((x3 x).mpr cl_l)⟩
        · rcases List.mem_append.mp hp' with z | z
          · obtain ⟨r, r1, r2⟩ := i5 p' z
            exact ⟨r, List.mem_append_left _ r1, r2⟩
          · rw [List.mem_singleton.mp z]
            exact ⟨s, by simp, key⟩
      · have q := Classical.not_not.mp (of_decide_eq_false q)
        refine w_nil ⟨fs, some (nD p), some (nD s), rfl, rfl, by simp; omega, i2, i3, i4, fun p' hp' => ?_⟩
        rcases List.mem_append.mp hp' with z | z
        · exact i5 p' z
        · rw [List.mem_singleton.mp z]
          exact ⟨s, q, key⟩
    · intro S W' ⟨fs, a, b, eS, eW, i1, i2, i3, i4, i5⟩
      subst eS; subst eW
      have hl := h2.len
      obtain ⟨F, f1, f2⟩ := sp_in_lot_order (k := k) (by omega) (fs.map lotM)
      refine w_retP (e_fn1 (e_lc (l := fs) (enc := nD) (f := fun m => natT (lotM m)) (i_val (.inl (e_v rfl))) (fun m hm => e_fn1 (e_v rfl) (sp_lot_by (by omega) m)) (by unfold big; omega)) (by rw [lot_cast]; exact f1)) ⟨F, rfl, ⟨?_, ?_, ?_⟩, by rw [f2.length_eq, List.length_map]; omega⟩
      · rw [f2.nodup_iff, List.nodup_iff_pairwise_ne, List.pairwise_map]
        refine (List.nodup_iff_pairwise_ne.mp i2).imp_of_mem fun {a b} ha hb h e => h ?_
        rw [← lotM_mask (i3 a ha).1, ← lotM_mask (i3 b hb).1, e]
      · intro l hl
        obtain ⟨m, hm, rfl⟩ := List.mem_map.mp (f2.mem_iff.mp hl)
        obtain ⟨b1, b2, z, b3⟩ := i3 m hm
        refine ⟨lotM_asc m, fun e => ?_, ?_⟩
        · have : z ∈ lotM m := mem_lotM.mpr ⟨b1 z b3, b3⟩
          rw [e] at this; cases this
        · rw [show ofL (lotM m) = fun z => m.testBit z = true from funext fun z => propext ⟨fun h => (mem_lotM.mp h).2, fun h => mem_lotM.mpr ⟨b1 z h, h⟩⟩]
          exact b2
      · intro A hA ⟨x, hx⟩
        have fin : ∀ r, r ∈ fs → IsM r A → ∃ l, l ∈ F ∧ ∀ x, x ∈ l ↔ A x := fun r hr h => ⟨lotM r, f2.mem_iff.mpr (List.mem_map.mpr ⟨r, hr, rfl⟩), fun z => by
          rw [mem_lotM, ← h z]
          exact ⟨fun q => q.2, fun q => ⟨(i3 r hr).1 z q, q⟩⟩⟩
        by_cases q : ∃ y, A y ∧ x ≠ y
        · obtain ⟨y, y1, y2⟩ := q
          obtain ⟨a, b, ab, bn, aA, bA, e⟩ := hA.eq_ls hx y1 y2
          obtain ⟨p, p1, p2⟩ := h2.all a b ab bn
          obtain ⟨r, r1, r2⟩ := i5 p p1
          exact fin r r1 fun z => (r2 a b (by omega) bn p2 z).trans (e z)
        · simp only [not_exists, not_and, Classical.not_not] at q
          refine fin (1 <<< x) (i4 x (hA.1.1 x hx)) fun z => ?_
          rw [tb_one, decide_eq_true_eq]
          exact ⟨fun h => h ▸ hx, fun h => (q z h).symm⟩
  obtain ⟨d, q1, F, rfl, q2⟩ := this
  exact ⟨F, q1, q2⟩
end
end SN
end
section
set_option Elab.async false
set_option linter.all false
set_option maxRecDepth 100000
set_option maxHeartbeats 4000000
/-! K6: the tree of the strong lots. -/
namespace SN
open PySem L2 LamX NdefX PyProof.Rows
section
variable {k n : Nat} {w : Nat → Nat → Bool} {F : List (List Nat)} {l K : List Nat}
theorem sp_is_within (hk : 1 ≤ k) {a b : List Nat} (ha : a.length ≤ 1000) : call (FX k) "is_within" [natT a, natT b] = some (.bool (within a b)) := by
  obtain ⟨k, rfl, hj⟩ := lev hk
  exact call_rt (ph42 _ _) (x_retP (e_all (e_lc (l := a) (enc := nD) (f := fun x => .bool (decide (x ∈ b))) (i_val (.inr (e_v rfl))) (fun x hx => e_cmp (e_v rfl) (e_v rfl) (c_in (.inr rfl))) (by unfold big; omega))))
theorem inner_len : (inner F l).length ≤ F.length := List.length_filter_le _ _
theorem below_len : (below F l).length ≤ F.length := Nat.le_trans (List.length_filter_le _ _) inner_len
theorem Fam.len (f : Fam n w F) (hn : n ≤ 12) (h : K ∈ F) : K.length ≤ n := by
  have := (f.st K h).1.sub (b := List.range n) List.pairwise_lt_range fun x hx => List.mem_range.mpr (f.lt h hx)
  have := this.length_le
  rwa [List.length_range] at this
theorem sp_lots_below (hk : 2 ≤ k) (f : Fam n w F) (hn : n ≤ 12) (hl : F.length ≤ 300) : call (FX k) "lots_below" [.list (F.map natT), natT l] = some (.list ((below F l).map natT)) := by
  obtain ⟨k, rfl, hj⟩ := lev hk
  have i1 := inner_len (F := F) (l := l)
  refine call_rt (ph49 _ _) (x_setP (d := .list ((inner F l).map natT)) (by decide) (e_lcIf (l := F) (enc := natT) (p := fun o => decide (o ≠ l) && within o l) (f := natT) (i_val (.inl (e_v rfl))) (fun o ho => t_and (t_cmp (e_v rfl) (e_v rfl) c_neT) fun _ => t_vb (e_fn2 (e_v rfl) (e_v rfl) (sp_is_within (by omega) (by have := f.len hn ho; omega)))) (fun o _ _ => e_v rfl) (by unfold big; omega)) (x_retP ?_))
  refine e_lcIf (l := inner F l) (enc := natT) (p := fun o => !((inner F l).any fun p => decide (o ≠ p) && within o p)) (f := natT) (i_val (.inl (e_v rfl))) (fun o ho => t_not (t_vb (e_any (e_lc (l := inner F l) (enc := natT) (f := fun p => .bool (decide (o ≠ p) && within o p)) (i_val (.inl (e_v rfl))) (fun p hp => e_andV (e_cmp (e_v rfl) (e_v rfl) c_neT) fun _ => e_fn2 (e_v rfl) (e_v rfl) (sp_is_within (by omega) (by have := f.len hn (mem_inner.mp ho).1; omega))) (by unfold big; omega))))) (fun o _ _ => e_v rfl) (by unfold big; omega)
theorem f_sorted {bs : List (List Nat)} {ks : List (List Nat)} (hb : ∀ b, b ∈ bs → b ≠ []) (hp : ks.Perm bs) (hs : ks.Pairwise fun a b => hd a < hd b) : pyFn .sorted [.list (bs.map natT)] = some (.list (ks.map natT)) := by
  have key : tsortL (bs.map fun l => l.map fun (x : Nat) => (x : Int)) = ks.map fun l => l.map fun (x : Nat) => (x : Int) := by
    refine (tsortL_uniq (hp.map _) ?_).symm
    rw [List.pairwise_map]
    refine hs.imp_of_mem fun {a b} ha hb' h => ?_
    have na := hb a (hp.mem_iff.mp ha)
    have nb := hb b (hp.mem_iff.mp hb')
    match a, b, na, nb, h with
    | x :: a, y :: b, _, _, h =>
      have h : x < y := h
      show HT.lexLt ((y : Int) :: _) ((x : Int) :: _) = false
      rw [HT.lexLt_cons, if_neg (by omega), decide_eq_false (by omega)]
  have fin : (asTups (bs.map natT)).bind (fun ts => if ts.all (fun t => !t.isEmpty) then some (PySem.PyData.list ((tsortL ts).map tupD)) else none) = some (.list (ks.map natT)) := by
    rw [asTups_nats, Option.bind_some, if_pos, key, List.map_map]
    · congr 2
      exact List.map_congr_left fun l _ => (natT_tup l).symm
    · rw [List.all_eq_true]
      intro t ht
      obtain ⟨b, hb', rfl⟩ := List.mem_map.mp ht
      have := hb b hb'
      cases b with
      | nil => exact absurd rfl this
      | cons x b => rfl
  cases bs with
  | nil =>
    rw [hp.eq_nil]
    show some (PySem.PyData.list ((isortI []).map .int)) = _
    rw [show isortI [] = [] by unfold isortI; simp]; rfl
  | cons b bs => exact fin
theorem Fam.below_ne (f : Fam n w F) : ∀ b, b ∈ below F l → b ≠ [] := fun b hb => (f.st b (mem_below.mp hb).1.1).2.1
theorem kids_len : (kids F l).length = (below F l).length := kids_perm.length_eq
theorem Fam.kids_heads (f : Fam n w F) : Asc ((kids F l).map hd) := List.pairwise_map.mpr f.kids_pw
theorem Fam.kids_le (f : Fam n w F) : (kids F l).length ≤ n := by
  have := f.kids_heads (l := l) |>.sub (b := List.range n) List.pairwise_lt_range fun x hx => by
    obtain ⟨K, hK, rfl⟩ := List.mem_map.mp hx
    exact List.mem_range.mpr (f.lt (f.kin hK) (hd_mem (f.st K (f.kin hK)).2.1))
  have := this.length_le
  rwa [List.length_map, List.length_range] at this
theorem kd_getElem {ks : List (List Nat)} {i : Nat} (h : i < ks.length) : kd ks i = ks[i] := by
  unfold kd
  rw [List.getD_eq_getElem?_getD, List.getElem?_eq_getElem h]; rfl
theorem quot_web (hi : ∀ x, w x x = false) (ks : List (List Nat)) : PySem.PyData.tuple ((ks.map hd).map fun x => .tuple ((ks.map hd).map fun y => .int (b01 (w x y)))) = webD ks.length (qv w ks) := by
  unfold webD rowD
  congr 1
  refine List.ext_getElem (by simp) fun i h1 h2 => ?_
  have hi' : i < ks.length := by simpa using h1
  rw [List.getElem_map, List.getElem_map, List.getElem_map, List.getElem_range]
  congr 1
  refine List.ext_getElem (by simp) fun j h3 h4 => ?_
  have hj' : j < ks.length := by simpa using h3
  rw [List.getElem_map, List.getElem_map, List.getElem_map, List.getElem_range]
  congr 2
  unfold qv
  rw [decide_eq_true hi', decide_eq_true hj', kd_getElem hi', kd_getElem hj', Bool.true_and, Bool.true_and]
  by_cases e : i = j
  · subst e; simp [hi]
  · simp [e]
theorem Fam.qweb (f : Fam n w F) (W : Web n w) (h : 1 ≤ (kids F l).length) : Web (kids F l).length (qv w (kids F l)) := by
  refine ⟨h, Nat.le_trans f.kids_le W.le, fun x y => ?_, fun x => by simp [qv], fun x y hxy => ?_⟩
  · unfold qv
    rw [W.sym]
    by_cases a : x < (kids F l).length <;> by_cases b : y < (kids F l).length <;> by_cases c : x = y
    · simp [c]
    · have c' : ¬ y = x := fun e => c e.symm
      simp [a, b, c, c']
    all_goals simp [a, b]
  · unfold qv at hxy
    simp only [Bool.and_eq_true, decide_eq_true_eq] at hxy
    exact ⟨hxy.1, hxy.2.1⟩
/-! ### colours and kinds -/
def ocol : Option Bool → List Int
  | some b => [b01 b]
  | none => [0, 1]
structure Kc (m : Nat) (q : Nat → Nat → Bool) (c : Option Bool) : Prop where
  one : ∀ b, c = some b → ∀ i j, i < m → j < m → i ≠ j → q i j = b
  two : c = none → ∀ b, ∃ i j, i < m ∧ j < m ∧ i ≠ j ∧ q i j = b
theorem kindc_kc {ks : List (List Nat)} : Kc ks.length (qv w ks) (kindc w ks) := by
  have ex : ∀ {b}, ¬ allOff w ks b = true → ∃ i j, i < ks.length ∧ j < ks.length ∧ i ≠ j ∧ qv w ks i j = !b := fun {b} h => Classical.byContradiction fun z => h (allOff_iff.mpr fun i j hi hj hne => by
    cases q : qv w ks i j <;> cases b
    · rfl
    · exact absurd ⟨i, j, hi, hj, hne, q⟩ z
    · exact absurd ⟨i, j, hi, hj, hne, q⟩ z
    · rfl)
  constructor
  · intro b h
    unfold kindc at h
    split at h
    · cases h; rename_i h; exact allOff_iff.mp h
    · split at h
      · cases h; rename_i h; exact allOff_iff.mp h
      · cases h
  · intro h
    unfold kindc at h
    split at h
    · cases h
    · split at h
      · cases h
      · rename_i h1 h2
        intro b
        cases b with
        | true => exact ex h1
        | false => exact ex h2
theorem pairs_map {m : Nat} {f : Nat → Nat → PD} {p : Nat → Nat → Bool} : ((List.range m).flatMap fun x => ((List.range m).filter (p x)).map (f x)) = ((List.range m).flatMap fun x => ((List.range m).filter (p x)).map fun y => (x, y)).map fun z => f z.1 z.2 := by
  rw [List.map_flatMap]
  simp [Function.comp_def]
theorem e_sset {Φ : Fns} {ρ τ : Rho} {a : IR} {x d : PD} (h : ev Φ a τ τ = some x) (h2 : pySset x = some d) : ev Φ (.sset a) ρ τ = some d := by
  unfold ev
  rw [h]; exact h2
theorem pySset_list {ds : List PD} {ns : List Int} (h : asInts ds = some ns) (h2 : ns.length ≤ 4000) (h3 : ∀ z, z ∈ ns → 0 ≤ z ∧ z < 60) : pySset (.list ds) = some (.list ((ssetI ns).map .int)) := by
  show (asInts ds).bind (fun ns => if (decide (ns.length ≤ 4000) && ns.all fun z => decide (0 ≤ z) && decide (z < 60)) = true then some (PySem.PyData.list ((ssetI ns).map .int)) else none) = _
  rw [h, Option.bind_some, if_pos]
  rw [Bool.and_eq_true, decide_eq_true_eq, List.all_eq_true]
  refine ⟨h2, fun z hz => ?_⟩
  have := h3 z hz
  simp [this.1, this.2]
theorem sp_outer_colours {m : Nat} {q : Nat → Nat → Bool} {c : Option Bool} (hk : 1 ≤ k) (h2 : 2 ≤ m) (hm : m ≤ 12) (hc : Kc m q c) : call (FX k) "outer_colours" [webD m q] = some (.list ((ocol c).map .int)) := by
  obtain ⟨k, rfl, hj⟩ := lev hk
  refine call_rt (ph50 _ _) (x_setP (d := nD m) (by decide) (e_wlen (e_v rfl)) (x_retP ?_))
  have e := e_lc2If (Φ := FX k) (ρ := ((st0 4 [some (webD m q)]).put 1 (nD m)).all) (τ := ((st0 4 [some (webD m q)]).put 1 (nD m)).all) (src := .rng1 (.var 1)) (i := 2) (own := [2, 3]) (src1 := .rng1 (.var 1)) (j := 3) (own1 := [3]) (c := .tCmp .NotEq (.var 2) (.var 3)) (elt := .ix (.ix (.var 0) (.var 2)) (.var 3))
    (l := List.range m) (enc := nD) (m := fun _ => List.range m) (enc1 := fun _ y => nD y) (p := fun x y => decide (x ≠ y)) (f := fun x y => .int (b01 (q x y))) (i_rng (e_v rfl) (by omega)) (fun x _ => i_rng (e_v rfl) (by omega)) (fun x _ y _ => t_cmp (e_v rfl) (e_v rfl) c_neN) (fun x hx y hy _ => e_w2 (e_v rfl) (e_v rfl) (e_v rfl) (List.mem_range.mp hx) (List.mem_range.mp hy)) (sum_big (fun x _ => by rw [List.length_range]; omega) (by rw [List.length_range]; omega))
  rw [pairs_map] at e
  refine e_sset e ?_
  generalize hL : ((List.range m).flatMap fun x => ((List.range m).filter fun y => decide (x ≠ y)).map fun y => (x, y)) = L
  have mem : ∀ x y, (x, y) ∈ L ↔ x < m ∧ y < m ∧ x ≠ y := fun x y => by
    rw [← hL]
    simp only [List.mem_flatMap, List.mem_map, List.mem_filter, List.mem_range, decide_eq_true_eq, Prod.mk.injEq]
    exact ⟨fun ⟨a, ha, b, ⟨hb, hne⟩, e1, e2⟩ => by subst e1; subst e2; exact ⟨ha, hb, hne⟩, fun ⟨h1, h2, h3⟩ => ⟨x, h1, y, ⟨h2, h3⟩, rfl, rfl⟩⟩
  have len : L.length ≤ 4000 := by
    rw [← hL, List.length_flatMap]
    refine Nat.le_trans (sum_le (c := 12) fun x _ => ?_) (by rw [List.length_range]; omega)
    rw [List.length_map]
    refine Nat.le_trans (List.length_filter_le _ _) (by rw [List.length_range]; omega)
  have r01 : ∀ z, z ∈ L.map (fun z : Nat × Nat => b01 (q z.1 z.2)) → 0 ≤ z ∧ z < 60 := fun z hz => by
    obtain ⟨y, _, rfl⟩ := List.mem_map.mp hz
    unfold b01; split <;> decide
  rw [pySset_list (asInts_mapI (p := fun z : Nat × Nat => b01 (q z.1 z.2)) _) (by rw [List.length_map]; exact len) r01]
  refine congrArg (fun l : List Int => some (PySem.PyData.list (l.map .int))) ?_
  refine (ssetI_uniq r01 ?_ fun z => ?_).symm
  · cases c with
    | some b => exact List.pairwise_singleton _ _
    | none => decide
  · rw [List.mem_map]
    cases c with
    | some b =>
      show z ∈ [b01 b] ↔ _
      rw [List.mem_singleton]
      constructor
      · intro e
        exact ⟨(0, 1), (mem 0 1).mpr ⟨by omega, by omega, by omega⟩, by rw [e, hc.one b rfl 0 1 (by omega) (by omega) (by omega)]⟩
      · intro ⟨⟨x, y⟩, hxy, e⟩
        obtain ⟨h1, h2, h3⟩ := (mem x y).mp hxy
        rw [← e, hc.one b rfl x y h1 h2 h3]
    | none =>
      show z ∈ [(0 : Int), 1] ↔ _
      constructor
      · intro e
        have : z = b01 false ∨ z = b01 true := by simpa [b01] using e
        rcases this with e | e
        · obtain ⟨i, j, h1, h2, h3, h4⟩ := hc.two rfl false
          exact ⟨(i, j), (mem i j).mpr ⟨h1, h2, h3⟩, by rw [e, h4]⟩
        · obtain ⟨i, j, h1, h2, h3, h4⟩ := hc.two rfl true
          exact ⟨(i, j), (mem i j).mpr ⟨h1, h2, h3⟩, by rw [e, h4]⟩
      · intro ⟨⟨x, y⟩, _, e⟩
        rw [← e]
        cases q x y <;> simp [b01]
theorem mAt_web {m : Nat} {q : Nat → Nat → Bool} {i j : Nat} (hi : i < m) (hj : j < m) : mAt ((List.range m).map fun x => (List.range m).map fun y => b01 (q x y)) i j = b01 (q i j) := by
  unfold mAt
  rw [List.getD_eq_getElem?_getD, List.getD_eq_getElem?_getD, List.getElem?_map, List.getElem?_range hi]
  show (((List.range m).map fun y => b01 (q i y))[j]?).getD 0 = _
  rw [List.getElem?_map, List.getElem?_range hj]; rfl
theorem webD_tup {m : Nat} {q : Nat → Nat → Bool} : webD m q = .tuple (((List.range m).map fun x => (List.range m).map fun y => b01 (q x y)).map tupD) := by
  unfold webD rowD tupD
  rw [List.map_map]
  congr 1
  refine List.map_congr_left fun x _ => ?_
  show _ = PySem.PyData.tuple (((List.range m).map fun y => b01 (q x y)).map PySem.PyData.int)
  rw [List.map_map]; rfl
theorem sp_linear_row {m : Nat} {q : Nat → Nat → Bool} {low : Int} (hk : 4 ≤ k) (h2 : 2 ≤ m) (W : Web m q) : call (FX k) "linear_row" [webD m q, .int low] = some .none := by
  obtain ⟨k, rfl, hj⟩ := lev hk
  have hm := W.le
  show (phi FU (k + 1) "linear_row").bind _ = _
  rw [ph51 hj, webD_tup]
  show (asTups (((List.range m).map fun x => (List.range m).map fun y => b01 (q x y)).map tupD)).bind _ = _
  rw [asTups_map, Option.bind_some, if_pos]
  unfold symM
  simp only [Bool.and_eq_true, decide_eq_true_eq, List.all_eq_true, List.length_map, List.length_range, List.mem_range]
  refine ⟨h2, by omega, fun r hr => ?_, fun i hi j hj => ?_⟩
  · obtain ⟨x, _, rfl⟩ := List.mem_map.mp hr
    simp
  · rw [mAt_web hi hj, mAt_web hj hi, W.sym]
theorem c_eqS {a b : Str} (ha : SeqAt.shaped (.str a) = true) (hb : SeqAt.shaped (.str b) = true) : pyCmp .Eq (.str a) (.str b) = some (.bool (a == b)) := by
  show (if (SeqAt.shaped (.str a) && SeqAt.shaped (.str b)) = true then some (PySem.PyData.bool (a == b)) else none) = _
  rw [ha, hb, if_pos (by rfl)]
def kstr : Option Bool → Str
  | some _ => "full"
  | none => "prime"
theorem ocol_len {c : Option Bool} : (ocol c).length = match c with
    | some _ => 1
    | none => 2 := by cases c <;> rfl
theorem sp_kind_and_row {m : Nat} {q : Nat → Nat → Bool} {c : Option Bool} (hk : 5 ≤ k) (h2 : 2 ≤ m) (W : Web m q) (hc : Kc m q c) : call (FX k) "kind_and_row" [webD m q] = some (.tuple [.str (kstr c), natL (List.range m)]) := by
  obtain ⟨k, rfl, hj⟩ := lev hk
  have hm := W.le
  refine call_rt (W := []) (ph52 _ _) (x_setP (by decide) (e_fn1 (e_v rfl) (sp_outer_colours (by omega) h2 hm hc)) (x_setP (by decide) (e_lrng (e_wlen (e_v rfl)) (by omega)) ?_))
  cases c with
  | some b =>
    exact x_itR (W' := []) (ss2 := []) (t_cmp (e_len (.inl (e_v rfl))) (e_l (d := .int 1)) rfl) (x_retP (e_tup (v_cons e_l (v_cons (e_v rfl) v_nil)) (by show 2 ≤ 1000; decide)))
  | none =>
    refine x_itF (t_cmp (e_len (.inl (e_v rfl))) (e_l (d := .int 1)) rfl) (x_setP (by decide) (e_ite (p := true) (t_cmp (e_len (.inl (e_v rfl))) (e_l (d := .int 2)) rfl) (fun _ => e_fn2 (e_v rfl) (e_ix (e_v rfl) (e_l (d := nD 0)) rfl) (sp_linear_row hj h2 W)) (fun z => by cases z)) (x_retP (e_ite (p := true) (t_cmp (e_v rfl) e_l rfl) (fun _ => e_tup (v_cons e_l (v_cons (e_v rfl) v_nil)) (by show 2 ≤ 1000; decide)) (fun z => by cases z))))
end
end SN
end
section
set_option Elab.async false
set_option linter.all false
set_option maxRecDepth 100000
set_option maxHeartbeats 4000000
/-! K7: the tree's nodes. -/
namespace SN
open PySem L2 LamX NdefX PyProof.Rows
def treeD (w : Nat → Nat → Bool) (F : List (List Nat)) : Nat → List Nat → PD
  | 0, _ => .none
  | f + 1, l => if l.length = 1 then .tuple [.str "leaf", nD (hd l)] else match kindc w (kids F l) with
    | some b => .tuple [.str "full", .int (b01 b), .tuple ((kids F l).map (treeD w F f))]
    | none => .tuple [.str "prime", webD (kids F l).length (qv w (kids F l)), .tuple ((kids F l).map (treeD w F f))]
def kdsOr (F : List (List Nat)) (l : List Nat) : List (List Nat) := if l.length = 1 then [] else kids F l
def kndS (w : Nat → Nat → Bool) (F : List (List Nat)) (l : List Nat) : Str := if l.length = 1 then "leaf" else kstr (kindc w (kids F l))
def thL (F : List (List Nat)) : Nat → List Nat → List Nat
  | 0, _ => []
  | f + 1, l => if l.length = 1 then [hd l] else (kids F l).flatMap (thL F f)
def ntL (F : List (List Nat)) : Nat → List Nat → List (Nat × List Nat)
  | 0, _ => []
  | f + 1, l => (f + 1, l) :: if l.length = 1 then [] else (kids F l).flatMap (ntL F f)
section
variable {k n : Nat} {w : Nat → Nat → Bool} {F : List (List Nat)} {l K : List Nat}
theorem treeD_leaf {f : Nat} (h : l.length = 1) : treeD w F (f + 1) l = .tuple [.str "leaf", nD (hd l)] := by
  unfold treeD
  rw [if_pos h]
theorem treeD_full {f : Nat} {b : Bool} (h : ¬ l.length = 1) (hc : kindc w (kids F l) = some b) : treeD w F (f + 1) l = .tuple [.str "full", .int (b01 b), .tuple ((kids F l).map (treeD w F f))] := by
  conv => lhs; unfold treeD
  rw [if_neg h, hc]
theorem treeD_prime {f : Nat} (h : ¬ l.length = 1) (hc : kindc w (kids F l) = none) : treeD w F (f + 1) l = .tuple [.str "prime", webD (kids F l).length (qv w (kids F l)), .tuple ((kids F l).map (treeD w F f))] := by
  conv => lhs; unfold treeD
  rw [if_neg h, hc]
theorem Fam.len_two (f : Fam n w F) (hl : l ∈ F) (h : ¬ l.length = 1) : 2 ≤ l.length := by
  have := List.length_pos_iff.mpr (f.st l hl).2.1
  omega
theorem map_rng {α : Type} {ks : List (List Nat)} {g : List Nat → α} : (List.range ks.length).map (fun i => g (kd ks i)) = ks.map g := by
  refine List.ext_getElem (by simp) fun i h1 h2 => ?_
  rw [List.getElem_map, List.getElem_map, List.getElem_range, kd_getElem (by simpa using h2)]
theorem sp_node_value (f : Fam n w F) (W : Web n w) (hF : F.length ≤ 300) : ∀ (m : Nat) (l : List Nat), l ∈ F → l.length ≤ m → ∀ k, m + 6 ≤ k → call (FX k) "node_value" [webD n w, .list (F.map natT), natT l] = some (treeD w F m l)
  | 0, l, hl, h, k, hk => by
    have := List.length_pos_iff.mpr (f.st l hl).2.1
    omega
  | m + 1, l, hl, h, k, hk => by
    obtain ⟨k, rfl, hj⟩ := lev (b := m + 6) (by omega)
    have hn := W.le
    have ne := (f.st l hl).2.1
    by_cases h1 : l.length = 1
    · rw [treeD_leaf h1]
      refine call_rt (W := []) (ph53 _ _) (x_itR (ss2 := []) (t_cmp (e_nlenT (e_v rfl)) (e_l (d := nD 1)) (by rw [c_eqN, decide_eq_true h1])) (x_retP (e_tup (v_cons e_l (v_cons (e_ix (e_v rfl) (e_l (d := nD 0)) ?_) v_nil)) (by show 2 ≤ 1000; decide))))
      rw [natT, ix_map (List.length_pos_iff.mpr ne)]
      cases l with
      | nil => exact absurd rfl ne
      | cons x l => rfl
    · have l2 := f.len_two hl h1
      have k2 := f.kids_two hl l2
      have W2 := f.qweb W (l := l) (by omega)
      have kn := f.kids_le (l := l)
      have kc := kindc_kc (w := w) (ks := kids F l)
      have hks : (kids F l).length ≤ big := by unfold big; omega
      have ch : ∀ i, i < (kids F l).length → call (FX k) "node_value" [webD n w, .list (F.map natT), natT (kd (kids F l) i)] = some (treeD w F m (kd (kids F l) i)) := fun i hi => by
        have hm := kd_mem hi
        have := f.small hl (mem_kids.mp hm)
        exact sp_node_value f W hF m _ (f.kin hm) (by omega) k hj
      refine call_rt (W := []) (ph53 _ _) (x_itF (t_cmp (e_nlenT (e_v rfl)) (e_l (d := nD 1)) (by rw [c_eqN, decide_eq_false h1])) ?_)
      refine x_setP (d := .list ((kids F l).map natT)) (by decide) (e_ns rfl (e_fn2 (e_v rfl) (e_v rfl) (sp_lots_below (by omega) f hn hF)) (f_sorted f.below_ne kids_perm f.kids_pw)) ?_
      refine x_setP (d := webD (kids F l).length (qv w (kids F l))) (by decide) (e_fn2 (x := webD n w) (y := .list (((kids F l).map hd).map nD)) (e_v rfl) ?_ ?_) ?_
      · rw [List.map_map]
        refine e_lc (l := kids F l) (enc := natT) (f := nD ∘ hd) (i_val (.inl (e_v rfl))) (fun K hK => e_ix (e_v rfl) (e_l (d := nD 0)) ?_) hks
        have := (f.st K (f.kin hK)).2.1
        rw [natT, ix_map (List.length_pos_iff.mpr this)]
        cases K with
        | nil => exact absurd rfl this
        | cons x K => rfl
      · rw [sp_table_part (by omega) (fun x hx => ?_) (by rw [List.length_map]; omega), quot_web W.irr]
        obtain ⟨K, hK, rfl⟩ := List.mem_map.mp hx
        exact f.lt (f.kin hK) (hd_mem (f.st K (f.kin hK)).2.1)
      refine x_two (e_fn1 (e_v rfl) (sp_kind_and_row (by omega) k2 W2 kc)) rfl ?_
      refine x_setP (d := .tuple ((kids F l).map (treeD w F m))) (by decide) (e_tupL ?_) ?_
      · rw [← map_rng (ks := kids F l) (g := treeD w F m)]
        exact e_lc (l := List.range (kids F l).length) (enc := nD) (f := fun i => treeD w F m (kd (kids F l) i)) (i_val (.inl (e_v rfl))) (fun i hi => by
          rw [List.mem_range] at hi
          refine e_fn3 (e_v rfl) (e_v rfl) (e_ix (e_v rfl) (e_v rfl) ?_) (ch i hi)
          rw [ix_mapL hi, kd_getElem hi]) (by rw [List.length_range]; exact hks)
      cases hc : kindc w (kids F l) with
      | none =>
        rw [treeD_prime h1 hc]
        exact x_itR (ss2 := []) (t_cmp (x := .str "prime") (e_v rfl) e_l (c_eqS (by decide +kernel) (by decide +kernel))) (x_retP (e_tup (v_cons (e_v rfl) (v_cons (e_v rfl) (v_cons (e_v rfl) v_nil))) (by show 3 ≤ 1000; decide)))
      | some b =>
        rw [treeD_full h1 hc]
        rw [hc] at kc
        refine x_itF (t_cmp (x := .str "full") (e_v rfl) e_l (by rw [c_eqS (by decide +kernel) (by decide +kernel), show ((Str.ofString "full") == (Str.ofString "prime")) = false by decide +kernel])) (x_retP ?_)
        exact e_bin (e_bin (e_tup (v_cons (e_v rfl) v_nil) (by show 1 ≤ 1000; decide)) (e_tupL (e_fn1 (e_v rfl) (sp_outer_colours (by omega) k2 (by omega) kc))) rfl) (e_tup (v_cons (e_v rfl) v_nil) (by show 1 ≤ 1000; decide)) rfl
/-! ### things -/
theorem thL_ok (f : Fam n w F) : ∀ (m : Nat) (l : List Nat), l ∈ F → l.length ≤ m → (∀ x, x ∈ thL F m l ↔ x ∈ l) ∧ (thL F m l).Nodup
  | 0, l, hl, h => by
    have := List.length_pos_iff.mpr (f.st l hl).2.1
    omega
  | m + 1, l, hl, h => by
    unfold thL
    by_cases h1 : l.length = 1
    · rw [if_pos h1]
      match l, h1 with
      | [y], _ => exact ⟨fun x => Iff.rfl, by simp⟩
    · rw [if_neg h1]
      have l2 := f.len_two hl h1
      have ih : ∀ K, K ∈ kids F l → (∀ x, x ∈ thL F m K ↔ x ∈ K) ∧ (thL F m K).Nodup := fun K hK => thL_ok f m K (f.kin hK) (by have := f.small hl (mem_kids.mp hK); omega)
      constructor
      · intro x
        rw [List.mem_flatMap]
        constructor
        · intro ⟨K, hK, hx⟩
          exact f.ksub hK (((ih K hK).1 x).mp hx)
        · intro hx
          obtain ⟨K, k1, k2⟩ := f.cover hl l2 hx
          exact ⟨K, mem_kids.mpr k1, ((ih K (mem_kids.mpr k1)).1 x).mpr k2⟩
      · rw [List.flatMap_def, List.nodup_iff_pairwise_ne, List.pairwise_flatten]
        refine ⟨fun t ht => ?_, List.pairwise_map.mpr (f.kids_pw.imp_of_mem fun {A B} hA hB h x hx y hy e => ?_)⟩
        · obtain ⟨K, hK, rfl⟩ := List.mem_map.mp ht
          exact (ih K hK).2
        · subst e
          have := f.disj (mem_kids.mp hA) (mem_kids.mp hB) (((ih A hA).1 x).mp hx) (((ih B hB).1 x).mp hy)
          rw [this] at h; omega
theorem thL_len (f : Fam n w F) (hn : n ≤ 12) {m : Nat} (hl : l ∈ F) (h : l.length ≤ m) : (thL F m l).length ≤ 12 := by
  obtain ⟨h1, h2⟩ := thL_ok f m l hl h
  have : (thL F m l).Perm l := (List.perm_ext_iff_of_nodup h2 ((f.st l hl).1.imp fun q => by omega)).mpr h1
  rw [this.length_eq]
  have := f.len hn hl
  omega
theorem ix_last2 {a b : PD} : pyIx (.tuple [a, b]) (.int (-1)) = some b := rfl
theorem ix_last3 {a b c : PD} : pyIx (.tuple [a, b, c]) (.int (-1)) = some c := rfl
/-- what a node with children looks like -/
theorem treeD_node {f : Nat} (h : ¬ l.length = 1) : ∃ s b, treeD w F (f + 1) l = .tuple [.str s, b, .tuple ((kids F l).map (treeD w F f))] ∧ s = kstr (kindc w (kids F l)) ∧ (s == "leaf") = false := by
  cases hc : kindc w (kids F l) with
  | none => exact ⟨_, _, treeD_prime h hc, rfl, by decide +kernel⟩
  | some b => exact ⟨_, _, treeD_full h hc, rfl, by decide +kernel⟩
theorem kstr_sh {c : Option Bool} : SeqAt.shaped (.str (kstr c)) = true := by
  cases c with
  | none => decide +kernel
  | some b =>
    show SeqAt.shaped (.str "full") = true
    decide +kernel
theorem sp_things_of (f : Fam n w F) (hn : n ≤ 12) : ∀ (m : Nat) (l : List Nat), l ∈ F → l.length ≤ m → ∀ k, m ≤ k → call (FX k) "things_of" [treeD w F m l] = some (natL (thL F m l))
  | 0, l, hl, h, k, hk => by
    have := List.length_pos_iff.mpr (f.st l hl).2.1
    omega
  | m + 1, l, hl, h, k, hk => by
    obtain ⟨k, rfl, hj⟩ := lev (b := m) hk
    by_cases h1 : l.length = 1
    · rw [treeD_leaf h1]
      have : thL F (m + 1) l = [hd l] := by unfold thL; rw [if_pos h1]
      rw [this]
      exact call_rt (W := []) (ph56 _ _) (x_itR (ss2 := []) (t_cmp (e_ix (e_v rfl) (e_l (d := nD 0)) rfl) e_l (c_eqS (by decide +kernel) (by decide +kernel))) (x_retP (e_lst (v_cons (e_ix (e_v rfl) (e_l (d := nD 1)) rfl) v_nil) (by show 1 ≤ 1000; decide))))
    · obtain ⟨s, b, e, es, hs⟩ := treeD_node (w := w) (F := F) (f := m) h1
      rw [e]
      have : thL F (m + 1) l = (kids F l).flatMap (thL F m) := by
        conv => lhs; unfold thL
        rw [if_neg h1]
      rw [this]
      have kn := f.kids_le (l := l)
      have ih : ∀ K, K ∈ kids F l → l.length ≤ m + 1 → K ∈ F ∧ K.length ≤ m := fun K hK _ => ⟨f.kin hK, by have := f.small hl (mem_kids.mp hK); omega⟩
      refine call_rt (W := []) (ph56 _ _) (x_itF (t_cmp (e_ix (e_v rfl) (e_l (d := nD 0)) rfl) e_l (by rw [c_eqS (by rw [es]; exact kstr_sh) (by decide +kernel), hs])) (x_retP ?_))
      rw [natL, List.map_flatMap]
      exact e_lc2 (l := kids F l) (enc := treeD w F m) (m := thL F m) (enc1 := fun _ x => nD x) (f := fun _ x => nD x) (i_val (.inr (e_ix (e_v rfl) (e_neg (e_l (d := .int 1))) ix_last3))) (fun K hK => i_val (.inl (e_fn1 (e_v rfl) (sp_things_of f hn m K (ih K hK h).1 (ih K hK h).2 k hj)))) (fun K hK x hx => e_v rfl) (sum_big (fun K hK => by have := thL_len f hn (ih K hK h).1 (ih K hK h).2; omega) (by omega))
theorem f_sortI {ns ms : List Nat} (p : ms.Perm ns) (s : Asc ms) : pyFn .sorted [natL ns] = some (natL ms) := by
  show (match asInts (ns.map nD) with
    | some ns => some (PySem.PyData.list ((isortI ns).map .int))
    | none => (asTups (ns.map nD)).bind fun ts => if ts.all (fun t => !t.isEmpty) then some (.list ((tsortL ts).map tupD)) else none) = _
  rw [map_nD, asInts_map]
  show some (PySem.PyData.list ((isortI _).map .int)) = _
  rw [← isortI_uniq (ms := ms.map fun (x : Nat) => (x : Int)) (p.map _) (List.pairwise_map.mpr (s.imp fun h => by omega))]
  rw [natL, map_nD]
theorem sp_lot_of (f : Fam n w F) (hn : n ≤ 12) {m : Nat} (hl : l ∈ F) (h : l.length ≤ m) (hk : m + 1 ≤ k) : call (FX k) "lot_of" [treeD w F m l] = some (natT l) := by
  obtain ⟨k, rfl, hj⟩ := lev hk
  obtain ⟨h1, h2⟩ := thL_ok f m l hl h
  have p : l.Perm (thL F m l) := (List.perm_ext_iff_of_nodup ((f.st l hl).1.imp fun q => by omega) h2).mpr fun x => (h1 x).symm
  exact call_rt (ph57 _ _) (x_retP (e_tupL (e_ns rfl (e_fn1 (e_v rfl) (sp_things_of f hn m l hl h k hj)) (f_sortI p (f.st l hl).1))))
theorem sp_children_of (hk : 1 ≤ k) {m : Nat} : call (FX k) "children_of" [treeD w F (m + 1) l] = some (.tuple ((kdsOr F l).map (treeD w F m))) := by
  obtain ⟨k, rfl, hj⟩ := lev hk
  unfold kdsOr
  by_cases h1 : l.length = 1
  · rw [treeD_leaf h1, if_pos h1]
    exact call_rt (W := []) (ph55 _ _) (x_retP (e_ite (p := true) (t_cmp (e_ix (e_v rfl) (e_l (d := nD 0)) rfl) e_l (c_eqS (by decide +kernel) (by decide +kernel))) (fun _ => e_tup v_nil (by simp)) (fun z => by cases z)))
  · obtain ⟨s, b, e, es, hs⟩ := treeD_node (w := w) (F := F) (f := m) h1
    rw [e, if_neg h1]
    exact call_rt (W := []) (ph55 _ _) (x_retP (e_ite (p := false) (t_cmp (e_ix (e_v rfl) (e_l (d := nD 0)) rfl) e_l (by rw [c_eqS (by rw [es]; exact kstr_sh) (by decide +kernel), hs])) (fun z => by cases z) (fun _ => e_ix (e_v rfl) (e_neg (e_l (d := .int 1))) ix_last3)))
/-! ### all nodes -/
theorem kids_sum (f : Fam n w F) (hl : l ∈ F) (h2 : 2 ≤ l.length) : ((kids F l).map List.length).sum ≤ l.length := by
  rw [← List.length_flatten]
  have nd : (kids F l).flatten.Nodup := by
    rw [List.nodup_iff_pairwise_ne, List.pairwise_flatten]
    refine ⟨fun K hK => ((f.st K (f.kin hK)).1.imp fun q => by omega), f.kids_pw.imp_of_mem fun {A B} hA hB h x hx y hy e => ?_⟩
    subst e
    have := f.disj (mem_kids.mp hA) (mem_kids.mp hB) hx hy
    rw [this] at h; omega
  have : (kids F l).flatten.Perm l := (List.perm_ext_iff_of_nodup nd ((f.st l hl).1.imp fun q => by omega)).mpr fun x => by
    rw [List.mem_flatten]
    constructor
    · intro ⟨K, hK, hx⟩; exact f.ksub hK hx
    · intro hx
      obtain ⟨K, k1, k2⟩ := f.cover hl h2 hx
      exact ⟨K, mem_kids.mpr k1, k2⟩
  rw [this.length_eq]; exact Nat.le_refl _
theorem ntL_len (f : Fam n w F) : ∀ (m : Nat) (l : List Nat), l ∈ F → l.length ≤ m → (ntL F m l).length ≤ l.length * m
  | 0, l, hl, h => by
    have := List.length_pos_iff.mpr (f.st l hl).2.1
    omega
  | m + 1, l, hl, h => by
    have pos := List.length_pos_iff.mpr (f.st l hl).2.1
    unfold ntL
    by_cases h1 : l.length = 1
    · rw [if_pos h1, h1]; simp
    · rw [if_neg h1, List.length_cons, List.length_flatMap]
      have l2 := f.len_two hl h1
      have ks := kids_sum f hl l2
      have : ((kids F l).map fun K => (ntL F m K).length).sum ≤ ((kids F l).map List.length).sum * m := by
        have ih : ∀ K, K ∈ kids F l → (ntL F m K).length ≤ K.length * m := fun K hK => ntL_len f m K (f.kin hK) (by have := f.small hl (mem_kids.mp hK); omega)
        clear ks
        generalize kids F l = ks at ih ⊢
        induction ks with
        | nil => simp
        | cons K r ih2 =>
          rw [List.map_cons, List.map_cons, List.sum_cons, List.sum_cons, Nat.add_mul]
          have a := ih K (List.mem_cons_self ..)
          have b := ih2 fun K hK => ih K (List.mem_cons_of_mem _ hK)
          omega
      have b := Nat.mul_le_mul_right m ks
      rw [Nat.mul_succ]
      omega
theorem ntL_ok (f : Fam n w F) : ∀ (m : Nat) (l : List Nat), l ∈ F → l.length ≤ m → (∀ p, p ∈ ntL F m l → p.2 ∈ F ∧ p.2.length ≤ p.1 ∧ p.1 ≤ m ∧ ∀ x, x ∈ p.2 → x ∈ l) ∧ ∀ A, A ∈ F → (∀ x, x ∈ A → x ∈ l) → ∃ p, p ∈ ntL F m l ∧ p.2 = A
  | 0, l, hl, h => by
    have := List.length_pos_iff.mpr (f.st l hl).2.1
    omega
  | m + 1, l, hl, h => by
    unfold ntL
    by_cases h1 : l.length = 1
    · rw [if_pos h1]
      refine ⟨fun p hp => ?_, fun A hA hs => ⟨(m + 1, l), List.mem_cons_self .., ?_⟩⟩
      · rw [List.mem_singleton.mp hp]; exact ⟨hl, h, Nat.le_refl _, fun x hx => hx⟩
      · have s := (f.st A hA).1.sub (f.st l hl).1 hs
        have := List.length_pos_iff.mpr (f.st A hA).2.1
        exact (s.eq_of_length_le (by omega)).symm
    · rw [if_neg h1]
      have l2 := f.len_two hl h1
      have ih : ∀ K, K ∈ kids F l → _ := fun K hK => ntL_ok f m K (f.kin hK) (by have := f.small hl (mem_kids.mp hK); omega)
      refine ⟨fun p hp => ?_, fun A hA hs => ?_⟩
      · rcases List.mem_cons.mp hp with e | e
        · rw [e]; exact ⟨hl, h, Nat.le_refl _, fun x hx => hx⟩
        · obtain ⟨K, hK, hp⟩ := List.mem_flatMap.mp e
          obtain ⟨a, b, c, d⟩ := (ih K hK).1 p hp
          exact ⟨a, b, by omega, fun x hx => f.ksub hK (d x hx)⟩
      · by_cases e : A = l
        · exact ⟨(m + 1, l), List.mem_cons_self .., e.symm⟩
        · have ha := hd_mem (f.st A hA).2.1
          obtain ⟨K, k1, k2⟩ := f.cover hl l2 (hs _ ha)
          have hK := mem_kids.mpr k1
          have hsub : ∀ x, x ∈ A → x ∈ K := by
            rcases (f.st A hA).2.2.chain (f.st K (f.kin hK)).2.2.1 ha k2 with q | q
            · exact q
            · have := (mem_below.mp k1).2 A hA e hs q
              rw [this]; exact fun _ h => h
          obtain ⟨p, p1, p2⟩ := (ih K hK).2 A hA hsub
          exact ⟨p, List.mem_cons_of_mem _ (List.mem_flatMap.mpr ⟨K, hK, p1⟩), p2⟩
def tD (w : Nat → Nat → Bool) (F : List (List Nat)) (p : Nat × List Nat) : PD := treeD w F p.1 p.2
theorem sp_node_trees (f : Fam n w F) (hn : n ≤ 12) : ∀ (m : Nat) (l : List Nat), l ∈ F → l.length ≤ m → m ≤ 12 → ∀ k, m + 1 ≤ k → call (FX k) "node_trees" [treeD w F m l] = some (.list ((ntL F m l).map (tD w F)))
  | 0, l, hl, h, _, k, hk => by
    have := List.length_pos_iff.mpr (f.st l hl).2.1
    omega
  | m + 1, l, hl, h, hm, k, hk => by
    obtain ⟨k, rfl, hj⟩ := lev (b := m + 1) hk
    have kn := f.kids_le (l := l)
    have kl : (kdsOr F l).length ≤ 12 := by
      unfold kdsOr
      split
      · simp
      · omega
    have ih : ∀ K, K ∈ kdsOr F l → K ∈ F ∧ K.length ≤ m := fun K hK => by
      unfold kdsOr at hK
      split at hK
      · cases hK
      · exact ⟨f.kin hK, by have := f.small hl (mem_kids.mp hK); omega⟩
    have e : ntL F (m + 1) l = (m + 1, l) :: (kdsOr F l).flatMap (ntL F m) := by
      conv => lhs; unfold ntL
      unfold kdsOr
      split <;> simp
    have nl : ∀ K, K ∈ kdsOr F l → (ntL F m K).length ≤ 300 := fun K hK => by
      have a := ntL_len f m K (ih K hK).1 (ih K hK).2
      have b := f.len hn (ih K hK).1
      have : K.length * m ≤ 12 * 12 := Nat.mul_le_mul (by omega) (by omega)
      omega
    have sb : ((kdsOr F l).map fun K => (ntL F m K).length).sum ≤ 12 * 300 := Nat.le_trans (sum_le nl) (Nat.mul_le_mul_right _ kl)
    rw [e, List.map_cons, List.map_flatMap]
    refine call_rt (W := []) (ph59 _ _) (x_retP (e_bin (e_lst (v_cons (e_v rfl) v_nil) (by show 1 ≤ 1000; decide)) (e_lc2 (l := kdsOr F l) (enc := treeD w F m) (m := ntL F m) (enc1 := fun _ p => tD w F p) (f := fun _ p => tD w F p) (i_val (.inr (e_fn1 (e_v rfl) (sp_children_of (by omega))))) (fun K hK => i_val (.inl (e_fn1 (e_v rfl) (sp_node_trees f hn m K (ih K hK).1 (ih K hK).2 (by omega) k hj)))) (fun K hK p hp => e_v rfl) (by unfold big; omega)) ?_))
    show (if [treeD w F (m + 1) l].length + ((kdsOr F l).flatMap fun K => (ntL F m K).map (tD w F)).length ≤ big then some (PySem.PyData.list ([treeD w F (m + 1) l] ++ (kdsOr F l).flatMap fun K => (ntL F m K).map (tD w F))) else none) = _
    rw [if_pos]
    · rfl
    · rw [List.length_flatMap, List.length_singleton]
      simp only [List.length_map]
      unfold big; omega
theorem sp_built (W : Web n w) (hk : n + 7 ≤ k) : ∃ F : List (List Nat), call (FX k) "built" [webD n w] = some (treeD w F n (List.range n)) ∧ Fam n w F ∧ F.length ≤ 300 := by
  obtain ⟨k, rfl, hj⟩ := lev (b := n + 6) hk
  obtain ⟨F, h1, h2, h3⟩ := sp_strong_lots (k := k) (by omega) W
  have hn := W.le
  exact ⟨F, call_rt (ph54 _ _) (x_retP (e_fn3 (e_v rfl) (e_fn1 (e_v rfl) h1) (e_trng (e_wlen (e_v rfl)) (by omega)) (sp_node_value h2 W h3 n _ (h2.root W.pos) (by simp) k hj))), h2, h3⟩
end
end SN
end
section
set_option Elab.async false
set_option linter.all false
set_option maxRecDepth 100000
set_option maxHeartbeats 4000000
/-! K8: nodes, quotients. -/
namespace SN
open PySem L2 LamX NdefX PyProof.Rows
section
variable {k n : Nat} {w : Nat → Nat → Bool} {F G : List (List Nat)} {l K : List Nat}
theorem Fam.into (f : Fam n w F) (g : Fam n w G) (h : l ∈ F) : l ∈ G := by
  obtain ⟨a, b, c⟩ := f.st l h
  obtain ⟨m, hm, e⟩ := g.all _ c ⟨hd l, hd_mem b⟩
  have : m = l := (g.st m hm).1.ext a fun x => e x
  exact this ▸ hm
theorem Fam.mem_same (f : Fam n w F) (g : Fam n w G) : l ∈ F ↔ l ∈ G := ⟨f.into g, g.into f⟩
theorem Fam.kids_same (f : Fam n w F) (g : Fam n w G) : kids F l = kids G l := by
  refine g.kids_eq f.kids_pw fun K => ?_
  rw [mem_kids, mem_below, mem_below]
  have e : ∀ K, K ∈ F ↔ K ∈ G := fun K => f.mem_same g
  simp only [e]
def ndD (w : Nat → Nat → Bool) (F : List (List Nat)) (l : List Nat) : PD := .tuple [natT l, .str (kndS w F l), .tuple ((kdsOr F l).map natT)]
theorem ndD_same (f : Fam n w F) (g : Fam n w G) : ndD w F l = ndD w G l := by
  unfold ndD kndS kdsOr
  rw [f.kids_same g]
theorem nodT_nd : ∀ L : List (List Nat), nodT (L.map (ndD w F)) = some (L.map fun l => l.map fun (x : Nat) => (x : Int))
  | [] => rfl
  | l :: L => by
    show (asInts (l.map nD)).bind (fun t => (nodT (L.map (ndD w F))).map (t :: ·)) = _
    rw [map_nD, asInts_map, Option.bind_some, nodT_nd L]; rfl
theorem ks_nodes {L : List (List Nat)} {g : List Nat → PD} {root : List Nat} (hr : root ∈ L) (hm : ∀ l, l ∈ L → l ≠ root → l.length < root.length) : ∃ M : List (List Nat), ksD ((L.map fun l => l.map fun (x : Nat) => (x : Int)).map lotK) (L.map g) = M.map g ∧ M.Perm L ∧ M.getLast? = some root := by
  have O : SrtO.Swo fun (p q : List Int × PD) => HT.lexLt p.1 q.1 := NtL.swo_lexL fun p : List Int × PD => p.1
  have ez : ((L.map fun l => l.map fun (x : Nat) => (x : Int)).map lotK).zip (L.map g) = L.map fun l => (lotK (l.map fun (x : Nat) => (x : Int)), g l) := by
    rw [List.map_map, List.zip_map']; rfl
  have p := stSort_perm (lt := fun (p q : List Int × PD) => HT.lexLt p.1 q.1) (((L.map fun l => l.map fun (x : Nat) => (x : Int)).map lotK).zip (L.map g))
  have s := stSort_srt O (((L.map fun l => l.map fun (x : Nat) => (x : Int)).map lotK).zip (L.map g))
  unfold ksD
  rw [ez] at p s ⊢
  obtain ⟨M, e, q⟩ := perm_map_inv p
  rw [e] at s ⊢
  refine ⟨M, by rw [List.map_map]; rfl, q, ?_⟩
  have rM : root ∈ M := q.mem_iff.mpr hr
  obtain ⟨M', z, rfl⟩ := SrtO.snoc_of (l := M) (List.length_pos_iff.mpr fun e => by rw [e] at rM; cases rM)
  rw [List.getLast?_append, List.getLast?_singleton]
  show some z = some root
  congr 1
  refine Classical.byContradiction fun hne => ?_
  have rM' : root ∈ M' := (List.mem_append.mp rM).resolve_right fun h => hne (List.mem_singleton.mp h).symm
  have s : (List.map (fun l => (lotK (l.map fun (x : Nat) => (x : Int)), g l)) (M' ++ [z])).Pairwise fun a b => HT.lexLt b.1 a.1 = false := s
  rw [List.pairwise_map, List.pairwise_append] at s
  have := s.2.2 root rM' z (List.mem_singleton.mpr rfl)
  have h2 := hm z (q.mem_iff.mp (List.mem_append_right _ (List.mem_singleton.mpr rfl))) hne
  unfold lotK at this
  rw [HT.lexLt_cons, List.length_map, List.length_map, if_neg (by omega), decide_eq_false_iff_not] at this
  omega
theorem kndS_node {m : Nat} : pyIx (treeD w F (m + 1) l) (.int 0) = some (.str (kndS w F l)) := by
  unfold kndS
  by_cases h1 : l.length = 1
  · rw [treeD_leaf h1, if_pos h1]; rfl
  · obtain ⟨s, b, e, es, hs⟩ := treeD_node (w := w) (F := F) (f := m) h1
    rw [e, if_neg h1, ← es]; rfl
theorem kdsOr_ok (f : Fam n w F) (hl : l ∈ F) {m : Nat} (h : l.length ≤ m + 1) : ∀ K, K ∈ kdsOr F l → K ∈ F ∧ K.length ≤ m := fun K hK => by
  unfold kdsOr at hK
  split at hK
  · cases hK
  · exact ⟨f.kin hK, by have := f.small hl (mem_kids.mp hK); omega⟩
theorem kdsOr_len (f : Fam n w F) (hn : n ≤ 12) : (kdsOr F l).length ≤ 12 := by
  have := f.kids_le (l := l)
  unfold kdsOr
  split
  · simp
  · omega
theorem sp_nodes (hk : 30 ≤ k) (W : Web n w) : ∃ (F L : List (List Nat)), call (FX k) "nodes" [webD n w] = some (.list (L.map (ndD w F))) ∧ Fam n w F ∧ (∀ l, l ∈ L ↔ l ∈ F) ∧ L.getLast? = some (List.range n) ∧ L.length ≤ 200 := by
  obtain ⟨k, rfl, hj⟩ := lev (b := 29) hk
  have hn := W.le
  obtain ⟨F, b1, f, b3⟩ := sp_built (k := k) W (by omega)
  have rt := f.root W.pos
  have rl : (List.range n).length ≤ n := by simp
  obtain ⟨o1, o2⟩ := ntL_ok f n _ rt rl
  have ol := ntL_len f n _ rt rl
  rw [List.length_range] at ol
  have ol2 : n * n ≤ 12 * 12 := Nat.mul_le_mul hn hn
  obtain ⟨M, m1, m2, m3⟩ := ks_nodes (L := (ntL F n (List.range n)).map (·.2)) (g := ndD w F) (root := List.range n) (by
      obtain ⟨p, p1, p2⟩ := o2 _ rt fun x h => h
      exact List.mem_map.mpr ⟨p, p1, p2⟩) (fun l hl hne => by
      obtain ⟨p, p1, rfl⟩ := List.mem_map.mp hl
      obtain ⟨a, b, c, d⟩ := o1 p p1
      exact (f.st _ a).1.lt List.pairwise_lt_range d hne)
  refine ⟨F, M, ?_, f, fun l => ?_, m3, by rw [m2.length_eq, List.length_map]; omega⟩
  · show (phi FU (k + 1) "nodes").bind _ = _
    rw [ph60 (by omega)]
    show nodS (FX k) FU [webD n w] = _
    unfold nodS
    have e : execs (FX k) noW 1000 FU [ir60a, ir60b] (st0 4 ([webD n w].map some)) [] = some (.nx ((st0 4 [some (webD n w)]).put 1 (.list ((ntL F n (List.range n)).map fun p => ndD w F p.2))) []) := by
      refine x_drop (e_fn1 (e_v rfl) (sp_check_table (by omega) W)) (x_setP (by decide) ?_ x_nil)
      refine e_lc (l := ntL F n (List.range n)) (enc := tD w F) (f := fun p => ndD w F p.2) (i_val (.inl (e_fn1 (e_fn1 (e_v rfl) b1) (sp_node_trees f hn n _ rt rl hn k (by omega))))) (fun p hp => ?_) (by unfold big; omega)
      obtain ⟨a, b, c, d⟩ := o1 p hp
      obtain ⟨pm, pl⟩ := p
      have pos := List.length_pos_iff.mpr (f.st _ a).2.1
      have b : pl.length ≤ pm := b
      have c : pm ≤ n := c
      have pos : 0 < pl.length := pos
      obtain ⟨m, rfl⟩ : ∃ m, pm = m + 1 := ⟨pm - 1, by omega⟩
      refine e_tup (v_cons (e_fn1 (e_v rfl) (sp_lot_of f hn a b (by omega))) (v_cons (e_ix (e_v rfl) e_l kndS_node) (v_cons (e_tupL (e_lc (l := kdsOr F pl) (enc := treeD w F m) (f := natT) (i_val (.inr (e_fn1 (e_v rfl) (sp_children_of (by omega))))) (fun K hK => ?_) ?_)) v_nil))) (by show 3 ≤ 1000; decide)
      · obtain ⟨c1, c2⟩ := kdsOr_ok f a b K hK
        exact e_fn1 (e_v rfl) (sp_lot_of f hn c1 c2 (by omega))
      · have := kdsOr_len f (l := pl) hn
        unfold big; omega
    rw [e]
    show (nodT ((ntL F n (List.range n)).map fun p => ndD w F p.2)).map (fun ts => PySem.PyData.list (ksD (ts.map lotK) ((ntL F n (List.range n)).map fun p => ndD w F p.2))) = _
    rw [show ((ntL F n (List.range n)).map fun p => ndD w F p.2) = ((ntL F n (List.range n)).map (·.2)).map (ndD w F) by rw [List.map_map]; rfl, nodT_nd, Option.map_some, m1]
  · rw [m2.mem_iff, List.mem_map]
    constructor
    · rintro ⟨p, p1, rfl⟩
      exact (o1 p p1).1
    · intro hl
      obtain ⟨p, p1, p2⟩ := o2 l hl fun x hx => List.mem_range.mpr (f.lt hl hx)
      exact ⟨p, p1, p2⟩
theorem sp_kind_table (hk : 1 ≤ k) (W : Web n w) (f : Fam n w F) (h1 : ¬ l.length = 1) {m : Nat} : call (FX k) "kind_table" [treeD w F (m + 1) l] = some (webD (kids F l).length (qv w (kids F l))) := by
  obtain ⟨k, rfl, hj⟩ := lev hk
  have hn := W.le
  have kl := f.kids_le (l := l)
  cases hc : kindc w (kids F l) with
  | none =>
    rw [treeD_prime h1 hc]
    refine call_rt (W := []) (ph58 _ _) (x_setP (by decide) (e_len (.inr (e_ix (e_v rfl) (e_neg (e_l (d := .int 1))) ix_last3))) ?_)
    exact x_itR (ss2 := []) (t_cmp (x := .str "prime") (e_ix (e_v rfl) (e_l (d := nD 0)) rfl) e_l (c_eqS (by decide +kernel) (by decide +kernel))) (x_retP (e_ix (e_v rfl) (e_l (d := nD 1)) rfl))
  | some b =>
    rw [treeD_full h1 hc]
    have kc := kindc_kc (w := w) (ks := kids F l)
    have ko := kc.one b hc
    refine call_rt (W := []) (ph58 _ _) (x_setP (d := nD (kids F l).length) (by decide) ?_ ?_)
    · have := e_len (Φ := FX k) (ρ := (st0 6 [some (.tuple [.str "full", .int (b01 b), .tuple ((kids F l).map (treeD w F m))])]).sh) (a := .ix (.var 0) (.neg (.lit (.int 1)))) (τ := (st0 6 [some (.tuple [.str "full", .int (b01 b), .tuple ((kids F l).map (treeD w F m))])]).all) (.inr (e_ix (e_v rfl) (e_neg (e_l (d := .int 1))) ix_last3))
      rw [List.length_map] at this
      exact this
    refine x_itF (t_cmp (x := .str "full") (e_ix (e_v rfl) (e_l (d := nD 0)) rfl) e_l (by rw [c_eqS (by decide +kernel) (by decide +kernel), show ((Str.ofString "full") == (Str.ofString "prime")) = false by decide +kernel])) ?_
    refine x_two (e_tup (v_cons (e_ix (e_v rfl) (e_l (d := nD 1)) rfl) (v_cons (e_ix (e_v rfl) (e_neg (e_l (d := .int 2))) rfl) v_nil)) (by show 2 ≤ 1000; decide)) rfl ?_
    refine x_retP (e_tupL (e_lc (l := List.range (kids F l).length) (enc := nD) (f := rowD (kids F l).length (qv w (kids F l))) (i_rng (e_v rfl) (by omega)) (fun x hx => e_tupL (e_lc (l := List.range (kids F l).length) (enc := nD) (f := fun y => .int (b01 (qv w (kids F l) x y))) (i_rng (e_v rfl) (by omega)) (fun y hy => ?_) (len_rng_big (by omega)))) (len_rng_big (by omega))))
    rw [List.mem_range] at hx hy
    refine e_ite (p := decide (x = y)) (t_cmp (e_v rfl) (e_v rfl) c_eqN) (fun q => ?_) (fun q => ?_)
    · have q := of_decide_eq_true q
      subst q
      rw [show qv w (kids F l) x x = false by simp [qv]]
      exact e_l
    · have q := of_decide_eq_false q
      rw [ko x y hx hy q]
      exact e_ite (p := decide (x < y)) (t_cmp (e_v rfl) (e_v rfl) c_ltN) (fun _ => e_v rfl) (fun _ => e_v rfl)
theorem sp_quotient (hk : 30 ≤ k) (W : Web n w) (f : Fam n w F) (hl : l ∈ F) (h2 : 2 ≤ l.length) : call (FX k) "quotient" [webD n w, natT l] = some (webD (kids F l).length (qv w (kids F l))) := by
  obtain ⟨k, rfl, hj⟩ := lev (b := 29) hk
  have hn := W.le
  obtain ⟨G, b1, g, b3⟩ := sp_built (k := k) W (by omega)
  rw [f.kids_same g]
  replace hl := f.into g hl
  have rt := g.root W.pos
  have rl : (List.range n).length ≤ n := by simp
  obtain ⟨o1, o2⟩ := ntL_ok g n _ rt rl
  have ol := ntL_len g n _ rt rl
  rw [List.length_range] at ol
  have ol2 : n * n ≤ 12 * 12 := Nat.mul_le_mul hn hn
  have ll := g.len hn hl
  refine call_rt (W := []) (ph62 _ _) (x_drop (e_fn1 (e_v rfl) (sp_check_table (by omega) W)) (x_drop (e_fn2 (e_wlen (e_v rfl)) (e_v rfl) (sp_check_lot (by omega) (g.st l hl).2.1 (g.st l hl).1 (fun x hx => g.lt hl hx) (by omega))) ?_))
  obtain ⟨p0, q1, q2⟩ := o2 l hl fun x hx => List.mem_range.mpr (g.lt hl hx)
  have hf : p0 ∈ (ntL G n (List.range n)).filter fun p => decide (p.2 = l) := List.mem_filter.mpr ⟨q1, by simpa using q2⟩
  cases hF : (ntL G n (List.range n)).filter fun p => decide (p.2 = l) with
  | nil => rw [hF] at hf; cases hf
  | cons p r =>
    have hp : p ∈ (ntL G n (List.range n)).filter fun p => decide (p.2 = l) := by rw [hF]; exact List.mem_cons_self ..
    rw [List.mem_filter, decide_eq_true_eq] at hp
    obtain ⟨a, b, c, d⟩ := o1 p hp.1
    obtain ⟨pm, pl⟩ := p
    have hp2 : pl = l := hp.2
    subst hp2
    have b : pl.length ≤ pm := b
    obtain ⟨m, rfl⟩ : ∃ m, pm = m + 1 := ⟨pm - 1, by omega⟩
    refine x_setP (d := .list (((m + 1, pl) :: r).map (tD w G))) (by decide) ?_ (x_itF (t_notT (t_v (e_v rfl) rfl)) (x_retP (e_fn1 (e_ix (e_v rfl) (e_l (d := nD 0)) (d := treeD w G (m + 1) pl) (x := .list (((m + 1, pl) :: r).map (tD w G))) atI_0) (sp_kind_table (m := m) (by omega) W g (by omega)))))
    rw [← hF]
    refine e_lcIf (l := ntL G n (List.range n)) (enc := tD w G) (p := fun p => decide (p.2 = pl)) (f := tD w G) (i_val (.inl (e_fn1 (e_fn1 (e_v rfl) b1) (sp_node_trees g hn n _ rt rl hn k (by omega))))) (fun p hp => t_andT (t_cmp (e_nlenT (e_v rfl)) (e_l (d := nD 1)) ?_) (t_cmp (e_fn1 (e_v rfl) ?_) (e_v rfl) c_eqT)) (fun p _ _ => e_v rfl) (by unfold big; omega)
    · show some (PySem.PyData.bool (decide (((1 : Nat) : Int) < (pl.length : Int)))) = _
      rw [decide_eq_true (by omega)]
    · obtain ⟨a, b, c, d⟩ := o1 p hp
      exact sp_lot_of g hn a b (by omega)
end
end SN
end
section
set_option Elab.async false
set_option linter.all false
set_option maxRecDepth 100000
set_option maxHeartbeats 4000000
/-! K9: pieces. -/
namespace SN
open PySem L2 LamX NdefX PyProof.Rows
/-! ### the pieces as ascending lists -/
open Classical in
/-- the piece of a thing -/
noncomputable def pcL (n : Nat) (w : Nat → Nat → Bool) (x : Nat) : List Nat := (List.range n).filter fun y => decide (Cn n w true x y)
structure Pcs (n : Nat) (w : Nat → Nat → Bool) (ps : List (List Nat)) : Prop where
  pw : ps.Pairwise fun a b => hd a < hd b
  mem : ∀ K, K ∈ ps ↔ ∃ x, x < n ∧ K = pcL n w x
section
variable {k n : Nat} {w : Nat → Nat → Bool} {x y z : Nat} {ps qs : List (List Nat)} {K : List Nat}
open Classical in
theorem mem_pcL (hx : x < n) : y ∈ pcL n w x ↔ Cn n w true x y := by
  unfold pcL
  rw [List.mem_filter, List.mem_range, decide_eq_true_eq]
  exact ⟨fun h => h.2, fun h => ⟨h.lt hx, h⟩⟩
theorem pcL_asc : Asc (pcL n w x) := List.pairwise_lt_range.filter _
theorem pcL_self (hx : x < n) : x ∈ pcL n w x := (mem_pcL hx).mpr .refl
theorem pcL_ne (hx : x < n) : pcL n w x ≠ [] := fun e => by
  have := pcL_self (w := w) hx
  rw [e] at this; cases this
theorem pcL_lt (hx : x < n) (h : y ∈ pcL n w x) : y < n := ((mem_pcL hx).mp h).lt hx
theorem pcL_len : (pcL n w x).length ≤ n := by
  have := List.length_filter_le (fun y => @decide (Cn n w true x y) (Classical.propDecidable _)) (List.range n)
  rw [List.length_range] at this
  exact this
theorem pcL_eq (hs : ∀ x y, w x y = w y x) (hx : x < n) (hy : y < n) (h : Cn n w true x y) : pcL n w x = pcL n w y := pcL_asc.ext pcL_asc fun z => by
  rw [mem_pcL hx, mem_pcL hy]
  exact ⟨fun q => (h.symm hs hx).trans q, fun q => h.trans q⟩
theorem Pcs.uniq (h : Pcs n w ps) (g : Pcs n w qs) : ps = qs :=
  pw_ext (R := fun a b => hd a < hd b) (fun a => Nat.lt_irrefl _) (fun a b h => Nat.lt_asymm h) h.pw g.pw fun K => (h.mem K).trans (g.mem K).symm
/-- a list told by its least thing -/
theorem hd_of {l : List Nat} (ha : Asc l) (hx : x ∈ l) (h : ∀ y, y ∈ l → x ≤ y) : hd l = x := Nat.le_antisymm (hd_le ha hx) (h _ (hd_mem fun e => by rw [e] at hx; cases hx))
/-! ### reached -/
theorem adj_ev (hx : x < n) (hy : y < n) : adjT (webD n w) (x : Int) (y : Int) = some (w x y) := t_w1 (n := n) (w := w) (a := .var 0) (b := .var 5) (c := .var 6) (e_v rfl) (e_v rfl) (e_v rfl) hx hy
def castL (l : List Nat) : List Int := l.map fun (x : Nat) => (x : Int)
theorem castL_mem {l : List Nat} : (x : Int) ∈ castL l ↔ x ∈ l := mem_cast
theorem castL_app {l m : List Nat} : castL (l ++ m) = castL l ++ castL m := List.map_append
structure Rin (n : Nat) (w : Nat → Nat → Bool) (s : Nat) (fd : List Nat) : Prop where
  nd : fd.Nodup
  self : s ∈ fd
  cn : ∀ x, x ∈ fd → Cn n w true s x ∧ x < n
theorem rin_len {s : Nat} {fd : List Nat} (r : Rin n w s fd) : fd.length ≤ n := by
  have h : fd.length ≤ (List.range n).length := List.Nodup.length_le_of_subset r.nd fun x hx => List.mem_range.mpr (r.cn x hx).2
  rwa [List.length_range] at h
theorem rFor_ok (W : Web n w) {s h : Nat} (hh : h < n) (hc : Cn n w true s h) : ∀ (ys : List Nat) (fd wt : List Nat), (∀ y, y ∈ ys → y < n) → Rin n w s fd → ys.length + wt.length ≤ 500 → (∀ x, x ∈ wt → x ∈ fd) →
    ∃ fd' wt', rFor (webD n w) (h : Int) (castL ys) (castL fd, castL wt) = some (castL fd', castL wt') ∧ Rin n w s fd' ∧ (∀ x, x ∈ fd → x ∈ fd') ∧ (∀ x, x ∈ wt → x ∈ wt') ∧ (∀ y, y ∈ ys → w h y = true → y ∈ fd') ∧ (∀ x, x ∈ fd' → x ∈ fd ∨ x ∈ wt') ∧ wt'.length + fd.length = wt.length + fd'.length ∧ (∀ x, x ∈ wt' → x ∈ fd')
  | [], fd, wt, _, r, _, hs => ⟨fd, wt, rfl, r, fun _ h => h, fun _ h => h, fun y h => (by cases h), fun x h => .inl h, rfl, hs⟩
  | y :: ys, fd, wt, hy, r, hl, hs => by
    have yn := hy y (List.mem_cons_self ..)
    have hn := W.le
    rw [List.length_cons] at hl
    have e0 : rFor (webD n w) (h : Int) (castL (y :: ys)) (castL fd, castL wt) = (adjT (webD n w) (h : Int) (y : Int)).bind fun b => if b && !decide ((y : Int) ∈ castL fd) then (if (castL fd).length < 1000 ∧ (castL wt).length < 1000 then rFor (webD n w) (h : Int) (castL ys) (castL fd ++ [(y : Int)], castL wt ++ [(y : Int)]) else none) else rFor (webD n w) (h : Int) (castL ys) (castL fd, castL wt) := rfl
    rw [e0, adj_ev hh yn, Option.bind_some]
    have hy' : ∀ y, y ∈ ys → y < n := fun z hz => hy z (List.mem_cons_of_mem _ hz)
    by_cases q : w h y = true ∧ ¬ y ∈ fd
    · have fl := rin_len r
      rw [q.1, show decide ((y : Int) ∈ castL fd) = false from decide_eq_false fun z => q.2 (castL_mem.mp z), if_pos (by rfl), if_pos (by unfold castL; rw [List.length_map, List.length_map]; omega)]
      have hne : h ≠ y := fun e => by
        subst e
        rw [W.irr] at q
        cases q.1
      have r' : Rin n w s (fd ++ [y]) := by
        refine ⟨List.nodup_append.mpr ⟨r.nd, by simp, fun a ha b hb e => q.2 (by rw [List.mem_singleton.mp hb] at e; exact e ▸ ha)⟩, List.mem_append_left _ r.self, fun x hx => ?_⟩
        rcases List.mem_append.mp hx with z | z
        · exact r.cn x z
        · rw [List.mem_singleton.mp z]
          exact ⟨hc.step yn hne q.1, yn⟩
      obtain ⟨fd', wt', g1, g2, g3, g4, g5, g6, g7, g8⟩ := rFor_ok W hh hc ys (fd ++ [y]) (wt ++ [y]) hy' r' (by rw [List.length_append, List.length_singleton]; omega) (fun x hx => by
        rcases List.mem_append.mp hx with z | z
        · exact List.mem_append_left _ (hs x z)
        · exact List.mem_append_right _ z)
      rw [castL_app, castL_app] at g1
      rw [List.length_append, List.length_append, List.length_singleton] at g7
      refine ⟨fd', wt', g1, g2, fun x hx => g3 x (List.mem_append_left _ hx), fun x hx => g4 x (List.mem_append_left _ hx), fun z hz e => ?_, fun x hx => ?_, by omega, g8⟩
      · rcases List.mem_cons.mp hz with z1 | z1
        · rw [z1]; exact g3 y (by simp)
        · exact g5 z z1 e
      · rcases g6 x hx with z | z
        · rcases List.mem_append.mp z with z | z
          · exact .inl z
          · exact .inr (g4 x (List.mem_append_right _ z))
        · exact .inr z
    · have c : (w h y && !decide ((y : Int) ∈ castL fd)) = false := by
        cases e : w h y with
        | false => rfl
        | true =>
          have : y ∈ fd := Classical.byContradiction fun z => q ⟨e, z⟩
          rw [decide_eq_true (castL_mem.mpr this)]; rfl
      rw [c, if_neg (by simp)]
      obtain ⟨fd', wt', g1, g2, g3, g4, g5, g6, g7, g8⟩ := rFor_ok W hh hc ys fd wt hy' r (by omega) hs
      refine ⟨fd', wt', g1, g2, g3, g4, fun z hz e => ?_, g6, g7, g8⟩
      rcases List.mem_cons.mp hz with z1 | z1
      · rw [z1] at e ⊢
        exact g3 y (Classical.byContradiction fun z => q ⟨e, z⟩)
      · exact g5 z z1 e
theorem rWhl_ok (W : Web n w) {s : Nat} : ∀ (f : Nat) (fd wt : List Nat), Rin n w s fd → (∀ x, x ∈ wt → x ∈ fd) → (∀ x, x ∈ fd → ¬ x ∈ wt → ∀ y, y < n → w x y = true → y ∈ fd) → wt.length + (n - fd.length) < f → wt.length ≤ fd.length →
    ∃ fd', rWhl (webD n w) (castL (List.range n)) f (castL fd, castL wt) = some (castL fd') ∧ Rin n w s fd' ∧ ∀ x, x ∈ fd' → ∀ y, y < n → w x y = true → y ∈ fd'
  | 0, fd, wt, _, _, _, h, _ => by omega
  | f + 1, fd, wt, r, hs, hcl, hf, hw => by
    have hn := W.le
    have e0 : rWhl (webD n w) (castL (List.range n)) (f + 1) (castL fd, castL wt) = match (castL wt).getLast? with
      | none => some (castL fd)
      | some here => (rFor (webD n w) here (castL (List.range n)) (castL fd, (castL wt).dropLast)).bind (rWhl (webD n w) (castL (List.range n)) f) := rfl
    rw [e0]
    cases ew : wt with
    | nil =>
      subst ew
      exact ⟨fd, rfl, r, fun x hx => hcl x hx (by simp)⟩
    | cons a b =>
      obtain ⟨wt0, h, e⟩ := SrtO.snoc_of (l := wt) (by rw [ew]; simp)
      rw [← ew]
      subst e
      have hfd : h ∈ fd := hs h (by simp)
      obtain ⟨c1, c2⟩ := r.cn h hfd
      have l1 := rin_len r
      rw [castL_app, show castL [h] = [(h : Int)] from rfl, List.getLast?_append, List.getLast?_singleton, List.dropLast_concat]
      rw [List.length_append, List.length_singleton] at hf hw
      obtain ⟨fd', wt', g1, g2, g3, g4, g5, g6, g7, g8⟩ := rFor_ok W c2 c1 (List.range n) fd wt0 (fun y hy => List.mem_range.mp hy) r (by rw [List.length_range]; omega) (fun x hx => hs x (List.mem_append_left _ hx))
      have l2 := rin_len g2
      show ∃ fd', (rFor (webD n w) (h : Int) (castL (List.range n)) (castL fd, castL wt0)).bind (rWhl (webD n w) (castL (List.range n)) f) = some (castL fd') ∧ _
      rw [g1, Option.bind_some]
      refine rWhl_ok W f fd' wt' g2 g8 (fun x hx hnw y hy e => ?_) (by omega) (by omega)
      rcases g6 x hx with z | z
      · by_cases q : x = h
        · subst q
          exact g5 y (List.mem_range.mpr hy) e
        · exact g3 y (hcl x z (fun z2 => by
            rcases List.mem_append.mp z2 with z3 | z3
            · exact hnw (g4 x z3)
            · exact q (List.mem_singleton.mp z3)) y hy e)
      · exact absurd z hnw
theorem rin_piece {s : Nat} (hs : s < n) {fd : List Nat} (r : Rin n w s fd) (hc : ∀ x, x ∈ fd → ∀ y, y < n → w x y = true → y ∈ fd) : (pcL n w s).Perm fd := by
  refine (List.perm_ext_iff_of_nodup (pcL_asc.imp fun q => by omega) r.nd).mpr fun x => ?_
  rw [mem_pcL hs]
  refine ⟨fun h => ?_, fun h => (r.cn x h).1⟩
  induction h with
  | refl => exact r.self
  | step _ a b c ih => exact hc _ ih _ a c
theorem sp_reached (hk : 1 ≤ k) (W : Web n w) {s : Nat} (hs : s < n) : call (FX k) "reached" [webD n w, natL (List.range n), nD s] = some (natT (pcL n w s)) := by
  obtain ⟨k, rfl, hj⟩ := lev hk
  show (phi FU (k + 1) "reached").bind _ = _
  rw [ph29]
  show (asInts ((List.range n).map nD)).bind (fun ts => (rWhl (webD n w) ts FU ([(s : Int)], [(s : Int)])).map fun fd => PySem.PyData.tuple ((isortI fd).map .int)) = _
  rw [map_nD, asInts_map, Option.bind_some]
  have hn := W.le
  obtain ⟨fd, g1, g2, g3⟩ := rWhl_ok W (s := s) FU [s] [s] ⟨by simp, by simp, fun x hx => by rw [List.mem_singleton.mp hx]; exact ⟨.refl, hs⟩⟩ (fun x h => h) (fun x h h2 => absurd h h2) (by
    show 1 + (n - 1) < 60
    omega) (by simp)
  have g1 : rWhl (webD n w) ((List.range n).map fun (x : Nat) => (x : Int)) FU ([(s : Int)], [(s : Int)]) = some (castL fd) := g1
  rw [g1, Option.map_some]
  congr 1
  rw [← isortI_uniq (ns := castL fd) (ms := castL (pcL n w s)) ((rin_piece hs g2 g3).map _) (List.pairwise_map.mpr (pcL_asc.imp fun h => by omega)), natT, map_nD]
  rfl
theorem in_pieces {ps : List (List Nat)} : (ps.any fun K => decide (x ∈ K)) = true ↔ ∃ K, K ∈ ps ∧ x ∈ K := by
  simp [List.any_eq_true]
theorem sp_pieces_of (hk : 2 ≤ k) (W : Web n w) : ∃ ps : List (List Nat), call (FX k) "pieces_of" [webD n w, natL (List.range n)] = some (.list (ps.map natT)) ∧ Pcs n w ps := by
  obtain ⟨k, rfl, hj⟩ := lev hk
  have hn := W.le
  have : ∃ d, call (FX (k + 1)) "pieces_of" [webD n w, natL (List.range n)] = some d ∧ ∃ ps : List (List Nat), d = .list (ps.map natT) ∧ Pcs n w ps := by
    refine w_call (ph30 _ _) ?_
    refine w_own (by decide) rfl (e_lst v_nil (by decide)) (w_iter1 (l := List.range n) (enc := nD) (fun l S W' => ∃ (ps : List (List Nat)) (a : Option PD), S = ⟨[some (webD n w), some (natL (List.range n)), none, a, none], [none, none, some (.list (ps.map natT)), none, none]⟩ ∧ W' = [] ∧ ps.length ≤ l.length ∧ ps.Pairwise (fun a b => hd a < hd b) ∧ (∀ K, K ∈ ps → (∃ x, x < n ∧ K = pcL n w x) ∧ hd K ∈ l) ∧ ∀ x, x ∈ l → ∃ K, K ∈ ps ∧ x ∈ K) (i_val (.inl (e_v rfl))) (by decide) ⟨[], none, rfl, rfl, by simp, .nil, by simp, by simp⟩ ?_ ?_)
    · intro l x r S W' e ⟨ps, a, eS, eW, i1, i2, i3, i4⟩
      subst eS; subst eW
      have hx : x < n := by
        have : x ∈ List.range n := by rw [e]; simp
        exact List.mem_range.mp this
      have ll : l.length < n := by
        have := congrArg List.length e
        rw [List.length_range, List.length_append, List.length_cons] at this
        omega
      have lx : ∀ y, y ∈ l ↔ y < x := by
        have pw := List.pairwise_lt_range (n := n)
        rw [e, List.pairwise_append, List.pairwise_cons] at pw
        intro y
        refine ⟨fun hy => pw.2.2 y hy x (by simp), fun hy => ?_⟩
        have : y ∈ l ++ x :: r := by rw [← e]; exact List.mem_range.mpr (by omega)
        rcases List.mem_append.mp this with z | z
        · exact z
        · rcases List.mem_cons.mp z with z | z
          · omega
          · have := pw.2.1.1 y z
            omega
      refine w_ite (p := !(ps.any fun K => decide (x ∈ K))) (t_not (t_vb (e_any (e_lc (l := ps) (enc := natT) (f := fun K => .bool (decide (x ∈ K))) (i_val (.inl (e_v rfl))) (fun K hK => e_cmp (e_v rfl) (e_v rfl) (c_in (.inr rfl))) (by unfold big; omega))))) (fun q => ?_) (fun q => ?_)
      · have q : ¬ ∃ K, K ∈ ps ∧ x ∈ K := fun z => by
          rw [in_pieces.mpr z] at q; cases q
        refine w_app rfl (e_fn3 (e_v rfl) (e_v rfl) (e_v rfl) (sp_reached hj W hx)) (by rw [List.length_map]; unfold big; omega) (w_nil ⟨ps ++ [pcL n w x], some (nD x), by rw [List.map_append]; rfl, rfl, by simp; omega, ?_, fun K hK => ?_, fun y hy => ?_⟩)
        · have hh : hd (pcL n w x) = x := hd_of pcL_asc (pcL_self hx) fun y hy => Classical.byContradiction fun z => by
            obtain ⟨K, k1, k2⟩ := i4 y ((lx y).mpr (by omega))
            obtain ⟨⟨u, u1, u2⟩, _⟩ := i3 K k1
            refine q ⟨K, k1, ?_⟩
            rw [u2, mem_pcL u1] at k2 ⊢
            exact k2.trans (((mem_pcL hx).mp hy).symm W.sym hx)
          refine List.pairwise_append.mpr ⟨i2, List.pairwise_singleton _ _, fun a ha b hb => ?_⟩
          rw [List.mem_singleton.mp hb, hh]
          exact (lx _).mp (i3 a ha).2
        · rcases List.mem_append.mp hK with z | z
          · exact ⟨(i3 K z).1, List.mem_append_left _ (i3 K z).2⟩
          · rw [List.mem_singleton.mp z]
            refine ⟨⟨x, hx, rfl⟩, ?_⟩
            have h1 := hd_mem (pcL_ne (w := w) hx)
            have h2 := hd_le pcL_asc (pcL_self (w := w) hx)
            by_cases z2 : hd (pcL n w x) = x
            · rw [z2]; simp
            · exact List.mem_append_left _ ((lx _).mpr (by omega))
        · rcases List.mem_append.mp hy with z | z
          · obtain ⟨K, k1, k2⟩ := i4 y z
            exact ⟨K, List.mem_append_left _ k1, k2⟩
          · rw [List.mem_singleton.mp z]
            exact ⟨_, List.mem_append_right _ (List.mem_singleton.mpr rfl), pcL_self hx⟩
      · have q : ∃ K, K ∈ ps ∧ x ∈ K := in_pieces.mp (by
          cases z : ps.any fun K => decide (x ∈ K) with
          | true => rfl
          | false => rw [z] at q; cases q)
        refine w_nil ⟨ps, some (nD x), rfl, rfl, by simp; omega, i2, fun K hK => ⟨(i3 K hK).1, List.mem_append_left _ (i3 K hK).2⟩, fun y hy => ?_⟩
        rcases List.mem_append.mp hy with z | z
        · exact i4 y z
        · rw [List.mem_singleton.mp z]; exact q
    · intro S W' ⟨ps, a, eS, eW, i1, i2, i3, i4⟩
      subst eS; subst eW
      refine w_retP (e_v rfl) ⟨ps, rfl, i2, fun K => ⟨fun h => (i3 K h).1, fun ⟨x, hx, e⟩ => ?_⟩⟩
      obtain ⟨K', k1, k2⟩ := i4 x (List.mem_range.mpr hx)
      obtain ⟨⟨u, u1, u2⟩, _⟩ := i3 K' k1
      rw [u2, mem_pcL u1] at k2
      rw [e, ← pcL_eq W.sym u1 hx k2, ← u2]
      exact k1
  obtain ⟨d, h1, ps, rfl, h2⟩ := this
  exact ⟨ps, h1, h2⟩
theorem sp_pieces (hk : 7 ≤ k) (W : Web n w) : ∃ ps : List (List Nat), call (FX k) "pieces" [webD n w] = some (.list (ps.map natT)) ∧ Pcs n w ps := by
  obtain ⟨k, rfl, hj⟩ := lev hk
  have hn := W.le
  obtain ⟨ps, h1, h2⟩ := sp_pieces_of (k := k) (by omega) W
  exact ⟨ps, call_rt (W := []) (ph33 _ _) (x_drop (e_fn1 (e_v rfl) (sp_check_web (by omega) W)) (x_retP (e_fn2 (e_v rfl) (e_lrng (e_wlen (e_v rfl)) (by omega)) h1))), h2⟩
/-! ### the mirrored web -/
def mw (n : Nat) (w : Nat → Nat → Bool) (x y : Nat) : Bool := decide (x < n) && (decide (y < n) && (decide (x ≠ y) && !w x y))
theorem mw_in (hx : x < n) (hy : y < n) (hne : x ≠ y) : mw n w x y = !w x y := by
  unfold mw
  rw [decide_eq_true hx, decide_eq_true hy, decide_eq_true hne, Bool.true_and, Bool.true_and, Bool.true_and]
theorem Web.mir (W : Web n w) : Web n (mw n w) := by
  refine ⟨W.pos, W.le, fun x y => ?_, fun x => by simp [mw], fun x y h => ?_⟩
  · unfold mw
    rw [W.sym]
    by_cases a : x < n <;> by_cases b : y < n <;> by_cases c : x = y
    · simp [c]
    · have c' : ¬ y = x := fun e => c e.symm
      simp [a, b, c, c']
    all_goals simp [a, b]
  · unfold mw at h
    simp only [Bool.and_eq_true, decide_eq_true_eq] at h
    exact ⟨h.1, h.2.1⟩
theorem mw_b01 (W : Web n w) (hx : x < n) (hy : y < n) : (if x = y then (0 : Int) else 1 - b01 (w x y)) = b01 (mw n w x y) := by
  by_cases e : x = y
  · subst e
    rw [if_pos rfl, show mw n w x x = false by simp [mw]]; rfl
  · rw [if_neg e, mw_in hx hy e]
    cases w x y <;> rfl
theorem sp_mirrored (hk : 7 ≤ k) (W : Web n w) : call (FX k) "mirrored" [webD n w] = some (webD n (mw n w)) := by
  obtain ⟨k, rfl, hj⟩ := lev hk
  have hn := W.le
  have : call (FX k) "web_mirrored" [webD n w] = some (webD n (mw n w)) := by
    obtain ⟨k, rfl, hj⟩ := lev hj
    refine call_rt (W := []) (ph25 _ _) (x_retP (e_tupL (e_lc (l := List.range n) (enc := nD) (f := rowD n (mw n w)) (i_rng (e_wlen (e_v rfl)) (by omega)) (fun x hx => e_tupL (e_lc (l := List.range n) (enc := nD) (f := fun y => .int (b01 (mw n w x y))) (i_rng (e_wlen (e_v rfl)) (by omega)) (fun y hy => ?_) (len_rng_big (by omega)))) (len_rng_big (by omega)))))
    rw [List.mem_range] at hx hy
    rw [← mw_b01 W hx hy]
    refine e_ite (p := decide (x = y)) (t_cmp (e_v rfl) (e_v rfl) c_eqN) (fun q => ?_) (fun q => ?_)
    · rw [if_pos (of_decide_eq_true q)]; exact e_l
    · rw [if_neg (of_decide_eq_false q)]
      exact e_bin e_l (e_w2 (e_v rfl) (e_v rfl) (e_v rfl) hx hy) rfl
  exact call_rt (W := []) (ph26 _ _) (x_drop (e_fn1 (e_v rfl) (sp_check_web hj W)) (x_retP (e_fn1 (e_v rfl) this)))
theorem sp_law_mirrored (hk : 1 ≤ k) (W : Web n w) : call (FX k) "_law_mirrored" [webD n w] = some (webD n (mw n w)) := by
  obtain ⟨k, rfl, hj⟩ := lev hk
  have hn := W.le
  refine call_rt (W := []) (ph80 _ _) (x_setP (d := nD n) (by decide) (e_wlen (e_v rfl)) (x_retP (e_tupL (e_lc (l := List.range n) (enc := nD) (f := rowD n (mw n w)) (i_rng (e_v rfl) (by omega)) (fun x hx => e_tupL (e_lc (l := List.range n) (enc := nD) (f := fun y => .int (b01 (mw n w x y))) (i_rng (e_v rfl) (by omega)) (fun y hy => ?_) (len_rng_big (by omega)))) (len_rng_big (by omega))))))
  rw [List.mem_range] at hx hy
  rw [← mw_b01 W hx hy]
  refine e_bin (x := .int (if x = y then 0 else 1)) (e_sc rfl (e_cmp (e_v rfl) (e_v rfl) c_neN) ?_ rfl) (e_w2 (e_v rfl) (e_v rfl) (e_v rfl) hx hy) ?_
  · by_cases e : x = y
    · rw [if_pos e, decide_eq_false (by simp [e])]; rfl
    · rw [if_neg e, decide_eq_true e]; rfl
  · by_cases e : x = y
    · subst e
      rw [if_pos rfl, if_pos rfl, W.irr]; rfl
    · rw [if_neg e, if_neg e]; rfl
theorem mw_cn (hx : x < n) : Cn n (mw n w) true x y ↔ Cn n w false x y := by
  constructor
  · intro h
    induction h with
    | refl => exact .refl
    | step h a b c ih =>
      rw [mw_in (h.lt hx) a b] at c
      exact ih.step a b (by simpa using c)
  · intro h
    induction h with
    | refl => exact .refl
    | step h a b c ih =>
      refine ih.step a b ?_
      rw [mw_in (h.lt hx) a b, c]; rfl
end
end SN
end
section
set_option Elab.async false
set_option linter.all false
set_option maxRecDepth 100000
set_option maxHeartbeats 4000000
/-! K10: distances. -/
namespace SN
open PySem L2 LamX NdefX PyProof.Rows
def dD : Option Nat → PD
  | none => .none
  | some d => nD d
def dL (n : Nat) (δ : Nat → Option Nat) : List PD := (List.range n).map fun t => dD (δ t)
def stp (δ : Nat → Option Nat) (c : Nat) (hit : Nat → Bool) (t : Nat) : Option Nat := match δ t with
  | some d => some d
  | none => if hit t then some (c + 1) else none
/-- the distances up to c are told -/
def Dok (w : Nat → Nat → Bool) (s : Nat) (δ : Nat → Option Nat) (c : Nat) : Prop := ∀ t d, δ t = some d ↔ d ≤ c ∧ Dst w s t (some d)
section
variable {k n : Nat} {w : Nat → Nat → Bool} {s t u x y : Nat} {δ : Nat → Option Nat} {c : Nat} {hit : Nat → Bool}
theorem ball_least : ∀ {c t : Nat}, Ball w s c t → ∃ d, d ≤ c ∧ Dst w s t (some d)
  | 0, t, h => ⟨0, Nat.le_refl _, h, fun e he => by omega⟩
  | c + 1, t, h => by
    by_cases q : Ball w s c t
    · obtain ⟨d, h1, h2⟩ := ball_least q
      exact ⟨d, by omega, h2⟩
    · exact ⟨c + 1, Nat.le_refl _, h, fun e he z => q (z.mono (by omega))⟩
theorem Dok.zero : Dok w s (fun t => if t = s then some 0 else none) 0 := fun t d => by
  by_cases e : t = s
  · show (if t = s then some 0 else none) = some d ↔ _
    rw [if_pos e]
    constructor
    · intro h
      cases h
      exact ⟨Nat.le_refl _, e, fun e he => by omega⟩
    · intro ⟨h, _⟩
      rw [show d = 0 by omega]
  · show (if t = s then some 0 else none) = some d ↔ _
    rw [if_neg e]
    constructor
    · intro h; cases h
    · intro ⟨h, h2⟩
      rw [show d = 0 by omega] at h2
      exact absurd h2.1 e
theorem Dok.step (h : Dok w s δ c) (hh : ∀ t, hit t = true ↔ ∃ u, δ u = some c ∧ w u t = true) : Dok w s (stp δ c hit) (c + 1) := by
  intro t d
  unfold stp
  cases e : δ t with
  | some d0 =>
    obtain ⟨h1, h2⟩ := (h t d0).mp e
    constructor
    · intro q
      cases q
      exact ⟨by omega, h2⟩
    · intro ⟨_, q⟩
      exact h2.uniq q
  | none =>
    have nb : ∀ k, k ≤ c → ¬ Ball w s k t := fun k hk q => by
      obtain ⟨d', h1, h2⟩ := ball_least q
      have := (h t d').mpr ⟨by omega, h2⟩
      rw [e] at this; cases this
    show (if hit t then some (c + 1) else none) = some d ↔ _
    by_cases q : hit t = true
    · rw [if_pos q]
      obtain ⟨u, u1, u2⟩ := (hh t).mp q
      have b : Ball w s (c + 1) t := .inr ⟨u, ((h u c).mp u1).2.1, u2⟩
      have D : Dst w s t (some (c + 1)) := ⟨b, fun e he => nb e (by omega)⟩
      constructor
      · intro z
        cases z
        exact ⟨Nat.le_refl _, D⟩
      · intro ⟨_, z⟩
        exact D.uniq z
    · rw [if_neg q]
      constructor
      · intro z; cases z
      · intro ⟨z1, z2⟩
        exfalso
        by_cases z3 : d ≤ c
        · exact nb d z3 z2.1
        · obtain rfl : d = c + 1 := by omega
          rcases z2.1 with b | ⟨u, b, e2⟩
          · exact nb c (Nat.le_refl _) b
          · obtain ⟨d', h1, h2⟩ := ball_least b
            by_cases z4 : d' = c
            · subst z4
              exact q ((hh t).mpr ⟨u, (h u d').mpr ⟨Nat.le_refl _, h2⟩, e2⟩)
            · exact nb (d' + 1) (by omega) (.inr ⟨u, h2.1, e2⟩)
theorem Dok.done (h : Dok w s δ c) (he : ∀ u, δ u ≠ some c) : ∀ t, Dst w s t (δ t) := by
  have go : ∀ k t, Ball w s k t → ∃ d, δ t = some d := by
    intro k
    induction k with
    | zero =>
      intro t q
      exact ⟨0, (h t 0).mpr ⟨Nat.zero_le _, q, fun e he => by omega⟩⟩
    | succ k ih =>
      intro t q
      rcases q with q | ⟨u, q, e⟩
      · exact ih t q
      · obtain ⟨d, hd⟩ := ih u q
        obtain ⟨h1, h2⟩ := (h u d).mp hd
        have : d ≠ c := fun z => he u (z ▸ hd)
        obtain ⟨d', g1, g2⟩ := ball_least (w := w) (s := s) (c := d + 1) (t := t) (.inr ⟨u, h2.1, e⟩)
        exact ⟨d', (h t d').mpr ⟨by omega, g2⟩⟩
  intro t
  cases e : δ t with
  | some d => exact ((h t d).mp e).2
  | none =>
    intro k q
    obtain ⟨d, hd⟩ := go k t q
    rw [e] at hd; cases hd
theorem nodup_len {l : List Nat} (h : l.Nodup) (hb : ∀ x, x ∈ l → x < n) : l.length ≤ n := by
  have p : l.Perm ((List.range n).filter fun x => decide (x ∈ l)) := (List.perm_ext_iff_of_nodup h (List.nodup_range.filter _)).mpr fun x => by
    rw [List.mem_filter, List.mem_range, decide_eq_true_eq]
    exact ⟨fun q => ⟨hb x q, q⟩, fun q => q.2⟩
  rw [p.length_eq]
  have := List.length_filter_le (fun x => decide (x ∈ l)) (List.range n)
  rwa [List.length_range] at this
theorem ball_lt (W : Web n w) (hs : s < n) : ∀ {k t : Nat}, Ball w s k t → t < n
  | 0, t, h => by rw [show t = s from h]; exact hs
  | k + 1, t, h => by
    rcases h with h | ⟨u, h, e⟩
    · exact ball_lt W hs h
    · exact (W.bd _ _ e).2
theorem dst_chain (W : Web n w) (hs : s < n) : ∀ {d t : Nat}, Dst w s t (some d) → ∃ l : List Nat, l.length = d + 1 ∧ l.Nodup ∧ ∀ x, x ∈ l → x < n ∧ ∃ e, e ≤ d ∧ Dst w s x (some e)
  | 0, t, h => ⟨[t], rfl, by simp, fun x hx => by rw [List.mem_singleton.mp hx]; exact ⟨ball_lt W hs h.1, 0, Nat.le_refl _, h⟩⟩
  | d + 1, t, h => by
    rcases h.1 with b | ⟨u, b, e⟩
    · exact absurd b (h.2 d (by omega))
    · obtain ⟨d', h1, h2⟩ := ball_least b
      have : d' = d := Classical.byContradiction fun z => h.2 (d' + 1) (by omega) (.inr ⟨u, h2.1, e⟩)
      subst this
      obtain ⟨l, l1, l2, l3⟩ := dst_chain W hs h2
      refine ⟨t :: l, by rw [List.length_cons, l1], List.nodup_cons.mpr ⟨fun z => ?_, l2⟩, fun x hx => ?_⟩
      · obtain ⟨_, e', e1, e2⟩ := l3 t z
        have := Option.some.inj (h.uniq e2)
        omega
      · rcases List.mem_cons.mp hx with z | z
        · rw [z]; exact ⟨ball_lt W hs h.1, d' + 1, Nat.le_refl _, h⟩
        · obtain ⟨a, e', e1, e2⟩ := l3 x z
          exact ⟨a, e', by omega, e2⟩
theorem dst_lt (W : Web n w) (hs : s < n) {d : Nat} (h : Dst w s t (some d)) : d < n := by
  obtain ⟨l, l1, l2, l3⟩ := dst_chain W hs h
  have := nodup_len l2 fun x hx => (l3 x hx).1
  omega
/-- told up to all things but one: all is told -/
theorem Dok.full (W : Web n w) (hs : s < n) (h : Dok w s δ c) (hc : n ≤ c + 1) : ∀ t, Dst w s t (δ t) := by
  intro t
  cases e : δ t with
  | some d => exact ((h t d).mp e).2
  | none =>
    intro k q
    obtain ⟨d, _, h2⟩ := ball_least q
    have := dst_lt W hs h2
    have := (h t d).mpr ⟨by omega, h2⟩
    rw [e] at this; cases this
/-! ### lists of distances -/
theorem set_rng {f : Nat → PD} {v : PD} (h : t < n) : ((List.range n).map f).set t v = (List.range n).map fun y => if y = t then v else f y := by
  refine List.ext_getElem (by simp) fun i h1 h2 => ?_
  rw [List.getElem_set, List.getElem_map, List.getElem_map, List.getElem_range]
  by_cases e : t = i
  · rw [if_pos e, if_pos e.symm]
  · rw [if_neg e, if_neg (fun z => e z.symm)]
theorem set_dL {d : Nat} (h : t < n) : (dL n δ).set t (nD d) = dL n fun y => if y = t then some d else δ y := by
  unfold dL
  rw [set_rng h]
  refine List.map_congr_left fun y _ => ?_
  show _ = dD (if y = t then some d else δ y)
  by_cases e : y = t
  · rw [if_pos e, if_pos e]; rfl
  · rw [if_neg e, if_neg e]
theorem dL_len : (dL n δ).length = n := by unfold dL; rw [List.length_map, List.length_range]
theorem dL_rep : List.replicate n PySem.PyData.none = dL n fun _ => none := by
  unfold dL
  refine List.ext_getElem (by simp) fun i h1 h2 => ?_
  rw [List.getElem_replicate, List.getElem_map]; rfl
theorem isNone_dD {o : Option Nat} : isNone (dD o) = o.isNone := by cases o <;> rfl
theorem c_is {d : PD} : pyCmp .Is d .none = some (.bool (isNone d)) := rfl
theorem stp_no (h : ∀ t, hit t = false) : stp δ c hit = δ := funext fun t => by
  unfold stp
  cases e : δ t with
  | some d => rfl
  | none =>
    show (if hit t then some (c + 1) else none) = none
    rw [h t]; rfl
theorem stp_put {hit' : Nat → Bool} (h1 : stp δ c hit x = none) (h2 : ∀ t, hit' t = (hit t || decide (t = x))) : (fun y => if y = x then some (c + 1) else stp δ c hit y) = stp δ c hit' := funext fun y => by
  by_cases e : y = x
  · subst e
    rw [if_pos rfl]
    unfold stp at h1 ⊢
    cases q : δ y with
    | some d => rw [q] at h1; cases h1
    | none =>
      show _ = if hit' y then some (c + 1) else none
      rw [h2, decide_eq_true rfl, Bool.or_true, if_pos rfl]
  · rw [if_neg e]
    unfold stp
    cases q : δ y with
    | some d => rfl
    | none =>
      show (if hit y then some (c + 1) else none) = if hit' y then some (c + 1) else none
      rw [h2, decide_eq_false e, Bool.or_false]
theorem stp_same {hit' : Nat → Bool} {d : Nat} (h1 : stp δ c hit x = some d) (h2 : ∀ t, hit' t = (hit t || decide (t = x))) : stp δ c hit = stp δ c hit' := funext fun y => by
  unfold stp at h1 ⊢
  cases q : δ y with
  | some d => rfl
  | none =>
    show (if hit y then some (c + 1) else none) = if hit' y then some (c + 1) else none
    rw [h2]
    by_cases e : y = x
    · subst e
      rw [q] at h1
      have h1 : (if hit y then some (c + 1) else none) = some d := h1
      cases z : hit y with
      | true => rfl
      | false => rw [z] at h1; cases h1
    · rw [decide_eq_false e, Bool.or_false]
theorem stp_none : stp δ c hit x = none ↔ δ x = none ∧ hit x = false := by
  unfold stp
  cases q : δ x with
  | some d => simp
  | none =>
    show (if hit x then some (c + 1) else none) = none ↔ _
    cases hit x <;> simp
/-- the things found in a round -/
def Rnd (n : Nat) (δ : Nat → Option Nat) (hit : Nat → Bool) (q : List Nat) : Prop := q.Nodup ∧ ∀ t, t ∈ q ↔ t < n ∧ δ t = none ∧ hit t = true
theorem Rnd.put {hit' : Nat → Bool} {q : List Nat} (r : Rnd n δ hit q) (h1 : stp δ c hit x = none) (hx : x < n) (h2 : ∀ t, hit' t = (hit t || decide (t = x))) : Rnd n δ hit' (q ++ [x]) := by
  obtain ⟨a, b⟩ := stp_none.mp h1
  have nx : ¬ x ∈ q := fun z => by
    have := ((r.2 x).mp z).2.2
    rw [b] at this; cases this
  refine ⟨List.nodup_append.mpr ⟨r.1, by simp, fun u hu v hv e => nx (by rw [List.mem_singleton.mp hv] at e; exact e ▸ hu)⟩, fun t => ?_⟩
  rw [List.mem_append, List.mem_singleton, r.2 t, h2]
  by_cases e : t = x
  · subst e; simp [hx, a]
  · simp [e]
theorem Rnd.same {hit' : Nat → Bool} {q : List Nat} {d : Nat} (r : Rnd n δ hit q) (h1 : stp δ c hit x = some d) (h2 : ∀ t, hit' t = (hit t || decide (t = x))) : Rnd n δ hit' q := by
  refine ⟨r.1, fun t => ?_⟩
  rw [r.2 t, h2]
  by_cases e : t = x
  · subst e
    by_cases z : δ t = none
    · have : hit t = true := by
        cases q : hit t with
        | true => rfl
        | false => rw [stp_none.mpr ⟨z, q⟩] at h1; cases h1
      simp [this]
    · simp [z]
  · simp [e]
theorem Rnd.len {q : List Nat} (r : Rnd n δ hit q) : q.length ≤ n := nodup_len r.1 fun x hx => ((r.2 x).mp hx).1
def un (n : Nat) (δ : Nat → Option Nat) : Nat := ((List.range n).filter fun t => (δ t).isNone).length
theorem un_le : un n δ ≤ n := by
  have := List.length_filter_le (fun t => (δ t).isNone) (List.range n)
  rwa [List.length_range] at this
theorem stp_keep {d : Nat} (h : δ t = some d) : stp δ c hit t = some d := by unfold stp; rw [h]
theorem un_step {q : List Nat} (r : Rnd n δ hit q) : un n (stp δ c hit) + q.length ≤ un n δ := by
  unfold un
  have a : ((List.range n).filter fun t => (stp δ c hit t).isNone).Nodup := List.nodup_range.filter _
  have : (((List.range n).filter fun t => (stp δ c hit t).isNone) ++ q).Nodup := by
    refine List.nodup_append.mpr ⟨a, r.1, fun u hu v hv e => ?_⟩
    subst e
    rw [List.mem_filter, Option.isNone_iff_eq_none, stp_none] at hu
    have := ((r.2 u).mp hv).2.2
    rw [hu.2.2] at this; cases this
  have p : ((List.range n).filter fun t => (δ t).isNone).Perm (((List.range n).filter fun t => (stp δ c hit t).isNone) ++ q) := (List.perm_ext_iff_of_nodup (List.nodup_range.filter _) this).mpr fun t => by
    rw [List.mem_append, List.mem_filter, List.mem_filter, Option.isNone_iff_eq_none, Option.isNone_iff_eq_none, stp_none, r.2 t, List.mem_range]
    cases hit t <;> simp
  rw [p.length_eq, List.length_append]; omega
end
section
variable {Φ : Fns} {Ψ : Wns} {ws fu : Nat} {c : IR} {ss b : List SR} {S : PSt} {W : WT} {Q : Out → Prop}
theorem loopW_g {γ : Type} {c : PSt → Option Bool} {b : PSt → WT → Option Out} (I : γ → PSt → WT → Prop) (μ : γ → Nat) (hs : ∀ g S W, I g S W → ∃ p, c S = some p ∧ (p = true → ∃ S' W' g', b S W = some (.nx S' W') ∧ I g' S' W' ∧ μ g' < μ g)) : ∀ (n : Nat) (g : γ) (S : PSt) (W : WT), I g S W → μ g < n → ∃ S' W' g', loopW c b n S W = some (.nx S' W') ∧ I g' S' W' ∧ c S' = some false
  | 0, g, S, W, _, h => by omega
  | n + 1, g, S, W, h, hm => by
    obtain ⟨p, h1, h2⟩ := hs g S W h
    unfold loopW
    rw [h1, Option.bind_some]
    cases p with
    | false => exact ⟨S, W, g, rfl, h, h1⟩
    | true =>
      obtain ⟨S1, W1, g1, h3, h4, h5⟩ := h2 rfl
      rw [if_pos rfl, h3]
      exact loopW_g I μ hs n g1 S1 W1 h4 (by omega)
theorem w_whlG {γ : Type} (I : γ → PSt → WT → Prop) (μ : γ → Nat) (g : γ) (h0 : I g S W) (hs : ∀ g S W, I g S W → ∃ p, evT Φ c S.all = some p ∧ (p = true → WX Φ Ψ ws fu b S W (NX fun S' W' => ∃ g', I g' S' W' ∧ μ g' < μ g))) (hm : μ g < fu)
    (r : ∀ g S' W', I g S' W' → evT Φ c S'.all = some false → WX Φ Ψ ws fu ss S' W' Q) : WX Φ Ψ ws fu (.whl c b :: ss) S W Q := by
  obtain ⟨S', W', g', h1, h2, h3⟩ := loopW_g (c := fun S => evT Φ c S.all) (b := execs Φ Ψ ws fu b) I μ (fun g S W hI => by
    obtain ⟨p, g1, g2⟩ := hs g S W hI
    refine ⟨p, g1, fun q => ?_⟩
    obtain ⟨o, k1, k2⟩ := g2 q
    cases o with
    | nx S' W' =>
      obtain ⟨g', k3, k4⟩ := k2
      exact ⟨S', W', g', k1, k3, k4⟩
    | rt d W' => exact absurd k2 id) fu g S W h0 hm
  exact (r g' S' W' h2 h3).imp fun _ z => ⟨x_whl h1 z.1, z.2⟩
end
section
variable {k n : Nat} {w : Nat → Nat → Bool} {s t u x y : Nat}
theorem sp_neighbours (hk : 1 ≤ k) (hn : n ≤ 12) (hx : x < n) : call (FX k) "neighbours" [webD n w, nD x] = some (natL ((List.range n).filter (w x))) := by
  obtain ⟨k, rfl, hj⟩ := lev hk
  exact call_rt (W := []) (ph28 _ _) (x_retP (e_lcIf (l := List.range n) (enc := nD) (p := w x) (f := nD) (i_rng (e_wlen (e_v rfl)) (by omega)) (fun y hy => t_w1 (e_v rfl) (e_v rfl) (e_v rfl) hx (List.mem_range.mp hy)) (fun y _ _ => e_v rfl) (len_rng_big (by omega))))
theorem truth_nats {l : List Nat} : pyTruth (natL l) = some (!l.isEmpty) := by cases l <;> rfl
theorem sp_distances_from (hk : 2 ≤ k) (W : Web n w) (hs : s < n) : ∃ δ : Nat → Option Nat, call (FX k) "distances_from" [webD n w, nD s] = some (.list (dL n δ)) ∧ ∀ t, Dst w s t (δ t) := by
  obtain ⟨k, rfl, hj⟩ := lev hk
  have hn := W.le
  have : ∃ d, call (FX (k + 1)) "distances_from" [webD n w, nD s] = some d ∧ ∃ δ : Nat → Option Nat, d = .list (dL n δ) ∧ ∀ t, Dst w s t (δ t) := by
    refine w_call (ph31 _ _) ?_
    refine w_own (ds := dL n fun _ => none) (by decide) rfl (e_bin (e_lst (v_cons e_l v_nil) (by show 1 ≤ 1000; decide)) (e_wlen (e_v rfl)) ?_) ?_
    · show (if 0 ≤ (n : Int) ∧ (n : Int) ≤ 1000 then some (PySem.PyData.list (List.replicate (n : Int).toNat .none)) else none) = _
      rw [if_pos (by omega), Int.toNat_natCast, dL_rep]
    refine w_put (n := s) (ds := dL n fun _ => none) (evV_of (e_l (d := nD 0))) rfl (e_v rfl) (by rw [dL_len]; exact hs) ?_
    rw [set_dL hs]
    refine w_setP (d := natL [s]) (by decide) (e_lst (v_cons (e_v rfl) v_nil) (by show 1 ≤ 1000; decide)) ?_
    refine w_whlG (γ := Nat) (fun g S W' => ∃ (δ : Nat → Option Nat) (c : Nat) (q : List Nat) (a4 a5 a6 : Option PD), S = ⟨[some (webD n w), some (nD s), none, some (natL q), a4, a5, a6], [none, none, some (.list (dL n δ)), none, none, none, none]⟩ ∧ W' = [] ∧ Dok w s δ c ∧ q.Nodup ∧ (∀ t, t ∈ q ↔ δ t = some c) ∧ g = un n δ + (if q = [] then 0 else 1)) id _ ⟨fun t => if t = s then some 0 else none, 0, [s], none, none, none, rfl, rfl, Dok.zero, by simp, fun t => ?_, rfl⟩ ?_ ?_ ?_
    · rw [List.mem_singleton]
      by_cases e : t = s <;> simp [e]
    · intro g S W' ⟨δ, c, q, a4, a5, a6, eS, eW, i1, i2, i3, i4⟩
      subst eS; subst eW
      have qn : ∀ t, t ∈ q → t < n := fun t ht => ball_lt W hs ((i1 t c).mp ((i3 t).mp ht)).2.1
      have ql := nodup_len i2 qn
      refine ⟨!q.isEmpty, t_v (e_v rfl) truth_nats, fun hq => ?_⟩
      have hq : q ≠ [] := fun e => by rw [e] at hq; cases hq
      refine w_own (by decide) rfl (e_lst v_nil (by decide)) (w_iter1 (l := q) (enc := nD) (fun m S W' => ∃ (q2 : List Nat) (a5 a6 : Option PD), S = ⟨[some (webD n w), some (nD s), none, some (natL q), none, a5, a6], [none, none, some (.list (dL n (stp δ c fun t => m.any fun u => w u t))), none, some (.list (q2.map nD)), none, none]⟩ ∧ W' = [] ∧ Rnd n δ (fun t => m.any fun u => w u t) q2) (i_val (.inl (e_v rfl))) (by decide) ⟨[], a5, a6, by rw [stp_no (by simp)]; rfl, rfl, by simp, by simp⟩ ?_ ?_)
      · intro m u r S W' e ⟨q2, a5, a6, eS, eW, r1⟩
        subst eS; subst eW
        have uq : u ∈ q := by rw [e]; simp
        have un' := qn u uq
        have uc := (i3 u).mp uq
        refine w_iter1 (l := (List.range n).filter (w u)) (enc := nD) (fun p S W' => ∃ (q2 : List Nat) (a6 : Option PD), S = ⟨[some (webD n w), some (nD s), none, some (natL q), none, some (nD u), a6], [none, none, some (.list (dL n (stp δ c fun t => (m.any fun u => w u t) || decide (t ∈ p)))), none, some (.list (q2.map nD)), none, none]⟩ ∧ W' = [] ∧ Rnd n δ (fun t => (m.any fun u => w u t) || decide (t ∈ p)) q2) (i_val (.inl (e_fn2 (e_v rfl) (e_v rfl) (sp_neighbours hj hn un')))) (by decide) ⟨q2, a6, by simp only [List.not_mem_nil, decide_false, Bool.or_false]; rfl, rfl, by simp only [List.not_mem_nil, decide_false, Bool.or_false]; exact r1⟩ ?_ ?_
        · intro p x r S W' e2 ⟨q2, a6, eS, eW, r2⟩
          subst eS; subst eW
          have xm : x ∈ (List.range n).filter (w u) := by rw [e2]; simp
          rw [List.mem_filter, List.mem_range] at xm
          have hx := xm.1
          have q2l := r2.len
          have hh : ∀ t, ((m.any fun u => w u t) || decide (t ∈ p ++ [x])) = (((m.any fun u => w u t) || decide (t ∈ p)) || decide (t = x)) := fun t => by
            rw [Bool.or_assoc]
            congr 1
            by_cases a : t ∈ p <;> by_cases b : t = x <;> simp [a, b]
          refine w_ite (p := (stp δ c (fun t => (m.any fun u => w u t) || decide (t ∈ p)) x).isNone) (t_cmp (e_ix (e_v rfl) (e_v rfl) (ix_rngL hx)) e_l (by rw [c_is, isNone_dD])) (fun z => ?_) (fun z => ?_)
          · have z := Option.isNone_iff_eq_none.mp z
            refine w_put (n := x) (ds := dL n (stp δ c fun t => (m.any fun u => w u t) || decide (t ∈ p))) (d := nD (c + 1)) (evV_t rfl (e_add1 (e_ix (e_v rfl) (e_v rfl) (by rw [dL, ix_rngL un', stp_keep uc]; rfl))) rfl) rfl (e_v rfl) (by rw [dL_len]; exact hx) ?_
            rw [set_dL hx, stp_put z hh]
            refine w_app rfl (e_v rfl) (by rw [List.length_map]; unfold big; omega) (w_nil ⟨q2 ++ [x], some (nD x), by rw [List.map_append]; rfl, rfl, r2.put z hx hh⟩)
          · cases z2 : stp δ c (fun t => (m.any fun u => w u t) || decide (t ∈ p)) x with
            | none => rw [z2] at z; cases z
            | some d => exact w_nil ⟨q2, some (nD x), by rw [stp_same z2 hh]; rfl, rfl, r2.same z2 hh⟩
        · intro S W' ⟨q2, a6, eS, eW, r2⟩
          subst eS; subst eW
          have hh : (fun t => (m.any fun u => w u t) || decide (t ∈ (List.range n).filter (w u))) = fun t => (m ++ [u]).any fun u => w u t := funext fun t => by
            rw [List.any_append]
            congr 1
            simp only [List.any_cons, List.any_nil, Bool.or_false]
            rw [Bool.eq_iff_iff, decide_eq_true_eq, List.mem_filter, List.mem_range]
            exact ⟨fun z => z.2, fun z => ⟨(W.bd _ _ z).2, z⟩⟩
          rw [hh] at r2 ⊢
          exact w_nil ⟨q2, some (nD u), a6, rfl, rfl, r2⟩
      · intro S W' ⟨q2, a5, a6, eS, eW, r1⟩
        subst eS; subst eW
        have hh : ∀ t, (q.any fun u => w u t) = true ↔ ∃ u, δ u = some c ∧ w u t = true := fun t => by
          rw [List.any_eq_true]
          exact ⟨fun ⟨u, a, b⟩ => ⟨u, (i3 u).mp a, b⟩, fun ⟨u, a, b⟩ => ⟨u, (i3 u).mpr a, b⟩⟩
        refine w_setP (d := natL q2) (by decide) (e_ns rfl (e_v rfl) rfl) (w_nil ⟨_, ⟨stp δ c fun t => q.any fun u => w u t, c + 1, q2, some (natL q2), a5, a6, rfl, rfl, i1.step hh, r1.1, fun t => ?_, rfl⟩, ?_⟩)
        · rw [r1.2 t]
          constructor
          · intro ⟨z1, z2, z3⟩
            unfold stp
            rw [z2]
            show (if _ then _ else _) = _
            rw [if_pos z3]
          · intro z
            have z0 := (i1.step hh t (c + 1)).mp z
            cases z2 : δ t with
            | some d =>
              rw [stp_keep z2] at z
              have := ((i1 t d).mp z2).1
              cases z
              omega
            | none =>
              refine ⟨ball_lt W hs z0.2.1, rfl, ?_⟩
              unfold stp at z
              rw [z2] at z
              have z : (if (q.any fun u => w u t) = true then some (c + 1) else none) = some (c + 1) := z
              show (q.any fun u => w u t) = true
              cases z3 : q.any fun u => w u t with
              | true => rfl
              | false => rw [z3] at z; cases z
        · have := un_step (c := c) r1
          rw [i4, if_neg hq]
          show un n (stp δ c fun t => q.any fun u => w u t) + (if q2 = [] then 0 else 1) < un n δ + 1
          split
          · rename_i e; rw [e] at this; simp at this; omega
          · rename_i e
            have := List.length_pos_iff.mpr e
            omega
    · have := un_le (n := n) (δ := fun t => if t = s then some 0 else none)
      show un n (fun t => if t = s then some 0 else none) + 1 < 60
      omega
    · intro g S W' ⟨δ, c, q, a4, a5, a6, eS, eW, i1, i2, i3, i4⟩ hc
      subst eS; subst eW
      have e : q = [] := by
        have := t_v (Φ := FX k) (a := .var 3) (τ := [some (webD n w), some (nD s), some (.list (dL n δ)), some (natL q), a4, a5, a6]) (e_v rfl) truth_nats
        have := this.symm.trans hc
        cases q with
        | nil => rfl
        | cons a b => cases this
      subst e
      exact w_retP (e_v rfl) ⟨δ, rfl, i1.done fun u hu => by have := (i3 u).mpr hu; cases this⟩
  obtain ⟨d, h1, δ, rfl, h2⟩ := this
  exact ⟨δ, h1, h2⟩
theorem sp_distance (hk : 7 ≤ k) (W : Web n w) (hx : x < n) (hy : y < n) (hne : x ≠ y) : ∃ e : Option Nat, call (FX k) "distance" [webD n w, nD x, nD y] = some (dD e) ∧ Dst w x y e := by
  obtain ⟨k, rfl, hj⟩ := lev hk
  obtain ⟨δ, h1, h2⟩ := sp_distances_from (k := k) (by omega) W hx
  exact ⟨δ y, call_rt (W := []) (ph34 _ _) (x_drop (e_fn1 (e_v rfl) (sp_check_web hj W)) (x_drop (e_fn2 (e_wlen (e_v rfl)) (e_v rfl) (sp_check_thing (by omega) hx)) (x_drop (e_fn3 (e_wlen (e_v rfl)) (e_v rfl) (e_v rfl) (sp_check_other (by omega) hy (Ne.symm hne))) (x_retP (e_ix (e_fn2 (e_v rfl) (e_v rfl) h1) (e_v rfl) (ix_rngL hy)))))), h2 y⟩
/-! ### _law_far -/
theorem sp_law_far (hk : 1 ≤ k) (W : Web n w) : ∃ δ : Nat → Nat → Option Nat, call (FX k) "_law_far" [webD n w] = some (.list ((List.range n).map fun s => .list (dL n (δ s)))) ∧ ∀ s t, s < n → Dst w s t (δ s t) := by
  obtain ⟨k, rfl, hj⟩ := lev hk
  have hn := W.le
  have pos := W.pos
  have : ∃ d, call (FX (k + 1)) "_law_far" [webD n w] = some d ∧ ∃ δ : Nat → Nat → Option Nat, d = .list ((List.range n).map fun s => .list (dL n (δ s))) ∧ ∀ s t, s < n → Dst w s t (δ s t) := by
    refine w_call (ph79 _ _) ?_
    refine w_setP (d := nD n) (by decide) (e_wlen (e_v rfl)) (w_own (ds := []) (by decide) rfl (e_lst v_nil (by decide)) ?_)
    refine w_iter1 (l := List.range n) (enc := nD) (fun l S W' => ∃ (δ : Nat → Nat → Option Nat) (a3 a4 a5 a6 a7 : Option PD), S = ⟨[some (webD n w), some (nD n), none, a3, a4, a5, a6, a7, none], [none, none, some (.list (l.map fun s => .list (dL n (δ s)))), none, none, none, none, none, none]⟩ ∧ W' = [] ∧ ∀ s t, s ∈ l → Dst w s t (δ s t)) (i_rng (e_v rfl) (by omega)) (by decide) ⟨fun _ _ => none, none, none, none, none, none, rfl, rfl, fun s t h => by cases h⟩ ?_ ?_
    · intro l s r S W' e ⟨δ0, a3, a4, a5, a6, a7, eS, eW, i1⟩
      subst eS; subst eW
      have hs : s < n := by
        have : s ∈ List.range n := by rw [e]; simp
        exact List.mem_range.mp this
      have hl : l.length ≤ n ∧ ¬ s ∈ l := by
        have a := congrArg List.length e
        rw [List.length_range, List.length_append, List.length_cons] at a
        have b : (l ++ s :: r).Nodup := e ▸ List.nodup_range
        rw [List.nodup_append] at b
        exact ⟨by omega, fun z => b.2.2 s z s (by simp) rfl⟩
      refine w_own (ds := dL n fun _ => none) (by decide) rfl (e_bin (e_lst (v_cons e_l v_nil) (by show 1 ≤ 1000; decide)) (e_v rfl) ?_) ?_
      · show (if 0 ≤ (n : Int) ∧ (n : Int) ≤ 1000 then some (PySem.PyData.list (List.replicate (n : Int).toNat .none)) else none) = _
        rw [if_pos (by omega), Int.toNat_natCast, dL_rep]
      refine w_put (n := s) (ds := dL n fun _ => none) (evV_of (e_l (d := nD 0))) rfl (e_v rfl) (by rw [dL_len]; exact hs) ?_
      rw [set_dL hs]
      refine w_iter1 (l := List.range' 1 (n - 1)) (enc := nD) (fun m S W' => ∃ (δ : Nat → Option Nat) (a5 a6 a7 : Option PD), S = ⟨[some (webD n w), some (nD n), none, some (nD s), none, a5, a6, a7, none], [none, none, some (.list (l.map fun s => .list (dL n (δ0 s)))), none, some (.list (dL n δ)), none, none, none, none]⟩ ∧ W' = [] ∧ Dok w s δ m.length) (i_rng2 (l := 1) (m := n) e_l (e_v rfl) (by omega) (by omega)) (by decide) ⟨fun t => if t = s then some 0 else none, a5, a6, a7, rfl, rfl, Dok.zero⟩ ?_ ?_
      · intro m st r2 S W' e2 ⟨δ, a5, a6, a7, eS, eW, j1⟩
        subst eS; subst eW
        have est : st = m.length + 1 := by
          have a := congrArg (fun l : List Nat => l[m.length]?) e2
          simp only [List.getElem?_append_right (Nat.le_refl _), Nat.sub_self, List.getElem?_cons_zero] at a
          rw [List.getElem?_range'] at a
          · have := Option.some.inj a
            omega
          · have := congrArg List.length e2
            rw [List.length_range', List.length_append, List.length_cons] at this
            omega
        refine w_setP (d := natL ((List.range n).filter fun y => decide (δ y = some m.length))) (by decide) (e_lcIf (l := List.range n) (enc := nD) (p := fun y => decide (δ y = some m.length)) (f := nD) (i_rng (e_v rfl) (by omega)) (fun y hy => ?_) (fun y _ _ => e_v rfl) (len_rng_big (by omega))) ?_
        · refine t_cmp (e_ix (e_v rfl) (e_v rfl) (ix_rngL (List.mem_range.mp hy))) (e_sub1 (e_v rfl)) ?_
          rw [est]
          show pyCmp .Eq (dD (δ y)) (.int (((m.length + 1 : Nat) : Int) - 1)) = _
          rw [show ((m.length + 1 : Nat) : Int) - 1 = (m.length : Int) by omega]
          cases δ y with
          | none => rfl
          | some d =>
            show pyCmp .Eq (nD d) (nD m.length) = _
            rw [c_eqN]
            simp
        · have near : ∀ t, (((List.range n).filter fun y => decide (δ y = some m.length)).any fun u => w u t) = true ↔ ∃ u, δ u = some m.length ∧ w u t = true := fun t => by
            rw [List.any_eq_true]
            constructor
            · intro ⟨u, a, b⟩
              rw [List.mem_filter, decide_eq_true_eq] at a
              exact ⟨u, a.2, b⟩
            · intro ⟨u, a, b⟩
              exact ⟨u, List.mem_filter.mpr ⟨List.mem_range.mpr (ball_lt W hs ((j1 u _).mp a).2.1), decide_eq_true a⟩, b⟩
          refine w_iter1 (l := List.range n) (enc := nD) (fun p S W' => ∃ (a6 : Option PD), S = ⟨[some (webD n w), some (nD n), none, some (nD s), none, some (nD st), a6, some (natL ((List.range n).filter fun y => decide (δ y = some m.length))), none], [none, none, some (.list (l.map fun s => .list (dL n (δ0 s)))), none, some (.list (dL n fun t => if t ∈ p then stp δ m.length (fun t => ((List.range n).filter fun y => decide (δ y = some m.length)).any fun u => w u t) t else δ t)), none, none, none, none]⟩ ∧ W' = []) (i_rng (e_v rfl) (by omega)) (by decide) ⟨a6, by simp only [List.not_mem_nil, if_false]; rfl, rfl⟩ ?_ ?_
          · intro p x r3 S W' e3 ⟨a6, eS, eW⟩
            subst eS; subst eW
            have hx : x < n := by
              have : x ∈ List.range n := by rw [e3]; simp
              exact List.mem_range.mp this
            have nx : ¬ x ∈ p := by
              have b : (p ++ x :: r3).Nodup := e3 ▸ List.nodup_range
              rw [List.nodup_append] at b
              exact fun z => b.2.2 x z x (by simp) rfl
            generalize hh : (fun t => ((List.range n).filter fun y => decide (δ y = some m.length)).any fun u => w u t) = hit at near
            refine w_ite (p := (δ x).isNone && hit x) ?_ (fun z => ?_) (fun z => ?_)
            · refine t_and (t_cmp (e_ix (e_v rfl) (e_v rfl) (ix_rngL hx)) e_l (by
                rw [c_is, isNone_dD]
                show some (PySem.PyData.bool (Option.isNone (if x ∈ p then stp δ m.length hit x else δ x))) = _
                rw [if_neg nx])) fun _ => ?_
              rw [← hh]
              refine t_cmp e_l (e_lc (l := (List.range n).filter fun y => decide (δ y = some m.length)) (enc := nD) (f := fun u => .int (b01 (w u x))) (i_val (.inl (e_v rfl))) (fun u hu => ?_) ?_) ?_
              · rw [List.mem_filter, List.mem_range] at hu
                exact e_w2 (e_v rfl) (e_v rfl) (e_v rfl) hu.1 hx
              · have := List.length_filter_le (fun y => decide (δ y = some m.length)) (List.range n)
                rw [List.length_range] at this
                unfold big; omega
              · show (pyIn (.int 1) (.list (((List.range n).filter fun y => decide (δ y = some m.length)).map fun u => PySem.PyData.int (b01 (w u x))))).map _ = _
                rw [in_ints (l := ((List.range n).filter fun y => decide (δ y = some m.length)).map fun u => b01 (w u x)) (.inl (by rw [List.map_map]; rfl)), Option.map_some]
                congr 2
                rw [Bool.eq_iff_iff, decide_eq_true_eq, List.any_eq_true, List.mem_map]
                constructor
                · intro ⟨u, a, b⟩; exact ⟨u, a, b01_one.mp b⟩
                · intro ⟨u, a, b⟩; exact ⟨u, a, b01_one.mpr b⟩
            · rw [Bool.and_eq_true, Option.isNone_iff_eq_none] at z
              refine w_put (n := x) (ds := dL n fun t => if t ∈ p then stp δ m.length hit t else δ t) (d := nD (m.length + 1)) (evV_of (by rw [← est]; exact e_v rfl)) rfl (e_v rfl) (by rw [dL_len]; exact hx) ?_
              rw [set_dL hx]
              refine w_nil ⟨some (nD x), ?_, rfl⟩
              rw [show (fun y => if y = x then some (m.length + 1) else if y ∈ p then stp δ m.length hit y else δ y) = fun t => if t ∈ p ++ [x] then stp δ m.length hit t else δ t from funext fun y => by
                by_cases a : y = x
                · subst a
                  rw [if_pos rfl, if_pos (by simp)]
                  unfold stp
                  rw [z.1]
                  show _ = if hit y then _ else _
                  rw [if_pos z.2]
                · rw [if_neg a]
                  by_cases b : y ∈ p <;> simp [a, b]]
              rfl
            · refine w_nil ⟨some (nD x), ?_, rfl⟩
              rw [show (fun t => if t ∈ p then stp δ m.length hit t else δ t) = fun t => if t ∈ p ++ [x] then stp δ m.length hit t else δ t from funext fun y => by
                by_cases a : y = x
                · subst a
                  rw [if_neg nx, if_pos (by simp)]
                  unfold stp
                  cases q : δ y with
                  | some d => rfl
                  | none =>
                    rw [q] at z
                    have z : hit y = false := by simpa using z
                    show none = if hit y then _ else _
                    rw [z]; rfl
                · by_cases b : y ∈ p <;> simp [a, b]]
              rfl
          · intro S W' ⟨a6, eS, eW⟩
            subst eS; subst eW
            refine w_nil ⟨stp δ m.length (fun t => ((List.range n).filter fun y => decide (δ y = some m.length)).any fun u => w u t), some (nD st), a6, some (natL ((List.range n).filter fun y => decide (δ y = some m.length))), ?_, rfl, by rw [List.length_append]; exact j1.step near⟩
            rw [show dL n (fun t => if t ∈ List.range n then stp δ m.length (fun t => ((List.range n).filter fun y => decide (δ y = some m.length)).any fun u => w u t) t else δ t) = dL n (stp δ m.length (fun t => ((List.range n).filter fun y => decide (δ y = some m.length)).any fun u => w u t)) from List.map_congr_left fun t ht => congrArg dD (if_pos ht)]
      · intro S W' ⟨δ, a5, a6, a7, eS, eW, j1⟩
        subst eS; subst eW
        rw [List.length_range'] at j1
        have D := j1.full W hs (by omega)
        refine w_app (ds := l.map fun s => .list (dL n (δ0 s))) (d := .list (dL n δ)) rfl (e_v rfl) (by rw [List.length_map]; unfold big; omega) (w_nil ⟨fun u => if u = s then δ else δ0 u, some (nD s), some (.list (dL n δ)), a5, a6, a7, ?_, rfl, fun u t hu => ?_⟩)
        · rw [show ((l ++ [s]).map fun u => PySem.PyData.list (dL n (if u = s then δ else δ0 u))) = (l.map fun s => .list (dL n (δ0 s))) ++ [.list (dL n δ)] by
            rw [List.map_append, List.map_singleton, if_pos rfl]
            congr 1
            exact List.map_congr_left fun u hu => by rw [if_neg (fun z : u = s => hl.2 (z ▸ hu))]]
          rfl
        · show Dst w u t ((if u = s then δ else δ0 u) t)
          by_cases z : u = s
          · rw [if_pos z, z]; exact D t
          · rw [if_neg z]
            rcases List.mem_append.mp hu with q | q
            · exact i1 u t q
            · exact absurd (List.mem_singleton.mp q) z
    · intro S W' ⟨δ, a3, a4, a5, a6, a7, eS, eW, i1⟩
      subst eS; subst eW
      exact w_retP (e_v rfl) ⟨δ, rfl, fun s t hs => i1 s t (List.mem_range.mpr hs)⟩
  obtain ⟨d, h1, δ, rfl, h2⟩ := this
  exact ⟨δ, h1, h2⟩
end
end SN
end
section
set_option Elab.async false
set_option linter.all false
set_option maxRecDepth 100000
set_option maxHeartbeats 4000000
/-! K11: what is shown; _law_same, _law_flood, _law_pieces. -/
namespace SN
open PySem L2 LamX NdefX PyProof.Rows
/-! ### shown texts -/
theorem ok_app (a b : Str) : PyData.strOk (a ++ b) = (PyData.strOk a && PyData.strOk b) := by
  show (a.cps ++ b.cps).all _ = _
  rw [Array.all_append]; rfl
theorem ok_join : ∀ {ts : List Str}, (∀ t, t ∈ ts → PyData.strOk t = true) → PyData.strOk (Str.join ", " ts) = true
  | [], _ => by decide +kernel
  | [x], h => h x (List.mem_singleton.mpr rfl)
  | x :: y :: r, h => by
    show PyData.strOk (x ++ ((", " : String) : Str) ++ Str.join ", " (y :: r)) = true
    rw [ok_app, ok_app, h x (by simp), ok_join fun t ht => h t (List.mem_cons_of_mem _ ht), show PyData.strOk ((", " : String) : Str) = true by decide +kernel]; rfl
theorem ok_tuple {ts : List Str} (h : ∀ t, t ∈ ts → PyData.strOk t = true) : PyData.strOk (tupleText ts) = true := by
  unfold tupleText
  rw [ok_app, ok_app, ok_join h, show PyData.strOk ((if ts.length == 1 then ",)" else ")" : String) : Str) = true by split <;> decide +kernel, show PyData.strOk (("(" : String) : Str) = true by decide +kernel]; rfl
theorem ok_from : ∀ {ts : List Str} {k : Nat} {acc : Str}, PyData.strOk acc = true → (∀ t, t ∈ ts → PyData.strOk t = true) → PyData.strOk (textFrom k acc ts) = true
  | [], k, acc, h, _ => h
  | t :: ts, k, acc, h, hs => by
    show PyData.strOk (textFrom (k + 1) (acc ++ ((if k > 0 then ", " else "" : String) : Str) ++ t) ts) = true
    refine ok_from ?_ fun t ht => hs t (List.mem_cons_of_mem _ ht)
    rw [ok_app, ok_app, h, hs t (List.mem_cons_self ..), show PyData.strOk ((if k > 0 then ", " else "" : String) : Str) = true by split <;> decide +kernel]; rfl
theorem ok_list {ts : List Str} (h : ∀ t, t ∈ ts → PyData.strOk t = true) : PyData.strOk (listText ts) = true := by
  unfold listText
  rw [ok_app, ok_from (by decide +kernel) h, show PyData.strOk (("]" : String) : Str) = true by decide +kernel]; rfl
theorem len_join (ts : List Str) : (Str.join ", " ts).length ≤ piled ts := by
  by_cases h : ts = []
  · subst h
    show (Str.empty).length ≤ _
    rw [show Str.empty.length = 0 by decide +kernel]; omega
  · have := join_length_add ts h
    omega
theorem len_tuple (ts : List Str) : (tupleText ts).length ≤ piled ts + 3 := by
  unfold tupleText
  rw [Str.length_append, Str.length_append]
  have e1 : ((("(" : String) : Str)).length = 1 := by decide +kernel
  have e2 : (((if ts.length == 1 then ",)" else ")" : String) : Str)).length ≤ 2 := by split <;> decide +kernel
  have := len_join ts
  omega
theorem len_from : ∀ (ts : List Str) (k : Nat) (acc : Str), (textFrom k acc ts).length ≤ acc.length + piled ts
  | [], k, acc => by show acc.length ≤ _; omega
  | t :: ts, k, acc => by
    have := len_from ts (k + 1) (acc ++ ((if k > 0 then ", " else "" : String) : Str) ++ t)
    rw [Str.length_append, Str.length_append] at this
    have e2 : (((if k > 0 then ", " else "" : String) : Str)).length ≤ 2 := by split <;> decide +kernel
    show (textFrom (k + 1) (acc ++ ((if k > 0 then ", " else "" : String) : Str) ++ t) ts).length ≤ _
    have e3 : piled (t :: ts) = t.length + 2 + piled ts := by simp [piled]
    omega
theorem len_list (ts : List Str) : (listText ts).length ≤ piled ts + 2 := by
  unfold listText
  rw [Str.length_append]
  have := len_from ts 0 "["
  have e1 : ((("[" : String) : Str)).length = 1 := by decide +kernel
  have e2 : ((("]" : String) : Str)).length = 1 := by decide +kernel
  omega
theorem piled_le {ts : List Str} {c : Nat} (h : ∀ t, t ∈ ts → t.length ≤ c) : piled ts ≤ ts.length * (c + 2) := sum_le (f := fun t : Str => t.length + 2) fun t ht => by have := h t ht; omega
theorem dig : ∀ x : Nat, x < 12 → PyData.strOk (((toString (x : Int)) : String) : Str) = true ∧ ((((toString (x : Int)) : String) : Str)).length ≤ 2 ∧ PyData.showable (nD x) = true := by decide +kernel
theorem shown_nats : ∀ l : List Nat, PyData.shownAll (l.map nD) = l.map fun (x : Nat) => (((toString (x : Int)) : String) : Str)
  | [] => rfl
  | x :: l => by
    show PyData.shown (nD x) :: PyData.shownAll (l.map nD) = _
    rw [shown_nats l]; rfl
theorem shown_natT (l : List Nat) : PyData.shown (natT l) = tupleText (l.map fun (x : Nat) => (((toString (x : Int)) : String) : Str)) := by
  show tupleText (PyData.shownAll (l.map nD)) = _
  rw [shown_nats]
/-- a small lot -/
def Sml (K : List Nat) : Prop := K.length ≤ 12 ∧ ∀ x, x ∈ K → x < 12
theorem sml_shown {K : List Nat} (h : Sml K) : PyData.strOk (PyData.shown (natT K)) = true ∧ (PyData.shown (natT K)).length ≤ 51 ∧ PyData.showable (natT K) = true := by
  rw [shown_natT]
  refine ⟨ok_tuple fun t ht => ?_, ?_, ?_⟩
  · obtain ⟨x, hx, rfl⟩ := List.mem_map.mp ht
    exact (dig x (h.2 x hx)).1
  · have a := len_tuple (K.map fun (x : Nat) => (((toString (x : Int)) : String) : Str))
    have b := piled_le (c := 2) (ts := K.map fun (x : Nat) => (((toString (x : Int)) : String) : Str)) fun t ht => by
      obtain ⟨x, hx, rfl⟩ := List.mem_map.mp ht
      exact (dig x (h.2 x hx)).2.1
    rw [List.length_map] at b
    have := h.1
    omega
  · show PyData.showableAll (K.map nD) = true
    have := h.2
    clear h
    induction K with
    | nil => rfl
    | cons x K ih =>
      show (PyData.showable (nD x) && PyData.showableAll (K.map nD)) = true
      rw [(dig x (this x (List.mem_cons_self ..))).2.2, ih fun y hy => this y (List.mem_cons_of_mem _ hy)]; rfl
theorem shown_lots : ∀ ps : List (List Nat), PyData.shownAll (ps.map natT) = ps.map fun K => PyData.shown (natT K)
  | [] => rfl
  | K :: ps => by
    show PyData.shown (natT K) :: PyData.shownAll (ps.map natT) = _
    rw [shown_lots ps]; rfl
theorem showable_lots : ∀ {ps : List (List Nat)}, (∀ K, K ∈ ps → Sml K) → PyData.showableAll (ps.map natT) = true
  | [], _ => rfl
  | K :: ps, h => by
    show (PyData.showable (natT K) && PyData.showableAll (ps.map natT)) = true
    rw [(sml_shown (h K (List.mem_cons_self ..))).2.2, showable_lots fun y hy => h y (List.mem_cons_of_mem _ hy)]; rfl
theorem lay_lots : ∀ ps : List (List Nat), PyData.canLayAll0 (ps.map natT) = true
  | [] => rfl
  | K :: ps => by
    show (PyData.canLayAll0 (K.map nD) && PyData.canLayAll0 (ps.map natT)) = true
    rw [lay_nats, lay_lots ps]; rfl
theorem dep_lots : ∀ ps : List (List Nat), PyData.depthAll (ps.map natT) ≤ 1
  | [] => Nat.zero_le _
  | K :: ps => by
    have := dep_lots ps
    show max (PyData.depthAll (K.map nD) + 1) (PyData.depthAll (ps.map natT)) ≤ 1
    rw [dep_nats]; omega
mutual
theorem eqv_rf : ∀ d : PD, PyData.canLay0 d = true → PyData.eqv d d = true
  | .none, _ => rfl
  | .bool b, _ => by cases b <;> rfl
  | .int i, _ => by simp [PyData.eqv]
  | .str s, _ => by simp [PyData.eqv]
  | .list xs, h => by
    have h : PyData.canLayAll0 xs = true := by simpa [PyData.canLay0] using h
    simpa [PyData.eqv] using eqvs_rf xs h
  | .tuple xs, h => by
    have h : PyData.canLayAll0 xs = true := by simpa [PyData.canLay0] using h
    simpa [PyData.eqv] using eqvs_rf xs h
  | .dict kv, h => by simp [PyData.canLay0] at h
theorem eqvs_rf : ∀ ds : List PD, PyData.canLayAll0 ds = true → PyData.eqvAll ds ds = true
  | [], _ => rfl
  | d :: ds, h => by
    have h : PyData.canLay0 d = true ∧ PyData.canLayAll0 ds = true := by simpa [PyData.canLayAll0] using h
    simp [PyData.eqvAll, eqv_rf d h.1, eqvs_rf ds h.2]
end
theorem c_eqD {d : PD} (h : SeqAt.shaped d = true) : pyCmp .Eq d d = some (.bool true) := by
  have h2 : (d.canLay0 && decide (d.depth ≤ 64)) = true := h
  rw [Bool.and_eq_true] at h2
  show (if (SeqAt.shaped d && SeqAt.shaped d) = true then some (PySem.PyData.bool (PyData.eqv d d)) else none) = _
  rw [h, if_pos (by rfl), eqv_rf d h2.1]
theorem sh_lots {ps : List (List Nat)} : SeqAt.shaped (.list (ps.map natT)) = true := by
  show (PyData.canLayAll0 (ps.map natT) && decide (PyData.depthAll (ps.map natT) + 1 ≤ 64)) = true
  have := dep_lots ps
  rw [lay_lots, decide_eq_true (by omega)]; rfl
section
variable {k n : Nat} {w : Nat → Nat → Bool} {s t u x y : Nat} {ps : List (List Nat)}
theorem sp_same (hk : 1 ≤ k) {d : PD} {s : Str} (h1 : SeqAt.shaped d = true) (h2 : pyRepr d = some s) (h3 : PyData.strOk s = true) : call (FX k) "_law_same" [d, d] = some (.bool true) := by
  obtain ⟨k, rfl, hj⟩ := lev hk
  have r : pyFn .repr [d] = some (.str s) := by
    show (pyRepr d).map PySem.PyData.str = _
    rw [h2]; rfl
  refine call_rt (W := []) (ph76 _ _) (x_retP (e_andT (e_cmp (e_v rfl) (e_v rfl) (c_eqD h1)) (e_cmp (e_sc rfl (e_v rfl) r rfl) (e_sc rfl (e_v rfl) r rfl) (c_eqD ?_))))
  show (PyData.strOk s && decide (0 ≤ 64)) = true
  rw [h3]; rfl
theorem sp_same_lots (hk : 1 ≤ k) (hl : ps.length ≤ 12) (h : ∀ K, K ∈ ps → Sml K) : call (FX k) "_law_same" [.list (ps.map natT), .list (ps.map natT)] = some (.bool true) := by
  have dp := dep_lots ps
  have es : PyData.shown (.list (ps.map natT)) = listText (ps.map fun K => PyData.shown (natT K)) := by
    show listText (PyData.shownAll (ps.map natT)) = _
    rw [shown_lots]
  refine sp_same hk (s := PyData.shown (.list (ps.map natT))) sh_lots ?_ ?_
  · show (if _ then _ else _) = _
    rw [if_pos]
    rw [Bool.and_eq_true, Bool.and_eq_true, Bool.and_eq_true]
    refine ⟨showable_lots h, ?_, decide_eq_true ?_, decide_eq_true ?_⟩
    · rw [PyData.hasDict_of_canLay (.list (ps.map natT)) (lay_lots ps)]; rfl
    · show PyData.depthAll (ps.map natT) + 1 ≤ 60
      omega
    · rw [es]
      have a := len_list (ps.map fun K => PyData.shown (natT K))
      have b := piled_le (c := 51) (ts := ps.map fun K => PyData.shown (natT K)) fun t ht => by
        obtain ⟨K, hK, rfl⟩ := List.mem_map.mp ht
        exact (sml_shown (h K hK)).2.1
      rw [List.length_map] at b
      omega
  · rw [es]
    exact ok_list fun t ht => by
      obtain ⟨K, hK, rfl⟩ := List.mem_map.mp ht
      exact (sml_shown (h K hK)).1
theorem sp_same_d (hk : 1 ≤ k) {e : Option Nat} (h : ∀ d, e = some d → d < 12) : call (FX k) "_law_same" [dD e, dD e] = some (.bool true) := by
  cases e with
  | none => exact sp_same hk (s := "None") rfl rfl (by decide +kernel)
  | some d =>
    have hd := h d rfl
    refine sp_same hk (d := nD d) (s := (((toString (d : Int)) : String) : Str)) rfl ?_ (dig d hd).1
    show (if (d : Int).natAbs < 2 ^ 64 then _ else _) = _
    rw [if_pos (by omega)]
/-! ### _law_flood -/
theorem sp_flood (hk : 1 ≤ k) (W : Web n w) {left : List Nat} (ha : Asc left) (hne : left ≠ []) (hb : ∀ x, x ∈ left → x < n) (hcl : ∀ x, x ∈ left → ∀ y, y < n → w x y = true → y ∈ left) : call (FX k) "_law_flood" [webD n w, natL left] = some (natT (pcL n w (hd left))) := by
  obtain ⟨k, rfl, hj⟩ := lev hk
  have hn := W.le
  have hh := hd_mem hne
  have hs := hb _ hh
  have nd : left.Nodup := ha.imp fun q => by omega
  have ll := nodup_len nd hb
  have sub : ∀ x, Cn n w true (hd left) x → x ∈ left := fun x h => stay W.sym (P := ofL left) (k := true) (fun a b pa hb' _ e => hcl a pa b hb' e) hh h
  have : ∃ d, call (FX (k + 1)) "_law_flood" [webD n w, natL left] = some d ∧ d = natT (pcL n w (hd left)) := by
    refine w_call (ph77 _ _) ?_
    refine w_setP (d := natL [hd left]) (by decide) (e_lst (v_cons (e_ix (e_v rfl) (e_l (d := nD 0)) ?_) v_nil) (by show 1 ≤ 1000; decide)) ?_
    · cases left with
      | nil => exact absurd rfl hne
      | cons a b => exact atI_0
    refine w_iter1 (l := List.range left.length) (enc := nD) (fun m S W' => ∃ (f : List Nat) (a : Option PD), S = ⟨[some (webD n w), some (natL left), some (natL f), a, none, none], List.replicate 6 none⟩ ∧ W' = [] ∧ Rin n w (hd left) f ∧ ((∀ x, x ∈ f → ∀ y, y < n → w x y = true → y ∈ f) ∨ m.length + 1 ≤ f.length)) (i_rng (e_nlenL (e_v rfl)) (by omega)) (by decide) ⟨[hd left], none, rfl, rfl, ⟨by simp, by simp, fun x hx => by rw [List.mem_singleton.mp hx]; exact ⟨.refl, hs⟩⟩, .inr (Nat.le_refl _)⟩ ?_ ?_
    · intro m i r S W' e ⟨f, a, eS, eW, r1, r2⟩
      subst eS; subst eW
      have fl := rin_len r1
      have Rin' : Rin n w (hd left) (f ++ left.filter fun y => decide (y ∉ f) && f.any fun x => w x y) := by
        refine ⟨List.nodup_append.mpr ⟨r1.nd, nd.filter _, fun a ha b hb e => ?_⟩, List.mem_append_left _ r1.self, fun y hy => ?_⟩
        · subst e
          rw [List.mem_filter, Bool.and_eq_true, decide_eq_true_eq] at hb
          exact hb.2.1 ha
        · rcases List.mem_append.mp hy with z | z
          · exact r1.cn y z
          · rw [List.mem_filter, Bool.and_eq_true, decide_eq_true_eq, List.any_eq_true] at z
            obtain ⟨z1, z2, x, z3, z4⟩ := z
            exact ⟨(r1.cn x z3).1.step (hb y z1) (fun e => z2 (e ▸ z3)) z4, hb y z1⟩
      refine w_setP (d := natL (f ++ left.filter fun y => decide (y ∉ f) && f.any fun x => w x y)) (by decide) (e_bin (e_v rfl) (e_lcIf (l := left) (enc := nD) (p := fun y => decide (y ∉ f) && f.any fun x => w x y) (f := nD) (i_val (.inl (e_v rfl))) (fun y hy => ?_) (fun y _ _ => e_v rfl) (by unfold big; omega)) ?_) (w_nil ⟨_, some (nD i), rfl, rfl, Rin', ?_⟩)
      · refine t_and (t_cmp (e_v rfl) (e_v rfl) (c_nin (.inl rfl))) fun _ => t_cmp e_l (e_lc (l := f) (enc := nD) (f := fun u => .int (b01 (w u y))) (i_val (.inl (e_v rfl))) (fun u hu => e_w2 (e_v rfl) (e_v rfl) (e_v rfl) (r1.cn u hu).2 (hb y hy)) (by unfold big; omega)) ?_
        show (pyIn (.int 1) (.list (f.map fun u => PySem.PyData.int (b01 (w u y))))).map _ = _
        rw [in_ints (l := f.map fun u => b01 (w u y)) (.inl (by rw [List.map_map]; rfl)), Option.map_some]
        congr 2
        rw [Bool.eq_iff_iff, decide_eq_true_eq, List.any_eq_true, List.mem_map]
        constructor
        · intro ⟨u, a, b⟩; exact ⟨u, a, b01_one.mp b⟩
        · intro ⟨u, a, b⟩; exact ⟨u, a, b01_one.mpr b⟩
      · have := List.length_filter_le (fun y => decide (y ∉ f) && f.any fun x => w x y) left
        show (if (f.map nD).length + ((left.filter fun y => decide (y ∉ f) && f.any fun x => w x y).map nD).length ≤ big then some (PySem.PyData.list (f.map nD ++ (left.filter fun y => decide (y ∉ f) && f.any fun x => w x y).map nD)) else none) = _
        rw [if_pos (by rw [List.length_map, List.length_map]; unfold big; omega), ← List.map_append]; rfl
      · by_cases cl : ∀ x, x ∈ f → ∀ y, y < n → w x y = true → y ∈ f
        · refine .inl fun x hx y hy e => ?_
          rcases List.mem_append.mp hx with z | z
          · exact List.mem_append_left _ (cl x z y hy e)
          · rw [List.mem_filter, Bool.and_eq_true, decide_eq_true_eq, List.any_eq_true] at z
            obtain ⟨z1, z2, x', z3, z4⟩ := z
            exact absurd (cl x' z3 x (hb x z1) z4) z2
        · right
          have r2 := r2.resolve_left cl
          have : ∃ x, x ∈ f ∧ ∃ y, y < n ∧ w x y = true ∧ ¬ y ∈ f := Classical.byContradiction fun q => cl fun x hx y hy e => Classical.byContradiction fun z => q ⟨x, hx, y, hy, e, z⟩
          obtain ⟨x, hx, y, hy, e, z⟩ := this
          have yl : y ∈ left := hcl x (sub x (r1.cn x hx).1) y hy e
          have : y ∈ left.filter fun y => decide (y ∉ f) && f.any fun x => w x y := by
            rw [List.mem_filter, Bool.and_eq_true, decide_eq_true_eq, List.any_eq_true]
            exact ⟨yl, z, x, hx, e⟩
          have := List.length_pos_iff.mpr (List.ne_nil_of_mem this)
          rw [List.length_append, List.length_append, List.length_singleton]
          omega
    · intro S W' ⟨f, a, eS, eW, r1, r2⟩
      subst eS; subst eW
      have cl := r2.resolve_right fun z => by
        rw [List.length_range] at z
        have := List.Nodup.length_le_of_subset r1.nd fun x hx => sub x (r1.cn x hx).1
        omega
      exact w_retP (e_tupL (e_ns rfl (e_v rfl) (f_sortI (rin_piece hs r1 cl) pcL_asc))) rfl
  obtain ⟨d, h1, rfl⟩ := this
  exact h1
theorem atI_last {l : List PD} {d : PD} : atI (l ++ [d]) (-1) = some d := by
  have e : ixN (l ++ [d]).length (-1) = some l.length := by
    unfold ixN
    rw [List.length_append, List.length_singleton, if_neg (by omega), if_pos (by omega)]
    congr 1
    omega
  unfold atI
  rw [e]
  simp
theorem c_neL {a b : List Nat} : pyCmp .NotEq (natL a) (natL b) = some (.bool (decide (a ≠ b))) := by
  show (if (SeqAt.shaped (natL a) && SeqAt.shaped (natL b)) = true then some (PySem.PyData.bool (!PyData.eqvAll (a.map nD) (b.map nD))) else none) = _
  rw [sh_natL, sh_natL, if_pos (by rfl), eqv_nats]
  by_cases h : a = b <;> simp [h]
theorem sp_law_pieces (hk : 2 ≤ k) (W : Web n w) : ∃ ps : List (List Nat), call (FX k) "_law_pieces" [webD n w, natL (List.range n)] = some (.list (ps.map natT)) ∧ Pcs n w ps := by
  obtain ⟨k, rfl, hj⟩ := lev hk
  have hn := W.le
  have : ∃ d, call (FX (k + 1)) "_law_pieces" [webD n w, natL (List.range n)] = some d ∧ ∃ ps : List (List Nat), d = .list (ps.map natT) ∧ Pcs n w ps := by
    refine w_call (ph78 _ _) ?_
    refine w_own (ds := []) (by decide) rfl (e_lst v_nil (by decide)) (w_setP (d := natL (List.range n)) (by decide) (e_ns rfl (e_v rfl) rfl) ?_)
    refine w_iter1 (l := List.range n) (enc := nD) (fun m S W' => ∃ (ps : List (List Nat)) (left : List Nat) (a : Option PD), S = ⟨[some (webD n w), some (natL (List.range n)), none, some (natL left), a, none], [none, none, some (.list (ps.map natT)), none, none, none]⟩ ∧ W' = [] ∧ Asc left ∧ (∀ x, x ∈ left → x < n) ∧ (∀ x, x ∈ left → ∀ y, y < n → w x y = true → y ∈ left) ∧ ps.Pairwise (fun a b => hd a < hd b) ∧ (∀ K, K ∈ ps → ∃ x, x < n ∧ K = pcL n w x) ∧ (∀ x, x < n → x ∈ left ∨ ∃ K, K ∈ ps ∧ x ∈ K) ∧ (∀ K, K ∈ ps → ∀ x, x ∈ left → hd K < x) ∧ left.length + m.length ≤ n ∧ ps.length ≤ m.length) (i_rng (by
      have := e_nlenL (Φ := FX k) (ρ := [some (webD n w), some (natL (List.range n)), none, some (natL (List.range n)), none, none]) (l := List.range n) (a := .var 1) (τ := [some (webD n w), some (natL (List.range n)), some (.list []), some (natL (List.range n)), none, none]) (e_v rfl)
      rw [List.length_range] at this
      exact this) (by omega)) (by decide) ⟨[], List.range n, none, rfl, rfl, List.pairwise_lt_range, fun x h => List.mem_range.mp h, fun x _ y hy _ => List.mem_range.mpr hy, .nil, by simp, fun x hx => .inl (List.mem_range.mpr hx), by simp, by simp, by simp⟩ ?_ ?_
    · intro m i r S W' e ⟨ps, left, a, eS, eW, i1, i2, i3, i4, i5, i6, i7, i8, i9⟩
      subst eS; subst eW
      have ml : m.length < n := by
        have := congrArg List.length e
        rw [List.length_range, List.length_append, List.length_cons] at this
        omega
      refine w_ite (p := decide (left ≠ [])) (t_cmp (e_v rfl) (e_lst v_nil (by decide)) (c_neL (b := []))) (fun q => ?_) (fun q => ?_)
      · have hne := of_decide_eq_true q
        have hh := hd_mem hne
        have hs := i2 _ hh
        have sub : ∀ x, x ∈ pcL n w (hd left) → x ∈ left := fun x h => stay W.sym (P := ofL left) (k := true) (fun a b pa hb' _ e => i3 a pa b hb' e) hh ((mem_pcL hs).mp h)
        have hP : hd (pcL n w (hd left)) = hd left := hd_of pcL_asc (pcL_self hs) fun y hy => hd_le i1 (sub y hy)
        refine w_app (ds := ps.map natT) rfl (e_fn2 (e_v rfl) (e_v rfl) (sp_flood hj W i1 hne i2 i3)) (by rw [List.length_map]; unfold big; omega) ?_
        refine w_setP (d := natL (left.filter fun x => decide (x ∉ pcL n w (hd left)))) (by decide) (e_lcIf (l := left) (enc := nD) (p := fun x => decide (x ∉ pcL n w (hd left))) (f := nD) (i_val (.inl (e_v rfl))) (fun x hx => t_cmp (e_v rfl) (e_ix (e_v rfl) (e_neg (e_l (d := .int 1))) atI_last) (c_nin (.inr rfl))) (fun x _ _ => e_v rfl) (by unfold big; omega)) (w_nil ⟨ps ++ [pcL n w (hd left)], left.filter fun x => decide (x ∉ pcL n w (hd left)), some (nD i), by rw [List.map_append]; rfl, rfl, i1.filter _, fun x hx => i2 x (List.mem_filter.mp hx).1, fun x hx y hy e => ?_, ?_, fun K hK => ?_, fun x hx => ?_, fun K hK x hx => ?_, ?_, by simp; omega⟩)
        · rw [List.mem_filter, decide_eq_true_eq] at hx ⊢
          refine ⟨i3 x hx.1 y hy e, fun z => hx.2 ((mem_pcL hs).mpr ?_)⟩
          have xn := i2 x hx.1
          refine ((mem_pcL hs).mp z).step xn (fun e2 => ?_) (by rw [W.sym]; exact e)
          subst e2
          rw [W.irr] at e; cases e
        · refine List.pairwise_append.mpr ⟨i4, List.pairwise_singleton _ _, fun a ha b hb => ?_⟩
          rw [List.mem_singleton.mp hb, hP]
          exact i7 a ha _ hh
        · rcases List.mem_append.mp hK with z | z
          · exact i5 K z
          · exact ⟨_, hs, List.mem_singleton.mp z⟩
        · rcases i6 x hx with z | ⟨K, k1, k2⟩
          · by_cases q : x ∈ pcL n w (hd left)
            · exact .inr ⟨_, List.mem_append_right _ (List.mem_singleton.mpr rfl), q⟩
            · exact .inl (List.mem_filter.mpr ⟨z, decide_eq_true q⟩)
          · exact .inr ⟨K, List.mem_append_left _ k1, k2⟩
        · rw [List.mem_filter, decide_eq_true_eq] at hx
          rcases List.mem_append.mp hK with z | z
          · exact i7 K z x hx.1
          · rw [List.mem_singleton.mp z, hP]
            have := hd_le i1 hx.1
            have : x ≠ hd left := fun e => hx.2 (by rw [e]; exact pcL_self hs)
            omega
        · have : (left.filter fun x => decide (x ∉ pcL n w (hd left))).length < left.length := Asc.lt (i1.filter _) i1 (fun x hx => (List.mem_filter.mp hx).1) fun e => by
            have : hd left ∈ left.filter fun x => decide (x ∉ pcL n w (hd left)) := by rw [e]; exact hh
            rw [List.mem_filter, decide_eq_true_eq] at this
            exact this.2 (pcL_self hs)
          rw [List.length_append, List.length_singleton]; omega
      · have hne := Classical.not_not.mp (of_decide_eq_false q)
        subst hne
        exact w_nil ⟨ps, [], some (nD i), rfl, rfl, i1, i2, i3, i4, i5, i6, i7, by simp; omega, by simp; omega⟩
    · intro S W' ⟨ps, left, a, eS, eW, i1, i2, i3, i4, i5, i6, i7, i8, i9⟩
      subst eS; subst eW
      have e : left = [] := by
        rw [List.length_range] at i8
        exact List.length_eq_zero_iff.mp (by omega)
      subst e
      refine w_retP (e_v rfl) ⟨ps, rfl, i4, fun K => ⟨i5 K, fun ⟨x, hx, e⟩ => ?_⟩⟩
      rcases i6 x hx with z | ⟨K', k1, k2⟩
      · cases z
      · obtain ⟨u, u1, u2⟩ := i5 K' k1
        rw [u2, mem_pcL u1] at k2
        rw [e, ← pcL_eq W.sym u1 hx k2, ← u2]
        exact k1
  obtain ⟨d, h1, ps, rfl, h2⟩ := this
  exact ⟨ps, h1, h2⟩
end
end SN
end
section
set_option Elab.async false
set_option linter.all false
set_option maxRecDepth 100000
set_option maxHeartbeats 4000000
/-! K12: _law_root_right, _law_told_distance. -/
namespace SN
open PySem L2 LamX NdefX PyProof.Rows
section
variable {k n : Nat} {w v : Nat → Nat → Bool} {F : List (List Nat)} {l : List Nat} {s t u x y a b : Nat} {ps qs : List (List Nat)}
theorem Pcs.sml (hn : n ≤ 12) (h : Pcs n w ps) : ∀ K, K ∈ ps → Sml K := fun K hK => by
  obtain ⟨x, hx, rfl⟩ := (h.mem K).mp hK
  exact ⟨Nat.le_trans pcL_len hn, fun y hy => by have := pcL_lt hx hy; omega⟩
theorem Pcs.len (h : Pcs n w ps) : ps.length ≤ n := by
  have nd : (ps.map hd).Nodup := (List.pairwise_map.mpr h.pw).imp fun q => by omega
  have := nodup_len (n := n) nd fun x hx => by
    obtain ⟨K, hK, rfl⟩ := List.mem_map.mp hx
    obtain ⟨y, hy, rfl⟩ := (h.mem K).mp hK
    exact pcL_lt hy (hd_mem (pcL_ne hy))
  rwa [List.length_map] at this
theorem Pcs.one (hs : ∀ x y, w x y = w y x) (hn : 1 ≤ n) (h : Pcs n w ps) (hc : ∀ x y, x < n → y < n → Cn n w true x y) : ps.length = 1 := by
  have all : ∀ K, K ∈ ps → K = pcL n w 0 := fun K hK => by
    obtain ⟨x, hx, rfl⟩ := (h.mem K).mp hK
    exact pcL_eq hs hx (by omega) (hc x 0 hx (by omega))
  have h0 : pcL n w 0 ∈ ps := (h.mem _).mpr ⟨0, by omega, rfl⟩
  match ps, h, all, h0 with
  | [], _, _, h0 => cases h0
  | [a], _, _, _ => rfl
  | a :: b :: r, h, all, _ =>
    have := (List.pairwise_cons.mp h.pw).1 b (by simp)
    rw [all a (by simp), all b (by simp)] at this
    omega
theorem Pcs.two (h : Pcs n w ps) (ha : a < n) (hb : b < n) (q : ¬ Cn n w true a b) : 2 ≤ ps.length := by
  have h1 : pcL n w a ∈ ps := (h.mem _).mpr ⟨a, ha, rfl⟩
  have h2 : pcL n w b ∈ ps := (h.mem _).mpr ⟨b, hb, rfl⟩
  match ps, h1, h2 with
  | [K], h1, h2 =>
    have e := (List.mem_singleton.mp h1).trans (List.mem_singleton.mp h2).symm
    have : b ∈ pcL n w a := by rw [e]; exact pcL_self hb
    exact absurd ((mem_pcL ha).mp this) q
  | K :: L :: r, _, _ => simp
theorem Pcs.kids (h : Pcs n v ps) (f : Fam n w F) (hs : ∀ x y, w x y = w y x) {k : Bool} (hv : ∀ x y, x < n → (Cn n v true x y ↔ Cn n w k x y)) (ha : a < n) (hb : b < n) (q : ¬ Cn n w k a b) : ps = kids F (List.range n) := by
  refine f.kids_eq h.pw fun K => ?_
  rw [f.root_split hs ha hb q, h.mem]
  constructor
  · rintro ⟨x, hx, rfl⟩
    obtain ⟨m, hm, e⟩ := f.all _ (pc_str (k := k) hs hx) ⟨x, .refl⟩
    have : m = pcL n v x := (f.st m hm).1.ext pcL_asc fun z => by rw [e z, mem_pcL hx, hv x z hx]
    exact ⟨this ▸ hm, x, hx, fun z => by rw [mem_pcL hx, hv x z hx]⟩
  · rintro ⟨hK, x, hx, e⟩
    exact ⟨x, hx, (f.st K hK).1.ext pcL_asc fun z => by rw [e z, mem_pcL hx, hv x z hx]⟩
def dueL (m : List (List (List Nat))) : PD := m.foldl (fun d ps => if 1 < ps.length then .tuple [.str "full", .tuple (ps.map natT)] else d) (.str "prime")
theorem dueL_app {m : List (List (List Nat))} {ps : List (List Nat)} : dueL (m ++ [ps]) = if 1 < ps.length then .tuple [.str "full", .tuple (ps.map natT)] else dueL m := by
  unfold dueL
  rw [List.foldl_append]; rfl
theorem c_gt1 {m : Nat} : pyCmp .Gt (nD m) (.int 1) = some (.bool (decide (1 < m))) := by
  show some (PySem.PyData.bool (decide ((1 : Int) < (m : Int)))) = _
  by_cases h : 1 < m
  · rw [decide_eq_true h, decide_eq_true (by omega)]
  · rw [decide_eq_false h, decide_eq_false (by omega)]
theorem e_llen {Φ : Fns} {ρ τ : Rho} {a : IR} {ps : List (List Nat)} (h : ev Φ a τ τ = some (.list (ps.map natT))) : ev Φ (.bi1 .len a) ρ τ = some (nD ps.length) := by
  have := e_len (ρ := ρ) (.inl h)
  rwa [List.length_map] at this
theorem e_tlen {Φ : Fns} {ρ τ : Rho} {a : IR} {ps : List (List Nat)} (h : ev Φ a τ τ = some (.tuple (ps.map natT))) : ev Φ (.bi1 .len a) ρ τ = some (nD ps.length) := by
  have := e_len (ρ := ρ) (.inr h)
  rwa [List.length_map] at this
theorem sh_full {ps : List (List Nat)} : SeqAt.shaped (.tuple [.str "full", .tuple (ps.map natT)]) = true := by
  have h := dep_lots ps
  show ((PyData.strOk "full" && (PyData.canLayAll0 (ps.map natT) && true)) && decide (max 0 (max (PyData.depthAll (ps.map natT) + 1) 0) + 1 ≤ 64)) = true
  rw [lay_lots, decide_eq_true (by omega), show PyData.strOk ((("full" : String)) : Str) = true by decide +kernel]; rfl
theorem sh_tup1 {l : List Nat} {s : Str} (h : PyData.strOk s = true) : SeqAt.shaped (.tuple [.tuple [.int 0], .str s, .tuple []]) = true := by
  show ((true && (PyData.strOk s && (true && true))) && decide _) = true
  rw [h]; rfl
theorem root_nd (f : Fam n w F) (h2 : 2 ≤ n) : ndD w F (List.range n) = .tuple [natT (List.range n), .str (kstr (kindc w (kids F (List.range n)))), .tuple ((kids F (List.range n)).map natT)] := by
  unfold ndD kndS kdsOr
  rw [if_neg (by rw [List.length_range]; omega), if_neg (by rw [List.length_range]; omega)]
theorem sp_root_right (hk : 31 ≤ k) (W : Web n w) (f : Fam n w F) : call (FX k) "_law_root_right" [webD n w, ndD w F (List.range n)] = some (.bool true) := by
  obtain ⟨k, rfl, hj⟩ := lev (b := 30) hk
  have hn := W.le
  have pos := W.pos
  have M := W.mir
  have rt := f.root pos
  obtain ⟨ps, p1, p2⟩ := sp_law_pieces (k := k) (by omega) W
  obtain ⟨qs, q1, q2⟩ := sp_law_pieces (k := k) (by omega) M
  obtain ⟨ps', p3, p4⟩ := sp_pieces (k := k) (by omega) W
  obtain ⟨qs', q3, q4⟩ := sp_pieces (k := k) (by omega) M
  obtain rfl := p4.uniq p2
  obtain rfl := q4.uniq q2
  have pl := p2.len
  have ql := q2.len
  have : ∃ d, call (FX (k + 1)) "_law_root_right" [webD n w, ndD w F (List.range n)] = some d ∧ d = .bool true := by
    refine w_call (ph81 _ _) ?_
    refine w_setP (d := natL (List.range n)) (by decide) (e_lrng (e_wlen (e_v rfl)) (by omega)) ?_
    refine w_setP (d := .list (ps'.map natT)) (by decide) (e_fn2 (e_v rfl) (e_v rfl) p1) ?_
    refine w_setP (d := .list (qs'.map natT)) (by decide) (e_fn2 (e_fn1 (e_v rfl) (sp_law_mirrored (by omega) W)) (e_v rfl) q1) ?_
    refine w_itF (t_orF (t_notT (t_vb (e_fn2 (e_fn1 (e_v rfl) p3) (e_v rfl) (sp_same_lots (by omega) (by omega) (p2.sml hn))))) (t_notT (t_vb (e_fn2 (e_fn1 (e_fn1 (e_v rfl) (sp_mirrored (by omega) W)) q3) (e_v rfl) (sp_same_lots (by omega) (by omega) (q2.sml hn)))))) ?_
    have e2 : ∀ {ρ τ : Rho}, getR τ 2 = some (natL (List.range n)) → ev (FX k) (.bi1 .len (.var 2)) ρ τ = some (nD n) := fun {ρ τ} h => by
      have := e_nlenL (Φ := FX k) (ρ := ρ) (a := .var 2) (e_v h)
      rwa [List.length_range] at this
    by_cases h1 : n = 1
    · subst h1
      refine w_itT (t_cmp (e2 rfl) (e_l (d := nD 1)) (by rw [c_eqN]; rfl)) ?_
      have e : ndD w F (List.range 1) = .tuple [.tuple [.int 0], .str "leaf", .tuple []] := by
        unfold ndD kndS kdsOr
        rw [if_pos (by simp), if_pos (by simp)]; rfl
      rw [e]
      exact w_retP (e_cmp (e_v rfl) (e_tup (v_cons (e_tup (v_cons e_l v_nil) (by show 1 ≤ 1000; decide)) (v_cons e_l (v_cons (e_tup v_nil (by decide)) v_nil))) (by show 3 ≤ 1000; decide)) (c_eqD (sh_tup1 (l := []) (by decide +kernel)))) rfl
    have n2 : 2 ≤ n := by omega
    refine w_itF (t_cmp (e2 rfl) (e_l (d := nD 1)) (by rw [c_eqN, decide_eq_false h1])) ?_
    refine w_setP (d := .str "prime") (by decide) e_l ?_
    rw [root_nd f n2]
    generalize hroot : PySem.PyData.tuple [natT (List.range n), .str (kstr (kindc w (kids F (List.range n)))), .tuple ((kids F (List.range n)).map natT)] = root
    refine w_iter1 (l := [ps', qs']) (enc := fun ps => .list (ps.map natT)) (fun m S W' => ∃ a : Option PD, S = ⟨[some (webD n w), some root, some (natL (List.range n)), some (.list (ps'.map natT)), some (.list (qs'.map natT)), some (dueL m), a, none, none], List.replicate 9 none⟩ ∧ W' = []) (i_val (.inl (e_lst (v_cons (e_v rfl) (v_cons (e_v rfl) v_nil)) (by show 2 ≤ 1000; decide)))) (by decide) ⟨none, rfl, rfl⟩ ?_ ?_
    · intro m x r S W' e ⟨a, eS, eW⟩
      subst eS; subst eW
      refine w_ite (p := decide (1 < x.length)) (t_cmp (e_llen (e_v rfl)) e_l c_gt1) (fun q => ?_) (fun q => ?_)
      · refine w_setP (d := .tuple [.str "full", .tuple (x.map natT)]) (by decide) (e_tup (v_cons e_l (v_cons (e_tupL (e_v rfl)) v_nil)) (by show 2 ≤ 1000; decide)) (w_nil ⟨some (.list (x.map natT)), ?_, rfl⟩)
        rw [dueL_app, if_pos (of_decide_eq_true q)]; rfl
      · refine w_nil ⟨some (.list (x.map natT)), ?_, rfl⟩
        rw [dueL_app, if_neg (of_decide_eq_false q)]; rfl
    intro S W' ⟨a, eS, eW⟩
    subst eS; subst eW
    have ed : dueL [ps', qs'] = if 1 < qs'.length then .tuple [.str "full", .tuple (qs'.map natT)] else if 1 < ps'.length then .tuple [.str "full", .tuple (ps'.map natT)] else .str "prime" := by
      show dueL ([ps'] ++ [qs']) = _
      rw [dueL_app, show dueL [ps'] = dueL ([] ++ [ps']) from rfl, dueL_app]; rfl
    have tail : ∀ (c : Bool) (rs : List (List Nat)), rs = kids F (List.range n) → kindc w (kids F (List.range n)) = some c → 1 < rs.length → decide (1 < qs'.length) = c → ¬ (1 < ps'.length ∧ 1 < qs'.length) → dueL [ps', qs'] = .tuple [.str "full", .tuple (rs.map natT)] →
        WX (FX k) noW 1000 FU [.ite (.tAnd (.tCmp .Gt (.bi1 .len (.var 3)) (.lit (.int 1))) (.tCmp .Gt (.bi1 .len (.var 4)) (.lit (.int 1)))) [.ret [] (.pure (.lit (.bool false)))] [], .ite (.tCmp .Eq (.var 5) (.lit (.str "prime"))) [.ret [] (.pure (.cmp .Eq (.ix (.var 1) (.lit (.int 1))) (.lit (.str "prime"))))] [], .set 7 [] (.pure (.bi1 .int (.cmp .Gt (.bi1 .len (.var 4)) (.lit (.int 1))))), .set 8 [] (.pure (.fn "quotient" [.var 0, .ix (.var 1) (.lit (.int 0))])), .ret [] (.pure (.andV (.cmp .Eq (.sl (.var 1) (some 1) none) (.var 5)) (.andV (.cmp .Eq (.ix (.ix (.var 8) (.lit (.int 0))) (.lit (.int 1))) (.var 7)) (.cmp .Eq (.ix (.ix (.var 8) (.lit (.int 1))) (.lit (.int 0))) (.var 7)))))] ⟨[some (webD n w), some root, some (natL (List.range n)), some (.list (ps'.map natT)), some (.list (qs'.map natT)), some (dueL [ps', qs']), a, none, none], List.replicate 9 none⟩ [] (RT fun d _ => d = .bool true) := by
      intro c rs er ec l1 lc nb du
      have k2 : 2 ≤ (kids F (List.range n)).length := by rw [← er]; omega
      rw [du]
      rw [ec, ← er] at hroot
      subst hroot
      have gt3 : evT (FX k) (.tAnd (.tCmp .Gt (.bi1 .len (.var 3)) (.lit (.int 1))) (.tCmp .Gt (.bi1 .len (.var 4)) (.lit (.int 1)))) [some (webD n w), some (.tuple [natT (List.range n), .str (kstr (some c)), .tuple (rs.map natT)]), some (natL (List.range n)), some (.list (ps'.map natT)), some (.list (qs'.map natT)), some (.tuple [.str "full", .tuple (rs.map natT)]), a, none, none] = some (decide (1 < ps'.length) && decide (1 < qs'.length)) := t_and (t_cmp (e_llen (e_v rfl)) e_l c_gt1) fun _ => t_cmp (e_llen (e_v rfl)) e_l c_gt1
      rw [show (decide (1 < ps'.length) && decide (1 < qs'.length)) = false from by
        cases z : (decide (1 < ps'.length) && decide (1 < qs'.length)) with
        | false => rfl
        | true =>
          rw [Bool.and_eq_true, decide_eq_true_eq, decide_eq_true_eq] at z
          exact absurd z nb] at gt3
      refine w_itF gt3 (w_itF (t_cmp (p := false) (e_v rfl) e_l ?_) ?_)
      · show (if (SeqAt.shaped (.tuple [.str "full", .tuple (rs.map natT)]) && SeqAt.shaped (.str "prime")) = true then some (PySem.PyData.bool false) else none) = _
        rw [sh_full, if_pos (by decide +kernel)]
      have ec7 : ∀ {ρ τ : Rho}, getR τ 4 = some (.list (qs'.map natT)) → ev (FX k) (.bi1 .int (.cmp .Gt (.bi1 .len (.var 4)) (.lit (.int 1)))) ρ τ = some (.int (b01 c)) := fun {ρ τ} h => by
        refine e_sc rfl (e_cmp (e_llen (e_v h)) e_l c_gt1) ?_ rfl
        rw [lc]
        cases c <;> rfl
      have qq := fun {i j : Nat} (hi : i < (kids F (List.range n)).length) (hj : j < (kids F (List.range n)).length) (h : i ≠ j) => (kindc_kc (w := w) (ks := kids F (List.range n))).one c ec i j hi hj h
      refine w_setP (by decide) (ec7 rfl) (w_setP (d := webD (kids F (List.range n)).length (qv w (kids F (List.range n)))) (by decide) (e_fn2 (e_v rfl) (e_ix (e_v rfl) (e_l (d := nD 0)) rfl) (sp_quotient hj W f rt (by rw [List.length_range]; omega))) ?_)
      refine w_retP (e_andT (e_cmp (e_sl (e_v rfl) rfl) (e_v rfl) (c_eqD sh_full)) (e_andT (e_cmp (e_w2 (e_v rfl) (e_l (d := nD 0)) (e_l (d := nD 1)) (by omega) (by omega)) (e_v rfl) ?_) (e_cmp (e_w2 (e_v rfl) (e_l (d := nD 1)) (e_l (d := nD 0)) (by omega) (by omega)) (e_v rfl) ?_))) rfl
      · rw [qq (by omega) (by omega) (by omega), c_eq, decide_eq_true rfl]
      · rw [qq (by omega) (by omega) (by omega), c_eq, decide_eq_true rfl]
    by_cases jt : ∃ a b, a < n ∧ b < n ∧ ¬ Cn n w true a b
    · obtain ⟨a0, b0, ha, hb, q⟩ := jt
      have l1 := p2.two ha hb q
      have l2 := q2.one M.sym pos fun x y hx hy => (mw_cn hx).mpr (Cn.other W.sym ha hb q hx hy)
      refine tail false ps' (p2.kids f W.sym (k := true) (fun x y _ => Iff.rfl) ha hb q) (f.kind_split W.sym ha hb q) (by omega) (decide_eq_false (by omega)) (by omega) ?_
      rw [ed, if_neg (by omega), if_pos (by omega)]
    · have cj : ∀ a b, a < n → b < n → Cn n w true a b := fun a b ha hb => Classical.byContradiction fun z => jt ⟨a, b, ha, hb, z⟩
      have l1 := p2.one W.sym pos cj
      by_cases jf : ∃ a b, a < n ∧ b < n ∧ ¬ Cn n w false a b
      · obtain ⟨a0, b0, ha, hb, q⟩ := jf
        have l2 := q2.two ha hb fun z => q ((mw_cn ha).mp z)
        refine tail true qs' (q2.kids f W.sym (k := false) (fun x y hx => mw_cn hx) ha hb q) (f.kind_split W.sym ha hb q) (by omega) (decide_eq_true (by omega)) (by omega) ?_
        rw [ed, if_pos (by omega)]
      · have cf : ∀ a b, a < n → b < n → Cn n w false a b := fun a b ha hb => Classical.byContradiction fun z => jf ⟨a, b, ha, hb, z⟩
        have l2 := q2.one M.sym pos fun x y hx hy => (mw_cn hx).mpr (cf x y hx hy)
        have kj := f.kind_joined W.sym n2 fun k a b ha hb => by
          cases k with
          | true => exact cj a b ha hb
          | false => exact cf a b ha hb
        rw [kj] at hroot
        subst hroot
        rw [ed, if_neg (by omega), if_neg (by omega)]
        refine w_itF (t_andF (t_cmp (e_llen (e_v rfl)) e_l (by rw [c_gt1, decide_eq_false (by omega)]))) (w_itT (t_cmp (x := .str "prime") (e_v rfl) e_l (c_eqS (by decide +kernel) (by decide +kernel))) ?_)
        exact w_retP (e_cmp (e_ix (e_v rfl) (e_l (d := nD 1)) rfl) e_l (c_eqS (a := "prime") (by decide +kernel) (by decide +kernel))) rfl
  obtain ⟨d, h1, rfl⟩ := this
  exact h1
/-! ### told distances -/
theorem first_ix {m : Nat} {p : Nat → Bool} {i : Nat} (hi : i < m) (h : ∀ j, j < m → (p j = true ↔ j = i)) : (List.range m).filter p = [i] := by
  refine Asc.ext (List.pairwise_lt_range.filter _) (List.pairwise_singleton _ _) fun j => ?_
  rw [List.mem_filter, List.mem_range, List.mem_singleton]
  exact ⟨fun z => (h j z.1).mp z.2, fun z => by subst z; exact ⟨hi, (h _ hi).mpr rfl⟩⟩
theorem sp_told (hk : 31 ≤ k) (W : Web n w) (f : Fam n w F) {L : List (List Nat)} (hL : ∀ l, l ∈ L ↔ l ∈ F) (hLl : L.length ≤ 200) (hab : a < b) (hb : b < n) (hw : w a b = false) :
    ∃ e : Option Nat, call (FX k) "_law_told_distance" [webD n w, .list (L.map (ndD w F)), nD a, nD b] = some (dD e) ∧ Dst w a b e := by
  obtain ⟨k, rfl, hj⟩ := lev (b := 30) hk
  have hn := W.le
  have ha : a < n := by omega
  obtain ⟨l, l1, l2, l3⟩ := sp_least_strong (k := k) (by omega) W hab hb
  have hl : l ∈ F := by
    obtain ⟨m, hm, e⟩ := f.exls ha hb
    have : m = l := (f.st m hm).1.ext l2 fun z => (e z).trans (l3 z).symm
    exact this ▸ hm
  obtain ⟨t0, t1, t2, t3⟩ := f.told W.sym W.bd W.irr ha hb (by omega) hw hl l3
  have al : a ∈ l := (l3 a).mpr ls_l
  have bl : b ∈ l := (l3 b).mpr ls_r
  have ks2 := f.kids_two hl t0
  have kl := f.kids_le (l := l)
  have W2 := f.qweb W (l := l) (by omega)
  have ex : ((List.range n).any fun z => decide (z ∉ l) && w a z) = true ↔ ∃ z, ¬ z ∈ l ∧ w a z = true := by
    rw [List.any_eq_true]
    constructor
    · intro ⟨z, _, z2⟩
      rw [Bool.and_eq_true, decide_eq_true_eq] at z2
      exact ⟨z, z2⟩
    · intro ⟨z, z1, z2⟩
      exact ⟨z, List.mem_range.mpr (W.bd _ _ z2).2, by rw [Bool.and_eq_true, decide_eq_true_eq]; exact ⟨z1, z2⟩⟩
  have : ∃ d, call (FX (k + 1)) "_law_told_distance" [webD n w, .list (L.map (ndD w F)), nD a, nD b] = some d ∧ ∃ e : Option Nat, d = dD e ∧ Dst w a b e := by
    refine w_call (ph82 _ _) ?_
    refine w_setP (d := natT l) (by decide) (e_fn2 (e_v rfl) (e_tup (v_cons (e_v rfl) (v_cons (e_v rfl) v_nil)) (by show 2 ≤ 1000; decide)) l1) ?_
    refine w_ite (p := (List.range n).any fun z => decide (z ∉ l) && w a z) (t_cmp e_l (e_lcIf (l := List.range n) (enc := nD) (p := fun z => decide (z ∉ l)) (f := fun z => .int (b01 (w a z))) (i_rng (e_wlen (e_v rfl)) (by omega)) (fun z hz => t_cmp (e_v rfl) (e_v rfl) (c_nin (.inr rfl))) (fun z hz _ => e_w2 (e_v rfl) (e_v rfl) (e_v rfl) ha (List.mem_range.mp hz)) (len_rng_big (by omega))) ?_) (fun q => ?_) (fun q => ?_)
    · show (pyIn (.int 1) (.list (((List.range n).filter fun z => decide (z ∉ l)).map fun z => PySem.PyData.int (b01 (w a z))))).map _ = _
      rw [in_ints (l := ((List.range n).filter fun z => decide (z ∉ l)).map fun z => b01 (w a z)) (.inl (by rw [List.map_map]; rfl)), Option.map_some]
      congr 2
      rw [Bool.eq_iff_iff, decide_eq_true_eq, ex, List.mem_map]
      constructor
      · intro ⟨z, z1, z2⟩
        rw [List.mem_filter, decide_eq_true_eq] at z1
        exact ⟨z, z1.2, b01_one.mp z2⟩
      · intro ⟨z, z1, z2⟩
        exact ⟨z, List.mem_filter.mpr ⟨List.mem_range.mpr (W.bd _ _ z2).2, decide_eq_true z1⟩, b01_one.mpr z2⟩
    · exact w_retP (e_l (d := nD 2)) ⟨some 2, rfl, t1 (ex.mp q)⟩
    have ho : ∀ z, ¬ z ∈ l → w a z = false := fun z hz => by
      cases e : w a z with
      | false => rfl
      | true =>
        have := ex.mpr ⟨z, hz, e⟩
        rw [q] at this; cases this
    have kn : ndD w F l = .tuple [natT l, .str (kstr (kindc w (kids F l))), .tuple ((kids F l).map natT)] := by
      unfold ndD kndS kdsOr
      rw [if_neg (by omega), if_neg (by omega)]
    have hf : l ∈ L.filter fun m => decide (m = l) := List.mem_filter.mpr ⟨(hL l).mpr hl, by simp⟩
    refine w_setP (d := ndD w F l) (by decide) (e_ix (e_lcIf (l := L) (enc := ndD w F) (p := fun m => decide (m = l)) (f := ndD w F) (i_val (.inl (e_v rfl))) (fun m hm => t_cmp (e_ix (e_v rfl) (e_l (d := nD 0)) (show pyIx (ndD w F m) (nD 0) = some (natT m) from rfl)) (e_v rfl) c_eqT) (fun m _ _ => e_v rfl) (by unfold big; omega)) (e_l (d := nD 0)) ?_) ?_
    · cases e : L.filter fun m => decide (m = l) with
      | nil => rw [e] at hf; cases hf
      | cons m r =>
        have : m ∈ L.filter fun m => decide (m = l) := by rw [e]; exact List.mem_cons_self ..
        rw [List.mem_filter, decide_eq_true_eq] at this
        rw [this.2]; exact atI_0
    rw [kn]
    cases hc : kindc w (kids F l) with
    | some c =>
      exact w_itT (t_cmp (e_ix (e_v rfl) (e_l (d := nD 1)) rfl) e_l (c_eqS (a := "full") (by decide +kernel) (by decide +kernel))) (w_retP e_l ⟨none, rfl, t2 ho c hc⟩)
    | none =>
      refine w_itF (t_cmp (e_ix (e_v rfl) (e_l (d := nD 1)) rfl) e_l (by rw [c_eqS (a := kstr none) (by decide +kernel) (by decide +kernel)]; exact congrArg (fun b => some (PySem.PyData.bool b)) (by decide +kernel))) ?_
      have pick : ∀ {x i : Nat} {ρ τ : Rho}, x ∈ l → getR ρ i = getR τ i → (τ.set 9 none).length = 10 → i < 9 → getR τ i = some (nD x) → getR τ 5 = some (.tuple [natT l, .str (kstr none), .tuple ((kids F l).map natT)]) → ρ.length = 10 →
          ev (FX k) (.ix (.lcIf (.rng1 (.bi1 .len (.ix (.var 5) (.lit (.int 2))))) (.one 9) [9] (.tCmp .In (.var i) (.ix (.ix (.var 5) (.lit (.int 2))) (.var 9))) (.var 9)) (.lit (.int 0))) ρ τ = some (nD (ixk (kids F l) x)) := by
        intro x i ρ τ hx _ ht i9 hxi h5 hρ
        rw [List.length_set] at ht
        obtain ⟨x1, x2⟩ := f.ix hl t0 hx
        refine e_ix (e_lcIf (l := List.range (kids F l).length) (enc := nD) (p := fun i => decide (x ∈ kd (kids F l) i)) (f := nD) (i_rng (e_tlen (e_ix (e_v h5) (e_l (d := nD 2)) rfl)) (by omega)) (fun j hj => ?_) (fun j _ _ => ?_) (len_rng_big (by omega))) (e_l (d := nD 0)) ?_
        · rw [List.mem_range] at hj
          have g : ∀ m, m < 9 → getR ((wipeR τ [9]).set 9 (some (nD j))) m = getR τ m := fun m hm => by
            unfold getR
            show ((((τ.set 9 none)).set 9 (some (nD j)))[m]?).getD none = _
            rw [List.getElem?_set_ne (by omega), List.getElem?_set_ne (by omega)]
          have g9 : getR ((wipeR τ [9]).set 9 (some (nD j))) 9 = some (nD j) := by
            unfold getR
            show ((((τ.set 9 none)).set 9 (some (nD j)))[9]?).getD none = _
            rw [List.getElem?_set_self (by rw [List.length_set]; omega)]; rfl
          refine t_cmp (e_v ((g i i9).trans hxi)) (e_ix (e_ix (e_v ((g 5 (by omega)).trans h5)) (e_l (d := nD 2)) rfl) (e_v g9) (ix_map hj)) ?_
          rw [kd_getElem hj]
          exact c_in (.inr rfl)
        · show getR ((((ρ.set 9 none)).set 9 (some (nD j)))) 9 = _
          unfold getR
          rw [List.getElem?_set_self (by rw [List.length_set]; omega)]; rfl
        · rw [first_ix x1 fun j hj => by
            rw [decide_eq_true_eq]
            exact ⟨fun z => (f.ix_eq hl t0 hj z).symm, fun z => by rw [z]; exact x2⟩]
          rfl
      refine w_setP (by decide) (pick al rfl rfl (by decide) rfl rfl rfl) (w_setP (by decide) (pick bl rfl rfl (by decide) rfl rfl rfl) ?_)
      obtain ⟨δ, d1, d2⟩ := sp_law_far (k := k) (by omega) W2
      obtain ⟨a1, a2⟩ := f.ix hl t0 al
      obtain ⟨b1, b2⟩ := f.ix hl t0 bl
      exact w_retP (e_ix (e_ix (e_fn1 (e_fn2 (e_v rfl) (e_v rfl) (sp_quotient hj W f hl t0)) d1) (e_v rfl) (ix_rngL a1)) (e_v rfl) (ix_rngL b1)) ⟨_, rfl, t3 ho _ (d2 _ _ a1)⟩
  obtain ⟨d, h1, e, rfl, h2⟩ := this
  exact ⟨e, h1, h2⟩
end
end SN
end
section
set_option Elab.async false
set_option linter.all false
set_option maxRecDepth 100000
set_option maxHeartbeats 4000000
/-! K13: draws; webs with a thing more; webs renumbered. -/
namespace SN
open PySem L2 LamX NdefX PyProof.Rows
theorem ps65 {fu k : Nat} : psi fu (k + 1) "_law_draw" = some drawS := by
  show (fnIx "_law_draw").bind (semW fu k (phi fu k) (psi fu k)) = _
  rw [show fnIx "_law_draw" = some 65 by kernel_rfl]
  show semW fu k (phi fu k) (psi fu k) 65 = _
  unfold semW
  rw [if_pos rfl]
theorem ps66 {fu k : Nat} (h : 1 ≤ k) : psi fu (k + 1) "_law_row" = some rowS := by
  show (fnIx "_law_row").bind (semW fu k (phi fu k) (psi fu k)) = _
  rw [show fnIx "_law_row" = some 66 by kernel_rfl]
  show semW fu k (phi fu k) (psi fu k) 66 = _
  unfold semW
  rw [if_neg (by decide), if_pos rfl, if_pos h]
theorem ps69 {fu k : Nat} : psi fu (k + 1) "_law_loose" = some (looseS (phi fu k) (psi fu k)) := by
  show (fnIx "_law_loose").bind (semW fu k (phi fu k) (psi fu k)) = _
  rw [show fnIx "_law_loose" = some 69 by kernel_rfl]
  show semW fu k (phi fu k) (psi fu k) 69 = _
  unfold semW
  rw [if_neg (by decide), if_neg (by decide), if_pos rfl]
theorem ps74 {fu k : Nat} : psi fu (k + 1) "_law_line" = some (lineS (phi fu k) (psi fu k)) := by
  show (fnIx "_law_line").bind (semW fu k (phi fu k) (psi fu k)) = _
  rw [show fnIx "_law_line" = some 74 by kernel_rfl]
  show semW fu k (phi fu k) (psi fu k) 74 = _
  unfold semW
  rw [if_neg (by decide), if_neg (by decide), if_neg (by decide), if_pos rfl]
abbrev WN (k : Nat) : Wns := psi FU k
section
variable {Φ : Fns} {Ψ : Wns} {ρ τ : Rho} {W W1 W2 W3 : WT} {n : Str} {a b c : XW} {e : IR} {x y z d : PD} {r : PD × WT}
theorem X_p (h : ev Φ e ρ τ = some d) : evX Φ Ψ (.pure e) ρ τ W = some (d, W) := xp (evV_of h)
theorem X_w0 (h : callW Ψ n [] W = some r) : evX Φ Ψ (.wfn n []) ρ τ W = some r := by
  unfold evX evXs
  exact h
theorem X_w1 (h1 : evX Φ Ψ a ρ τ W = some (x, W1)) (h : callW Ψ n [x] W1 = some r) : evX Φ Ψ (.wfn n [a]) ρ τ W = some r := by
  unfold evX evXs evXs
  rw [h1]; exact h
theorem X_w2 (h1 : evX Φ Ψ a ρ τ W = some (x, W1)) (h2 : evX Φ Ψ b ρ τ W1 = some (y, W2)) (h : callW Ψ n [x, y] W2 = some r) : evX Φ Ψ (.wfn n [a, b]) ρ τ W = some r := by
  unfold evX evXs evXs evXs
  rw [h1]
  show (Ψ n).bind (fun f => (((evX Φ Ψ b ρ τ W1).bind fun r => (some (([] : List PD), r.2)).map fun q => (r.1 :: q.1, q.2)).map fun q => (x :: q.1, q.2)).bind fun r => f r.1 r.2) = _
  rw [h2]; exact h
theorem X_f3 (h1 : evX Φ Ψ a ρ τ W = some (x, W1)) (h2 : evX Φ Ψ b ρ τ W1 = some (y, W2)) (h3 : evX Φ Ψ c ρ τ W2 = some (z, W3)) (h : call Φ n [x, y, z] = some d) : evX Φ Ψ (.fn n [a, b, c]) ρ τ W = some (d, W3) := by
  unfold evX evXs evXs evXs evXs
  rw [h1]
  show (Φ n).bind (fun f => (((evX Φ Ψ b ρ τ W1).bind fun r => ((evX Φ Ψ c ρ τ r.2).bind fun r => (some (([] : List PD), r.2)).map fun q => (r.1 :: q.1, q.2)).map fun q => (r.1 :: q.1, q.2)).map fun q => (x :: q.1, q.2)).bind fun r => (f r.1).map fun d => (d, r.2)) = _
  rw [h2]
  show (Φ n).bind (fun f => (((((evX Φ Ψ c ρ τ W2).bind fun r => (some (([] : List PD), r.2)).map fun q => (r.1 :: q.1, q.2)).map fun q => (y :: q.1, q.2))).map fun q => (x :: q.1, q.2)).bind fun r => (f r.1).map fun d => (d, r.2)) = _
  rw [h3]
  unfold call at h
  cases q : Φ n with
  | none => rw [q] at h; cases h
  | some f =>
    rw [q] at h
    have h : f [x, y, z] = some d := h
    show (f [x, y, z]).map (fun d => (d, W3)) = _
    rw [h]; rfl
theorem X_bin {op : Operator} (h1 : evX Φ Ψ a ρ τ W = some (x, W1)) (h2 : evX Φ Ψ b ρ τ W1 = some (y, W2)) (h : pyBin op x y = some d) : evX Φ Ψ (.bin op a b) ρ τ W = some (d, W2) := by
  unfold evX
  rw [h1, Option.bind_some, h2, Option.bind_some, h]; rfl
theorem X_cmp {op : CmpOp} (h1 : evX Φ Ψ a ρ τ W = some (x, W1)) (h2 : evX Φ Ψ b ρ τ W1 = some (y, W2)) (h : pyCmp op x y = some d) : evX Φ Ψ (.cmp op a b) ρ τ W = some (d, W2) := by
  unfold evX
  rw [h1, Option.bind_some, h2, Option.bind_some, h]; rfl
theorem X_ix (h1 : evX Φ Ψ a ρ τ W = some (x, W1)) (h2 : evX Φ Ψ b ρ τ W1 = some (y, W2)) (h : pyIx x y = some d) : evX Φ Ψ (.ix a b) ρ τ W = some (d, W2) := by
  unfold evX
  rw [h1, Option.bind_some, h2, Option.bind_some, h]; rfl
theorem X_bi1 {f : Bi} (h1 : evX Φ Ψ a ρ τ W = some (x, W1)) (h : pyFn f [x] = some d) : evX Φ Ψ (.bi1 f a) ρ τ W = some (d, W1) := by
  unfold evX
  rw [h1, Option.bind_some, h]; rfl
end
theorem callW_rt {Φ : Fns} {Ψ Ψ' : Wns} {fu m : Nat} {q : List SR} {n : Str} {ds : List PD} {W : WT} {P : PD → WT → Prop} (h : Ψ' n = some (runW Φ Ψ fu m q)) (h2 : WX Φ Ψ 0 fu q (st0 m (none :: ds.map some)) W (RT P)) : ∃ d W', callW Ψ' n ds W = some (d, W') ∧ P d W' := by
  obtain ⟨o, h1, h3⟩ := h2
  cases o with
  | nx S W => exact absurd h3 id
  | rt d W' =>
    refine ⟨d, W', ?_, h3⟩
    unfold callW
    rw [h]
    show (execs Φ Ψ 0 fu q (st0 m (none :: ds.map some)) W).map _ = _
    rw [h1]; rfl
section
variable {k n : Nat} {w : Nat → Nat → Bool} {W : WT}
theorem draw_ok' {m : Nat} (hm : 1 ≤ m) (W : WT) : ∃ i W', drawS [nD m] W = some (nD i, W') ∧ i < m := by
  unfold drawS
  show ∃ i W', (if 0 < (m : Int) then (match W.getLast? with
    | none => some (PySem.PyData.int 0, W)
    | some x => some (.int (x % m), W.dropLast)) else none) = some (nD i, W') ∧ i < m
  rw [if_pos (by omega)]
  cases W.getLast? with
  | none => exact ⟨0, W, rfl, by omega⟩
  | some x =>
    have h1 := Int.emod_nonneg x (show (m : Int) ≠ 0 by omega)
    have h2 := Int.emod_lt_of_pos x (show 0 < (m : Int) by omega)
    refine ⟨(x % m).toNat, W.dropLast, ?_, by omega⟩
    show some (PySem.PyData.int (x % m), W.dropLast) = some (PySem.PyData.int (((x % m).toNat : Nat) : Int), W.dropLast)
    rw [show (((x % m).toNat : Nat) : Int) = x % m by omega]
theorem drw (hk : 1 ≤ k) {m : Nat} (hm : 1 ≤ m) (W : WT) : ∃ i W', callW (WN k) "_law_draw" [nD m] W = some (nD i, W') ∧ i < m := by
  obtain ⟨k, rfl, hj⟩ := lev hk
  obtain ⟨i, W', h1, h2⟩ := draw_ok' hm W
  refine ⟨i, W', ?_, h2⟩
  show (psi FU (k + 1) "_law_draw").bind _ = _
  rw [ps65]; exact h1
theorem erase_perm {α : Type} : ∀ {l : List α} {i : Nat} (h : i < l.length), (l[i] :: l.eraseIdx i).Perm l
  | [], i, h => by cases h
  | a :: l, 0, h => .refl _
  | a :: l, i + 1, h => (List.Perm.swap a _ _).trans ((erase_perm (l := l) (i := i) (by simpa using h)).cons a)
theorem rowGo_ok : ∀ (m : Nat) (left : List Nat) (W : WT), left.length = m → ∃ r W', rowGo m (castL left) W = some (castL r, W') ∧ r.Perm left
  | 0, left, W, h => ⟨[], W, rfl, by rw [List.length_eq_zero_iff.mp h]⟩
  | m + 1, left, W, h => by
    obtain ⟨i, W1, h1, h2⟩ := draw_ok' (m := left.length) (by omega) W
    obtain ⟨r, W2, g1, g2⟩ := rowGo_ok m (left.eraseIdx i) W1 (by rw [List.length_eraseIdx_of_lt h2]; omega)
    refine ⟨left[i] :: r, W2, ?_, (g2.cons _).trans (erase_perm h2)⟩
    have e0 : rowGo (m + 1) (castL left) W = (drawS [.int (castL left).length] W).bind fun r => match r.1 with
      | .int i => if 0 ≤ i then ((castL left)[i.toNat]?).bind fun y => (rowGo m ((castL left).eraseIdx i.toNat) r.2).map fun q => (y :: q.1, q.2) else none
      | _ => none := rfl
    rw [e0, show (castL left).length = left.length by unfold castL; rw [List.length_map], h1, Option.bind_some]
    show (if 0 ≤ (i : Int) then ((castL left)[(i : Int).toNat]?).bind fun y => (rowGo m ((castL left).eraseIdx (i : Int).toNat) W1).map fun q => (y :: q.1, q.2) else none) = _
    rw [if_pos (by omega), Int.toNat_natCast]
    unfold castL at g1 ⊢
    rw [List.getElem?_map, List.getElem?_eq_getElem h2, erase_map, g1]; rfl
theorem sp_row (hk : 2 ≤ k) (hn : n ≤ 12) (W : WT) : ∃ r W', callW (WN k) "_law_row" [nD n] W = some (natT r, W') ∧ r.Perm (List.range n) := by
  obtain ⟨k, rfl, hj⟩ := lev hk
  obtain ⟨r, W', h1, h2⟩ := rowGo_ok n (List.range n) W (by simp)
  refine ⟨r, W', ?_, h2⟩
  show (psi FU (k + 1) "_law_row").bind _ = _
  rw [ps66 hj]
  show (if 0 ≤ (n : Int) ∧ (n : Int) ≤ 1000 then (rowGo (n : Int).toNat ((List.range (n : Int).toNat).map fun (i : Nat) => (i : Int)) W).map fun r => (PySem.PyData.tuple (r.1.map .int), r.2) else none) = _
  have h1 : rowGo n ((List.range n).map fun (i : Nat) => (i : Int)) W = some (castL r, W') := h1
  rw [if_pos (by omega), Int.toNat_natCast, h1, Option.map_some, natT, map_nD]; rfl
/-! ### rows -/
def rowL (n : Nat) (w : Nat → Nat → Bool) (x : Nat) : PD := .list ((List.range n).map fun y => .int (b01 (w x y)))
def rowsD (n : Nat) (w : Nat → Nat → Bool) : PD := .list ((List.range n).map fun x => rowL n w x)
section
variable {Φ : Fns} {ρ τ : Rho} {a b c : IR} {x y : Nat}
theorem e_rl (h1 : ev Φ a ρ τ = some (rowsD n w)) (h2 : ev Φ b τ τ = some (nD x)) (hx : x < n) : ev Φ (.ix a b) ρ τ = some (rowL n w x) := e_ix h1 h2 (ix_rngL hx)
theorem e_r2 (h1 : ev Φ a ρ τ = some (rowsD n w)) (h2 : ev Φ b τ τ = some (nD x)) (h3 : ev Φ c τ τ = some (nD y)) (hx : x < n) (hy : y < n) : ev Φ (.ix (.ix a b) c) ρ τ = some (.int (b01 (w x y))) := e_ix (e_rl h1 h2 hx) h3 (ix_rngL hy)
theorem e_rlen (h1 : ev Φ a τ τ = some (rowsD n w)) : ev Φ (.bi1 .len a) ρ τ = some (nD n) := by
  have := e_len (ρ := ρ) (.inl h1)
  rwa [List.length_map, List.length_range] at this
end
/-- renumbered -/
def nmW (n : Nat) (w : Nat → Nat → Bool) (r : List Nat) (i j : Nat) : Bool := decide (i < n) && (decide (j < n) && w (r.getD i 0) (r.getD j 0))
theorem Web.num (Wb : Web n w) (r : List Nat) : Web n (nmW n w r) := by
  refine ⟨Wb.pos, Wb.le, fun x y => ?_, fun x => by simp [nmW, Wb.irr], fun x y h => ?_⟩
  · unfold nmW
    rw [Wb.sym]
    by_cases a : x < n <;> by_cases b : y < n <;> simp [a, b]
  · unfold nmW at h
    simp only [Bool.and_eq_true, decide_eq_true_eq] at h
    exact ⟨h.1, h.2.1⟩
theorem num_rows {r : List Nat} (h : r.length = n) : PySem.PyData.tuple (r.map fun x => .tuple (r.map fun y => .int (b01 (w x y)))) = webD n (nmW n w r) := by
  unfold webD rowD
  congr 1
  refine List.ext_getElem (by simp [h]) fun i h1 h2 => ?_
  have hi : i < r.length := by simpa using h1
  rw [List.getElem_map, List.getElem_map, List.getElem_range]
  congr 1
  refine List.ext_getElem (by simp [h]) fun j h3 h4 => ?_
  have hj : j < r.length := by simpa using h3
  rw [List.getElem_map, List.getElem_map, List.getElem_range]
  unfold nmW
  rw [decide_eq_true (show i < n by omega), decide_eq_true (show j < n by omega), List.getD_eq_getElem?_getD, List.getD_eq_getElem?_getD, List.getElem?_eq_getElem hi, List.getElem?_eq_getElem hj]; rfl
theorem sp_numbered (hk : 3 ≤ k) (Wb : Web n w) (W : WT) : ∃ d W', callW (WN k) "_law_numbered" [rowsD n w] W = some (d, W') ∧ ∃ v, d = webD n v ∧ Web n v := by
  obtain ⟨k, rfl, hj⟩ := lev hk
  have hn := Wb.le
  obtain ⟨r, W1, r1, r2⟩ := sp_row (k := k) hj hn W
  have rl : r.length = n := by rw [r2.length_eq, List.length_range]
  have rb : ∀ x, x ∈ r → x < n := fun x hx => List.mem_range.mp (r2.mem_iff.mp hx)
  refine callW_rt (ph70 _ _) ?_
  refine w_set (by decide) (X_w1 (X_p (e_rlen (e_v rfl))) r1) ?_
  refine w_retP (e_tupL (e_lc (l := r) (enc := nD) (f := fun x => .tuple (r.map fun y => .int (b01 (w x y)))) (i_val (.inr (e_v rfl))) (fun x hx => e_tupL (e_lc (l := r) (enc := nD) (f := fun y => .int (b01 (w x y))) (i_val (.inr (e_v rfl))) (fun y hy => e_r2 (e_v rfl) (e_v rfl) (e_v rfl) (rb x hx) (rb y hy)) (by unfold big; omega))) (by unfold big; omega))) ⟨_, num_rows rl, Wb.num r⟩
/-! ### a thing more -/
def exW (n : Nat) (w : Nat → Nat → Bool) (c : Nat → Bool) (x y : Nat) : Bool :=
  if x < n then (if y < n then w x y else decide (y = n) && c x) else decide (x = n) && (decide (y < n) && c y)
theorem Web.ext {c : Nat → Bool} (Wb : Web n w) (h : n < 12) : Web (n + 1) (exW n w c) := by
  refine ⟨by omega, by omega, fun x y => ?_, fun x => ?_, fun x y h => ?_⟩
  · unfold exW
    rw [Wb.sym]
    by_cases a : x < n <;> by_cases b : y < n <;> simp [a, b]
  · unfold exW
    by_cases a : x < n <;> simp [a, Wb.irr]
  · unfold exW at h
    by_cases a : x < n
    · rw [if_pos a] at h
      by_cases b : y < n
      · omega
      · rw [if_neg b, Bool.and_eq_true, decide_eq_true_eq] at h
        omega
    · rw [if_neg a, Bool.and_eq_true, Bool.and_eq_true, decide_eq_true_eq, decide_eq_true_eq] at h
      omega
theorem ext_rows {c : Nat → Bool} : PySem.PyData.list (((List.range n).map fun x => PySem.PyData.list (((List.range n).map fun y => .int (b01 (w x y))) ++ [.int (b01 (c x))])) ++ [.list (((List.range n).map fun y => .int (b01 (c y))) ++ [.int 0])]) = rowsD (n + 1) (exW n w c) := by
  unfold rowsD rowL
  rw [List.range_succ, List.map_append, List.map_singleton]
  congr 2
  · refine List.map_congr_left fun x hx => ?_
    rw [List.mem_range] at hx
    rw [List.map_append, List.map_singleton]
    congr 2
    · refine List.map_congr_left fun y hy => ?_
      rw [List.mem_range] at hy
      unfold exW
      rw [if_pos hx, if_pos hy]
    · unfold exW
      rw [if_pos hx, if_neg (by omega)]; simp
  · congr 2
    rw [List.map_append, List.map_singleton]
    congr 1
    · refine List.map_congr_left fun y hy => ?_
      rw [List.mem_range] at hy
      unfold exW
      rw [if_neg (by omega)]
      simp [hy]
    · unfold exW
      rw [if_neg (by omega)]
      simp [b01]
theorem b_addL {a b : List PD} (h : a.length + b.length ≤ big) : pyBin .Add (.list a) (.list b) = some (.list (a ++ b)) := by
  show (if a.length + b.length ≤ big then some (PySem.PyData.list (a ++ b)) else none) = _
  rw [if_pos h]
theorem b_mulL {a : PD} {m : Nat} (h : m ≤ 1000) : pyBin .Mult (.list [a]) (nD m) = some (.list (List.replicate m a)) := by
  show (if 0 ≤ (m : Int) ∧ (m : Int) ≤ 1000 then some (PySem.PyData.list (List.replicate (m : Int).toNat a)) else none) = _
  rw [if_pos (by omega), Int.toNat_natCast]
theorem b_addR {x : Nat} {d : PD} (h : n ≤ 1000) : pyBin .Add (rowL n w x) (.list [d]) = some (.list (((List.range n).map fun y => .int (b01 (w x y))) ++ [d])) := b_addL (by rw [List.length_map, List.length_range, List.length_singleton]; unfold big; omega)
theorem b_mulI {i j : Int} (h : -(2 ^ 64) < i ∧ i < 2 ^ 64) : pyBin .Mult (.int i) (.int j) = some (.int (i * j)) := by
  show (if (-(2 ^ 64) < i ∧ i < 2 ^ 64) ∨ (-(2 ^ 64) < j ∧ j < 2 ^ 64) then some (PySem.PyData.int (i * j)) else none) = _
  rw [if_pos (.inl h)]
theorem rep_rng {α : Type} {a : α} : List.replicate n a = (List.range n).map fun _ => a := by
  refine List.ext_getElem (by simp) fun i h1 h2 => ?_
  rw [List.getElem_replicate, List.getElem_map]
theorem sp_finished (hk : 4 ≤ k) (Wb : Web n w) (W : WT) : ∃ d W', callW (WN k) "_law_finished" [rowsD n w] W = some (d, W') ∧ ∃ m v, d = webD m v ∧ Web m v := by
  obtain ⟨k, rfl, hj⟩ := lev hk
  have hn := Wb.le
  obtain ⟨h, W1, h1, h2⟩ := drw (k := k) (by omega) (m := 3) (by omega) W
  refine callW_rt (ph71 _ _) ?_
  have lt12 : pyFn .int [PySem.PyData.bool (decide (n < 12))] = some (.int (if n < 12 then 1 else 0)) := by
    by_cases q : n < 12
    · rw [decide_eq_true q, if_pos q]; rfl
    · rw [decide_eq_false q, if_neg q]; rfl
  refine w_set (d := .int ((h : Int) * (if n < 12 then 1 else 0))) (by decide) (X_bin (X_w1 (X_p e_l) h1) (X_p (e_sc rfl (e_cmp (e_rlen (e_v rfl)) (e_l (d := nD 12)) c_ltN) lt12 rfl)) ?_) ?_
  · exact b_mulI (by omega)
  refine w_ite (p := decide (0 < (h : Int) * (if n < 12 then 1 else 0))) (t_cmp (e_v rfl) e_l rfl) (fun q => ?_) (fun q => ?_)
  · have q := of_decide_eq_true q
    have n12 : n < 12 := by
      by_cases z : n < 12
      · exact z
      · rw [if_neg z] at q; omega
    rw [if_pos n12, Int.mul_one] at q ⊢
    have hc : (h : Int) - 1 = b01 (decide (h = 2)) := by
      have : h = 1 ∨ h = 2 := by omega
      rcases this with rfl | rfl <;> rfl
    have ss : ∀ {ρ τ : Rho}, getR ρ 2 = some (nD h) → ev (FX k) (.bin .Sub (.var 2) (.lit (.int 1))) ρ τ = some (.int (b01 (decide (h = 2)))) := fun {ρ τ} z => by
      rw [← hc]; exact e_sub1 (e_v z)
    refine w_setP (d := rowsD (n + 1) (exW n w fun _ => decide (h = 2))) (by decide) (e_bin (e_lc (l := List.range n) (enc := rowL n w) (f := fun x => .list (((List.range n).map fun y => .int (b01 (w x y))) ++ [.int (b01 (decide (h = 2)))])) (i_val (.inl (e_v rfl))) (fun x hx => e_bin (e_v rfl) (e_lst (v_cons (ss rfl) v_nil) (by show 1 ≤ 1000; decide)) (b_addR (by omega))) (len_rng_big (by omega))) (e_lst (v_cons (e_bin (e_bin (e_lst (v_cons (ss rfl) v_nil) (by show 1 ≤ 1000; decide)) (e_rlen (e_v rfl)) (b_mulL (by omega))) (e_lst (v_cons e_l v_nil) (by show 1 ≤ 1000; decide)) (b_addL (by rw [List.length_replicate, List.length_singleton]; unfold big; omega))) v_nil) (by show 1 ≤ 1000; decide)) ?_) ?_
    · rw [rep_rng, ← ext_rows (c := fun _ => decide (h = 2))]
      exact b_addL (by rw [List.length_map, List.length_range, List.length_singleton]; unfold big; omega)
    · obtain ⟨d, W2, g1, v, g2, g3⟩ := sp_numbered (k := k) hj (Wb.ext (c := fun _ => decide (h = 2)) n12) W1
      exact w_ret (X_w1 (X_p (e_v rfl)) g1) ⟨_, v, g2, g3⟩
  · obtain ⟨d, W2, g1, v, g2, g3⟩ := sp_numbered (k := k) hj Wb W1
    exact w_ret (X_w1 (X_p (e_v rfl)) g1) ⟨_, v, g2, g3⟩
/-! ### twins -/
theorem i_rngZ {Φ : Fns} {ρ τ : Rho} {a : IR} {m l : Nat} (h : ev Φ a τ τ = some (.int ((m : Int) - (l : Int)))) (hm : m ≤ 1000) (hl : l ≤ 1000) : evI Φ (.rng1 a) ρ τ = some ((List.range (m - l)).map nD) := by
  unfold evI
  rw [h, Option.bind_some]
  show (if ((m : Int) - (l : Int)) < 2 ^ 62 ∧ -(2 ^ 62) ≤ ((m : Int) - (l : Int)) then some (rngD 0 ((m : Int) - (l : Int)).toNat) else none) = _
  rw [if_pos (by omega), show ((m : Int) - (l : Int)).toNat = ((m - l : Nat) : Int).toNat by omega, rng_nat]
theorem sp_grown (hk : 2 ≤ k) (Wb : Web n w) {size : Nat} (hs : size ≤ 12) (W : WT) : ∃ d W', callW (WN k) "_law_grown" [rowsD n w, nD size] W = some (d, W') ∧ ∃ m v, d = rowsD m v ∧ Web m v := by
  obtain ⟨k, rfl, hj⟩ := lev hk
  have hn := Wb.le
  have pos := Wb.pos
  refine callW_rt (ph67 _ _) ?_
  obtain ⟨s, W1, s1, s2⟩ := drw (k := k) (by omega) (m := 3) (by omega) W
  obtain ⟨a, W2, a1, a2⟩ := drw (k := k) (by omega) (m := n) (by omega) W1
  obtain ⟨t, W3, t1, t2⟩ := drw (k := k) (by omega) (m := 2) (by omega) W2
  refine w_set (by decide) (X_cmp (X_w1 (X_p e_l) s1) (X_p (e_l (d := nD 2))) c_eqN) (w_set (by decide) (X_w1 (X_p (e_rlen (e_v rfl))) a1) (w_set (by decide) (X_w1 (X_p e_l) t1) ?_))
  refine w_iter1 (l := List.range (size - n)) (enc := nD) (fun m S W' => ∃ (v : Nat → Nat → Bool) (b u : Nat) (a6 a7 : Option PD), S = ⟨[none, some (rowsD (n + m.length) v), some (nD size), some (.bool (decide (s = 2))), some (nD b), some (nD u), a6, a7, none, none], List.replicate 10 none⟩ ∧ Web (n + m.length) v ∧ b < n + m.length ∧ u < 2) (i_rngZ (e_bin (e_v rfl) (e_rlen (e_v rfl)) rfl) (by omega) (by omega)) (by decide) ⟨w, a, t, none, none, rfl, Wb, a2, t2⟩ ?_ ?_
  · intro m x r S W' e ⟨v, b, u, a6, a7, eS, Wv, hb, hu⟩
    subst eS
    have ml : m.length < size - n := by
      have := congrArg List.length e
      rw [List.length_range, List.length_append, List.length_cons] at this
      omega
    have Np := Wv.pos
    have Nl := Wv.le
    rw [List.length_append, List.length_singleton, show n + (m.length + 1) = (n + m.length) + 1 by omega]
    have N12 : n + m.length < 12 := by omega
    generalize n + m.length = N at *
    have tail : ∀ (b u : Nat) (W' : WT), b < N → u < 2 → WX (FX k) (WN k) 0 FU [.own 7 [] (.lc (.tVal (.var 1)) (.one 8) [8] (.ix (.var 8) (.var 4))), .put 7 (.var 4) (.var 5), .set 1 [7, 7] (.pure (.bin .Add (.lc (.rng1 (.bi1 .len (.var 1))) (.one 9) [9] (.bin .Add (.ix (.var 1) (.var 9)) (.lst [.ix (.var 7) (.var 9)]))) (.lst [.bin .Add (.var 7) (.lst [.lit (.int 0)])])))] ⟨[none, some (rowsD N v), some (nD size), some (.bool (decide (s = 2))), some (nD b), some (nD u), some (nD x), a7, none, none], List.replicate 10 none⟩ W'
        (NX fun S W' => ∃ (v : Nat → Nat → Bool) (b u : Nat) (a6 a7 : Option PD), S = ⟨[none, some (rowsD (N + 1) v), some (nD size), some (.bool (decide (s = 2))), some (nD b), some (nD u), a6, a7, none, none], List.replicate 10 none⟩ ∧ Web (N + 1) v ∧ b < N + 1 ∧ u < 2) := by
      intro b u W' hb hu
      have hc : nD u = PySem.PyData.int (b01 (decide (u = 1))) := by
        have : u = 0 ∨ u = 1 := by omega
        rcases this with rfl | rfl <;> rfl
      refine w_own (ds := (List.range N).map fun y => .int (b01 (v y b))) (by decide) rfl (e_lc (l := List.range N) (enc := rowL N v) (f := fun y => .int (b01 (v y b))) (i_val (.inl (e_v rfl))) (fun y hy => e_ix (e_v rfl) (e_v rfl) (ix_rngL hb)) (len_rng_big (by omega))) ?_
      refine w_put (n := b) (ds := (List.range N).map fun y => .int (b01 (v y b))) (d := nD u) (evV_of (e_v rfl)) rfl (e_v rfl) (by rw [List.length_map, List.length_range]; exact hb) ?_
      rw [set_rng hb, show ((List.range N).map fun y => if y = b then nD u else PySem.PyData.int (b01 (v y b))) = (List.range N).map fun y => PySem.PyData.int (b01 (if y = b then decide (u = 1) else v y b)) from List.map_congr_left fun y _ => by
        by_cases z : y = b
        · rw [if_pos z, if_pos z, hc]
        · rw [if_neg z, if_neg z]]
      generalize hcc : (fun y => if y = b then decide (u = 1) else v y b) = c
      rw [show ((List.range N).map fun y => PySem.PyData.int (b01 (if y = b then decide (u = 1) else v y b))) = (List.range N).map fun y => PySem.PyData.int (b01 (c y)) by rw [← hcc]]
      refine w_setP (d := rowsD (N + 1) (exW N v c)) (by decide) (e_bin (e_lc (l := List.range N) (enc := nD) (f := fun x => .list (((List.range N).map fun y => .int (b01 (v x y))) ++ [.int (b01 (c x))])) (i_rng (e_rlen (e_v rfl)) (by omega)) (fun y hy => e_bin (e_rl (e_v rfl) (e_v rfl) (List.mem_range.mp hy)) (e_lst (v_cons (e_ix (e_v rfl) (e_v rfl) (ix_rngL (List.mem_range.mp hy))) v_nil) (by show 1 ≤ 1000; decide)) (b_addR (by omega))) (len_rng_big (by omega))) (e_lst (v_cons (e_bin (e_v rfl) (e_lst (v_cons e_l v_nil) (by show 1 ≤ 1000; decide)) (b_addL (by rw [List.length_map, List.length_range, List.length_singleton]; unfold big; omega))) v_nil) (by show 1 ≤ 1000; decide)) ?_) (w_nil ⟨exW N v c, b, u, some (nD x), some (.list ((List.range N).map fun y => .int (b01 (c y)))), rfl, Wv.ext (by omega), by omega, hu⟩)
      rw [← ext_rows]
      exact b_addL (by rw [List.length_map, List.length_range, List.length_singleton]; unfold big; omega)
    refine w_ite (p := !decide (s = 2)) (t_not (t_vb (e_v rfl))) (fun q => ?_) (fun q => ?_)
    · obtain ⟨b', W4, b1, b2⟩ := drw (k := k) (by omega) (m := N) (by omega) W'
      obtain ⟨u', W5, u1, u2⟩ := drw (k := k) (by omega) (m := 2) (by omega) W4
      exact w_set (by decide) (X_w1 (X_p (e_rlen (e_v rfl))) b1) (w_set (by decide) (X_w1 (X_p e_l) u1) (tail b' u' W5 b2 u2))
    · exact tail b u W' hb hu
  · intro S W' ⟨v, b, u, a6, a7, eS, Wv, hb, hu⟩
    subst eS
    exact w_retP (e_v rfl) ⟨_, v, rfl, Wv⟩
end
end SN
end
section
set_option Elab.async false
set_option linter.all false
set_option maxRecDepth 100000
set_option maxHeartbeats 4000000
/-! K14: all drawn rows are webs. -/
namespace SN
open PySem L2 LamX NdefX PyProof.Rows
structure GoodM (n : Nat) (M : List (List Int)) : Prop where
  len : M.length = n
  rows : ∀ r, r ∈ M → r.length = n
  sym : ∀ i j, i < n → j < n → mAt M i j = mAt M j i
  bit : ∀ i j, i < n → j < n → mAt M i j = 0 ∨ mAt M i j = 1
  diag : ∀ i, i < n → mAt M i i = 0
section
variable {k n : Nat} {w : Nat → Nat → Bool} {W : WT} {M : List (List Int)}
theorem GoodM.web (g : GoodM n M) (h1 : 1 ≤ n) (h2 : n ≤ 12) : ∃ w, matD M = rowsD n w ∧ Web n w := by
  refine ⟨fun x y => decide (x < n) && (decide (y < n) && decide (mAt M x y = 1)), ?_, h1, h2, fun x y => ?_, fun x => ?_, fun x y h => ?_⟩
  · unfold matD rowsD rowL
    congr 1
    refine List.ext_getElem (by simp [g.len]) fun i a b => ?_
    have hi : i < M.length := by simpa using a
    have hn : i < n := by rw [← g.len]; exact hi
    rw [List.getElem_map, List.getElem_map, List.getElem_range]
    congr 1
    refine List.ext_getElem (by simp [g.rows _ (List.getElem_mem hi)]) fun j c d => ?_
    have hj : j < M[i].length := by simpa using c
    have hjn : j < n := by rw [← g.rows _ (List.getElem_mem hi)]; exact hj
    rw [List.getElem_map, List.getElem_map, List.getElem_range]
    have e : mAt M i j = M[i][j] := by
      unfold mAt
      rw [List.getD_eq_getElem?_getD, List.getD_eq_getElem?_getD, List.getElem?_eq_getElem hi, Option.getD_some, List.getElem?_eq_getElem hj]; rfl
    show _ = PySem.PyData.int (b01 (decide (i < n) && (decide (j < n) && decide (mAt M i j = 1))))
    rw [decide_eq_true hn, decide_eq_true hjn, Bool.true_and, Bool.true_and, e]
    have := g.bit i j hn hjn
    rw [e] at this
    rcases this with z | z <;> rw [z] <;> rfl
  · show (decide (x < n) && (decide (y < n) && decide (mAt M x y = 1))) = (decide (y < n) && (decide (x < n) && decide (mAt M y x = 1)))
    by_cases a : x < n <;> by_cases b : y < n
    · rw [g.sym x y a b]; simp [a, b]
    all_goals simp [a, b]
  · show (decide (x < n) && (decide (x < n) && decide (mAt M x x = 1))) = false
    by_cases a : x < n
    · rw [g.diag x a]; simp
    · simp [a]
  · have h : (decide (x < n) && (decide (y < n) && decide (mAt M x y = 1))) = true := h
    simp only [Bool.and_eq_true, decide_eq_true_eq] at h
    exact ⟨h.1, h.2.1⟩
theorem mAt_fn {f : Nat → Nat → Int} {i j : Nat} (hi : i < n) (hj : j < n) : mAt ((List.range n).map fun x => (List.range n).map fun y => f x y) i j = f i j := by
  unfold mAt
  rw [List.getD_eq_getElem?_getD, List.getD_eq_getElem?_getD, List.getElem?_map, List.getElem?_range hi]
  show (((List.range n).map fun y => f i y)[j]?).getD 0 = _
  rw [List.getElem?_map, List.getElem?_range hj]; rfl
theorem GoodM.fn {f : Nat → Nat → Int} (h1 : ∀ i j, f i j = f j i) (h2 : ∀ i j, f i j = 0 ∨ f i j = 1) (h3 : ∀ i, f i i = 0) : GoodM n ((List.range n).map fun x => (List.range n).map fun y => f x y) :=
  ⟨by simp, fun r hr => by
    obtain ⟨x, _, rfl⟩ := List.mem_map.mp hr
    simp, fun i j hi hj => by rw [mAt_fn hi hj, mAt_fn hj hi, h1], fun i j hi hj => by rw [mAt_fn hi hj]; exact h2 i j, fun i hi => by rw [mAt_fn hi hi]; exact h3 i⟩
theorem mset_get (hl : M.length = n) (hr : ∀ r, r ∈ M → r.length = n) {i j a b : Nat} {t : Int} (hi : i < n) (hj : j < n) : mAt (mset M i j t) a b = if a = i ∧ b = j then t else mAt M a b := by
  have hiM : i < M.length := by omega
  have e1 : M.getD i [] = M[i] := by rw [List.getD_eq_getElem?_getD, List.getElem?_eq_getElem hiM]; rfl
  have hjr : j < M[i].length := by rw [hr _ (List.getElem_mem hiM)]; exact hj
  unfold mAt mset
  by_cases ha : a = i
  · subst ha
    rw [List.getD_eq_getElem?_getD (l := M.set a _), List.getElem?_set_self hiM, Option.getD_some, e1]
    by_cases hb : b = j
    · subst hb
      rw [if_pos ⟨rfl, rfl⟩, List.getD_eq_getElem?_getD, List.getElem?_set_self hjr]; rfl
    · rw [if_neg (fun z => hb z.2), List.getD_eq_getElem?_getD, List.getElem?_set_ne (fun z => hb z.symm), List.getD_eq_getElem?_getD]
  · rw [if_neg (fun z => ha z.1), List.getD_eq_getElem?_getD (l := M.set i _), List.getElem?_set_ne (fun z => ha z.symm), ← List.getD_eq_getElem?_getD]
theorem GoodM.set2 (g : GoodM n M) {x y : Nat} {t : Int} (hx : x < n) (hy : y < n) (hne : x ≠ y) (ht : t = 0 ∨ t = 1) : GoodM n (mset (mset M x y t) y x t) := by
  have s0 : sqM M n := ⟨g.len, g.rows⟩
  have s1 := s0.set (i := x) (j := y) (t := t)
  have s2 := s1.set (i := y) (j := x) (t := t)
  have e : ∀ a b, mAt (mset (mset M x y t) y x t) a b = if a = y ∧ b = x then t else if a = x ∧ b = y then t else mAt M a b := fun a b => by
    rw [mset_get s1.1 s1.2 hy hx, mset_get s0.1 s0.2 hx hy]
  refine ⟨s2.1, s2.2, fun i j hi hj => ?_, fun i j hi hj => ?_, fun i hi => ?_⟩
  · rw [e, e, g.sym i j hi hj]
    by_cases a : i = y ∧ j = x
    · rw [if_pos a]
      by_cases b : j = y ∧ i = x
      · rw [if_pos b]
      · rw [if_neg b, if_pos ⟨a.2, a.1⟩]
    · rw [if_neg a]
      by_cases b : i = x ∧ j = y
      · rw [if_pos b, if_pos ⟨b.2, b.1⟩]
      · rw [if_neg b, if_neg (fun z => b ⟨z.2, z.1⟩), if_neg (fun z => a ⟨z.2, z.1⟩)]
  · rw [e]
    split
    · exact ht
    · split
      · exact ht
      · exact g.bit i j hi hj
  · rw [e, if_neg (fun z => hne (z.2.symm.trans z.1)), if_neg (fun z => hne (z.1.symm.trans z.2))]
    exact g.diag i hi
/-! ### loose rows -/
theorem c_neB {p q : Bool} : pyCmp .NotEq (.bool p) (.bool q) = some (.bool (p != q)) := by cases p <;> cases q <;> rfl
theorem f_intB {b : Bool} : pyFn .int [.bool b] = some (.int (b01 b)) := by cases b <;> rfl
theorem ir69_ev (hk : 1 ≤ k) {sh al : Rho} {mood : Nat} (hm : mood < 3) (h : getR al 2 = some (nD mood)) (W : WT) : ∃ b W', evX (FX k) (WN k) ir69 sh al W = some (.int (b01 b), W') := by
  have : ∃ m, 1 ≤ m ∧ pyIx (.list [.int 2, .int 3, .int 3]) (nD mood) = some (nD m) := by
    have : mood = 0 ∨ mood = 1 ∨ mood = 2 := by omega
    rcases this with rfl | rfl | rfl
    · exact ⟨2, by omega, rfl⟩
    · exact ⟨3, by omega, rfl⟩
    · exact ⟨3, by omega, rfl⟩
  obtain ⟨m, m1, m2⟩ := this
  obtain ⟨i, W1, i1, i2⟩ := drw (k := k) hk m1 W
  exact ⟨_, W1, X_bi1 (X_cmp (X_cmp (X_w1 (X_p (e_ix (e_lst (v_cons e_l (v_cons e_l (v_cons e_l v_nil))) (by show 3 ≤ 1000; decide)) (e_v h) m2)) i1) (X_p (e_l (d := nD 1))) c_eqN) (X_p (e_cmp (e_v h) (e_l (d := nD 2)) c_eqN)) c_neB) f_intB⟩
def shLo (n mood : Nat) (S : PSt) : Prop := ∃ a4 a5 a6, S = ⟨[none, some (nD n), some (nD mood), none, a4, a5, a6, none], List.replicate 8 none⟩
theorem b01_bit {b : Bool} : b01 b = 0 ∨ b01 b = 1 := by cases b <;> simp [b01]
theorem loIn_ok (hk : 1 ≤ k) {mood y : Nat} (hm : mood < 3) (hy : y < n) : ∀ (xs : List Nat) (S : PSt) (W : WT) (M : List (List Int)), (∀ x, x ∈ xs → x < y) → GoodM n M → shLo n mood S → ∃ S' W' M', loIn (FX k) (WN k) y xs (S, W, M) = some (S', W', M') ∧ GoodM n M' ∧ shLo n mood S'
  | [], S, W, M, _, g, s => ⟨S, W, M, rfl, g, s⟩
  | x :: xs, S, W, M, hx, g, s => by
    obtain ⟨a4, a5, a6, eS⟩ := s
    subst eS
    have hxy := hx x (List.mem_cons_self ..)
    obtain ⟨b, W1, e1⟩ := ir69_ev hk (sh := (PSt.put ⟨[none, some (nD n), some (nD mood), none, a4, a5, a6, none], List.replicate 8 none⟩ 5 (.int (x : Int))).sh) (al := (PSt.put ⟨[none, some (nD n), some (nD mood), none, a4, a5, a6, none], List.replicate 8 none⟩ 5 (.int (x : Int))).all) hm rfl W
    obtain ⟨S', W', M', g1, g2, g3⟩ := loIn_ok hk hm hy xs ⟨[none, some (nD n), some (nD mood), none, a4, some (nD x), some (.int (b01 b)), none], List.replicate 8 none⟩ W1 (mset (mset M x y (b01 b)) y x (b01 b)) (fun z hz => hx z (List.mem_cons_of_mem _ hz)) (g.set2 (by omega) hy (by omega) b01_bit) ⟨_, _, _, rfl⟩
    refine ⟨S', W', M', ?_, g2, g3⟩
    unfold loIn
    show (evX (FX k) (WN k) ir69 (PSt.put ⟨[none, some (nD n), some (nD mood), none, a4, a5, a6, none], List.replicate 8 none⟩ 5 (.int (x : Int))).sh (PSt.put ⟨[none, some (nD n), some (nD mood), none, a4, a5, a6, none], List.replicate 8 none⟩ 5 (.int (x : Int))).all W).bind _ = _
    rw [e1]
    exact g1
theorem loOut_ok (hk : 1 ≤ k) {mood : Nat} (hm : mood < 3) : ∀ (ys : List Nat) (S : PSt) (W : WT) (M : List (List Int)), (∀ y, y ∈ ys → y < n) → GoodM n M → shLo n mood S → ∃ S' W' M', loOut (FX k) (WN k) ys (S, W, M) = some (S', W', M') ∧ GoodM n M'
  | [], S, W, M, _, g, s => ⟨S, W, M, rfl, g⟩
  | y :: ys, S, W, M, hy, g, s => by
    obtain ⟨a4, a5, a6, eS⟩ := s
    subst eS
    obtain ⟨S1, W1, M1, g1, g2, g3⟩ := loIn_ok hk hm (hy y (List.mem_cons_self ..)) (List.range y) ⟨[none, some (nD n), some (nD mood), none, some (nD y), a5, a6, none], List.replicate 8 none⟩ W M (fun x hx => List.mem_range.mp hx) g ⟨_, _, _, rfl⟩
    obtain ⟨S2, W2, M2, h1, h2⟩ := loOut_ok hk hm ys S1 W1 M1 (fun z hz => hy z (List.mem_cons_of_mem _ hz)) g2 g3
    refine ⟨S2, W2, M2, ?_, h2⟩
    unfold loOut
    show (loIn (FX k) (WN k) y (List.range y) (⟨[none, some (nD n), some (nD mood), none, some (nD y), a5, a6, none], List.replicate 8 none⟩, W, M)).bind _ = _
    rw [g1]; exact h1
theorem sp_loose (hk : 2 ≤ k) (h1 : 1 ≤ n) (hn : n ≤ 12) {mood : Nat} (hm : mood < 3) (W : WT) : ∃ d W', callW (WN k) "_law_loose" [nD n, nD mood] W = some (d, W') ∧ ∃ v, d = rowsD n v ∧ Web n v := by
  obtain ⟨k, rfl, hj⟩ := lev hk
  have g0 : GoodM n ((List.range n).map fun _ => List.replicate n 0) := by
    rw [show ((List.range n).map fun _ => List.replicate n (0 : Int)) = (List.range n).map fun x => (List.range n).map fun y => (0 : Int) from List.map_congr_left fun _ _ => rep_rng]
    exact GoodM.fn (fun _ _ => rfl) (fun _ _ => .inl rfl) fun _ => rfl
  obtain ⟨S', W', M', g1, g2⟩ := loOut_ok (n := n) hj hm (List.range n) ⟨[none, some (nD n), some (nD mood), none, none, none, none, none], List.replicate 8 none⟩ W _ (fun x hx => List.mem_range.mp hx) g0 ⟨_, _, _, rfl⟩
  obtain ⟨v, v1, v2⟩ := g2.web h1 hn
  refine ⟨matD M', W', ?_, v, v1, v2⟩
  show (psi FU (k + 1) "_law_loose").bind _ = _
  rw [ps69]
  show (if 0 ≤ (n : Int) ∧ (n : Int) ≤ 1000 then (loOut (FX k) (WN k) (List.range (n : Int).toNat) (⟨[none, some (nD n), some (nD mood), none, none, none, none, none], List.replicate 8 none⟩, W, (List.range (n : Int).toNat).map fun _ => List.replicate (n : Int).toNat 0)).map fun s => (matD s.2.2, s.2.1) else none) = _
  rw [if_pos (by omega), Int.toNat_natCast, g1]; rfl
/-! ### a line -/
def shLn (n : Nat) (S : PSt) : Prop := ∃ a2 a3 a5, S = ⟨[none, some (nD n), a2, a3, none, a5], List.replicate 6 none⟩
theorem lnTurn_ok (hk : 1 ≤ k) (h1 : 1 ≤ n) {S : PSt} (g : GoodM n M) (s : shLn n S) (j : Nat) (W : WT) : ∃ S' W' M', lnTurn (FX k) (WN k) n j (S, W, M) = some (S', W', M') ∧ GoodM n M' ∧ shLn n S' := by
  obtain ⟨a2, a3, a5, eS⟩ := s
  subst eS
  obtain ⟨x, W1, x1, x2⟩ := drw (k := k) hk h1 W
  obtain ⟨y, W2, y1, y2⟩ := drw (k := k) hk h1 W1
  have e1 : evX (FX k) (WN k) irD74 [none, some (nD n), a2, a3, none, some (nD j)] (PSt.all ⟨[none, some (nD n), a2, a3, none, some (nD j)], List.replicate 6 none⟩) W = some (nD x, W1) := X_w1 (X_p (e_v rfl)) x1
  have e2 : evX (FX k) (WN k) irD74 [none, some (nD n), some (nD x), a3, none, some (nD j)] (PSt.all ⟨[none, some (nD n), some (nD x), a3, none, some (nD j)], List.replicate 6 none⟩) W1 = some (nD y, W2) := X_w1 (X_p (e_v rfl)) y1
  refine ⟨⟨[none, some (nD n), some (nD x), some (nD y), none, some (nD j)], List.replicate 6 none⟩, W2, if (x : Int) = (y : Int) then M else mset (mset M x y (1 - mAt M x y)) y x (1 - mAt M x y), ?_, ?_, ⟨_, _, _, rfl⟩⟩
  · unfold lnTurn
    show (evX (FX k) (WN k) irD74 [none, some (nD n), a2, a3, none, some (nD j)] (PSt.all ⟨[none, some (nD n), a2, a3, none, some (nD j)], List.replicate 6 none⟩) W).bind _ = _
    rw [e1]
    show (evX (FX k) (WN k) irD74 [none, some (nD n), some (nD x), a3, none, some (nD j)] (PSt.all ⟨[none, some (nD n), some (nD x), a3, none, some (nD j)], List.replicate 6 none⟩) W1).bind _ = _
    rw [e2]
    show (if 0 ≤ (x : Int) ∧ (x : Int) < n ∧ 0 ≤ (y : Int) ∧ (y : Int) < n then some ((⟨[none, some (nD n), some (nD x), some (nD y), none, some (nD j)], List.replicate 6 none⟩ : PSt), W2, if (x : Int) = (y : Int) then M else mset (mset M (x : Int).toNat (y : Int).toNat (1 - mAt M (x : Int).toNat (y : Int).toNat)) (y : Int).toNat (x : Int).toNat (1 - mAt M (x : Int).toNat (y : Int).toNat)) else none) = _
    rw [if_pos (by omega), Int.toNat_natCast, Int.toNat_natCast]
  · split
    · exact g
    · rename_i z
      refine g.set2 x2 y2 (fun e => z (by rw [e])) ?_
      rcases g.bit x y x2 y2 with q | q <;> rw [q] <;> simp
theorem lnGo_ok (hk : 1 ≤ k) (h1 : 1 ≤ n) : ∀ (js : List Nat) (S : PSt) (W : WT) (M : List (List Int)), GoodM n M → shLn n S → ∃ S' W' M', lnGo (FX k) (WN k) n js (S, W, M) = some (S', W', M') ∧ GoodM n M'
  | [], S, W, M, g, s => ⟨S, W, M, rfl, g⟩
  | j :: js, S, W, M, g, s => by
    obtain ⟨S1, W1, M1, g1, g2, g3⟩ := lnTurn_ok hk h1 g s j W
    obtain ⟨S2, W2, M2, k1, k2⟩ := lnGo_ok hk h1 js S1 W1 M1 g2 g3
    refine ⟨S2, W2, M2, ?_, k2⟩
    unfold lnGo
    rw [g1]; exact k1
theorem sp_line (hk : 2 ≤ k) (h1 : 1 ≤ n) (hn : n ≤ 12) (W : WT) : ∃ d W', callW (WN k) "_law_line" [nD n] W = some (d, W') ∧ ∃ v, d = rowsD n v ∧ Web n v := by
  obtain ⟨k, rfl, hj⟩ := lev hk
  have g0 : GoodM n (lnM n) := by
    refine GoodM.fn (f := fun x y => if (x : Int) - (y : Int) = 1 ∨ (x : Int) - (y : Int) = -1 then 1 else 0) (fun i j => ?_) (fun i j => ?_) fun i => ?_
    · show (if (i : Int) - (j : Int) = 1 ∨ (i : Int) - (j : Int) = -1 then (1 : Int) else 0) = if (j : Int) - (i : Int) = 1 ∨ (j : Int) - (i : Int) = -1 then 1 else 0
      by_cases a : (i : Int) - (j : Int) = 1 ∨ (i : Int) - (j : Int) = -1
      · rw [if_pos a, if_pos (by omega)]
      · rw [if_neg a, if_neg (by omega)]
    · show (if (i : Int) - (j : Int) = 1 ∨ (i : Int) - (j : Int) = -1 then (1 : Int) else 0) = 0 ∨ (if (i : Int) - (j : Int) = 1 ∨ (i : Int) - (j : Int) = -1 then (1 : Int) else 0) = 1
      split
      · exact .inr rfl
      · exact .inl rfl
    · show (if (i : Int) - (i : Int) = 1 ∨ (i : Int) - (i : Int) = -1 then (1 : Int) else 0) = 0
      rw [if_neg (by omega)]
  obtain ⟨i, W1, i1, i2⟩ := drw (k := k) hj (m := 4) (by omega) W
  obtain ⟨S', W', M', g1, g2⟩ := lnGo_ok (n := n) hj h1 (List.range i) ⟨[none, some (nD n), none, none, none, none], List.replicate 6 none⟩ W1 _ g0 ⟨_, _, _, rfl⟩
  obtain ⟨v, v1, v2⟩ := g2.web h1 hn
  refine ⟨matD M', W', ?_, v, v1, v2⟩
  have e1 : evX (FX k) (WN k) irK74 (st0 6 [none, some (nD n)]).sh (st0 6 [none, some (nD n)]).all W = some (nD i, W1) := X_w1 (X_p e_l) i1
  show (psi FU (k + 1) "_law_line").bind _ = _
  rw [ps74]
  show (if 0 ≤ (n : Int) ∧ (n : Int) ≤ 1000 then (evX (FX k) (WN k) irK74 (st0 6 [none, some (nD n)]).sh (st0 6 [none, some (nD n)]).all W).bind (fun r => match r.1 with
    | .int j => if 0 ≤ j ∧ j ≤ 1000 then (lnGo (FX k) (WN k) (n : Int).toNat (List.range j.toNat) (st0 6 [none, some (nD n)], r.2, lnM (n : Int).toNat)).map fun s => (matD s.2.2, s.2.1) else none
    | _ => none) else none) = _
  rw [if_pos (by omega), e1]
  show (if 0 ≤ (i : Int) ∧ (i : Int) ≤ 1000 then (lnGo (FX k) (WN k) (n : Int).toNat (List.range (i : Int).toNat) (⟨[none, some (nD n), none, none, none, none], List.replicate 6 none⟩, W1, lnM (n : Int).toNat)).map fun s => (matD s.2.2, s.2.1) else none) = _
  rw [if_pos (by omega), Int.toNat_natCast, Int.toNat_natCast, g1]; rfl
/-! ### two rows -/
def crW (n : Nat) (r : List Nat) (x y : Nat) : Bool := decide (x < n) && (decide (y < n) && (decide (x < y) != decide (r.getD x 0 < r.getD y 0)))
theorem crW_web {r : List Nat} (h1 : 1 ≤ n) (hn : n ≤ 12) (hl : r.length = n) (hr : r.Nodup) : Web n (crW n r) := by
  refine ⟨h1, hn, fun x y => ?_, fun x => by simp [crW], fun x y h => ?_⟩
  · unfold crW
    by_cases a : x < n <;> by_cases b : y < n
    · by_cases c : x = y
      · rw [c]
      · have hne : r.getD x 0 ≠ r.getD y 0 := fun e => by
          rw [List.getD_eq_getElem?_getD, List.getD_eq_getElem?_getD, List.getElem?_eq_getElem (by omega), List.getElem?_eq_getElem (by omega)] at e
          exact c ((List.getElem_inj hr).mp e)
        have e1 : decide (y < x) = !decide (x < y) := by
          by_cases z : x < y
          · rw [decide_eq_true z, decide_eq_false (by omega)]; rfl
          · rw [decide_eq_false z, decide_eq_true (by omega)]; rfl
        have e2 : decide (r.getD y 0 < r.getD x 0) = !decide (r.getD x 0 < r.getD y 0) := by
          by_cases z : r.getD x 0 < r.getD y 0
          · rw [decide_eq_true z, decide_eq_false (by omega)]; rfl
          · rw [decide_eq_false z, decide_eq_true (by omega)]; rfl
        rw [e1, e2]
        simp [a, b]
    all_goals simp [a, b]
  · unfold crW at h
    simp only [Bool.and_eq_true, decide_eq_true_eq] at h
    exact ⟨h.1, h.2.1⟩
theorem sp_crossed (hk : 3 ≤ k) (h1 : 1 ≤ n) (hn : n ≤ 12) (W : WT) : ∃ d W', callW (WN k) "_law_crossed" [nD n] W = some (d, W') ∧ ∃ v, d = rowsD n v ∧ Web n v := by
  obtain ⟨k, rfl, hj⟩ := lev hk
  obtain ⟨r, W1, r1, r2⟩ := sp_row (k := k) hj hn W
  have rl : r.length = n := by rw [r2.length_eq, List.length_range]
  refine callW_rt (ph73 _ _) ?_
  refine w_set (by decide) (X_w1 (X_p (e_v rfl)) r1) ?_
  refine w_retP (d := rowsD n (crW n r)) (e_lc (l := List.range n) (enc := nD) (f := rowL n (crW n r)) (i_rng (e_v rfl) (by omega)) (fun x hx => e_lc (l := List.range n) (enc := nD) (f := fun y => .int (b01 (crW n r x y))) (i_rng (e_v rfl) (by omega)) (fun y hy => ?_) (len_rng_big (by omega))) (len_rng_big (by omega))) ⟨_, rfl, crW_web h1 hn rl (r2.nodup_iff.mpr List.nodup_range)⟩
  rw [List.mem_range] at hx hy
  have gx : ∀ {z : Nat} (h : z < r.length), r[z] = r.getD z 0 := fun {z} h => by rw [List.getD_eq_getElem?_getD, List.getElem?_eq_getElem h]; rfl
  have e : crW n r x y = (decide (x < y) != decide (r[x]'(by omega) < r[y]'(by omega))) := by
    unfold crW
    rw [decide_eq_true hx, decide_eq_true hy, gx, gx]; rfl
  rw [e]
  exact e_sc rfl (e_cmp (e_cmp (e_v rfl) (e_v rfl) c_ltN) (e_cmp (e_ix (e_v rfl) (e_v rfl) (ix_map (by omega))) (e_ix (e_v rfl) (e_v rfl) (ix_map (by omega))) c_ltN) c_neB) f_intB rfl
/-! ### bases -/
def pathM : List (List Int) := [[0, 1, 0, 0], [1, 0, 1, 0], [0, 1, 0, 1], [0, 0, 1, 0]]
def ringM : List (List Int) := [[0, 1, 0, 0, 1], [1, 0, 1, 0, 0], [0, 1, 0, 1, 0], [0, 0, 1, 0, 1], [1, 0, 0, 1, 0]]
def bullM : List (List Int) := [[0, 1, 0, 0, 0], [1, 0, 1, 1, 0], [0, 1, 0, 1, 0], [0, 1, 1, 0, 1], [0, 0, 0, 1, 0]]
def offM : List (List Int) := (List.range 5).map fun (x : Nat) => (List.range 5).map fun (y : Nat) => if x + 1 < y ∨ y + 1 < x then 1 else 0
def halfM : List (List Int) := (List.range 6).map fun (x : Nat) => (List.range 6).map fun (y : Nat) => if (x < 3 ∧ 3 ≤ y ∧ x + 3 ≤ y) ∨ (y < 3 ∧ 3 ≤ x ∧ y + 3 ≤ x) then 1 else 0
def putM (M : List (List Int)) (a : Nat) (I : List (List Int)) : List (List Int) :=
  (((List.range M.length).filter fun x => decide (x ≠ a)).map fun x => (((List.range M.length).filter fun x => decide (x ≠ a)).map fun y => mAt M x y) ++ List.replicate I.length (mAt M x a)) ++
    (List.range I.length).map fun z => (((List.range M.length).filter fun x => decide (x ≠ a)).map fun y => mAt M a y) ++ I.getD z []
def goodB (n : Nat) (M : List (List Int)) : Bool := decide (M.length = n) && (M.all (fun r => decide (r.length = n)) && ((List.range n).all fun i => decide (mAt M i i = 0) && (List.range n).all fun j => decide (mAt M i j = mAt M j i) && (decide (mAt M i j = 0) || decide (mAt M i j = 1))))
theorem goodB_ok (h : goodB n M = true) : GoodM n M := by
  unfold goodB at h
  simp only [Bool.and_eq_true, Bool.or_eq_true, decide_eq_true_eq, List.all_eq_true, List.mem_range] at h
  obtain ⟨h1, h2, h3⟩ := h
  exact ⟨h1, h2, fun i j hi hj => ((h3 i hi).2 j hj).1, fun i j hi hj => ((h3 i hi).2 j hj).2, fun i hi => (h3 i hi).1⟩
theorem goodB_web (h : goodB n M = true) (h1 : 1 ≤ n) (hn : n ≤ 12) : ∃ m v, matD M = rowsD m v ∧ Web m v := by
  obtain ⟨v, a, b⟩ := (goodB_ok h).web h1 hn
  exact ⟨n, v, a, b⟩
end
theorem put_path (k : Nat) : ∀ i, i < 4 → runD (phi FU k) FU 8 q68 [matD pathM, nD i, matD pathM] = some (matD (putM pathM i pathM))
  | 0, _ => by kernel_rfl
  | 1, _ => by kernel_rfl
  | 2, _ => by kernel_rfl
  | 3, _ => by kernel_rfl
  | i + 4, h => by omega
def twoM (t : Int) : List (List Int) := [[0, t], [t, 0]]
theorem put_two0 (k : Nat) : ∀ t, t < 2 → runD (phi FU k) FU 8 q68 [matD (twoM (t : Nat)), nD 0, matD pathM] = some (matD (putM (twoM (t : Nat)) 0 pathM))
  | 0, _ => by kernel_rfl
  | 1, _ => by kernel_rfl
  | t + 2, h => by omega
theorem put_two1 (k : Nat) : ∀ t, t < 2 → runD (phi FU k) FU 8 q68 [matD (putM (twoM (t : Nat)) 0 pathM), nD 0, matD pathM] = some (matD (putM (putM (twoM (t : Nat)) 0 pathM) 0 pathM))
  | 0, _ => by kernel_rfl
  | 1, _ => by kernel_rfl
  | t + 2, h => by omega
theorem put_call {k : Nat} (hk : 1 ≤ k) {a b c d : PD} (h : ∀ k, runD (phi FU k) FU 8 q68 [a, b, c] = some d) : call (FX k) "_law_put" [a, b, c] = some d := by
  obtain ⟨k, rfl, hj⟩ := lev hk
  show (phi FU (k + 1) "_law_put").bind _ = _
  rw [ph68]; exact h k
section
variable {k n : Nat} {w : Nat → Nat → Bool} {W : WT}
theorem base_at (k : Nat) (W : WT) : ∀ way, way < 8 → way ≠ 3 → way ≠ 7 → ∃ M n, execs (phi FU k) (psi FU k) 0 FU q72 (st0 8 [none, some (nD way)]) W = some (.rt (matD M) W) ∧ goodB n M = true ∧ 1 ≤ n ∧ n ≤ 12
  | 0, _, _, _ => ⟨pathM, 4, by kernel_rfl, by decide +kernel, by omega, by omega⟩
  | 1, _, _, _ => ⟨ringM, 5, by kernel_rfl, by decide +kernel, by omega, by omega⟩
  | 2, _, _, _ => ⟨[[0]], 1, by kernel_rfl, by decide +kernel, by omega, by omega⟩
  | 3, _, h, _ => absurd rfl h
  | 4, _, _, _ => ⟨bullM, 5, by kernel_rfl, by decide +kernel, by omega, by omega⟩
  | 5, _, _, _ => ⟨offM, 5, by kernel_rfl, by decide +kernel, by omega, by omega⟩
  | 6, _, _, _ => ⟨halfM, 6, by kernel_rfl, by decide +kernel, by omega, by omega⟩
  | 7, _, _, h => absurd rfl h
  | i + 8, h, _, _ => by omega
theorem sp_base (hk : 2 ≤ k) {way : Nat} (hw : way < 8) (W : WT) : ∃ d W', callW (WN k) "_law_base" [nD way] W = some (d, W') ∧ ∃ m v, d = rowsD m v ∧ Web m v := by
  obtain ⟨k, rfl, hj⟩ := lev hk
  refine callW_rt (ph72 _ _) ?_
  by_cases h3 : way = 3
  · subst h3
    obtain ⟨i, W1, i1, i2⟩ := drw (k := k) hj (m := 4) (by omega) W
    have g : goodB 7 (putM pathM i pathM) = true := by
      have : i = 0 ∨ i = 1 ∨ i = 2 ∨ i = 3 := by omega
      rcases this with rfl | rfl | rfl | rfl <;> decide +kernel
    exact w_setP (d := matD pathM) (by decide) (by kernel_rfl) (w_setP (d := matD ringM) (by decide) (by kernel_rfl) (w_itT (t_cmp (e_v rfl) (e_l (d := nD 3)) (by rw [c_eqN]; rfl)) (w_ret (X_f3 (X_p (e_v rfl)) (X_w1 (X_p e_l) i1) (X_p (e_v rfl)) (put_call hj fun k => put_path k i i2)) (goodB_web g (by omega) (by omega)))))
  · by_cases h7 : way = 7
    · subst h7
      obtain ⟨t, W1, t1, t2⟩ := drw (k := k) hj (m := 2) (by omega) W
      have g : goodB 8 (putM (putM (twoM (t : Nat)) 0 pathM) 0 pathM) = true := by
        have : t = 0 ∨ t = 1 := by omega
        rcases this with rfl | rfl <;> decide +kernel
      refine w_setP (d := matD pathM) (by decide) (by kernel_rfl) (w_setP (d := matD ringM) (by decide) (by kernel_rfl) (w_itF (t_cmp (e_v rfl) (e_l (d := nD 3)) (by rw [c_eqN]; rfl)) (w_itF (t_cmp (e_v rfl) (e_l (d := nD 5)) (by rw [c_eqN]; rfl)) (w_itF (t_cmp (e_v rfl) (e_l (d := nD 6)) (by rw [c_eqN]; rfl)) (w_itT (t_cmp (e_v rfl) (e_l (d := nD 7)) (by rw [c_eqN]; rfl)) ?_)))))
      refine w_set (by decide) (X_w1 (X_p e_l) t1) (w_retP (d := matD (putM (putM (twoM (t : Nat)) 0 pathM) 0 pathM)) (e_fn3 (e_fn3 (x := matD (twoM (t : Nat))) (e_lst (v_cons (e_lst (v_cons e_l (v_cons (e_v rfl) v_nil)) (by show 2 ≤ 1000; decide)) (v_cons (e_lst (v_cons (e_v rfl) (v_cons e_l v_nil)) (by show 2 ≤ 1000; decide)) v_nil)) (by show 2 ≤ 1000; decide)) (e_l (d := nD 0)) (e_v rfl) (put_call hj fun k => put_two0 k t t2)) (e_l (d := nD 0)) (e_v rfl) (put_call hj fun k => put_two1 k t t2)) (goodB_web g (by omega) (by omega)))
    · obtain ⟨M, m, e, g, g1, g2⟩ := base_at k W way hw h3 h7
      exact ⟨_, e, goodB_web g g1 g2⟩
/-! ### the web of a cell -/
theorem sp_web (hk : 6 ≤ k) (W : WT) : ∃ d W', callW (WN k) "_law_web" [] W = some (d, W') ∧ ∃ m v, d = webD m v ∧ Web m v := by
  obtain ⟨k, rfl, hj⟩ := lev hk
  obtain ⟨i, W1, i1, i2⟩ := drw (k := k) (by omega) (m := 4) (by omega) W
  have : ∃ m, 1 ≤ m ∧ m ≤ 12 ∧ pyIx (.list [.int 6, .int 6, .int 6, .int 12]) (nD i) = some (nD m) := by
    have : i = 0 ∨ i = 1 ∨ i = 2 ∨ i = 3 := by omega
    rcases this with rfl | rfl | rfl | rfl
    · exact ⟨6, by omega, by omega, rfl⟩
    · exact ⟨6, by omega, by omega, rfl⟩
    · exact ⟨6, by omega, by omega, rfl⟩
    · exact ⟨12, by omega, by omega, rfl⟩
  obtain ⟨m, m1, m2, m3⟩ := this
  obtain ⟨s, W2, s1, s2⟩ := drw (k := k) (by omega) (m := m) m1 W1
  obtain ⟨mood, W3, o1, o2⟩ := drw (k := k) (by omega) (m := 13) (by omega) W2
  refine callW_rt (ph75 _ _) ?_
  refine w_set (d := nD (1 + s)) (by decide) (X_bin (X_p e_l) (X_w1 (X_ix (X_p (e_lst (v_cons e_l (v_cons e_l (v_cons e_l (v_cons e_l v_nil)))) (by show 4 ≤ 1000; decide))) (X_w1 (X_p e_l) i1) m3) s1) (show some (PySem.PyData.int (1 + (s : Int))) = some (PySem.PyData.int ((1 + s : Nat) : Int)) by congr 2)) (w_set (by decide) (X_w1 (X_p e_l) o1) ?_)
  have tail : ∀ (n : Nat) (v : Nat → Nat → Bool) (d : PD) (W' : WT), d = rowsD n v → Web n v → WX (FX k) (WN k) 0 FU [.ret [] (.wfn "_law_finished" [.pure (.var 3)])] ⟨[none, some (nD (1 + s)), some (nD mood), some d], List.replicate 4 none⟩ W' (RT fun d _ => ∃ m v, d = webD m v ∧ Web m v) := by
    intro n v d W' e Wv
    subst e
    obtain ⟨d, W4, g1, g2⟩ := sp_finished (k := k) (by omega) Wv W'
    exact w_ret (X_w1 (X_p (e_v rfl)) g1) g2
  refine w_ite (p := decide (mood < 3)) (t_cmp (e_v rfl) (e_l (d := nD 3)) c_ltN) (fun q => ?_) (fun q => ?_)
  · obtain ⟨d, W4, g1, v, g2, g3⟩ := sp_loose (k := k) (n := 1 + s) (by omega) (by omega) (by omega) (of_decide_eq_true q) W3
    exact w_set (by decide) (X_w2 (X_p (e_v rfl)) (X_p (e_v rfl)) g1) (tail _ v d W4 g2 g3)
  refine w_ite (p := decide (mood = 3)) (t_cmp (e_v rfl) (e_l (d := nD 3)) c_eqN) (fun q => ?_) (fun q2 => ?_)
  · obtain ⟨d, W4, g1, v, g2, g3⟩ := sp_line (k := k) (n := 1 + s) (by omega) (by omega) (by omega) W3
    exact w_set (by decide) (X_w1 (X_p (e_v rfl)) g1) (tail _ v d W4 g2 g3)
  refine w_ite (p := decide (mood = 4)) (t_cmp (e_v rfl) (e_l (d := nD 4)) c_eqN) (fun q => ?_) (fun q3 => ?_)
  · obtain ⟨d, W4, g1, v, g2, g3⟩ := sp_crossed (k := k) (n := 1 + s) (by omega) (by omega) (by omega) W3
    exact w_set (by decide) (X_w1 (X_p (e_v rfl)) g1) (tail _ v d W4 g2 g3)
  · have q := of_decide_eq_false q
    have q2 := of_decide_eq_false q2
    have q3 := of_decide_eq_false q3
    obtain ⟨d, W4, g1, n, v, g2, g3⟩ := sp_base (k := k) (by omega) (way := mood - 5) (by omega) W3
    subst g2
    obtain ⟨d, W5, h1, n2, v2, h2, h3⟩ := sp_grown (k := k) (by omega) g3 (size := 1 + s) (by omega) W4
    refine w_set (by decide) (X_w2 (X_w1 (X_p (e_bin (e_v rfl) (e_l (d := nD 5)) (show some (PySem.PyData.int ((mood : Int) - 5)) = some (PySem.PyData.int ((mood - 5 : Nat) : Int)) by congr 2; omega))) g1) (X_p (e_v rfl)) h1) (tail _ v2 d W5 h2 h3)
end
end SN
end
section
set_option Elab.async false
set_option linter.all false
set_option maxRecDepth 100000
set_option maxHeartbeats 4000000
/-! K15: the well, the pairs, a cell's turn. -/
namespace SN
open PySem L2 LamX NdefX PyProof.Rows
section
variable {k n : Nat} {w : Nat → Nat → Bool} {W : WT} {Φ : Fns} {Ψ : Wns} {ρ τ : Rho} {a b : IR} {i j : Int}
theorem e_mod (h1 : ev Φ a ρ τ = some (.int i)) (h2 : ev Φ b ρ τ = some (.int j)) (h : 0 < j) : ev Φ (.bin .Mod a b) ρ τ = some (.int (i % j)) := e_bin h1 h2 (by
  show (if 0 < j then some (PySem.PyData.int (i % j)) else none) = _
  rw [if_pos h])
theorem e_fdv (h1 : ev Φ a ρ τ = some (.int i)) (h2 : ev Φ b ρ τ = some (.int j)) (h : 0 < j) (h' : j < 1073741824) : ev Φ (.bin .FloorDiv a b) ρ τ = some (.int (i / j)) := e_bin h1 h2 (by
  show (if 0 < j ∧ j < 1073741824 then some (PySem.PyData.int (i / j)) else none) = _
  rw [if_pos ⟨h, h'⟩])
theorem e_mulI (h1 : ev Φ a ρ τ = some (.int i)) (h2 : ev Φ b ρ τ = some (.int j)) (h : -(2 ^ 64) < i ∧ i < 2 ^ 64) : ev Φ (.bin .Mult a b) ρ τ = some (.int (i * j)) := e_bin h1 h2 (b_mulI h)
theorem e_mulJ (h1 : ev Φ a ρ τ = some (.int i)) (h2 : ev Φ b ρ τ = some (.int j)) (h : -(2 ^ 64) < j ∧ j < 2 ^ 64) : ev Φ (.bin .Mult a b) ρ τ = some (.int (i * j)) := e_bin h1 h2 (by
  show (if (-(2 ^ 64) < i ∧ i < 2 ^ 64) ∨ (-(2 ^ 64) < j ∧ j < 2 ^ 64) then some (PySem.PyData.int (i * j)) else none) = _
  rw [if_pos (.inr h)])
theorem e_add (h1 : ev Φ a ρ τ = some (.int i)) (h2 : ev Φ b ρ τ = some (.int j)) : ev Φ (.bin .Add a b) ρ τ = some (.int (i + j)) := e_bin h1 h2 rfl
theorem e_int (h1 : ev Φ a τ τ = some (.int i)) : ev Φ (.bi1 .int a) ρ τ = some (.int i) := e_sc rfl h1 rfl rfl
theorem e_rev {ds : List PD} (h : ev Φ a ρ τ = some (.list ds)) : ev Φ (.rev a) ρ τ = some (.list ds.reverse) := by
  unfold ev
  rw [h]; rfl
/-- a slot of numbers -/
def shWe (c r st : Int) (a5 : Option PD) (V : List Int) : PSt := ⟨[some (.int c), some (.int 260), some (.int r), some (.int st), none, a5], [none, none, none, none, some (.list (V.map .int)), none]⟩
theorem sp_well (hk : 1 ≤ k) (c : Int) : ∃ V : List Int, call (FX k) "_law_well" [.int c, .int 260] = some (.list (V.map .int)) := by
  obtain ⟨k, rfl, hj⟩ := lev hk
  have : ∃ d, call (FX (k + 1)) "_law_well" [.int c, .int 260] = some d ∧ ∃ V : List Int, d = .list (V.map .int) := by
    refine w_call (ph64 _ _) ?_
    refine w_setP (d := .int (if c < 0 then -c else c)) (by decide) (e_sc rfl (e_int (e_v rfl)) rfl rfl) ?_
    generalize (if c < 0 then -c else c) = r0
    have m1 := Int.emod_nonneg r0 (show (2147483587 : Int) ≠ 0 by omega)
    have m2 := Int.emod_lt_of_pos r0 (show (0 : Int) < 2147483587 by omega)
    refine w_setP (by decide) (e_add (e_mod (e_int (e_v rfl)) e_l (by omega)) e_l) ?_
    have pw : pyBin .Pow (.int 10) (.int 18) = some (.int ((10 : Int) ^ 18)) := by
      show (if 0 ≤ (18 : Int) ∧ (18 : Int) ≤ 1000000 ∧ (10 : Int).natAbs < 2 ^ 64 then some (PySem.PyData.int ((10 : Int) ^ (18 : Int).toNat)) else none) = _
      rw [if_pos (by decide)]; rfl
    refine w_setP (d := .int (r0 * b01 (decide ((10 : Int) ^ 18 ≤ r0)))) (by decide) (e_mulJ (e_v rfl) (e_sc rfl (e_cmp (e_v rfl) (e_bin e_l e_l pw) rfl) f_intB rfl) (by rcases b01_bit (b := decide ((10 : Int) ^ 18 ≤ r0)) with z | z <;> rw [z] <;> omega)) ?_
    generalize r0 * b01 (decide ((10 : Int) ^ 18 ≤ r0)) = r1
    generalize hst : r0 % 2147483587 + 2 = st
    refine w_own (ds := []) (by decide) rfl (e_lst v_nil (by decide)) ?_
    refine w_iter1 (l := List.range 260) (enc := nD) (fun m S W' => ∃ (r st : Int) (a5 : Option PD) (V : List Int), S = shWe c r st a5 V ∧ W' = [] ∧ 0 ≤ st ∧ st < 2147483600 ∧ V.length = m.length) (i_rng (m := 260) (e_v rfl) (by omega)) (by decide) ⟨r1, st, none, [], rfl, rfl, by omega, by omega, rfl⟩ ?_ ?_
    · intro m x rr S W' e ⟨r, st, a5, V, eS, eW, s1, s2, s3⟩
      subst eS; subst eW
      have hx : x < 260 := by
        have : x ∈ List.range 260 := by rw [e]; simp
        exact List.mem_range.mp this
      have ml : m.length < 260 := by
        have := congrArg List.length e
        rw [List.length_range, List.length_append, List.length_cons] at this
        omega
      have x2 : x * x ≤ 260 * 260 := Nat.mul_le_mul (by omega) (by omega)
      have x2' : (x : Int) * (x : Int) = ((x * x : Nat) : Int) := (Int.natCast_mul _ _).symm
      refine w_setP (by decide) (e_mod (e_int (e_add (e_add (e_mulI (e_v rfl) e_l (by omega)) (e_mulI (e_mulI (e_v rfl) (e_v rfl) (by omega)) (e_v rfl) (by rw [x2']; omega))) e_l)) e_l (by omega)) ?_
      generalize hq : (st * 69621 + (x : Int) * (x : Int) * (x : Int) + 5) = q
      have m1 := Int.emod_nonneg q (show (2147483587 : Int) ≠ 0 by omega)
      have m2 := Int.emod_lt_of_pos q (show (0 : Int) < 2147483587 by omega)
      generalize q % 2147483587 = s at m1 m2
      refine w_ite (p := decide (0 < r)) (t_cmp (e_v rfl) e_l rfl) (fun _ => ?_) (fun _ => ?_)
      · refine w_app (ds := V.map .int) (d := .int (r % 55440)) rfl (e_mod (e_int (e_v rfl)) e_l (by omega)) (by rw [List.length_map]; unfold big; omega) (w_setP (d := .int (r / 55440)) (by decide) (e_fdv (e_v rfl) e_l (by omega) (by omega)) (w_nil ⟨r / 55440, s, some (nD x), V ++ [r % 55440], ?_, rfl, m1, by omega, by simp [s3]⟩))
        unfold shWe
        rw [List.map_append]; rfl
      · refine w_app (ds := V.map .int) (d := .int (s * (s / 8 + 7) % 2147483549 / 11 % 55440)) rfl (e_mod (e_fdv (e_mod (e_int (e_mulI (e_v rfl) (e_add (e_fdv (e_v rfl) e_l (by omega) (by omega)) e_l) (by omega))) e_l (by omega)) e_l (by omega) (by omega)) e_l (by omega)) (by rw [List.length_map]; unfold big; omega) (w_nil ⟨r, s, some (nD x), V ++ [s * (s / 8 + 7) % 2147483549 / 11 % 55440], ?_, rfl, m1, by omega, by simp [s3]⟩)
        unfold shWe
        rw [List.map_append]; rfl
    · intro S W' ⟨r, st, a5, V, eS, eW, s1, s2, s3⟩
      subst eS; subst eW
      exact w_retP (e_rev (e_v rfl)) ⟨V.reverse, by rw [List.map_reverse]⟩
  obtain ⟨d, h1, V, rfl⟩ := this
  exact ⟨V, h1⟩
/-! ### pairs -/
theorem foldX_ok {α : Type} {enc : α → PD} {f : PD → WT → Option (PD × WT)} {P : PD → Prop} : ∀ (l : List α) (W : WT), (∀ x, x ∈ l → ∀ W, ∃ d W', f (enc x) W = some (d, W') ∧ P d) → ∃ ds W', foldX f (l.map enc) W = some (ds, W') ∧ ∀ d, d ∈ ds → P d
  | [], W, _ => ⟨[], W, rfl, fun d h => (by cases h)⟩
  | x :: l, W, h => by
    obtain ⟨d, W1, h1, h2⟩ := h x (List.mem_cons_self ..) W
    obtain ⟨ds, W2, g1, g2⟩ := foldX_ok l W1 fun y hy => h y (List.mem_cons_of_mem _ hy)
    refine ⟨d :: ds, W2, ?_, fun z hz => ?_⟩
    · show (f (enc x) W).bind (fun r => (foldX f (l.map enc) r.2).map fun q => (r.1 :: q.1, q.2)) = _
      rw [h1, Option.bind_some, g1]; rfl
    · rcases List.mem_cons.mp hz with e | e
      · rw [e]; exact h2
      · exact g2 z e
theorem X_lcX {α : Type} {enc : α → PD} {l : List α} {src : IR} {elt : XW} {i : Nat} {own : List Nat} {P : PD → Prop} (h1 : evI Φ src ρ τ = some (l.map enc)) (h2 : ∀ x, x ∈ l → ∀ W, ∃ d W', evX Φ Ψ elt ((wipeR ρ own).set i (some (enc x))) ((wipeR τ own).set i (some (enc x))) W = some (d, W') ∧ P d) (hz : l.length ≤ big) (W : WT) :
    ∃ ds W', evX Φ Ψ (.lcX src (.one i) own elt) ρ τ W = some (.list ds, W') ∧ ∀ d, d ∈ ds → P d := by
  obtain ⟨ds, W', g1, g2⟩ := foldX_ok (enc := enc) (f := fun d V => (putR (.one i) d (wipeR ρ own)).bind fun ρ' => (putR (.one i) d (wipeR τ own)).bind fun τ' => evX Φ Ψ elt ρ' τ' V) (P := P) l W fun x hx W => h2 x hx W
  refine ⟨ds, W', ?_, g2⟩
  unfold evX
  rw [h1, Option.bind_some, g1, Option.bind_some]
  unfold bigL
  rw [if_pos (by rw [List.length_map]; exact hz)]; rfl
def prD (p : Nat × Nat) : PD := .tuple [nD p.1, nD p.2]
def IsPr (n : Nat) (d : PD) : Prop := ∃ a b, d = prD (a, b) ∧ a < b ∧ b < n
theorem sp_pairs (hk : 2 ≤ k) (hn : n ≤ 12) (W : WT) : ∃ d W', callW (WN k) "_law_pairs" [nD n] W = some (d, W') ∧ ∃ items, d = .list items ∧ ∀ z, z ∈ items → IsPr n z := by
  obtain ⟨k, rfl, hj⟩ := lev hk
  refine callW_rt (ph83 _ _) ?_
  refine w_setP (d := .list []) (by decide) (e_lst v_nil (by decide)) ?_
  refine w_iter1 (l := List.range n) (enc := nD) (fun m S W' => ∃ (ps : List (Nat × Nat)) (a3 : Option PD), S = ⟨[none, some (nD n), some (.list (ps.map prD)), a3, none, none], List.replicate 6 none⟩ ∧ (∀ p, p ∈ ps → p.1 < p.2 ∧ p.2 < n) ∧ ps.length ≤ 12 * m.length ∧ (2 ≤ m.length → 1 ≤ ps.length)) (i_rng (e_v rfl) (by omega)) (by decide) ⟨[], none, rfl, by simp, by simp, by simp⟩ ?_ ?_
  · intro m x r S W' e ⟨ps, a3, eS, i1, i2, i3⟩
    subst eS
    have hx : x < n := by
      have : x ∈ List.range n := by rw [e]; simp
      exact List.mem_range.mp this
    have ml : m.length < n := by
      have := congrArg List.length e
      rw [List.length_range, List.length_append, List.length_cons] at this
      omega
    have mx : m.length = x := by
      have h1 : (List.range n)[m.length]? = some x := by rw [e, List.getElem?_append_right (Nat.le_refl _), Nat.sub_self]; rfl
      rw [List.getElem?_range ml] at h1
      exact Option.some.inj h1
    refine w_setP (d := .list ((ps ++ (List.range x).map fun y => (y, x)).map prD)) (by decide) (e_bin (e_v rfl) (e_lc (l := List.range x) (enc := nD) (f := fun y => prD (y, x)) (i_rng (e_v rfl) (by omega)) (fun y hy => e_tup (v_cons (e_v rfl) (v_cons (e_v rfl) v_nil)) (by show 2 ≤ 1000; decide)) (len_rng_big (by omega))) ?_) (w_nil ⟨_, some (nD x), rfl, fun p hp => ?_, ?_, fun _ => ?_⟩)
    · rw [List.map_append, List.map_map]
      exact b_addL (by rw [List.length_map, List.length_map, List.length_range]; unfold big; omega)
    · rcases List.mem_append.mp hp with z | z
      · exact i1 p z
      · obtain ⟨y, hy, rfl⟩ := List.mem_map.mp z
        exact ⟨List.mem_range.mp hy, hx⟩
    · rw [List.length_append, List.length_append, List.length_map, List.length_range, List.length_singleton]; omega
    · rename_i h
      rw [List.length_append, List.length_singleton] at h
      rw [List.length_append, List.length_map, List.length_range]; omega
  · intro S W' ⟨ps, a3, eS, i1, i2, i3⟩
    subst eS
    rw [List.length_range] at i2 i3
    refine w_ite (p := decide (n < 8)) (t_cmp (e_v rfl) (e_l (d := nD 8)) c_ltN) (fun q => ?_) (fun q => ?_)
    · refine w_retP (e_v rfl) ⟨_, rfl, fun z hz => ?_⟩
      obtain ⟨p, hp, rfl⟩ := List.mem_map.mp hz
      exact ⟨p.1, p.2, rfl, i1 p hp⟩
    · have q := of_decide_eq_false q
      have pl := i3 (by omega)
      have el : ∀ {ρ τ : Rho}, getR τ 2 = some (.list (ps.map prD)) → ev (FX k) (.bi1 .len (.var 2)) ρ τ = some (nD ps.length) := fun {ρ τ} h => by
        have := e_len (Φ := FX k) (ρ := ρ) (a := .var 2) (.inl (e_v h))
        rwa [List.length_map] at this
      obtain ⟨ds, W2, g1, g2⟩ := X_lcX (Φ := FX k) (Ψ := WN k) (enc := nD) (l := List.range 5) (src := .rng1 (.lit (.int 5))) (elt := .ix (.pure (.var 2)) (.wfn "_law_draw" [.pure (.bi1 .len (.var 2))])) (i := 5) (own := [5]) (P := IsPr n) (ρ := [none, some (nD n), some (.list (ps.map prD)), a3, none, none]) (τ := PSt.all ⟨[none, some (nD n), some (.list (ps.map prD)), a3, none, none], List.replicate 6 none⟩) (i_rng (m := 5) e_l (by omega)) (fun x hx V => by
          obtain ⟨i, V1, h1, h2⟩ := drw (k := k) (by omega) (m := ps.length) pl V
          exact ⟨prD ps[i], V1, X_ix (X_p (e_v rfl)) (X_w1 (X_p (el rfl)) h1) (ix_mapL h2), ps[i].1, ps[i].2, rfl, i1 _ (List.getElem_mem h2)⟩) (by decide) W'
      exact w_ret g1 ⟨ds, rfl, g2⟩
/-! ### a turn -/
theorem law_plain (hk : 40 ≤ k) (c : Int) : lawOk (FX k) (WN k) FU c := by
  obtain ⟨V, v1⟩ := sp_well (k := k) (by omega) c
  obtain ⟨d, W1, w1, n, w, rfl, Wb⟩ := sp_web (k := k) (by omega) V
  have hn := Wb.le
  obtain ⟨F, L, n1, f, n2, n3, n4⟩ := sp_nodes (k := k) (by omega) Wb
  obtain ⟨M, rfl⟩ := List.getLast?_eq_some_iff.mp n3
  have rr := sp_root_right (k := k) (by omega) Wb f
  obtain ⟨dp, W2, p1, items, rfl, p2⟩ := sp_pairs (k := k) (n := n) (by omega) hn W1
  have h1 : execs (FX k) (WN k) 2 FU ir84 (st0 8 [none, some (.int c)]) V = some (.nx ⟨[none, some (.int c), none, some (webD n w), some (.list ((M ++ [List.range n]).map (ndD w F))), some (ndD w F (List.range n)), none, none], List.replicate 8 none⟩ W1) := by
    refine x_set (by decide) (X_w0 w1) (x_setP (by decide) (e_fn1 (e_v rfl) n1) (x_setP (d := ndD w F (List.range n)) (by decide) (e_ix (e_v rfl) (e_neg (e_l (d := .int 1))) ?_) (x_itF (t_orF (t_notT (t_vb (e_isa (e_v rfl) rfl))) (t_orF (t_cmp (e_len (ds := [natT (List.range n), .str (kndS w F (List.range n)), .tuple ((kdsOr F (List.range n)).map natT)]) (.inr (e_v rfl))) (e_l (d := nD 3)) (show pyCmp .NotEq (nD 3) (nD 3) = some (.bool false) from rfl)) (t_cmp (e_ix (e_v rfl) (e_l (d := nD 0)) (show pyIx (ndD w F (List.range n)) (nD 0) = some (natT (List.range n)) from rfl)) (e_trng (e_wlen (e_v rfl)) (by omega)) (by rw [c_neT, decide_eq_false (by simp)])))) (x_itF (t_notT (t_vb (e_fn2 (e_v rfl) (e_v rfl) rr))) x_nil))))
    rw [List.map_append]
    exact atI_last
  obtain ⟨S2, W3, l1, a6, a7, l2⟩ := loopF_pre (enc := id) (f := fun d S W => (S.putT 2 (.two 6 7) d).bind fun S' => execs (FX k) (WN k) 2 FU ir84p S' W) (fun _ S _ => ∃ a6 a7 : Option PD, S = ⟨[none, some (.int c), none, some (webD n w), some (.list ((M ++ [List.range n]).map (ndD w F))), some (ndD w F (List.range n)), a6, a7], List.replicate 8 none⟩) items ⟨[none, some (.int c), none, some (webD n w), some (.list ((M ++ [List.range n]).map (ndD w F))), some (ndD w F (List.range n)), none, none], List.replicate 8 none⟩ W2 ⟨none, none, rfl⟩ (fun m x r S W e ⟨a6, a7, eS⟩ => by
      subst eS
      obtain ⟨a, b, rfl, ab, bn⟩ := p2 x (by rw [e]; simp)
      refine ⟨⟨[none, some (.int c), none, some (webD n w), some (.list ((M ++ [List.range n]).map (ndD w F))), some (ndD w F (List.range n)), some (nD a), some (nD b)], List.replicate 8 none⟩, W, ?_, _, _, rfl⟩
      refine (pt2 (by decide) (by decide)).trans ?_
      refine x_itN (p := w a b) (t_w1 (e_v rfl) (e_v rfl) (e_v rfl) (by omega) bn) (fun q => ?_) (fun q => ?_) x_nil
      · obtain ⟨e, d1, d2⟩ := sp_distance (k := k) (by omega) Wb (x := b) (y := a) bn (by omega) (by omega)
        have : Dst w b a (some 1) := ⟨.inr ⟨b, rfl, by rw [Wb.sym]; exact q⟩, fun e he z => by
          obtain rfl : e = 0 := by omega
          have : a = b := z
          omega⟩
        rw [d2.uniq this] at d1
        exact x_itF (t_cmp (e_fn3 (e_v rfl) (e_v rfl) (e_v rfl) d1) (e_l (d := nD 1)) (show pyCmp .NotEq (nD 1) (nD 1) = some (.bool false) from rfl)) x_nil
      · obtain ⟨e, d1, d2⟩ := sp_distance (k := k) (by omega) Wb (x := a) (y := b) (by omega) bn (by omega)
        obtain ⟨e', t1, t2⟩ := sp_told (k := k) (by omega) Wb f n2 n4 ab bn q
        obtain rfl := t2.uniq d2
        exact x_itF (t_notT (t_vb (e_fn2 (e_fn3 (e_v rfl) (e_v rfl) (e_v rfl) d1) (e_fn4 (e_v rfl) (e_v rfl) (e_v rfl) (e_v rfl) t1) (sp_same_d (by omega) fun d hd => by
          subst hd
          have := dst_lt Wb (show a < n by omega) d2
          omega)))) x_nil)
  refine ⟨S2, W3, ?_, by rw [l2]; rfl⟩
  unfold call at v1
  unfold lawTurn
  cases q : phi FU k "_law_well" with
  | none => rw [show FX k "_law_well" = none from q] at v1; cases v1
  | some g =>
    rw [show FX k "_law_well" = some g from q] at v1
    have v1 : g [.int c, .int 260] = some (.list (V.map .int)) := v1
    rw [show FX k "_law_well" = some g from q, Option.bind_some, v1, Option.bind_some]
    show (asInts (V.map .int)).bind _ = _
    rw [asInts_map, Option.bind_some, h1, Option.bind_some]
    show (evX (FX k) (WN k) ir84i [none, some (.int c), none, some (webD n w), some (.list ((M ++ [List.range n]).map (ndD w F))), some (ndD w F (List.range n)), none, none] (PSt.all ⟨[none, some (.int c), none, some (webD n w), some (.list ((M ++ [List.range n]).map (ndD w F))), some (ndD w F (List.range n)), none, none], List.replicate 8 none⟩) W1).bind _ = _
    have e2 : evX (FX k) (WN k) ir84i [none, some (.int c), none, some (webD n w), some (.list ((M ++ [List.range n]).map (ndD w F))), some (ndD w F (List.range n)), none, none] (PSt.all ⟨[none, some (.int c), none, some (webD n w), some (.list ((M ++ [List.range n]).map (ndD w F))), some (ndD w F (List.range n)), none, none], List.replicate 8 none⟩) W1 = some (.list items, W2) := X_w1 (X_p (e_wlen (e_v rfl))) p1
    rw [e2, Option.bind_some]
    rw [List.map_id] at l1
    exact l1
end
end SN
end
set_option Elab.async false
theorem PySem.Challenge.cw_seenasone_k23_whole_one_of_three_kinds_holds : PySem.Challenge.rw_seenasone_k23_whole_one_of_three_kinds.Holds := by
  exact SN.row_of fun c => SN.law_plain (k := SN.LV) (by decide) c
