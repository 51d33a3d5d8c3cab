import PyProof.Rows.All
import Wide.All
import OpenK.AllK
import Wide.FinOn
import HandS.ForMost
import HandS.Walk
import HandS.IsInst
import HandS.DictTup
import HandS.Codes
import KE.KDictWalk
import PySem.Challenge.RW_folderkin_k76_whole_no_letter_from_nowhe
set_option Elab.async false
set_option maxRecDepth 100000
set_option maxHeartbeats 8000000
/-! The plain law: letters, queues and the ledger's rows, with no program in sight. -/
namespace K76
abbrev P2 := Int × Int
/-- the bytes of the letter with the number n, sent from s -/
def lett (n : Nat) (s : Int) : List Int := [(n : Int) / 7, (n : Int) % 7, s]
theorem lett_inj {m n : Nat} {s t : Int} (h : lett m s = lett n t) : m = n := by
  unfold lett at h
  injection h with h1 h2
  injection h2 with h2 h3
  omega
theorem lett_no (n : Nat) : 7 * ((n : Int) / 7) + (n : Int) % 7 = n := by omega
def setQ {α : Type} (f : P2 → α) (p : P2) (v : α) : P2 → α := fun r => if r = p then v else f r
theorem setQ_same {α : Type} {f : P2 → α} {p : P2} {v : α} : setQ f p v p = v := by unfold setQ; rw [if_pos rfl]
theorem setQ_ne {α : Type} {f : P2 → α} {p r : P2} {v : α} (h : r ≠ p) : setQ f p v r = f r := by unfold setQ; rw [if_neg h]
theorem setQ_map {α β : Type} (g : α → β) (f : P2 → α) (p : P2) (v : α) : (fun r => g (setQ f p v r)) = setQ (fun r => g (f r)) p (g v) := by
  funext r
  by_cases h : r = p
  · rw [h, setQ_same, setQ_same]
  · rw [setQ_ne h, setQ_ne h]
/-- the sum of f over the directions -/
def tot (ks : List P2) (f : P2 → Nat) : Int := (ks.map fun p => (f p : Int)).sum
theorem tot_off {ks : List P2} {f : P2 → Nat} {p : P2} {v : Nat} (h : p ∉ ks) : tot ks (setQ f p v) = tot ks f := by
  induction ks with
  | nil => rfl
  | cons a r ih =>
    have ha : a ≠ p := fun e => h (by rw [e]; exact List.mem_cons_self)
    have hr : p ∉ r := fun e => h (List.mem_cons_of_mem _ e)
    have q := ih hr
    unfold tot at q ⊢
    rw [List.map_cons, List.map_cons, List.sum_cons, List.sum_cons, q, setQ_ne ha]
theorem tot_set {ks : List P2} (hn : ks.Nodup) {f : P2 → Nat} {p : P2} {v : Nat} (h : p ∈ ks) : tot ks (setQ f p v) = tot ks f - (f p : Int) + (v : Int) := by
  induction ks with
  | nil => simp at h
  | cons a r ih =>
    have hn' := List.nodup_cons.mp hn
    by_cases e : a = p
    · subst e
      have q := tot_off (f := f) (v := v) hn'.1
      unfold tot at q ⊢
      rw [List.map_cons, List.map_cons, List.sum_cons, List.sum_cons, q, setQ_same]
      omega
    · have hr : p ∈ r := by
        rcases List.mem_cons.mp h with z | z
        · exact absurd z.symm e
        · exact z
      have q := ih hn'.2 hr
      unfold tot at q ⊢
      rw [List.map_cons, List.map_cons, List.sum_cons, List.sum_cons, q, setQ_ne e]
      omega
theorem tot_zero {ks : List P2} {f : P2 → Nat} (h : ∀ p ∈ ks, f p = 0) : tot ks f = 0 := by
  induction ks with
  | nil => rfl
  | cons a r ih =>
    have q := ih fun p hp => h p (List.mem_cons_of_mem _ hp)
    unfold tot at q ⊢
    rw [List.map_cons, List.sum_cons, q, h a List.mem_cons_self]
    rfl
/-- the ledger fits the queues -/
structure Fits (ks : List P2) (W : P2 → List (List Int)) (rs : List (P2 × Int)) : Prop where
  link : ∀ p ∈ ks, ∀ d ∈ W p, ∃ (n : Nat) (k : Int), rs[n]? = some (p, k) ∧ d = lett n p.1
  cnt : ∀ (n : Nat) (p : P2) (k : Int), rs[n]? = some (p, k) → p ∈ ks ∧ p.1 ≠ p.2 ∧ k = (((W p).count (lett n p.1) : Nat) : Int)
theorem get_lt {α : Type} {l : List α} {n : Nat} {x : α} (h : l[n]? = some x) : n < l.length := (List.getElem?_eq_some_iff.mp h).1
theorem get_snoc {α : Type} {l : List α} {y : α} {n : Nat} {x : α} (h : (l ++ [y])[n]? = some x) : l[n]? = some x ∨ (n = l.length ∧ x = y) := by
  by_cases e : n < l.length
  · rw [List.getElem?_append_left e] at h
    exact .inl h
  · have q := get_lt h
    rw [List.length_append, List.length_singleton] at q
    have e' : n = l.length := by omega
    subst e'
    rw [List.getElem?_append_right (Nat.le_refl _), Nat.sub_self] at h
    exact .inr ⟨rfl, (Option.some.inj h).symm⟩
theorem snoc_old {α : Type} {l : List α} {y : α} {n : Nat} {x : α} (h : l[n]? = some x) : (l ++ [y])[n]? = some x := by
  rw [List.getElem?_append_left (get_lt h)]
  exact h
theorem snoc_new {α : Type} (l : List α) (y : α) : (l ++ [y])[l.length]? = some y := by
  rw [List.getElem?_append_right (Nat.le_refl _), Nat.sub_self]
  rfl
section
variable {ks : List P2} {W : P2 → List (List Int)} {rs : List (P2 × Int)} {p : P2}
theorem Fits.fresh (h : Fits ks W rs) (hp : p ∈ ks) : (W p).count (lett rs.length p.1) = 0 := by
  refine List.count_eq_zero.mpr fun hm => ?_
  obtain ⟨n, k, e, q⟩ := h.link p hp _ hm
  have := get_lt e
  have := lett_inj q
  omega
theorem Fits.lost (h : Fits ks W rs) (hp : p ∈ ks) (hd : p.1 ≠ p.2) : Fits ks W (rs ++ [(p, 0)]) := by
  refine ⟨fun r hr d hm => ?_, fun n r k e => ?_⟩
  · obtain ⟨n, k, e, q⟩ := h.link r hr d hm
    exact ⟨n, k, snoc_old e, q⟩
  · rcases get_snoc e with e1 | ⟨en, e2⟩
    · exact h.cnt n r k e1
    · cases e2
      subst en
      exact ⟨hp, hd, by rw [h.fresh hp]; rfl⟩
theorem Fits.sent (h : Fits ks W rs) (hp : p ∈ ks) (hd : p.1 ≠ p.2) : Fits ks (setQ W p (W p ++ [lett rs.length p.1])) (rs ++ [(p, 1)]) := by
  refine ⟨fun r hr d hm => ?_, fun n r k e => ?_⟩
  · by_cases er : r = p
    · subst er
      rw [setQ_same] at hm
      rcases List.mem_append.mp hm with hm | hm
      · obtain ⟨n, k, e, q⟩ := h.link r hr d hm
        exact ⟨n, k, snoc_old e, q⟩
      · exact ⟨rs.length, 1, snoc_new _ _, List.mem_singleton.mp hm⟩
    · rw [setQ_ne er] at hm
      obtain ⟨n, k, e, q⟩ := h.link r hr d hm
      exact ⟨n, k, snoc_old e, q⟩
  · rcases get_snoc e with e1 | ⟨en, e2⟩
    · obtain ⟨h1, h2, h3⟩ := h.cnt n r k e1
      refine ⟨h1, h2, ?_⟩
      by_cases er : r = p
      · subst er
        have ne : ¬ lett rs.length r.1 = lett n r.1 := fun z => by
          have := get_lt e1
          have := lett_inj z
          omega
        rw [setQ_same, List.count_append, List.count_singleton, if_neg (by simpa using ne), h3]
        rfl
      · rw [setQ_ne er]
        exact h3
    · cases e2
      subst en
      refine ⟨hp, hd, ?_⟩
      rw [setQ_same, List.count_append, h.fresh hp, List.count_singleton, if_pos (by simp)]
      rfl
/-- the count of one letter changes by x -/
theorem Fits.change (h : Fits ks W rs) {m : Nat} {k x : Int} (e : rs[m]? = some (p, k)) {w : List (List Int)} (hc : ∀ d, ((w.count d : Nat) : Int) = (((W p).count d : Nat) : Int) + (if d = lett m p.1 then x else 0)) :
    Fits ks (setQ W p w) (rs.set m (p, k + x)) := by
  have hm := get_lt e
  refine ⟨fun r hr d hd => ?_, fun n r j ej => ?_⟩
  · by_cases er : r = p
    · subst er
      rw [setQ_same] at hd
      by_cases ed : d = lett m r.1
      · exact ⟨m, k + x, by rw [List.getElem?_set_self hm], ed⟩
      · have q := hc d
        rw [if_neg ed] at q
        have q1 : 0 < w.count d := List.count_pos_iff.mpr hd
        obtain ⟨n, j, en, eq⟩ := h.link r hr d (List.count_pos_iff.mp (by omega))
        have nm : m ≠ n := fun z => ed (by rw [z]; exact eq)
        exact ⟨n, j, by rw [List.getElem?_set_ne nm]; exact en, eq⟩
    · rw [setQ_ne er] at hd
      obtain ⟨n, j, en, eq⟩ := h.link r hr d hd
      have nm : m ≠ n := fun z => er (by subst z; rw [e] at en; cases en; rfl)
      exact ⟨n, j, by rw [List.getElem?_set_ne nm]; exact en, eq⟩
  · by_cases nm : m = n
    · subst nm
      rw [List.getElem?_set_self hm] at ej
      cases ej
      obtain ⟨h1, h2, h3⟩ := h.cnt m p k e
      refine ⟨h1, h2, ?_⟩
      rw [setQ_same, hc, if_pos rfl, h3]
    · rw [List.getElem?_set_ne nm] at ej
      obtain ⟨h1, h2, h3⟩ := h.cnt n r j ej
      refine ⟨h1, h2, ?_⟩
      by_cases er : r = p
      · subst er
        rw [setQ_same, hc, if_neg (fun z => nm (lett_inj z).symm), h3, Int.add_zero]
      · rw [setQ_ne er]
        exact h3
/-- a queue is put in another order -/
theorem Fits.perm (h : Fits ks W rs) {w : List (List Int)} (hc : ∀ d, w.count d = (W p).count d) : Fits ks (setQ W p w) rs := by
  refine ⟨fun r hr d hd => ?_, fun n r j ej => ?_⟩
  · by_cases er : r = p
    · subst er
      rw [setQ_same] at hd
      have q1 : 0 < w.count d := List.count_pos_iff.mpr hd
      rw [hc] at q1
      exact h.link r hr d (List.count_pos_iff.mp q1)
    · rw [setQ_ne er] at hd
      exact h.link r hr d hd
  · obtain ⟨h1, h2, h3⟩ := h.cnt n r j ej
    refine ⟨h1, h2, ?_⟩
    by_cases er : r = p
    · subst er
      rw [setQ_same, hc]
      exact h3
    · rw [setQ_ne er]
      exact h3
/-- no letter waits from a device to itself -/
theorem Fits.diag (h : Fits ks W rs) (hp : p ∈ ks) (e : p.1 = p.2) : W p = [] := by
  cases q : W p with
  | nil => rfl
  | cons d r =>
    obtain ⟨n, k, en, _⟩ := h.link p hp d (by rw [q]; exact List.mem_cons_self)
    exact absurd e (h.cnt n p k en).2.1
/-- nothing waits: every row's number is 0 -/
theorem Fits.over (h : Fits ks W rs) (hw : ∀ p ∈ ks, W p = []) : ∀ r ∈ rs, r.2 = 0 := by
  intro r hr
  obtain ⟨n, hn⟩ := List.mem_iff_getElem?.mp hr
  obtain ⟨h1, h2, h3⟩ := h.cnt n r.1 r.2 hn
  rw [h3, hw _ h1]
  rfl
end
theorem count_erase_at : ∀ {w : List (List Int)} {i : Nat} {d : List Int}, w[i]? = some d → ∀ c, (((w.eraseIdx i).count c : Nat) : Int) = ((w.count c : Nat) : Int) + (if c = d then -1 else 0)
  | [], i, d, h, c => by simp at h
  | a :: r, 0, d, h, c => by
    have e : a = d := Option.some.inj h
    subst e
    show ((r.count c : Nat) : Int) = _
    rw [List.count_cons]
    by_cases z : c = a
    · subst z
      rw [if_pos (by simp), if_pos rfl]
      omega
    · rw [if_neg (by simpa using fun q => z q.symm), if_neg z]
      omega
  | a :: r, i + 1, d, h, c => by
    have ih := count_erase_at (w := r) (i := i) (d := d) h c
    show ((((a :: r.eraseIdx i)).count c : Nat) : Int) = _
    rw [List.count_cons, List.count_cons]
    by_cases z : (a == c) = true
    · rw [if_pos z]
      omega
    · rw [if_neg z]
      omega
theorem count_swap_at : ∀ {w : List (List Int)} {i : Nat} {a b : List Int}, w[i]? = some a → w[i + 1]? = some b → ∀ c, ((w.set i b).set (i + 1) a).count c = w.count c
  | [], i, a, b, h, _, c => by simp at h
  | x :: r, 0, a, b, h, h2, c => by
    have e : x = a := Option.some.inj h
    subst e
    cases r with
    | nil => simp at h2
    | cons y r =>
      have e : y = b := Option.some.inj h2
      subst e
      show (y :: x :: r).count c = (x :: y :: r).count c
      simp only [List.count_cons]
      omega
  | x :: r, i + 1, a, b, h, h2, c => by
    have ih := count_swap_at (w := r) (i := i) (a := a) (b := b) h h2 c
    show (x :: ((r.set i b).set (i + 1) a)).count c = (x :: r).count c
    rw [List.count_cons, List.count_cons, ih]
theorem count_snoc (w : List (List Int)) (d c : List Int) : (((w ++ [d]).count c : Nat) : Int) = ((w.count c : Nat) : Int) + (if c = d then 1 else 0) := by
  rw [List.count_append, List.count_singleton]
  by_cases z : c = d
  · subst z
    rw [if_pos (by simp), if_pos rfl]
    omega
  · rw [if_neg (by simpa using fun q => z q.symm), if_neg z]
    omega
end K76

/-! for v in d.values(), d a locked dict with tuple keys: the rule, over the kit's raw walks. -/
namespace K76
open PySem PySem.Spec PyProof.Rows L2
section
variable {X : Cx} {pins : List (Addr × Obj)} {σ : L2.St} {H : Hp} {s : Shared} {d : Addr} {o : Obj}
/-- what a locked dict with tuple keys is in the heap -/
theorem frzT_raw {kvs : List (List Key × V)} (I : Inv X pins σ H s) (h : H d = some (.frz o (.dT kvs))) :
    (d == sysModules) = false ∧ ∃ (es : Array DictEntry) (ep : Nat), o.data = .dict es ep ∧ s.heap.DictRaw d es ep ∧ es.size = kvs.length ∧
      ∀ (i : Nat) (hi : i < es.size), ∃ k v, kvs[i]? = some (k, v) ∧ RelV v es[i].val := by
  obtain ⟨hod, hz, hs, xs, pr, oo, es, ep, ho, hx, hdt, he, hnd⟩ := I.hok d _ h
  rw [hod] at ho
  obtain rfl := Option.some.inj ho
  have l1 : es.size = xs.length := size_of_entries he
  have l2 : kvs.length = xs.length := Paired.length pr
  refine ⟨hs, es, ep, hdt, ⟨o, hod, hx, hdt⟩, l1.trans l2.symm, fun i hi => ?_⟩
  have hk : i < kvs.length := by omega
  obtain ⟨b, hb, e1, e2, e3⟩ := paired_get pr (i := i) (a := kvs[i]) (List.getElem?_eq_getElem hk)
  have q := entry_at he i
  rw [hb, Array.getElem?_eq_getElem hi] at q
  have q' := Option.some.inj q
  exact ⟨kvs[i].1, kvs[i].2, List.getElem?_eq_getElem hk, by rw [q']; exact e3⟩
end
/-- the values of the locked dict at d, whose keys are tuples -/
def ItvT (d : Addr) (o : Obj) (kvs : List (List Key × V)) : It where
  go i H := H d = some (.frz o (.dT kvs)) ∧ i < kvs.length
  yld i H x H' := H' = H ∧ ∃ k, kvs[i]? = some (k, x)
  stop i H := H d = some (.frz o (.dT kvs)) ∧ kvs.length ≤ i
theorem turn_vT {P : Program} {w : World} {K : PySem.W.Frag} {tg : Expr} {d : Addr} {o : Obj} {es : Array DictEntry} {ep : Nat} {kvs : List (List Key × V)} (it : Addr) (hod : o.data = .dict es ep) :
    Turn P w K tg (ItvT d o kvs) [it] it (fun i h => h.IsValIter it d i kvs.length ep) := by
  refine ⟨by simp, fun i h st b hb => ?_, fun i h h' st k => Heap.IsValIter.at st fun u e => k it (by simp) u e, ?_, ?_, fun A i s Q E st h => wpAny_pyIter_valiter st h⟩
  · rw [show b = it by simpa using hb]
    obtain ⟨u, e, _, dd⟩ := st
    exact ⟨u, e, fun v z => by rw [dd] at z; cases z⟩
  · intro X hP hw hK hc i pins s σ H E I hf st hg
    subst hP hw hK
    obtain ⟨hd, hi⟩ := hg
    obtain ⟨f0, f1, f2, f3, f4, f5⟩ := hf it (by simp)
    obtain ⟨hs, es', ep', hdt, raw, hsz, val⟩ := frzT_raw I hd
    obtain ⟨e1, e2⟩ := dict_ep hod hdt
    subst e1 e2
    rw [← hsz] at st hi
    refine wpAny_pyNext_values_item_raw st raw hi fun h' st' sb => ?_
    obtain ⟨k, v, hk, rv⟩ := val i hi
    have I1 : Inv X pins σ H { s with heap := h' } := I.turned (t' := s.toks) (fun b u hb e => (sb.2 b hb).trans e) f0 f1 f3 f4 f5
    obtain ⟨u, e, c, dd⟩ := id st'
    refine ⟨_, rfl, go_of (s := { s with heap := h' }) e c dd (by decide) ⟨v, H, I1, rv, ⟨rfl, k, hk⟩, ?_, fun b hb => (hf b hb).1⟩⟩
    rw [← hsz]
    exact st'
  · intro X hP hw hK hc i pins s σ H E I hf st hg
    subst hP hw hK
    obtain ⟨hd, hi⟩ := hg
    obtain ⟨f0, f1, f2, f3, f4, f5⟩ := hf it (by simp)
    obtain ⟨hs, es', ep', hdt, raw, hsz, val⟩ := frzT_raw I hd
    obtain ⟨e1, e2⟩ := dict_ep hod hdt
    subst e1 e2
    rw [← hsz] at st hi
    exact wpAny_pyNext_values_end_raw (I.ok.hd hc) st raw hi fun h' eb => ⟨rfl, I.turned (t' := s.toks) (fun b u hb e => eb b u hb e) f0 f1 f3 f4 f5⟩
/-- d.values(), d locked -/
def iValsT (td : TE) : TI := fun σ H R => td σ H fun x H1 => ∃ d o kvs, x = .ref d ∧ H1 d = some (.frz o (.dT kvs)) ∧ R (ItvT d o kvs) H1
theorem pi_valuesT {X : Cx} {tg e : Expr} {td : TE} {apos cpos : Pos} (he : PE X e td) (hbase : attributeBase e "values" X.env (eval e X.env) = eval e X.env := by rfl)
    (hline : (apos.endLine == cpos.line) = true := by rfl) : PI X tg (.Call (.Attribute e "values" apos) [] [] cpos) (iValsT td) := by
  refine ⟨fun pins s σ H R I h => ?_⟩
  refine wpAny_Call_method (T := "dict") (id := "dict.values") hbase rfl hline F.plainAttrs_dict F.slot_dict_values F.type_dict_values (thn (he.run pins s σ H _ I h) fun u s1 got => ?_)
  obtain ⟨x, H1, I1, rx, d, o, kvs, ex, hd, q⟩ := got
  subst ex
  obtain rfl : u = Value.ref d := rx
  obtain ⟨hs, es, ep, hdt, raw, hsz, val⟩ := frzT_raw I1 hd
  refine ⟨raw.typeIs, fun b z => ?_, ?_⟩
  · cases z
    obtain ⟨ob, h1, h2, _⟩ := id raw
    exact ⟨ob, h1, h2.2.1⟩
  have I2 : Inv X pins σ H1 { s1 with heap := s1.heap.push { cls := .type "dict_values", data := .fields #[.ref d] } } := I1.kept (t' := s1.toks) fun b ob z => Heap.get?_push_of_some _ z
  have raw2 : (s1.heap.push { cls := .type "dict_values", data := .fields #[.ref d] }).DictRaw d es ep := raw.at fun u z => Heap.get?_push_of_some _ z
  have fin : wpAny (model X.prog X.w) X.A (pyIter (.ref s1.heap.objs.size)) (PIE X pins σ tg R) X.xe { s1 with heap := s1.heap.push { cls := .type "dict_values", data := .fields #[.ref d] } } := by
    refine wpAny_pyIter_values_raw (d := d) ⟨_, Heap.get?_push_size _ rfl, rfl, rfl⟩ raw2 (pi_one (tk := s1.toks) I2 _ (turn_vT _ hdt) ⟨_, Heap.get?_push_size _ rfl, rfl, ?_⟩ q)
    rw [hsz]
    all_goals rfl
  show wpAny _ _ (callWith cpos (.builtin "dict.values") [.ref d] [] []) _ X.xe s1
  exact method_meetsIn F.slot_dict_values F.entry_dict_values rfl (PySem.evalArgs_none ⟨rfl, raw.typeIs, F.args_dict_values_1 _, _, meets_dict_values_raw d hs, ⟨es, ep, raw⟩, fin⟩)
theorem walk_vT {d : Addr} {o : Obj} {kvs : List (List Key × V)} : Walk (ItvT d o kvs) kvs.length (fun H => H d = some (.frz o (.dT kvs))) (fun i H x H' => H' = H ∧ ∃ k, kvs[i]? = some (k, x)) :=
  ⟨fun _ _ hi q => ⟨q, hi⟩, fun _ q => ⟨q, Nat.le_refl _⟩, fun _ _ _ _ _ _ y => y⟩
end K76

/-! The text by places; what a Lines object looks like between two calls; how its three kinds of stores leave it. -/
namespace K76
open PySem L2
/-! ### the text -/
def top (i : Nat) : Stmt := PySem.Challenge.pw_folderkin_k76_whole_no_letter_from_nowhe.main.body.getD i (.Pass ⟨0, 0, 0, 0⟩)
def met (j : Nat) : Stmt := inClass (top 3) j
abbrev sLineOf : Stmt := top 2
abbrev sInit : Stmt := met 0
abbrev sIsJoined : Stmt := met 1
abbrev sWaiting : Stmt := met 2
abbrev sSend : Stmt := met 3
abbrev sWaits : Stmt := met 4
abbrev sTake : Stmt := met 5
abbrev sDrop : Stmt := met 6
abbrev sDouble : Stmt := met 7
abbrev sSwap : Stmt := met 8
abbrev sCut : Stmt := met 9
abbrev sJoin : Stmt := met 10
abbrev sTotal : Stmt := met 11
abbrev sDraw : Stmt := top 5
abbrev sBal : Stmt := top 6
abbrev sSent : Stmt := top 7
abbrev sNumber : Stmt := top 8
abbrev sCounted : Stmt := top 9
abbrev sEmptied : Stmt := top 10
abbrev sLaw : Stmt := top 11
/-! ### attributes -/
def flds (n : Int) (q p c : Addr) : List (Str × V) := putF "counts" (.ref c) (putF "parted" (.ref p) (putF "queues" (.ref q) (putF "size" (.int n) [])))
theorem fl_q (n : Int) (q p c : Addr) : (flds n q p c).lookup ("queues" : Str) = some (.ref q) := by
  unfold flds
  rw [lookup_putF, if_neg (by decide +kernel), lookup_putF, if_neg (by decide +kernel), lookup_putF, if_pos rfl]
theorem fl_p (n : Int) (q p c : Addr) : (flds n q p c).lookup ("parted" : Str) = some (.ref p) := by
  unfold flds
  rw [lookup_putF, if_neg (by decide +kernel), lookup_putF, if_pos rfl]
theorem fl_c (n : Int) (q p c : Addr) : (flds n q p c).lookup ("counts" : Str) = some (.ref c) := by
  unfold flds
  rw [lookup_putF, if_pos rfl]
theorem fl_no (n : Int) (q p c : Addr) {m : Str} (h1 : ¬ m = "counts") (h2 : ¬ m = "parted") (h3 : ¬ m = "queues") (h4 : ¬ m = "size") : (flds n q p c).lookup m = none := by
  unfold flds
  rw [lookup_putF, if_neg h1, lookup_putF, if_neg h2, lookup_putF, if_neg h3, lookup_putF, if_neg h4]
  all_goals rfl
theorem putF_len (f : Str) (v : V) : ∀ fs : List (Str × V), (putF f v fs).length ≤ fs.length + 1
  | [] => Nat.le_refl _
  | (g, x) :: r => by
    show (if g = f then (g, v) :: r else (g, x) :: putF f v r).length ≤ _
    have ih := putF_len f v r
    split
    · simp
    · simp only [List.length_cons]
      omega
/-! ### the abstract object -/
/-- where the parts stand: the object, its dicts of queues, of parted lines, of counts, the queues; the directions; the size -/
structure Lay where
  x : Addr
  dq : Addr
  dp : Addr
  dc : Addr
  q : P2 → Addr
  ks : List P2
  n : Int
/-- what is stored to behind __init__ -/
def Lay.F (L : Lay) (b : Addr) : Prop := b = L.dp ∨ b = L.dc ∨ ∃ p, p ∈ L.ks ∧ b = L.q p
/-- what it holds: each queue's letters (address, bytes), the parted lines, the numbers of letters sent, taken, doubled, lost -/
structure LS where
  Q : P2 → List (Addr × List Int)
  ps : List (List Key × V)
  sn : Int
  tk : Int
  db : Int
  ls : Int
def kOf (p : P2) : List Key := [Sum.inl p.1, Sum.inl p.2]
theorem kOf_inj {p r : P2} (h : kOf p = kOf r) : p = r := by
  unfold kOf at h
  injection h with h1 h2
  injection h2 with h2 h3
  exact Prod.ext (Sum.inl.inj h1) (Sum.inl.inj h2)
theorem kOf_map (p : P2) : (kOf p).map kV = [.int p.1, .int p.2] := rfl
def lref (e : Addr × List Int) : V := .ref e.1
def Lay.kvs (L : Lay) : List (List Key × V) := L.ks.map fun p => (kOf p, V.ref (L.q p))
def cnts (S : LS) : List (Key × V) := [(.inr "sent", .int S.sn), (.inr "taken", .int S.tk), (.inr "doubled", .int S.db), (.inr "lost", .int S.ls)]
structure LinesAt (C : Addr) (H : Hp) (L : Lay) (S : LS) : Prop where
  ob : ∃ dx, H L.x = some (.ins C dx (flds L.n L.dq L.dp L.dc))
  hq : H L.dq = some (.dT L.kvs)
  hp : H L.dp = some (.dT S.ps)
  hc : H L.dc = some (.dK (cnts S))
  hs : ∀ p, p ∈ L.ks → H (L.q p) = some (.lst ((S.Q p).map lref))
  lt : ∀ p, p ∈ L.ks → ∀ e, e ∈ S.Q p → ¬ L.F e.1 ∧ H e.1 = some (.lst (e.2.map V.int))
  nd : L.ks.Nodup
  inj : ∀ p, p ∈ L.ks → ∀ r, r ∈ L.ks → L.q p = L.q r → p = r
  mem : ∀ p, p ∈ L.ks ↔ 1 ≤ p.1 ∧ p.1 ≤ L.n ∧ 1 ≤ p.2 ∧ p.2 ≤ L.n
  dqp : L.dq ≠ L.dp
/-- all that the object stands on -/
def Lay.Uses (L : Lay) (S : LS) (b : Addr) : Prop := b = L.x ∨ b = L.dq ∨ L.F b ∨ ∃ p, p ∈ L.ks ∧ ∃ e, e ∈ S.Q p ∧ b = e.1
/-- all but what F tells is as it was -/
def Keep (F : Addr → Prop) (H H' : Hp) : Prop := ∀ b o, H b = some o → ¬ F b → H' b = some o
theorem Keep.refl (F : Addr → Prop) (H : Hp) : Keep F H H := fun _ _ h _ => h
theorem Keep.same {F : Addr → Prop} {H H' : Hp} (s : Same H H') : Keep F H H' := fun b o h _ => s b o h
theorem Keep.trans {F : Addr → Prop} {H H1 H2 : Hp} (a : Keep F H H1) (b : Keep F H1 H2) : Keep F H H2 := fun c o h n => b c o (a c o h n) n
theorem Keep.upd {F : Addr → Prop} {H H1 : Hp} {a : Addr} {o : HO} (k : Keep F H H1) (f : F a) : Keep F H (L2.upd H1 a o) := fun c u h n => by
  rw [upd_ne (fun e => n (by rw [e]; exact f))]
  exact k c u h n
theorem Same.new {H H1 : Hp} {p : Addr} {o : HO} (s : Same H H1) (n : H1 p = none) : Same H (L2.upd H1 p o) := fun b u h => by
  rw [upd_ne (ne_of_none (s b u h) n)]
  exact s b u h
section
variable {C : Addr} {H H' : Hp} {L : Lay} {S S' : LS} {p : P2} {b : Addr}
theorem F_q (hp : p ∈ L.ks) : L.F (L.q p) := .inr (.inr ⟨p, hp, rfl⟩)
theorem F_p : L.F L.dp := .inl rfl
theorem F_c : L.F L.dc := .inr (.inl rfl)
theorem LinesAt.keep (h : LinesAt C H L S) (k : ∀ b o, L.Uses S b → H b = some o → H' b = some o) : LinesAt C H' L S := by
  obtain ⟨⟨dx, h1⟩, h2, h3, h4, h5, h6, h7, h8, h9, h10⟩ := h
  exact ⟨⟨dx, k _ _ (.inl rfl) h1⟩, k _ _ (.inr (.inl rfl)) h2, k _ _ (.inr (.inr (.inl F_p))) h3, k _ _ (.inr (.inr (.inl F_c))) h4, fun p hp => k _ _ (.inr (.inr (.inl (F_q hp)))) (h5 p hp),
    fun p hp e he => ⟨(h6 p hp e he).1, k _ _ (.inr (.inr (.inr ⟨p, hp, e, he, rfl⟩))) (h6 p hp e he).2⟩, h7, h8, h9, h10⟩
theorem LinesAt.same (h : LinesAt C H L S) (s : Same H H') : LinesAt C H' L S := h.keep fun b o _ e => s b o e
theorem LinesAt.kind (h : LinesAt C H L S) (f : L.F b) {o : HO} (e : H b = some o) : (∃ kv, o = .dT kv) ∨ (∃ kv, o = .dK kv) ∨ ∃ es : List (Addr × List Int), o = .lst (es.map lref) := by
  rcases f with rfl | rfl | ⟨p, hp, rfl⟩
  · rw [h.hp] at e
    exact .inl ⟨_, (Option.some.inj e).symm⟩
  · rw [h.hc] at e
    exact .inr (.inl ⟨_, (Option.some.inj e).symm⟩)
  · rw [h.hs p hp] at e
    exact .inr (.inr ⟨_, (Option.some.inj e).symm⟩)
theorem LinesAt.tracked (h : LinesAt C H L S) (f : L.F b) : ∃ o, H b = some o := by
  rcases f with rfl | rfl | ⟨p, hp, rfl⟩
  · exact ⟨_, h.hp⟩
  · exact ⟨_, h.hc⟩
  · exact ⟨_, h.hs p hp⟩
theorem LinesAt.newF (h : LinesAt C H L S) (n : H b = none) : ¬ L.F b := fun f => by
  obtain ⟨o, e⟩ := h.tracked f
  rw [n] at e
  cases e
theorem LinesAt.notF (h : LinesAt C H L S) {o : HO} (e : H b = some o) (h1 : ∀ kv, o ≠ .dT kv) (h2 : ∀ kv, o ≠ .dK kv) (h3 : ∀ es : List (Addr × List Int), o ≠ .lst (es.map lref)) : ¬ L.F b := fun f => by
  rcases h.kind f e with ⟨kv, q⟩ | ⟨kv, q⟩ | ⟨es, q⟩
  · exact h1 kv q
  · exact h2 kv q
  · exact h3 es q
theorem LinesAt.xF (h : LinesAt C H L S) : ¬ L.F L.x := by
  obtain ⟨dx, e⟩ := h.ob
  exact h.notF e (fun _ q => nomatch q) (fun _ q => nomatch q) fun _ q => nomatch q
theorem LinesAt.qF (h : LinesAt C H L S) : ¬ L.F L.dq := by
  rintro (e | e | ⟨p, hp, e⟩)
  · exact h.dqp e
  · have h1 := h.hq
    rw [e, h.hc] at h1
    cases h1
  · have h1 := h.hq
    rw [e, h.hs p hp] at h1
    cases h1
theorem LinesAt.cp (h : LinesAt C H L S) : L.dc ≠ L.dp := ne_of h.hc h.hp (fun q => nomatch q)
theorem LinesAt.qc (h : LinesAt C H L S) (hp : p ∈ L.ks) : L.q p ≠ L.dc := ne_of (h.hs p hp) h.hc (fun q => nomatch q)
theorem LinesAt.qp (h : LinesAt C H L S) (hp : p ∈ L.ks) : L.q p ≠ L.dp := ne_of (h.hs p hp) h.hp (fun q => nomatch q)
/-- a queue is stored to -/
theorem LinesAt.putQ (h : LinesAt C H L S) (hp : p ∈ L.ks) {w : List (Addr × List Int)} (hw : ∀ e, e ∈ w → ¬ L.F e.1 ∧ H e.1 = some (.lst (e.2.map V.int))) :
    LinesAt C (upd H (L.q p) (.lst (w.map lref))) L { S with Q := setQ S.Q p w } := by
  have k : ∀ b o, ¬ L.F b → H b = some o → upd H (L.q p) (.lst (w.map lref)) b = some o := fun b o n e => by
    rw [upd_ne (fun z => n (by rw [z]; exact F_q hp))]
    exact e
  obtain ⟨dx, h1⟩ := h.ob
  refine ⟨⟨dx, k _ _ h.xF h1⟩, k _ _ h.qF h.hq, by rw [upd_ne (h.qp hp).symm]; exact h.hp, by rw [upd_ne (h.qc hp).symm]; exact h.hc, fun r hr => ?_, fun r hr e he => ?_, h.nd, h.inj, h.mem, h.dqp⟩
  · show upd H (L.q p) _ (L.q r) = some (.lst ((setQ S.Q p w r).map lref))
    by_cases z : r = p
    · rw [z, upd_same, setQ_same]
    · rw [upd_ne (fun q => z (h.inj r hr p hp q)), setQ_ne z]
      exact h.hs r hr
  · have he' : e ∈ setQ S.Q p w r := he
    by_cases z : r = p
    · rw [z, setQ_same] at he'
      exact ⟨(hw e he').1, k _ _ (hw e he').1 (hw e he').2⟩
    · rw [setQ_ne z] at he'
      exact ⟨(h.lt r hr e he').1, k _ _ (h.lt r hr e he').1 (h.lt r hr e he').2⟩
/-- the counts are stored to -/
theorem LinesAt.putC (h : LinesAt C H L S) (eq : S'.Q = S.Q) (ep : S'.ps = S.ps) : LinesAt C (upd H L.dc (.dK (cnts S'))) L S' := by
  have k : ∀ b o, ¬ L.F b → H b = some o → upd H L.dc (.dK (cnts S')) b = some o := fun b o n e => by
    rw [upd_ne (fun z => n (by rw [z]; exact F_c))]
    exact e
  obtain ⟨dx, h1⟩ := h.ob
  refine ⟨⟨dx, k _ _ h.xF h1⟩, k _ _ h.qF h.hq, by rw [upd_ne h.cp.symm, ep]; exact h.hp, upd_same, fun r hr => ?_, fun r hr e he => ?_, h.nd, h.inj, h.mem, h.dqp⟩
  · rw [upd_ne (h.qc hr), eq]
    exact h.hs r hr
  · rw [eq] at he
    exact ⟨(h.lt r hr e he).1, k _ _ (h.lt r hr e he).1 (h.lt r hr e he).2⟩
/-- the parted lines are stored to -/
theorem LinesAt.putP (h : LinesAt C H L S) (ps : List (List Key × V)) : LinesAt C (upd H L.dp (.dT ps)) L { S with ps := ps } := by
  have k : ∀ b o, ¬ L.F b → H b = some o → upd H L.dp (.dT ps) b = some o := fun b o n e => by
    rw [upd_ne (fun z => n (by rw [z]; exact F_p))]
    exact e
  obtain ⟨dx, h1⟩ := h.ob
  refine ⟨⟨dx, k _ _ h.xF h1⟩, k _ _ h.qF h.hq, upd_same, by rw [upd_ne h.cp]; exact h.hc, fun r hr => ?_, fun r hr e he => ?_, h.nd, h.inj, h.mem, h.dqp⟩
  · rw [upd_ne (h.qp hr)]
    exact h.hs r hr
  · exact ⟨(h.lt r hr e he).1, k _ _ (h.lt r hr e he).1 (h.lt r hr e he).2⟩
/-! ### keys -/
theorem val_ks {q : P2 → Addr} : ∀ {ks : List P2} {p : P2}, p ∈ ks → valV (ks.map fun p => (kOf p, V.ref (q p))) (kOf p) = some (.ref (q p))
  | [], p, h => by simp at h
  | a :: r, p, h => by
    rw [List.map_cons]
    by_cases e : a = p
    · rw [e]
      exact valV_pos rfl
    · rw [valV_neg (fun z => e (kOf_inj z))]
      refine val_ks ?_
      rcases List.mem_cons.mp h with z | z
      · exact absurd z.symm e
      · exact z
theorem val_no {q : P2 → Addr} : ∀ {ks : List P2} {p : P2}, p ∉ ks → valV (ks.map fun p => (kOf p, V.ref (q p))) (kOf p) = none
  | [], p, h => rfl
  | a :: r, p, h => by
    rw [List.map_cons, valV_neg (fun z => h (by rw [kOf_inj z]; exact List.mem_cons_self))]
    exact val_no fun z => h (List.mem_cons_of_mem _ z)
theorem LinesAt.get (h : LinesAt C H L S) (hp : p ∈ L.ks) {t : Addr} (ht : H t = some (.tup [.int p.1, .int p.2])) : DGet H L.dq (.ref t) (some (.ref (L.q p))) := by
  have g := DGet.t (k := kOf p) h.hq ht
  unfold Lay.kvs at g
  rw [val_ks hp] at g
  exact g
/-! ### the counts -/
theorem val1 {a b c d : Key} {x y z u : V} : valV [(a, x), (b, y), (c, z), (d, u)] a = some x := valV_pos rfl
theorem val2 {a b c d : Key} {x y z u : V} (h1 : ¬ a = b) : valV [(a, x), (b, y), (c, z), (d, u)] b = some y := by
  rw [valV_neg h1]
  exact valV_pos rfl
theorem val3 {a b c d : Key} {x y z u : V} (h1 : ¬ a = c) (h2 : ¬ b = c) : valV [(a, x), (b, y), (c, z), (d, u)] c = some z := by
  rw [valV_neg h1, valV_neg h2]
  exact valV_pos rfl
theorem val4 {a b c d : Key} {x y z u : V} (h1 : ¬ a = d) (h2 : ¬ b = d) (h3 : ¬ c = d) : valV [(a, x), (b, y), (c, z), (d, u)] d = some u := by
  rw [valV_neg h1, valV_neg h2, valV_neg h3]
  exact valV_pos rfl
theorem c_sn (S : LS) : valV (cnts S) (Sum.inr "sent" : Key) = some (.int S.sn) := val1
theorem c_tk (S : LS) : valV (cnts S) (Sum.inr "taken" : Key) = some (.int S.tk) := val2 (by decide +kernel)
theorem c_db (S : LS) : valV (cnts S) (Sum.inr "doubled" : Key) = some (.int S.db) := val3 (by decide +kernel) (by decide +kernel)
theorem c_ls (S : LS) : valV (cnts S) (Sum.inr "lost" : Key) = some (.int S.ls) := val4 (by decide +kernel) (by decide +kernel) (by decide +kernel)
theorem put_any {kvs : List (Key × V)} {k : Key} {v x : V} (h : valV kvs k = some x) : putK kvs k v = kvs.map fun kv => if kv.1 = k then (kv.1, v) else kv := by
  unfold putK
  rw [valV_any, h]
  exact if_pos rfl
theorem p_sn (S : LS) (z : Int) : putK (cnts S) (Sum.inr "sent" : Key) (.int z) = cnts { S with sn := z } := by
  rw [put_any (c_sn S)]
  unfold cnts
  simp only [List.map_cons, List.map_nil]
  rw [if_pos True.intro, if_neg (by decide +kernel), if_neg (by decide +kernel), if_neg (by decide +kernel)]
theorem p_tk (S : LS) (z : Int) : putK (cnts S) (Sum.inr "taken" : Key) (.int z) = cnts { S with tk := z } := by
  rw [put_any (c_tk S)]
  unfold cnts
  simp only [List.map_cons, List.map_nil]
  rw [if_neg (by decide +kernel), if_pos True.intro, if_neg (by decide +kernel), if_neg (by decide +kernel)]
theorem p_db (S : LS) (z : Int) : putK (cnts S) (Sum.inr "doubled" : Key) (.int z) = cnts { S with db := z } := by
  rw [put_any (c_db S)]
  unfold cnts
  simp only [List.map_cons, List.map_nil]
  rw [if_neg (by decide +kernel), if_neg (by decide +kernel), if_pos True.intro, if_neg (by decide +kernel)]
theorem p_ls (S : LS) (z : Int) : putK (cnts S) (Sum.inr "lost" : Key) (.int z) = cnts { S with ls := z } := by
  rw [put_any (c_ls S)]
  unfold cnts
  simp only [List.map_cons, List.map_nil]
  rw [if_neg (by decide +kernel), if_neg (by decide +kernel), if_neg (by decide +kernel), if_pos True.intro]
end
/-! ### lines -/
def lineK (p : P2) : List Key := [Sum.inl (if p.2 < p.1 then p.2 else p.1), Sum.inl (if p.2 > p.1 then p.2 else p.1)]
/-- the line of a direction is joined -/
def LS.on (S : LS) (p : P2) : Bool := !(valV S.ps (lineK p)).isSome
theorem val_drop {κ : Type} [DecidableEq κ] (k : κ) : ∀ kvs : List (κ × V), valV (dropK kvs k) k = none
  | [] => rfl
  | a :: r => by
    have ih := val_drop k r
    by_cases e : a.1 = k
    · rw [dropK_pos e]
      exact ih
    · rw [dropK_neg e, valV_neg e]
      exact ih
theorem drop_none {κ : Type} [DecidableEq κ] {k : κ} : ∀ {kvs : List (κ × V)}, valV kvs k = none → dropK kvs k = kvs := fun h => dropK_no (valV_not h)
end K76

/-! Calls in short; line_of, is_joined, waits, waiting: what only reads. -/
namespace K76
open PySem L2
/-- what the walk asks of the top: the class, its attributes' names, the built-in names -/
structure Txt (K : PySem.W.Frag) (mg : Str → Option Value) (C : Addr) : Prop where
  cl : Cls K C
  nS : NoAttr K C "size"
  nQ : NoAttr K C "queues"
  nP : NoAttr K C "parted"
  nC : NoAttr K C "counts"
  mgC : mg "Lines" = some (.ref C)
  len : mg "len" = none
  mn : mg "min" = none
  mx : mg "max" = none
  lst : mg "list" = none
  rng : mg "range" = none
  sm : mg "sum" = none
  int : mg "int" = none
  isi : mg "isinstance" = none
/-- a def of the top that may be called -/
structure Gd (P : Program) (w : World) (K : PySem.W.Frag) (mg : Str → Option Value) (base : Heap) (k : Nat) (x : Str) (ps : List Str) (sp : Sp) : Prop where
  ex : ∃ (f : Addr) (fd : FuncData), FnOk P w K mg base CX0 k f fd ps sp ∧ mg x = some (.ref f) ∧ PySem.W.keepIn K (.ref f) = true ∧ Binds K fd ps []
/-- a method that may be called -/
structure Md (P : Program) (w : World) (K : PySem.W.Frag) (mg : Str → Option Value) (base : Heap) (C : Addr) (k : Nat) (m : Str) (ps : List Str) (sp : Sp) : Prop where
  ex : ∃ (f : Addr) (fd : FuncData), FnOk P w K mg base CX0 k f fd ps sp ∧ Meth K C m f ∧ Binds K fd ps []
section
variable {X : Cx} {k : Nat} {x m : Str} {ps : List Str} {sp : Sp} {C : Addr} {p pos apos : Pos} {e o : Expr} {es : List Expr} {ta : TE} {t : TA}
theorem pe_g (G : Gd X.prog X.w X.K X.mg X.base k x ps sp) (hr : Room k X.A) (hg : Gl X x) (ha : PA X (e :: es) t) (hdb : (x == ("__debug__" : Str)) = false := by decide)
    (he : starEach (e :: es) X.env = (false, eval e X.env) :: starEach es X.env := by rfl) (hpl : (backTo pos (starEach es X.env)).any (·.1) = false := by rfl) : PE X (.Call (.Name x p) (e :: es) [] pos) (tCall sp [] E0 t) := by
  obtain ⟨f, fd, F, hm, hk, hb⟩ := G.ex
  exact pe_call F hr hg hm hk hb .nil pass0 ha hdb he hpl
theorem pe_m {pl : Sem Bool} (M : Md X.prog X.w X.K X.mg X.base C k m ps sp) (c : Cls X.K C) (hr : Room k X.A) (ho : PE X o ta) (ha : PA X (e :: es) t)
    (hst : starEach (e :: es) X.env = (false, eval e X.env) :: starEach es X.env := by rfl) (hpl : (backTo pos (starEach es X.env)).any (·.1) = false := by rfl)
    (ht : eval (.Call (.Attribute o m apos) (e :: es) [] pos) X.env = (do
      let v ← eval o X.env
      standAt apos.atName
      let (f, a) ← holding [v] (getMethod v m pl)
      callWith pos f a (backTo pos (starEach (e :: es) X.env)) (backToKw pos (keywordEach [] X.env))) := by rfl) : PE X (.Call (.Attribute o m apos) (e :: es) [] pos) (tMeth C m sp [] E0 ta t) := by
  obtain ⟨f, fd, F, hm, hb⟩ := M.ex
  exact pe_meth (pl := pl) ho c hm F hr hb .nil pass0 ha hst hpl ht
end
/-! rules whose readings name K itself, for a comprehension's block -/
def rListK (K : PySem.W.Frag) : List V → Hp → VK → Prop := fun xs H Q => ∃ (p : Addr) (ys : List V), xs = [V.ref p] ∧ SqL K H p ys ∧ ∀ l, H l = none → Q (V.ref l) (upd H l (.lst ys))
theorem call_listK {X : Cx} {K : PySem.W.Frag} (e : X.K = K) : CallR X (.type "list") (rListK K) := by
  subst e
  intro pins s σ H xs us Q I r h
  obtain ⟨p, ys, h1, h2, h3⟩ := h
  exact call_list_of pins s σ H xs us Q I r ⟨p, ys, h1, .inl h2, h3⟩
def rLenK (K : PySem.W.Frag) : List V → Hp → VK → Prop := fun xs H Q => ∃ (p : Addr) (ys : List V), xs = [V.ref p] ∧ SqL K H p ys ∧ Q (.int ys.length) H
theorem call_lenK {X : Cx} {K : PySem.W.Frag} (e : X.K = K) : CallR X (.builtin "len") (rLenK K) := by
  subst e
  intro pins s σ H xs us Q I r h
  obtain ⟨p, ys, h1, h2, h3⟩ := h
  exact call_len_seq pins s σ H xs us Q I r ⟨p, ys, h1, .inl h2, h3⟩
theorem ix_listK {X : Cx} {K : PySem.W.Frag} (e : X.K = K) : IxR X (rIxL K) := by
  subst e
  exact ix_list
/-! ### promises -/
def spLineOf : Sp := fun vs H Q _ => ∃ i j : Int, vs = [.int i, .int j] ∧ ∀ (H' : Hp) (t : Addr), Same H H' → H' t = some (.tup ((lineK (i, j)).map kV)) → Q (.ref t) H'
def spIsJoined (C : Addr) : Sp := fun vs H Q _ => ∃ (L : Lay) (S : LS) (i j : Int), vs = [.ref L.x, .int i, .int j] ∧ LinesAt C H L S ∧ ∀ H', Same H H' → Q (.bl (S.on (i, j))) H'
/-- a letter waits at k -/
def inQ (S : LS) (p : P2) (k : Int) : Bool := decide (0 ≤ k) && decide (k < ((S.Q p).length : Int))
def spWaits (C : Addr) : Sp := fun vs H Q _ => ∃ (L : Lay) (S : LS) (i j k : Int), vs = [.ref L.x, .int i, .int j, .int k] ∧ LinesAt C H L S ∧ (i, j) ∈ L.ks ∧ ∀ H', Same H H' → Q (.bl (inQ S (i, j) k)) H'
def spWaiting (C : Addr) : Sp := fun vs H Q _ => ∃ (L : Lay) (S : LS) (i j : Int), vs = [.ref L.x, .int i, .int j] ∧ LinesAt C H L S ∧ (i, j) ∈ L.ks ∧ (S.Q (i, j)).length < sizeLine ∧
  ∀ (H' : Hp) (r : Addr) (es : List (Addr × List Int)), Same H H' → es.map (·.2) = (S.Q (i, j)).map (·.2) → H r = none → H' r = some (.lst (es.map lref)) → (∀ e, e ∈ es → H e.1 = none ∧ H' e.1 = some (.lst (e.2.map V.int))) → Q (.ref r) H'
section
variable {P : Program} {w : World} {K : PySem.W.Frag} {mg : Str → Option Value} {base : Heap} {C : Addr}
theorem scLineOf : FnScope ["first", "second"] ["first", "second"] (defScope sLineOf) := ⟨rfl, rfl, rfl, by decide +kernel, rfl, by decide +kernel, by decide +kernel⟩
theorem ok_line_of {f : Addr} {fd : FuncData} (F : Fun K "line_of" "line_of" sLineOf f fd) (T : Txt K mg C) : FnOk P w K mg base CX0 1 f fd ["first", "second"] spLineOf := by
  refine F.ok scLineOf (fun vs H Q E h => ?_) (fun cdv A outer s H vs Q E hr h => ?_)
  · obtain ⟨i, j, rfl, _⟩ := h
    rfl
  · obtain ⟨i, j, rfl, k⟩ := h
    refine ⟨_, pss_one (ps_ret (pe_tup (pa_cons (pe_callB (call_min2 rfl) (by rfl) T.mn PyProof.Rows.boot_min (pa_cons (pv 0) (pa_cons (pv 1) pa_nil)))
      (pa_cons (pe_callB (call_max2 rfl) (by rfl) T.mx PyProof.Rows.boot_max (pa_cons (pv 0) (pa_cons (pv 1) pa_nil))) pa_nil)))), ?_⟩
    refine ⟨_, rfl, _, rfl, i, j, rfl, _, rfl, _, rfl, i, j, rfl, (by show 2 ≤ sizeLine; decide), fun t nt => ?_⟩
    exact k _ t (Same.new (Same.refl H) nt) upd_same
theorem scIsJoined : FnScope ["self", "first", "second"] ["self", "first", "second"] (defScope sIsJoined) := ⟨rfl, rfl, rfl, by decide +kernel, rfl, by decide +kernel, by decide +kernel⟩
theorem ok_is_joined {f : Addr} {fd : FuncData} (F : Fun K "is_joined" "Lines.is_joined" sIsJoined f fd) (T : Txt K mg C) (G : Gd P w K mg base 1 "line_of" ["first", "second"] spLineOf) :
    FnOk P w K mg base CX0 2 f fd ["self", "first", "second"] (spIsJoined C) := by
  refine F.ok scIsJoined (fun vs H Q E h => ?_) (fun cdv A outer s H vs Q E hr h => ?_)
  · obtain ⟨L, S, i, j, rfl, _⟩ := h
    rfl
  · obtain ⟨L, S, i, j, rfl, D, k⟩ := h
    have hu := hu_of hr
    refine ⟨_, pss_one (ps_ret (pe_cmp (pc_dnotin hu (pe_g G hr rfl (pa_cons (pv 1) (pa_cons (pv 2) pa_nil))) (pe_fld (pv 0) rfl)))), ?_⟩
    refine ⟨_, rfl, _, rfl, i, j, rfl, fun H1 t s1 ht => ?_⟩
    have D1 := D.same s1
    obtain ⟨dx, ob⟩ := D1.ob
    exact ⟨_, rfl, L.x, C, dx, _, _, rfl, ob, T.cl, T.nP, fl_p _ _ _ _, L.dp, _, rfl, DGet.t D1.hp ht, k H1 s1⟩
theorem scWaits : FnScope ["self", "source", "target", "index"] ["self", "source", "target", "index"] (defScope sWaits) := ⟨rfl, rfl, rfl, by decide +kernel, rfl, by decide +kernel, by decide +kernel⟩
theorem ok_waits {f : Addr} {fd : FuncData} (F : Fun K "waits" "Lines.waits" sWaits f fd) (T : Txt K mg C) : FnOk P w K mg base CX0 1 f fd ["self", "source", "target", "index"] (spWaits C) := by
  refine F.ok scWaits (fun vs H Q E h => ?_) (fun cdv A outer s H vs Q E hr h => ?_)
  · obtain ⟨L, S, i, j, k, rfl, _⟩ := h
    rfl
  · obtain ⟨L, S, i, j, n, rfl, D, hp, k⟩ := h
    have hu := hu_of hr
    refine ⟨_, pss_one (ps_ret (pe_chain op_le op_lt pe_int (pv 3) (pe_callB call_len_seq (by rfl) T.len PySem.boot_len
      (pa_cons (pe_dget hu (pe_fld (pv 0) rfl) (pe_tup (pa_cons (pv 1) (pa_cons (pv 2) pa_nil))) (fun _ _ => rfl)) pa_nil)))), ?_⟩
    refine ⟨_, rfl, _, _, rfl, rfl, _, rfl, ?_⟩
    refine ite2 (fun h0 => ?_) (fun h0 => ?_)
    · obtain ⟨dx, ob⟩ := D.ob
      refine ⟨_, rfl, L.x, C, dx, _, _, rfl, ob, T.cl, T.nQ, fl_q _ _ _ _, _, rfl, _, rfl, (by show 2 ≤ sizeLine; decide), fun t nt => ?_⟩
      have s1 : Same H (upd H t (.tup [.int i, .int j])) := Same.new (Same.refl H) nt
      have D1 := D.same s1
      refine ⟨L.dq, _, rfl, D1.get hp upd_same, L.q (i, j), _, rfl, .inl (SqL.of (D1.hs _ hp)), _, _, rfl, rfl, ?_⟩
      have q := k _ s1
      unfold inQ at q
      rw [h0, Bool.true_and] at q
      rw [List.length_map]
      exact q
    · have q := k H (Same.refl H)
      unfold inQ at q
      rw [eq_false_of_ne_true h0, Bool.false_and] at q
      exact q
theorem scWaiting : FnScope ["self", "source", "target", "data"] ["self", "source", "target"] (defScope sWaiting) := ⟨rfl, rfl, rfl, by decide +kernel, rfl, by decide +kernel, by decide +kernel⟩
theorem ok_waiting {f : Addr} {fd : FuncData} (F : Fun K "waiting" "Lines.waiting" sWaiting f fd) (T : Txt K mg C) : FnOk P w K mg base CX0 1 f fd ["self", "source", "target"] (spWaiting C) := by
  refine F.ok scWaiting (fun vs H Q E h => ?_) (fun cdv A outer s H vs Q E hr h => ?_)
  · obtain ⟨L, S, i, j, rfl, _⟩ := h
    rfl
  · obtain ⟨L, S, i, j, rfl, D, hp, hz, k⟩ := h
    have hu := hu_of hr
    refine ⟨_, pss_one (ps_ret (pe_lc (own := [("data", 3)]) (g := gName 3) (tt := tYes) rfl scWaiting.nd (pi_list (pe_dget hu (pe_fld (pv 0) rfl) (pe_tup (pa_cons (pv 1) (pa_cons (pv 2) pa_nil))) (fun _ _ => rfl)))
      (blkOk_by (own := [("data", 3)]) (N := ["self", "source", "target", "data"]) (sc := defScope sWaiting) (by decide +kernel))
      (fun _ _ _ _ _ => pg_name (i := 3) scWaiting.nd rfl (Or.inl rfl)) (fun _ _ _ _ _ => pts_nil)
      (fun _ _ _ _ _ => pe_callTy (call_listK (K := K) rfl) (by rfl) T.lst PyProof.Rows.boot_list (pa_cons (pv 3) pa_nil)))), ?_⟩
    obtain ⟨dx, ob⟩ := D.ob
    refine ⟨_, rfl, L.x, C, dx, _, _, rfl, ob, T.cl, T.nQ, fl_q _ _ _ _, _, rfl, _, rfl, (by show 2 ≤ sizeLine; decide), fun t nt => ?_⟩
    have s1 : Same H (upd H t (.tup [.int i, .int j])) := Same.new (Same.refl H) nt
    have D1 := D.same s1
    refine ⟨L.dq, _, rfl, D1.get hp upd_same, L.q (i, j), rfl, ⟨_, SqL.of (D1.hs _ hp)⟩, fun R nR => ?_⟩
    refine lc_list (K := K) (a := L.q (i, j)) (xs := (S.Q (i, j)).map lref) (fun n H2 => Same H H2 ∧ H R = none ∧ ∃ es : List (Addr × List Int), es.map (·.2) = ((S.Q (i, j)).map (·.2)).take n ∧ H2 R = some (.lst (es.map lref)) ∧
      ∀ e, e ∈ es → e.1 ≠ R ∧ H e.1 = none ∧ H2 e.1 = some (.lst (e.2.map V.int))) ?_ (fun n H2 _ q => SqL.of (q.1 _ _ (D.hs _ hp))) ?_ ?_
    · exact ⟨Same.new s1 nR, Same.free s1 nR, [], rfl, upd_same, fun e he => by simp at he⟩
    · rintro n y H2 hn ⟨s2, nR0, es, e1, e2, e3⟩
      have hn' := get_lt hn
      rw [List.length_map] at hn'
      obtain ⟨z, hz1, rfl⟩ : ∃ z, (S.Q (i, j))[n]? = some z ∧ y = lref z := by
        rw [List.getElem?_map] at hn
        obtain ⟨z, h1, h2⟩ := Option.map_eq_some_iff.mp hn
        exact ⟨z, h1, h2.symm⟩
      have hzm : z ∈ S.Q (i, j) := List.mem_of_getElem? hz1
      have D2 := D.same s2
      refine ⟨rfl, ?_⟩
      refine ⟨_, rfl, z.1, z.2.map V.int, rfl, SqL.of (D2.lt _ hp z hzm).2, fun l nl => ?_⟩
      have nlR : R ≠ l := ne_of_none e2 nl
      have s3 : Same H (upd H2 l (.lst (z.2.map V.int))) := Same.new s2 nl
      refine ⟨es.map lref, by rw [upd_ne nlR]; exact e2, ?_, ?_⟩
      · have q : (es.map (·.2)).length = (((S.Q (i, j)).map (·.2)).take n).length := by rw [e1]
        rw [List.length_map, List.length_take, List.length_map] at q
        rw [List.length_map]
        omega
      · refine ⟨fun b o e => ?_, nR0, es ++ [(l, z.2)], ?_, ?_, ?_⟩
        · rw [upd_ne (ne_of_none e nR0)]
          exact s3 b o e
        · rw [List.map_append, e1, List.take_add_one, List.getElem?_map, hz1]
          rfl
        · rw [upd_same, List.map_append]
          rfl
        · intro e he
          rcases List.mem_append.mp he with he | he
          · obtain ⟨h1, h0, h2⟩ := e3 e he
            refine ⟨h1, h0, ?_⟩
            rw [upd_ne h1, upd_ne (ne_of_none h2 nl)]
            exact h2
          · rw [List.mem_singleton.mp he]
            refine ⟨nlR.symm, Same.free s2 nl, ?_⟩
            rw [upd_ne nlR.symm, upd_same]
    · rintro H2 ⟨s2, nR0, es, e1, e2, e3⟩
      rw [List.length_map, List.take_of_length_le (by rw [List.length_map]; exact Nat.le_refl _)] at e1
      exact k H2 R es s2 e1 nR0 e2 fun e he => (e3 e he).2
end
end K76

/-! total, send, take, drop. -/
namespace K76
open PySem L2
/-! ### a count raised by one -/
section
variable {C : Addr} {H : Hp} {L : Lay} {S : LS}
theorem bump {z : Int} {w : Str} {S' : LS} (D : LinesAt C H L S) (v : valV (cnts S) (Sum.inr w : Key) = some (.int z)) (e : putK (cnts S) (Sum.inr w : Key) (.int (z + 1)) = cnts S') (eq : S'.Q = S.Q) (ep : S'.ps = S.ps) :
    DGet H L.dc (.str w) (some (.int z)) ∧ ∃ H1, DPut H L.dc (.str w) (.int (z + 1)) H1 ∧ LinesAt C H1 L S' ∧ Keep L.F H H1 := by
  have g := DGet.k (k := Sum.inr w) D.hc
  rw [v] at g
  have pt := DPut.k (k := Sum.inr w) (v := V.int (z + 1)) D.hc (show (cnts S).length < sizeLine by show 4 < sizeLine; decide)
  rw [e] at pt
  exact ⟨g, _, pt, D.putC eq ep, Keep.upd (Keep.refl _ _) F_c⟩
theorem bump_sn (D : LinesAt C H L S) : DGet H L.dc (.str "sent") (some (.int S.sn)) ∧ ∃ H1, DPut H L.dc (.str "sent") (.int (S.sn + 1)) H1 ∧ LinesAt C H1 L { S with sn := S.sn + 1 } ∧ Keep L.F H H1 :=
  bump D (c_sn S) (p_sn S _) rfl rfl
theorem bump_tk (D : LinesAt C H L S) : DGet H L.dc (.str "taken") (some (.int S.tk)) ∧ ∃ H1, DPut H L.dc (.str "taken") (.int (S.tk + 1)) H1 ∧ LinesAt C H1 L { S with tk := S.tk + 1 } ∧ Keep L.F H H1 :=
  bump D (c_tk S) (p_tk S _) rfl rfl
theorem bump_db (D : LinesAt C H L S) : DGet H L.dc (.str "doubled") (some (.int S.db)) ∧ ∃ H1, DPut H L.dc (.str "doubled") (.int (S.db + 1)) H1 ∧ LinesAt C H1 L { S with db := S.db + 1 } ∧ Keep L.F H H1 :=
  bump D (c_db S) (p_db S _) rfl rfl
theorem bump_ls (D : LinesAt C H L S) : DGet H L.dc (.str "lost") (some (.int S.ls)) ∧ ∃ H1, DPut H L.dc (.str "lost") (.int (S.ls + 1)) H1 ∧ LinesAt C H1 L { S with ls := S.ls + 1 } ∧ Keep L.F H H1 :=
  bump D (c_ls S) (p_ls S _) rfl rfl
end
theorem ix_of {m n : Nat} (h : m < n) : seqIndex? (m : Int) n = some m := by
  unfold seqIndex?
  simp only [show ¬ ((m : Int) < 0) by omega, if_false]
  rw [if_pos (by simp; omega)]
  rfl
theorem inQ_of {S : LS} {p : P2} {m : Nat} {e : Addr × List Int} (h : (S.Q p)[m]? = some e) : inQ S p (m : Int) = true := by
  have q := get_lt h
  unfold inQ
  rw [decide_eq_true (show (0 : Int) ≤ m by omega), decide_eq_true (show (m : Int) < ((S.Q p).length : Int) by omega)]
  rfl
theorem of_inQ {S : LS} {p : P2} {n : Int} (h : inQ S p n = true) : ∃ (m : Nat) (e : Addr × List Int), n = (m : Int) ∧ (S.Q p)[m]? = some e := by
  unfold inQ at h
  rw [Bool.and_eq_true, decide_eq_true_eq, decide_eq_true_eq] at h
  have hm : n.toNat < (S.Q p).length := by omega
  exact ⟨n.toNat, (S.Q p)[n.toNat], by omega, List.getElem?_eq_getElem hm⟩
/-! ### promises -/
def spTotal (C : Addr) : Sp := fun vs H Q _ => ∃ (L : Lay) (S : LS) (z : Str), vs = [.ref L.x, .str z] ∧ LinesAt C H L S ∧ L.ks.length ≤ 1000 ∧
  (z = "waiting" → ∀ H', Same H H' → Q (.int (tot L.ks fun p => (S.Q p).length)) H') ∧ (¬ z = "waiting" → ∃ v, valV (cnts S) (Sum.inr z : Key) = some v ∧ ∀ H', Same H H' → Q v H')
def spSend (C : Addr) : Sp := fun vs H Q _ => ∃ (L : Lay) (S : LS) (i j : Int) (d : Addr) (ds : List Int), vs = [.ref L.x, .int i, .int j, .ref d] ∧ LinesAt C H L S ∧ (i, j) ∈ L.ks ∧ (S.Q (i, j)).length < sizeLine ∧
  ¬ L.F d ∧ H d = some (.lst (ds.map V.int)) ∧
  (S.on (i, j) = true → ∀ (H' : Hp) (l : Addr), LinesAt C H' L { S with Q := setQ S.Q (i, j) (S.Q (i, j) ++ [(l, ds)]), sn := S.sn + 1 } → Keep L.F H H' → Q (.bl true) H') ∧
  (S.on (i, j) = false → ∀ H' : Hp, LinesAt C H' L { S with sn := S.sn + 1, ls := S.ls + 1 } → Keep L.F H H' → Q (.bl false) H')
def spTake (C : Addr) : Sp := fun vs H Q _ => ∃ (L : Lay) (S : LS) (i j n : Int), vs = [.ref L.x, .int i, .int j, .int n] ∧ LinesAt C H L S ∧ (i, j) ∈ L.ks ∧ (S.Q (i, j)).length < sizeLine ∧
  (∀ (m : Nat) (e : Addr × List Int), n = (m : Int) → S.on (i, j) = true → (S.Q (i, j))[m]? = some e → ∀ H' : Hp,
    LinesAt C H' L { S with Q := setQ S.Q (i, j) ((S.Q (i, j)).eraseIdx m), tk := S.tk + 1 } → Keep L.F H H' → Q (.ref e.1) H') ∧
  ((inQ S (i, j) n && S.on (i, j)) = false → ∀ H' : Hp, Same H H' → Q .non H')
def spDrop (C : Addr) : Sp := fun vs H Q _ => ∃ (L : Lay) (S : LS) (i j n : Int), vs = [.ref L.x, .int i, .int j, .int n] ∧ LinesAt C H L S ∧ (i, j) ∈ L.ks ∧ (S.Q (i, j)).length < sizeLine ∧
  (∀ (m : Nat) (e : Addr × List Int), n = (m : Int) → (S.Q (i, j))[m]? = some e → ∀ H' : Hp,
    LinesAt C H' L { S with Q := setQ S.Q (i, j) ((S.Q (i, j)).eraseIdx m), ls := S.ls + 1 } → Keep L.F H H' → Q (.bl true) H') ∧
  (inQ S (i, j) n = false → ∀ H' : Hp, Same H H' → Q (.bl false) H')
section
variable {P : Program} {w : World} {K : PySem.W.Frag} {mg : Str → Option Value} {base : Heap} {C : Addr}
theorem scTotal : FnScope ["self", "word", "queue"] ["self", "word"] (defScope sTotal) := ⟨rfl, rfl, rfl, by decide +kernel, rfl, by decide +kernel, by decide +kernel⟩
theorem ok_total {f : Addr} {fd : FuncData} (F : Fun K "total" "Lines.total" sTotal f fd) (T : Txt K mg C) : FnOk P w K mg base CX0 1 f fd ["self", "word"] (spTotal C) := by
  refine F.ok scTotal (fun vs H Q E h => ?_) (fun cdv A outer s H vs Q E hr h => ?_)
  · obtain ⟨L, S, z, rfl, _⟩ := h
    rfl
  · obtain ⟨L, S, z, rfl, D, hks, k1, k2⟩ := h
    have hu := hu_of hr
    refine ⟨_, pss_cons (ps_if (pt_cmpR op_eq (pv 1) pe_str (nomark _)) (pss_one (ps_ret (pe_callB (cr_sum rfl) (by rfl) T.sm PyProof.Rows.boot_sum (pa_cons (pe_lock
      (pe_lc (own := [("queue", 2)]) (g := gName 2) (tt := tYes) rfl scTotal.nd (pi_valuesT (pe_fld (pv 0) rfl)) (blkOk_by (own := [("queue", 2)]) (N := ["self", "word", "queue"]) (sc := defScope sTotal) (by decide +kernel))
        (fun _ _ _ _ _ => pg_name (i := 2) scTotal.nd rfl (Or.inl rfl)) (fun _ _ _ _ _ => pts_nil)
        (fun _ _ _ _ _ => pe_callB (call_lenK (K := K) rfl) (by rfl) T.len PySem.boot_len (pa_cons (pv 2) pa_nil)))) pa_nil)))) pss_nil)
      (pss_one (ps_ret (pe_dget hu (pe_fld (pv 0) rfl) (pv 1) (fun _ _ => rfl)))), ?_⟩
    obtain ⟨dx, ob⟩ := D.ob
    refine ⟨_, rfl, rfl, _, rfl, ?_⟩
    refine ite2 (fun h0 => ?_) (fun h0 => ?_)
    · have hz : z = "waiting" := V.str.inj (of_decide_eq_true h0)
      refine ⟨L.dq, _, D.hq, True.intro, fun od => ?_⟩
      have nx : L.x ≠ L.dq := ne_of ob D.hq (fun q => nomatch q)
      refine ⟨_, rfl, L.x, C, dx, _, _, rfl, by rw [upd_ne nx]; exact ob, T.cl, T.nQ, fl_q _ _ _ _, L.dq, od, L.kvs, rfl, upd_same, fun R nR => ?_⟩
      have nRq : R ≠ L.dq := fun q => by
        rw [q, upd_same] at nR
        cases nR
      refine lc_it (walk_vT (d := L.dq) (o := od) (kvs := L.kvs)) (fun n H2 => Same (upd H L.dq (.frz od (.dT L.kvs))) H2 ∧ H2 R = some (.lst ((L.ks.map fun p => V.int ((S.Q p).length : Int)).take n))) ?_ (fun n H2 _ q => q.1 _ _ upd_same) ?_ ?_
      · exact ⟨Same.new (Same.refl _) nR, upd_same⟩
      · rintro n y H2 _ hn ⟨s2, e2⟩ ⟨rfl, kk, hk⟩
        unfold Lay.kvs at hk hn
        rw [List.length_map] at hn
        rw [List.getElem?_map] at hk
        obtain ⟨p, hp1, hp2⟩ := Option.map_eq_some_iff.mp hk
        cases hp2
        have hp : p ∈ L.ks := List.mem_of_getElem? hp1
        have eq := s2 (L.q p) _ (by rw [upd_ne (fun q => D.qF (by rw [← q]; exact F_q hp))]; exact D.hs p hp)
        refine ⟨rfl, ?_⟩
        refine ⟨_, rfl, L.q p, _, rfl, SqL.of eq, _, e2, ?_, ?_, ?_⟩
        · rw [List.length_take, List.length_map]
          exact small1000 (by omega)
        · intro b o e
          have nb : b ≠ R := fun q => by
            rw [q, nR] at e
            cases e
          rw [upd_ne nb]
          exact s2 b o e
        · rw [upd_same, List.length_map, List.take_add_one, List.getElem?_map, hp1]
          rfl
      · rintro H2 ⟨s2, e2⟩
        refine ⟨s2 _ _ upd_same, R, L.ks.map (fun p => ((S.Q p).length : Int)), rfl, SqL.of ?_, ?_⟩
        · rw [upd_ne nRq, e2, List.take_of_length_le (by unfold Lay.kvs; rw [List.length_map, List.length_map]; exact Nat.le_refl _), List.map_map]
          rfl
        · refine k1 hz _ fun b o e => ?_
          by_cases q : b = L.dq
          · rw [q, upd_same]
            rw [q, D.hq] at e
            exact e
          · rw [upd_ne q]
            exact s2 b o (by rw [upd_ne q]; exact e)
    · have hz : ¬ z = "waiting" := fun q => h0 (decide_eq_true (by rw [q]))
      obtain ⟨v, e, k3⟩ := k2 hz
      have g := DGet.k (k := Sum.inr z) D.hc
      rw [e] at g
      exact ⟨_, rfl, L.x, C, dx, _, _, rfl, ob, T.cl, T.nC, fl_c _ _ _ _, _, rfl, L.dc, v, rfl, g, k3 H (Same.refl H)⟩
theorem scSend : FnScope ["self", "source", "target", "data"] ["self", "source", "target", "data"] (defScope sSend) := ⟨rfl, rfl, rfl, by decide +kernel, rfl, by decide +kernel, by decide +kernel⟩
theorem ok_send {f : Addr} {fd : FuncData} (F : Fun K "send" "Lines.send" sSend f fd) (T : Txt K mg C) (MJ : Md P w K mg base C 2 "is_joined" ["self", "first", "second"] (spIsJoined C)) :
    FnOk P w K mg base CX0 3 f fd ["self", "source", "target", "data"] (spSend C) := by
  refine F.ok scSend (fun vs H Q E h => ?_) (fun cdv A outer s H vs Q E hr h => ?_)
  · obtain ⟨L, S, i, j, d, ds, rfl, _⟩ := h
    rfl
  · obtain ⟨L, S, i, j, d, ds, rfl, D, hp, hz, nd, hd, k1, k2⟩ := h
    have hu := hu_of hr
    refine ⟨_, pss_cons (ps_daug hu (pe_fld (pv 0) rfl) pe_str pe_int in_add (fun _ _ _ => rfl))
      (pss_cons (ps_if (pt_not (pt_val (pe_m MJ T.cl hr (pv 0) (pa_cons (pv 1) (pa_cons (pv 2) pa_nil)))))
        (pss_cons (ps_daug hu (pe_fld (pv 0) rfl) pe_str pe_int in_add (fun _ _ _ => rfl)) (pss_one (ps_ret pe_bl))) pss_nil)
      (pss_cons (ps_expr (pe_bm PySem.F.plainAttrs_list PySem.F.slot_list_append PySem.F.type_list_append mt_append
          (pe_dget hu (pe_fld (pv 0) rfl) (pe_tup (pa_cons (pv 1) (pa_cons (pv 2) pa_nil))) (fun _ _ => rfl)) (pa_cons (pe_callTy call_list_of (by rfl) T.lst PyProof.Rows.boot_list (pa_cons (pv 3) pa_nil)) pa_nil)))
      (pss_one (ps_ret pe_bl)))), ?_⟩
    obtain ⟨dx, ob⟩ := D.ob
    obtain ⟨g1, H1, p1, D1, c1⟩ := bump_sn D
    refine ⟨_, rfl, L.x, C, dx, _, _, rfl, ob, T.cl, T.nC, fl_c _ _ _ _, L.dc, _, rfl, g1, _, _, rfl, rfl, H1, p1, ?_⟩
    obtain ⟨dx1, ob1⟩ := D1.ob
    refine ⟨_, rfl, L.x, dx1, _, rfl, ob1, fl_no _ _ _ _ (by decide +kernel) (by decide +kernel) (by decide +kernel) (by decide +kernel), _, rfl, _, rfl, L, _, i, j, rfl, D1, fun H2 s2 => ?_⟩
    have D2 := D1.same s2
    have c2 : Keep L.F H H2 := c1.trans (Keep.same s2)
    cases hb : S.on (i, j) with
    | false =>
      refine ⟨false, congrArg V.bl hb, iteT ?_⟩
      obtain ⟨dx2, ob2⟩ := D2.ob
      obtain ⟨g3, H3, p3, D3, c3⟩ := bump_ls D2
      exact ⟨_, rfl, L.x, C, dx2, _, _, rfl, ob2, T.cl, T.nC, fl_c _ _ _ _, L.dc, _, rfl, g3, _, _, rfl, rfl, H3, p3, k2 hb H3 D3 (c2.trans c3)⟩
    | true =>
      refine ⟨true, congrArg V.bl hb, iteF ?_⟩
      obtain ⟨dx2, ob2⟩ := D2.ob
      refine ⟨_, rfl, L.x, C, dx2, _, _, rfl, ob2, T.cl, T.nQ, fl_q _ _ _ _, _, rfl, _, rfl, (by show 2 ≤ sizeLine; decide), fun t nt => ?_⟩
      have s3 : Same H2 (upd H2 t (.tup [.int i, .int j])) := Same.new (Same.refl _) nt
      have D3 := D2.same s3
      have c3 : Keep L.F H (upd H2 t (.tup [.int i, .int j])) := c2.trans (Keep.same s3)
      refine ⟨L.dq, _, rfl, D3.get hp upd_same, .inl ⟨rfl, _, SqL.of (D3.hs _ hp)⟩, ?_⟩
      refine ⟨_, rfl, d, _, rfl, .inl (SqL.of (c3 d _ hd nd)), fun l nl => ?_⟩
      have s4 := Same.new (o := .lst (ds.map V.int)) (Same.refl _) nl
      have D4 := D3.same s4
      refine ⟨L.q (i, j), _, _, rfl, rfl, D4.hs _ hp, by rw [List.length_map]; exact hz, ?_⟩
      have D5 := D4.putQ hp (w := S.Q (i, j) ++ [(l, ds)]) fun e he => by
        rcases List.mem_append.mp he with he | he
        · exact D4.lt _ hp e he
        · rw [List.mem_singleton.mp he]
          exact ⟨D3.newF nl, upd_same⟩
      rw [List.map_append] at D5
      exact k1 hb _ l D5 (Keep.upd (c3.trans (Keep.same s4)) (F_q hp))
end
end K76

/-! take, drop, double, swap, cut, join. -/
namespace K76
open PySem L2
def spDouble (C : Addr) : Sp := fun vs H Q _ => ∃ (L : Lay) (S : LS) (i j n : Int), vs = [.ref L.x, .int i, .int j, .int n] ∧ LinesAt C H L S ∧ (i, j) ∈ L.ks ∧ (S.Q (i, j)).length < sizeLine ∧
  (∀ (m : Nat) (e : Addr × List Int), n = (m : Int) → (S.Q (i, j))[m]? = some e → ∀ (H' : Hp) (l : Addr),
    LinesAt C H' L { S with Q := setQ S.Q (i, j) (S.Q (i, j) ++ [(l, e.2)]), db := S.db + 1 } → Keep L.F H H' → Q (.bl true) H') ∧
  (inQ S (i, j) n = false → ∀ H' : Hp, Same H H' → Q (.bl false) H')
def spSwap (C : Addr) : Sp := fun vs H Q _ => ∃ (L : Lay) (S : LS) (i j n : Int), vs = [.ref L.x, .int i, .int j, .int n] ∧ LinesAt C H L S ∧ (i, j) ∈ L.ks ∧ (S.Q (i, j)).length < sizeLine ∧
  (∀ (m : Nat) (e1 e2 : Addr × List Int), n = (m : Int) → (S.Q (i, j))[m]? = some e1 → (S.Q (i, j))[m + 1]? = some e2 → ∀ H' : Hp,
    LinesAt C H' L { S with Q := setQ S.Q (i, j) (((S.Q (i, j)).set m e2).set (m + 1) e1) } → Keep L.F H H' → Q (.bl true) H') ∧
  (∀ H' : Hp, Same H H' → Q (.bl false) H')
def spCut (C : Addr) : Sp := fun vs H Q _ => ∃ (L : Lay) (S : LS) (i j : Int), vs = [.ref L.x, .int i, .int j] ∧ LinesAt C H L S ∧ S.ps.length < sizeLine ∧
  ∀ H' : Hp, LinesAt C H' L { S with ps := putK S.ps (lineK (i, j)) (.bl true) } → Keep L.F H H' → Q .non H'
def spJoin (C : Addr) : Sp := fun vs H Q _ => ∃ (L : Lay) (S : LS) (i j : Int), vs = [.ref L.x, .int i, .int j] ∧ LinesAt C H L S ∧
  ∀ H' : Hp, LinesAt C H' L { S with ps := dropK S.ps (lineK (i, j)) } → Keep L.F H H' → Q .non H'
theorem map_eraseIdx {α β : Type} (f : α → β) : ∀ (l : List α) (m : Nat), (l.eraseIdx m).map f = (l.map f).eraseIdx m
  | [], _ => rfl
  | _ :: _, 0 => rfl
  | a :: r, m + 1 => by
    show f a :: (r.eraseIdx m).map f = f a :: (r.map f).eraseIdx m
    rw [map_eraseIdx f r m]
theorem mem_set_of {α : Type} {l : List α} {m : Nat} {x y : α} (h : y ∈ l.set m x) : y = x ∨ y ∈ l := by
  rcases List.mem_or_eq_of_mem_set h with h | h
  · exact .inr h
  · exact .inl h
section
variable {P : Program} {w : World} {K : PySem.W.Frag} {mg : Str → Option Value} {base : Heap} {C : Addr}
theorem scTake : FnScope ["self", "source", "target", "index"] ["self", "source", "target", "index"] (defScope sTake) := ⟨rfl, rfl, rfl, by decide +kernel, rfl, by decide +kernel, by decide +kernel⟩
theorem ok_take {f : Addr} {fd : FuncData} (F : Fun K "take" "Lines.take" sTake f fd) (T : Txt K mg C) (MJ : Md P w K mg base C 2 "is_joined" ["self", "first", "second"] (spIsJoined C))
    (MW : Md P w K mg base C 1 "waits" ["self", "source", "target", "index"] (spWaits C)) : FnOk P w K mg base CX0 3 f fd ["self", "source", "target", "index"] (spTake C) := by
  refine F.ok scTake (fun vs H Q E h => ?_) (fun cdv A outer s H vs Q E hr h => ?_)
  · obtain ⟨L, S, i, j, n, rfl, _⟩ := h
    rfl
  · obtain ⟨L, S, i, j, n, rfl, D, hp, hz, k1, k2⟩ := h
    have hu := hu_of hr
    refine ⟨_, pss_cons (ps_if (PW.pt (pw_or (pt_not (pt_val (pe_m MW T.cl (hr.mono (by decide)) (pv 0) (pa_cons (pv 1) (pa_cons (pv 2) (pa_cons (pv 3) pa_nil))))))
          (pw_or1 (pt_not (pt_val (pe_m MJ T.cl hr (pv 0) (pa_cons (pv 1) (pa_cons (pv 2) pa_nil)))))))) (pss_one (ps_ret pe_non)) pss_nil)
      (pss_cons (ps_daug hu (pe_fld (pv 0) rfl) pe_str pe_int in_add (fun _ _ _ => rfl))
      (pss_one (ps_ret (pe_bm PySem.F.plainAttrs_list PySem.F.slot_list_pop PySem.F.type_list_pop mt_popAt
        (pe_dget hu (pe_fld (pv 0) rfl) (pe_tup (pa_cons (pv 1) (pa_cons (pv 2) pa_nil))) (fun _ _ => rfl)) (pa_cons (pv 3) pa_nil))))), ?_⟩
    obtain ⟨dx, ob⟩ := D.ob
    refine ⟨_, rfl, L.x, dx, _, rfl, ob, fl_no _ _ _ _ (by decide +kernel) (by decide +kernel) (by decide +kernel) (by decide +kernel), _, rfl, _, rfl, _, rfl, L, _, i, j, n, rfl, D, hp, fun H1 s1 => ?_⟩
    have D1 := D.same s1
    cases hw : inQ S (i, j) n with
    | false => exact ⟨false, rfl, iteT (iteT (k2 (by rw [hw]; rfl) H1 s1))⟩
    | true =>
      refine ⟨true, rfl, iteF ?_⟩
      obtain ⟨dx1, ob1⟩ := D1.ob
      refine ⟨_, rfl, L.x, dx1, _, rfl, ob1, fl_no _ _ _ _ (by decide +kernel) (by decide +kernel) (by decide +kernel) (by decide +kernel), _, rfl, _, rfl, L, _, i, j, rfl, D1, fun H2 s2 => ?_⟩
      have D2 := D1.same s2
      have s12 : Same H H2 := L2.Same.trans s1 s2
      cases hb : S.on (i, j) with
      | false => exact ⟨false, rfl, iteT (k2 (by rw [hw, hb]; rfl) H2 s12)⟩
      | true =>
        refine ⟨true, rfl, iteF ?_⟩
        obtain ⟨m, e, rfl, he⟩ := of_inQ hw
        have hm := get_lt he
        obtain ⟨dx2, ob2⟩ := D2.ob
        obtain ⟨g3, H3, p3, D3, c3⟩ := bump_tk D2
        refine ⟨_, rfl, L.x, C, dx2, _, _, rfl, ob2, T.cl, T.nC, fl_c _ _ _ _, L.dc, _, rfl, g3, _, _, rfl, rfl, H3, p3, ?_⟩
        obtain ⟨dx3, ob3⟩ := D3.ob
        refine ⟨_, rfl, L.x, C, dx3, _, _, rfl, ob3, T.cl, T.nQ, fl_q _ _ _ _, _, rfl, _, rfl, (by show 2 ≤ sizeLine; decide), fun t nt => ?_⟩
        have s4 : Same H3 (upd H3 t (.tup [.int i, .int j])) := Same.new (Same.refl _) nt
        have D4 := D3.same s4
        refine ⟨L.dq, _, rfl, D4.get hp upd_same, .inl ⟨rfl, _, SqL.of (D4.hs _ hp)⟩, ?_⟩
        have hz' : (S.Q (i, j)).length < 16777216 := by rw [← sizeLine_eq]; exact hz
        refine ⟨_, rfl, L.q (i, j), _, (m : Int), m, lref e, rfl, rfl, D4.hs _ hp, by omega, by omega, ix_of (by rw [List.length_map]; exact hm), by rw [List.getElem?_map]; show Option.map lref ((S.Q (i, j))[m]?) = _; rw [he]; rfl, ?_⟩
        have D5 := D4.putQ hp (w := (S.Q (i, j)).eraseIdx m) fun e he => D4.lt _ hp e (List.mem_of_mem_eraseIdx he)
        rw [map_eraseIdx] at D5
        exact k1 m e rfl hb he _ D5 (Keep.upd ((Keep.same s12).trans (c3.trans (Keep.same s4))) (F_q hp))
theorem scDrop : FnScope ["self", "source", "target", "index"] ["self", "source", "target", "index"] (defScope sDrop) := ⟨rfl, rfl, rfl, by decide +kernel, rfl, by decide +kernel, by decide +kernel⟩
theorem ok_drop {f : Addr} {fd : FuncData} (F : Fun K "drop" "Lines.drop" sDrop f fd) (T : Txt K mg C)
    (MW : Md P w K mg base C 1 "waits" ["self", "source", "target", "index"] (spWaits C)) : FnOk P w K mg base CX0 2 f fd ["self", "source", "target", "index"] (spDrop C) := by
  refine F.ok scDrop (fun vs H Q E h => ?_) (fun cdv A outer s H vs Q E hr h => ?_)
  · obtain ⟨L, S, i, j, n, rfl, _⟩ := h
    rfl
  · obtain ⟨L, S, i, j, n, rfl, D, hp, hz, k1, k2⟩ := h
    have hu := hu_of hr
    refine ⟨_, pss_cons (ps_if (pt_not (pt_val (pe_m MW T.cl hr (pv 0) (pa_cons (pv 1) (pa_cons (pv 2) (pa_cons (pv 3) pa_nil)))))) (pss_one (ps_ret pe_bl)) pss_nil)
      (pss_cons (ps_expr (pe_bm PySem.F.plainAttrs_list PySem.F.slot_list_pop PySem.F.type_list_pop mt_popAt
        (pe_dget hu (pe_fld (pv 0) rfl) (pe_tup (pa_cons (pv 1) (pa_cons (pv 2) pa_nil))) (fun _ _ => rfl)) (pa_cons (pv 3) pa_nil)))
      (pss_cons (ps_daug hu (pe_fld (pv 0) rfl) pe_str pe_int in_add (fun _ _ _ => rfl)) (pss_one (ps_ret pe_bl)))), ?_⟩
    obtain ⟨dx, ob⟩ := D.ob
    refine ⟨_, rfl, L.x, dx, _, rfl, ob, fl_no _ _ _ _ (by decide +kernel) (by decide +kernel) (by decide +kernel) (by decide +kernel), _, rfl, _, rfl, _, rfl, L, _, i, j, n, rfl, D, hp, fun H1 s1 => ?_⟩
    have D1 := D.same s1
    cases hw : inQ S (i, j) n with
    | false => exact ⟨false, rfl, iteT (k2 hw H1 s1)⟩
    | true =>
      refine ⟨true, rfl, iteF ?_⟩
      obtain ⟨m, e, rfl, he⟩ := of_inQ hw
      have hm := get_lt he
      obtain ⟨dx1, ob1⟩ := D1.ob
      refine ⟨_, rfl, L.x, C, dx1, _, _, rfl, ob1, T.cl, T.nQ, fl_q _ _ _ _, _, rfl, _, rfl, (by show 2 ≤ sizeLine; decide), fun t nt => ?_⟩
      have s4 : Same H1 (upd H1 t (.tup [.int i, .int j])) := Same.new (Same.refl _) nt
      have D4 := D1.same s4
      refine ⟨L.dq, _, rfl, D4.get hp upd_same, .inl ⟨rfl, _, SqL.of (D4.hs _ hp)⟩, ?_⟩
      have hz' : (S.Q (i, j)).length < 16777216 := by rw [← sizeLine_eq]; exact hz
      refine ⟨_, rfl, L.q (i, j), _, (m : Int), m, lref e, rfl, rfl, D4.hs _ hp, by omega, by omega, ix_of (by rw [List.length_map]; exact hm), by rw [List.getElem?_map, he]; rfl, ?_⟩
      have D5 := D4.putQ hp (w := (S.Q (i, j)).eraseIdx m) fun e he => D4.lt _ hp e (List.mem_of_mem_eraseIdx he)
      rw [map_eraseIdx] at D5
      have c5 : Keep L.F H _ := Keep.upd (o := .lst (((S.Q (i, j)).map lref).eraseIdx m)) ((Keep.same s1).trans (Keep.same s4)) (F_q hp)
      obtain ⟨dx5, ob5⟩ := D5.ob
      obtain ⟨g6, H6, p6, D6, c6⟩ := bump_ls D5
      exact ⟨_, rfl, L.x, C, dx5, _, _, rfl, ob5, T.cl, T.nC, fl_c _ _ _ _, L.dc, _, rfl, g6, _, _, rfl, rfl, H6, p6, k1 m e rfl he _ D6 (c5.trans c6)⟩
theorem scDouble : FnScope ["self", "source", "target", "index", "queue"] ["self", "source", "target", "index"] (defScope sDouble) := ⟨rfl, rfl, rfl, by decide +kernel, rfl, by decide +kernel, by decide +kernel⟩
theorem ok_double {f : Addr} {fd : FuncData} (F : Fun K "double" "Lines.double" sDouble f fd) (T : Txt K mg C)
    (MW : Md P w K mg base C 1 "waits" ["self", "source", "target", "index"] (spWaits C)) : FnOk P w K mg base CX0 2 f fd ["self", "source", "target", "index"] (spDouble C) := by
  refine F.ok scDouble (fun vs H Q E h => ?_) (fun cdv A outer s H vs Q E hr h => ?_)
  · obtain ⟨L, S, i, j, n, rfl, _⟩ := h
    rfl
  · obtain ⟨L, S, i, j, n, rfl, D, hp, hz, k1, k2⟩ := h
    have hu := hu_of hr
    refine ⟨_, pss_cons (ps_if (pt_not (pt_val (pe_m MW T.cl hr (pv 0) (pa_cons (pv 1) (pa_cons (pv 2) (pa_cons (pv 3) pa_nil)))))) (pss_one (ps_ret pe_bl)) pss_nil)
      (pss_cons (ps_set (i := 4) scDouble.nd rfl (Or.inl rfl) (pe_dget hu (pe_fld (pv 0) rfl) (pe_tup (pa_cons (pv 1) (pa_cons (pv 2) pa_nil))) (fun _ _ => rfl)))
      (pss_cons (ps_expr (pe_bm PySem.F.plainAttrs_list PySem.F.slot_list_append PySem.F.type_list_append mt_append (pv 4)
        (pa_cons (pe_callTy call_list_of (by rfl) T.lst PyProof.Rows.boot_list (pa_cons (pe_ix ix_list (pv 4) (pv 3) (fun _ _ => rfl)) pa_nil)) pa_nil)))
      (pss_cons (ps_daug hu (pe_fld (pv 0) rfl) pe_str pe_int in_add (fun _ _ _ => rfl)) (pss_one (ps_ret pe_bl))))), ?_⟩
    obtain ⟨dx, ob⟩ := D.ob
    refine ⟨_, rfl, L.x, dx, _, rfl, ob, fl_no _ _ _ _ (by decide +kernel) (by decide +kernel) (by decide +kernel) (by decide +kernel), _, rfl, _, rfl, _, rfl, L, _, i, j, n, rfl, D, hp, fun H1 s1 => ?_⟩
    have D1 := D.same s1
    cases hw : inQ S (i, j) n with
    | false => exact ⟨false, rfl, iteT (k2 hw H1 s1)⟩
    | true =>
      refine ⟨true, rfl, iteF ?_⟩
      obtain ⟨m, e, rfl, he⟩ := of_inQ hw
      have hm := get_lt he
      obtain ⟨dx1, ob1⟩ := D1.ob
      refine ⟨_, rfl, L.x, C, dx1, _, _, rfl, ob1, T.cl, T.nQ, fl_q _ _ _ _, _, rfl, _, rfl, (by show 2 ≤ sizeLine; decide), fun t nt => ?_⟩
      have s4 : Same H1 (upd H1 t (.tup [.int i, .int j])) := Same.new (Same.refl _) nt
      have D4 := D1.same s4
      refine ⟨L.dq, _, rfl, D4.get hp upd_same, ?_⟩
      have hg : ((S.Q (i, j)).map lref)[m]? = some (lref e) := by rw [List.getElem?_map, he]; rfl
      refine ⟨_, rfl, .inl ⟨rfl, _, SqL.of (D4.hs _ hp)⟩, _, rfl, _, rfl, L.q (i, j), _, (m : Int), _, rfl, rfl, SqL.of (D4.hs _ hp), atI_nat hg, ?_⟩
      refine ⟨e.1, _, rfl, .inl (SqL.of (D4.lt _ hp e (List.mem_of_getElem? he)).2), fun l nl => ?_⟩
      have s5 := Same.new (o := .lst (e.2.map V.int)) (Same.refl _) nl
      have D5 := D4.same s5
      refine ⟨L.q (i, j), _, _, rfl, rfl, D5.hs _ hp, by rw [List.length_map]; exact hz, ?_⟩
      have D6 := D5.putQ hp (w := S.Q (i, j) ++ [(l, e.2)]) fun e he => by
        rcases List.mem_append.mp he with he | he
        · exact D5.lt _ hp e he
        · rw [List.mem_singleton.mp he]
          exact ⟨D4.newF nl, upd_same⟩
      rw [List.map_append] at D6
      have c6 : Keep L.F H _ := Keep.upd (o := .lst ((S.Q (i, j)).map lref ++ [(l, e.2)].map lref)) ((Keep.same s1).trans ((Keep.same s4).trans (Keep.same s5))) (F_q hp)
      obtain ⟨dx6, ob6⟩ := D6.ob
      obtain ⟨g7, H7, p7, D7, c7⟩ := bump_db D6
      exact ⟨_, rfl, L.x, C, dx6, _, _, rfl, ob6, T.cl, T.nC, fl_c _ _ _ _, L.dc, _, rfl, g7, _, _, rfl, rfl, H7, p7, k1 m e rfl he _ l D7 (c6.trans c7)⟩
end
end K76

/-! swap, cut, join. -/
namespace K76
open PySem L2
theorem ixN_of {m n : Nat} (h : m < n) : ixN n (m : Int) = some m := by
  unfold ixN
  rw [if_pos (by omega), if_pos (by omega)]
  rfl
theorem ixN_at {z : Int} {m n : Nat} (e : z = (m : Int)) (h : m < n) : ixN n z = some m := by
  rw [e]
  exact ixN_of h
section
variable {P : Program} {w : World} {K : PySem.W.Frag} {mg : Str → Option Value} {base : Heap} {C : Addr}
theorem scSwap : FnScope ["self", "source", "target", "index", "queue"] ["self", "source", "target", "index"] (defScope sSwap) := ⟨rfl, rfl, rfl, by decide +kernel, rfl, by decide +kernel, by decide +kernel⟩
theorem ok_swap {f : Addr} {fd : FuncData} (F : Fun K "swap" "Lines.swap" sSwap f fd) (T : Txt K mg C)
    (MW : Md P w K mg base C 1 "waits" ["self", "source", "target", "index"] (spWaits C)) : FnOk P w K mg base CX0 2 f fd ["self", "source", "target", "index"] (spSwap C) := by
  refine F.ok scSwap (fun vs H Q E h => ?_) (fun cdv A outer s H vs Q E hr h => ?_)
  · obtain ⟨L, S, i, j, n, rfl, _⟩ := h
    rfl
  · obtain ⟨L, S, i, j, n, rfl, D, hp, hz, k1, k2⟩ := h
    have hu := hu_of hr
    refine ⟨_, pss_cons (ps_if (PW.pt (pw_or (pt_not (pt_val (pe_m MW T.cl hr (pv 0) (pa_cons (pv 1) (pa_cons (pv 2) (pa_cons (pv 3) pa_nil))))))
          (pw_or1 (pt_not (pt_val (pe_m MW T.cl hr (pv 0) (pa_cons (pv 1) (pa_cons (pv 2) (pa_cons (pe_op op_add (pv 3) pe_int) pa_nil))))))))) (pss_one (ps_ret pe_bl)) pss_nil)
      (pss_cons (ps_set (i := 4) scSwap.nd rfl (Or.inl rfl) (pe_dget hu (pe_fld (pv 0) rfl) (pe_tup (pa_cons (pv 1) (pa_cons (pv 2) pa_nil))) (fun _ _ => rfl)))
      (pss_cons (ps_asg (pe_tup (pa_cons (pe_ix ix_list (pv 4) (pe_op op_add (pv 3) pe_int) (fun _ _ => rfl)) (pa_cons (pe_ix ix_list (pv 4) (pv 3) (fun _ _ => rfl)) pa_nil)))
        (pg_tup rfl (pgs_cons (pg_sub (pv 4) (pv 3) set_list) (pgs_cons (pg_sub (pv 4) (pe_op op_add (pv 3) pe_int) set_list) pgs_nil))))
      (pss_one (ps_ret pe_bl)))), ?_⟩
    obtain ⟨dx, ob⟩ := D.ob
    refine ⟨_, rfl, L.x, dx, _, rfl, ob, fl_no _ _ _ _ (by decide +kernel) (by decide +kernel) (by decide +kernel) (by decide +kernel), _, rfl, _, rfl, _, rfl, L, S, i, j, n, rfl, D, hp, fun H1 s1 => ?_⟩
    have D1 := D.same s1
    cases hw : inQ S (i, j) n with
    | false => exact ⟨false, rfl, iteT (iteT (k2 H1 s1))⟩
    | true =>
      refine ⟨true, rfl, iteF ?_⟩
      obtain ⟨dx1, ob1⟩ := D1.ob
      refine ⟨_, rfl, L.x, dx1, _, rfl, ob1, fl_no _ _ _ _ (by decide +kernel) (by decide +kernel) (by decide +kernel) (by decide +kernel), _, rfl, _, rfl, _, rfl, _, _, rfl, rfl, L, S, i, j, n + 1, rfl, D1, hp, fun H2 s2 => ?_⟩
      have D2 := D1.same s2
      have s12 : Same H H2 := L2.Same.trans s1 s2
      cases hw2 : inQ S (i, j) (n + 1) with
      | false => exact ⟨false, rfl, iteT (k2 H2 s12)⟩
      | true =>
        refine ⟨true, rfl, iteF ?_⟩
        obtain ⟨m, e1, rfl, he1⟩ := of_inQ hw
        obtain ⟨m2, e2, em2, he2⟩ := of_inQ hw2
        have em : m2 = m + 1 := by omega
        subst em
        have hm := get_lt he1
        have hm2 := get_lt he2
        have g1 : ((S.Q (i, j)).map lref)[m]? = some (lref e1) := by rw [List.getElem?_map, he1]; rfl
        have g2 : ((S.Q (i, j)).map lref)[m + 1]? = some (lref e2) := by rw [List.getElem?_map, he2]; rfl
        obtain ⟨dx2, ob2⟩ := D2.ob
        refine ⟨_, rfl, L.x, C, dx2, _, _, rfl, ob2, T.cl, T.nQ, fl_q _ _ _ _, _, rfl, _, rfl, (by show 2 ≤ sizeLine; decide), fun t nt => ?_⟩
        have s3 : Same H2 (upd H2 t (.tup [.int i, .int j])) := Same.new (Same.refl _) nt
        have D3 := D2.same s3
        refine ⟨L.dq, _, rfl, D3.get hp upd_same, ?_⟩
        refine ⟨_, rfl, _, rfl, _, _, rfl, rfl, L.q (i, j), _, _, _, rfl, rfl, SqL.of (D3.hs _ hp), at_of (j := m + 1) (by omega) g2, ?_⟩
        refine ⟨_, rfl, _, rfl, L.q (i, j), _, _, _, rfl, rfl, SqL.of (D3.hs _ hp), atI_nat g1, (by show 2 ≤ sizeLine; decide), fun u nu => ?_⟩
        have s4 := Same.new (o := .tup [lref e2, lref e1]) (Same.refl _) nu
        have D4 := D3.same s4
        refine ⟨u, _, rfl, SqT.of upd_same, rfl, lref e2, _, rfl, _, rfl, _, rfl, L.q (i, j), _, _, m, rfl, rfl, D4.hs _ hp, ixN_of (by rw [List.length_map]; exact hm), ?_⟩
        refine ⟨lref e1, _, rfl, _, rfl, _, rfl, _, _, rfl, rfl, L.q (i, j), _, _, m + 1, rfl, rfl, upd_same, ixN_at (by omega) (by rw [List.length_set, List.length_map]; exact hm2), rfl, ?_⟩
        have D5 := D4.putQ hp (w := ((S.Q (i, j)).set m e2).set (m + 1) e1) fun e he => by
          rcases mem_set_of he with he | he
          · rw [he]
            exact D4.lt _ hp e1 (List.mem_of_getElem? he1)
          · rcases mem_set_of he with he | he
            · rw [he]
              exact D4.lt _ hp e2 (List.mem_of_getElem? he2)
            · exact D4.lt _ hp e he
        rw [List.map_set, List.map_set] at D5
        rw [upd_upd]
        exact k1 m e1 e2 rfl he1 he2 _ D5 (Keep.upd ((Keep.same s12).trans ((Keep.same s3).trans (Keep.same s4))) (F_q hp))
theorem scCut : FnScope ["self", "first", "second"] ["self", "first", "second"] (defScope sCut) := ⟨rfl, rfl, rfl, by decide +kernel, rfl, by decide +kernel, by decide +kernel⟩
theorem ok_cut {f : Addr} {fd : FuncData} (F : Fun K "cut" "Lines.cut" sCut f fd) (T : Txt K mg C) (G : Gd P w K mg base 1 "line_of" ["first", "second"] spLineOf) :
    FnOk P w K mg base CX0 2 f fd ["self", "first", "second"] (spCut C) := by
  refine F.ok scCut (fun vs H Q E h => ?_) (fun cdv A outer s H vs Q E hr h => ?_)
  · obtain ⟨L, S, i, j, rfl, _⟩ := h
    rfl
  · obtain ⟨L, S, i, j, rfl, D, hz, k⟩ := h
    have hu := hu_of hr
    refine ⟨_, pss_one (ps_dput hu (pe_fld (pv 0) rfl) (pe_g G hr rfl (pa_cons (pv 1) (pa_cons (pv 2) pa_nil))) pe_bl rfl), ?_⟩
    obtain ⟨dx, ob⟩ := D.ob
    refine ⟨_, rfl, L.x, C, dx, _, _, rfl, ob, T.cl, T.nP, fl_p _ _ _ _, _, rfl, _, rfl, i, j, rfl, fun H1 t s1 ht => ?_⟩
    have D1 := D.same s1
    exact ⟨L.dp, _, rfl, DPut.t D1.hp ht hz, k _ (D1.putP _) (Keep.upd (Keep.same s1) F_p)⟩
theorem scJoin : FnScope ["self", "first", "second"] ["self", "first", "second"] (defScope sJoin) := ⟨rfl, rfl, rfl, by decide +kernel, rfl, by decide +kernel, by decide +kernel⟩
theorem ok_join {f : Addr} {fd : FuncData} (F : Fun K "join" "Lines.join" sJoin f fd) (T : Txt K mg C) (G : Gd P w K mg base 1 "line_of" ["first", "second"] spLineOf) :
    FnOk P w K mg base CX0 2 f fd ["self", "first", "second"] (spJoin C) := by
  refine F.ok scJoin (fun vs H Q E h => ?_) (fun cdv A outer s H vs Q E hr h => ?_)
  · obtain ⟨L, S, i, j, rfl, _⟩ := h
    rfl
  · obtain ⟨L, S, i, j, rfl, D, k⟩ := h
    have hu := hu_of hr
    refine ⟨_, pss_one (ps_expr (pe_bm PySem.F.plainAttrs_dict PySem.F.slot_dict_pop PySem.F.type_dict_pop (L2.DX.mt_popT hu) (pe_fld (pv 0) rfl)
      (pa_cons (pe_g G hr rfl (pa_cons (pv 1) (pa_cons (pv 2) pa_nil))) (pa_cons pe_non pa_nil)))), ?_⟩
    obtain ⟨dx, ob⟩ := D.ob
    refine ⟨_, rfl, L.x, C, dx, _, _, rfl, ob, T.cl, T.nP, fl_p _ _ _ _, .inr (.inr (.inl ⟨rfl, .inr ⟨_, D.hp⟩⟩)), _, rfl, _, rfl, i, j, rfl, fun H1 t s1 ht => ?_⟩
    have D1 := D.same s1
    refine ⟨L.dp, _, lineK (i, j), t, _, rfl, rfl, D1.hp, ht, fun v hv => ?_, fun hv => ?_⟩
    · exact k _ (D1.putP _) (Keep.upd (Keep.same s1) F_p)
    · have e : dropK S.ps (lineK (i, j)) = S.ps := drop_none hv
      exact k _ (by rw [e]; exact D1) (Keep.same s1)
end
end K76

/-! __init__. -/
namespace K76
open PySem L2
def S0 : LS := ⟨fun _ => [], [], 0, 0, 0, 0⟩
/-- the queues are being laid: all of the devices up to i, and of i + 1 those up to j -/
structure Laying (C : Addr) (H0 H : Hp) (x dx : Addr) (n : Int) (dq dp dc : Addr) (ks : List P2) (q : P2 → Addr) (i j : Nat) : Prop where
  kept : ∀ b o, H0 b = some o → b ≠ x → H b = some o
  fq : H0 dq = none
  fp : H0 dp = none
  fc : H0 dc = none
  fs : ∀ p, p ∈ ks → H0 (q p) = none
  ob : H x = some (.ins C dx (flds n dq dp dc))
  hq : H dq = some (.dT (ks.map fun p => (kOf p, V.ref (q p))))
  hp : H dp = some (.dT [])
  hc : H dc = some (.dK (cnts S0))
  hs : ∀ p, p ∈ ks → H (q p) = some (.lst [])
  nd : ks.Nodup
  inj : ∀ p, p ∈ ks → ∀ r, r ∈ ks → q p = q r → p = r
  mem : ∀ p, p ∈ ks ↔ 1 ≤ p.1 ∧ p.1 ≤ n ∧ 1 ≤ p.2 ∧ p.2 ≤ n ∧ (p.1 ≤ i ∨ (p.1 = (i : Int) + 1 ∧ p.2 ≤ j))
  len : ks.length ≤ i * 4 + j
  dqp : dq ≠ dp
theorem merge_counts : mergeK [] (cnts S0) = cnts S0 := by decide +kernel
theorem Laying.step {C : Addr} {H0 H : Hp} {x dx : Addr} {n : Int} {dq dp dc : Addr} {ks : List P2} {q : P2 → Addr} {i j : Nat} (D : Laying C H0 H x dx n dq dp dc ks q i j) (hi : (i : Int) < n) (hj : (j : Int) < n) {l t : Addr}
    (nl : H l = none) (nt : upd H l (.lst []) t = none) {o : HO} :
    Laying C H0 (upd (upd (upd H l (.lst [])) t o) dq (.dT (putK (ks.map fun p => (kOf p, V.ref (q p))) (kOf ((1 : Int) + i, (1 : Int) + j)) (.ref l)))) x dx n dq dp dc (ks ++ [((1 : Int) + i, (1 : Int) + j)]) (setQ q ((1 : Int) + i, (1 : Int) + j) l) i (j + 1) := by
  generalize hp : ((1 : Int) + (i : Int), (1 : Int) + (j : Int)) = p
  have p1 : p.1 = (1 : Int) + i := by rw [← hp]
  have p2 : p.2 = (1 : Int) + j := by rw [← hp]
  have nin : p ∉ ks := fun z => by
    have := (D.mem p).mp z
    omega
  have ltr : ∀ b u, H b = some u → b ≠ dq → upd (upd (upd H l (.lst [])) t o) dq (.dT (putK (ks.map fun p => (kOf p, V.ref (q p))) (kOf p) (.ref l))) b = some u := fun b u e nb => by
    have e1 : upd H l (.lst []) b = some u := by rw [upd_ne (ne_of_none e nl)]; exact e
    rw [upd_ne nb, upd_ne (ne_of_none e1 nt)]
    exact e1
  have hl : l ≠ dq := (ne_of_none D.hq nl).symm
  have lt : l ≠ t := ne_of_none (show upd H l (.lst []) l = some (.lst []) from upd_same) nt
  have nlx : l ≠ x := (ne_of_none D.ob nl).symm
  have n0 : H0 l = none := by
    cases z : H0 l with
    | none => rfl
    | some u =>
      rw [D.kept l u z nlx] at nl
      cases nl
  have qold : ∀ r, r ∈ ks → setQ q p l r = q r := fun r hr => setQ_ne fun z => nin (by rw [← z]; exact hr)
  have qn : ∀ r, r ∈ ks → q r ≠ dq := fun r hr => ne_of (D.hs r hr) D.hq (fun z => nomatch z)
  refine ⟨fun b u e nb => ltr b u (D.kept b u e nb) fun z => ?_, D.fq, D.fp, D.fc, fun r hr => ?_, ltr _ _ D.ob (ne_of D.ob D.hq (fun z => nomatch z)), ?_, ltr _ _ D.hp D.dqp.symm, ltr _ _ D.hc (ne_of D.hc D.hq (fun z => nomatch z)), fun r hr => ?_, ?_, fun r hr r' hr' e => ?_, fun r => ?_, ?_, D.dqp⟩
  · rw [z, D.fq] at e
    cases e
  · rcases List.mem_append.mp hr with hr | hr
    · rw [qold r hr]
      exact D.fs r hr
    · rw [List.mem_singleton.mp hr, setQ_same]
      exact n0
  · have e1 : (ks.map fun r => (kOf r, V.ref (q r))) = ks.map fun r => (kOf r, V.ref (setQ q p l r)) := List.map_congr_left fun r hr => by rw [qold r hr]
    have e2 : ([(kOf p, V.ref l)] : List (List Key × V)) = [p].map fun r => (kOf r, V.ref (setQ q p l r)) := by
      show [(kOf p, V.ref l)] = [(kOf p, V.ref (setQ q p l p))]
      rw [setQ_same]
    rw [upd_same, putK_new _ (val_no nin), e1, e2, ← List.map_append]
  · rcases List.mem_append.mp hr with hr | hr
    · rw [qold r hr]
      exact ltr _ _ (D.hs r hr) (qn r hr)
    · rw [List.mem_singleton.mp hr, setQ_same, upd_ne hl, upd_ne lt, upd_same]
  · refine List.nodup_append.mpr ⟨D.nd, by simp, fun a ha b hb z => ?_⟩
    rw [List.mem_singleton.mp hb] at z
    exact nin (by rw [← z]; exact ha)
  · rcases List.mem_append.mp hr with hr | hr
    · rcases List.mem_append.mp hr' with hr' | hr'
      · rw [qold r hr, qold r' hr'] at e
        exact D.inj r hr r' hr' e
      · rw [List.mem_singleton.mp hr', setQ_same, qold r hr] at e
        exact absurd e (ne_of_none (D.hs r hr) nl)
    · rcases List.mem_append.mp hr' with hr' | hr'
      · rw [List.mem_singleton.mp hr, setQ_same, qold r' hr'] at e
        exact absurd e.symm (ne_of_none (D.hs r' hr') nl)
      · rw [List.mem_singleton.mp hr, List.mem_singleton.mp hr']
  · rw [List.mem_append, List.mem_singleton, D.mem r]
    constructor
    · rintro (z | z)
      · omega
      · rw [z]
        omega
    · intro z
      by_cases z2 : r.1 ≤ i ∨ (r.1 = (i : Int) + 1 ∧ r.2 ≤ j)
      · exact .inl ⟨z.1, z.2.1, z.2.2.1, z.2.2.2.1, z2⟩
      · exact .inr (Prod.ext (by omega) (by omega))
  · rw [List.length_append, List.length_singleton]
    have := D.len
    omega
theorem Laying.next {C : Addr} {H0 H : Hp} {x dx : Addr} {n : Int} {dq dp dc : Addr} {ks : List P2} {q : P2 → Addr} {i j : Nat} (D : Laying C H0 H x dx n dq dp dc ks q i j) (hj : (j : Int) = n) (hn : n ≤ 4) :
    Laying C H0 H x dx n dq dp dc ks q (i + 1) 0 := by
  refine ⟨D.kept, D.fq, D.fp, D.fc, D.fs, D.ob, D.hq, D.hp, D.hc, D.hs, D.nd, D.inj, fun r => ?_, ?_, D.dqp⟩
  · rw [D.mem r]
    constructor <;> intro z <;> omega
  · have := D.len
    omega
theorem Laying.laid {C : Addr} {H0 H : Hp} {x dx : Addr} {n : Int} {dq dp dc : Addr} {ks : List P2} {q : P2 → Addr} {i : Nat} (D : Laying C H0 H x dx n dq dp dc ks q i 0) (hi : (i : Int) = n) : LinesAt C H ⟨x, dq, dp, dc, q, ks, n⟩ S0 := by
  refine ⟨⟨dx, D.ob⟩, D.hq, D.hp, D.hc, D.hs, fun p _ e he => ?_, D.nd, D.inj, fun p => ?_, D.dqp⟩
  · have he' : e ∈ ([] : List (Addr × List Int)) := he
    simp at he'
  · show p ∈ ks ↔ 1 ≤ p.1 ∧ p.1 ≤ n ∧ 1 ≤ p.2 ∧ p.2 ≤ n
    rw [D.mem p]
    constructor <;> intro z <;> omega
def spInit (C : Addr) : Sp := fun vs H Q _ => ∃ (x dx : Addr) (n : Int), vs = [.ref x, .int n] ∧ H x = some (.ins C dx []) ∧ 1 ≤ n ∧ n ≤ 4 ∧
  ∀ (H' : Hp) (L : Lay), L.x = x → L.n = n → L.ks.length ≤ 20 → LinesAt C H' L S0 → (∀ b o, H b = some o → b ≠ x → H' b = some o) → (∀ b, L.F b → H b = none) → Q .non H'
section
variable {P : Program} {w : World} {K : PySem.W.Frag} {mg : Str → Option Value} {base : Heap} {C : Addr}
theorem scInit : FnScope ["self", "count", "first", "second"] ["self", "count"] (defScope sInit) := ⟨rfl, rfl, rfl, by decide +kernel, rfl, by decide +kernel, by decide +kernel⟩
theorem ok_init {f : Addr} {fd : FuncData} (F : Fun K "__init__" "Lines.__init__" sInit f fd) (T : Txt K mg C) : FnOk P w K mg base CX0 1 f fd ["self", "count"] (spInit C) := by
  refine F.ok scInit (fun vs H Q E h => ?_) (fun cdv A outer s H vs Q E hr h => ?_)
  · obtain ⟨x, dx, n, rfl, _⟩ := h
    rfl
  · obtain ⟨x, dx, n, rfl, hx, hn1, hn4, k⟩ := h
    have hu := hu_of hr
    refine ⟨_, pss_cons (ps_fld (pv 0) (pv 1) rfl) (pss_cons (ps_fld (pv 0) pe_dnewT rfl) (pss_cons (ps_fld (pv 0) pe_dnewT rfl)
      (pss_cons (ps_fld (pv 0) (pe_disp (pps_cons pe_str pe_int (pps_cons pe_str pe_int (pps_cons pe_str pe_int (pps_cons pe_str pe_int pps_nil)))) (by rfl) (by rfl) (fun z => by cases z) (by decide)) rfl)
      (pss_one (ps_for PassesOwn.never rfl (pi_range2 (by rfl) T.rng (pa_cons pe_int (pa_cons (pe_op op_add (pv 1) pe_int) pa_nil))) (pg_name (i := 2) scInit.nd rfl (Or.inl rfl))
        (pss_one (ps_for PassesOwn.never rfl (pi_range2 (by rfl) T.rng (pa_cons pe_int (pa_cons (pe_op op_add (pv 1) pe_int) pa_nil))) (pg_name (i := 3) scInit.nd rfl (Or.inl rfl))
          (pss_one (ps_dput hu (pe_fld (pv 0) rfl) (pe_tup (pa_cons (pv 2) (pa_cons (pv 3) pa_nil))) (pe_lst pa_nil) rfl))))))))), ?_⟩
    refine ⟨_, rfl, _, rfl, x, C, dx, _, rfl, hx, T.cl, T.nS, (by show 0 < 1000; decide), ?_⟩
    intro dq nq
    have xq : x ≠ dq := ne_of_none upd_same nq
    refine ⟨_, rfl, x, C, dx, _, rfl, by rw [upd_ne xq]; exact upd_same, T.cl, T.nQ, Nat.lt_of_le_of_lt (putF_len _ _ _) (by decide), ?_⟩
    intro dp np
    have xp : x ≠ dp := ne_of_none upd_same np
    refine ⟨_, rfl, x, C, dx, _, rfl, by rw [upd_ne xp]; exact upd_same, T.cl, T.nP, Nat.lt_of_le_of_lt (putF_len _ _ _) (Nat.lt_of_le_of_lt (Nat.succ_le_succ (putF_len _ _ _)) (by decide)), ?_⟩
    intro dc nc
    have xc : x ≠ dc := ne_of_none upd_same nc
    refine ⟨upd_same, cnts S0, rfl, (by decide), ?_⟩
    rw [merge_counts]
    refine ⟨_, rfl, x, C, dx, _, rfl, by rw [upd_ne xc, upd_ne xc]; exact upd_same, T.cl, T.nC,
      Nat.lt_of_le_of_lt (putF_len _ _ _) (Nat.lt_of_le_of_lt (Nat.succ_le_succ (putF_len _ _ _)) (Nat.lt_of_le_of_lt (Nat.succ_le_succ (Nat.succ_le_succ (putF_len _ _ _))) (by decide))), ?_⟩
    -- what stands behind the four stores
    have qp : dq ≠ dp := ne_of_none (show upd (upd _ dq (.dT [])) x _ dq = some _ by rw [upd_ne xq.symm, upd_same]) np
    have qc : dq ≠ dc := ne_of_none (show upd (upd (upd (upd _ dq (.dT [])) x _) dp (.dT [])) x _ dq = some _ by rw [upd_ne xq.symm, upd_ne qp, upd_ne xq.symm, upd_same]) nc
    have pc : dp ≠ dc := ne_of_none (show upd (upd _ dp (.dT [])) x _ dp = some _ by rw [upd_ne xp.symm, upd_same]) nc
    have fq : H dq = none := by rw [← nq, upd_ne xq.symm]
    have fp : H dp = none := by rw [← np, upd_ne xp.symm, upd_ne qp.symm, upd_ne xp.symm]
    have fc : H dc = none := by rw [← nc, upd_ne xc.symm, upd_ne pc.symm, upd_ne xc.symm, upd_ne qc.symm, upd_ne xc.symm]
    generalize hH1 : upd (upd (upd _ dc (.dK [])) dc (.dK (cnts S0))) x _ = H1
    have D0 : Laying C H H1 x dx n dq dp dc [] (fun _ => 0) 0 0 := by
      refine ⟨fun b o e nb => ?_, fq, fp, fc, fun p hp => by simp at hp, ?_, ?_, ?_, ?_, fun p hp => by simp at hp, List.nodup_nil, fun p hp => by simp at hp, fun p => ⟨fun z => by simp at z, fun z => by omega⟩, by simp, qp⟩
      · rw [← hH1, upd_ne nb, upd_upd, upd_ne (ne_of_none e fc), upd_ne nb, upd_ne (ne_of_none e fp), upd_ne nb, upd_ne (ne_of_none e fq), upd_ne nb]
        exact e
      · rw [← hH1]
        exact upd_same
      · rw [← hH1, upd_ne xq.symm, upd_upd, upd_ne qc, upd_ne xq.symm, upd_ne qp, upd_ne xq.symm, upd_same]
        rfl
      · rw [← hH1, upd_ne xp.symm, upd_upd, upd_ne pc, upd_ne xp.symm, upd_same]
      · rw [← hH1, upd_ne xc.symm, upd_same]
    clear hH1
    have tn : ((n.toNat : Nat) : Int) = n := by omega
    have e0 : (n + 1 - 1 : Int).toNat = n.toNat := by congr 1; omega
    refine ⟨_, rfl, _, _, rfl, rfl, 1, n + 1, rfl, ⟨by omega, by omega, by omega, by omega⟩, ?_⟩
    rw [e0]
    refine for_range (lo := 1) (n := n.toNat) (fun i σ H2 => ∃ (ks : List P2) (q : P2 → Addr) (v2 v3 : Option V), σ = [some (.ref x), some (.int n), v2, v3] ∧ Laying C H H2 x dx n dq dp dc ks q i 0) ⟨[], _, none, none, rfl, D0⟩ ?_ ?_
    · rintro i σ H2 hi ⟨ks, q, v2, v3, rfl, D⟩
      refine ⟨_, rfl, _, _, rfl, rfl, 1, n + 1, rfl, ⟨by omega, by omega, by omega, by omega⟩, ?_⟩
      rw [e0]
      refine for_range (lo := 1) (n := n.toNat) (fun j σ H3 => ∃ (ks : List P2) (q : P2 → Addr) (v3 : Option V), σ = [some (.ref x), some (.int n), some (.int (1 + (i : Int))), v3] ∧ Laying C H H3 x dx n dq dp dc ks q i j) ⟨ks, q, v3, rfl, D⟩ ?_ ?_
      · rintro j σ H3 hj ⟨ks, q, v3, rfl, D⟩
        refine ⟨Nat.zero_le _, fun l nl => ?_⟩
        have xl : x ≠ l := ne_of_none D.ob nl
        refine ⟨_, rfl, x, C, dx, _, _, rfl, by rw [upd_ne xl]; exact D.ob, T.cl, T.nQ, fl_q _ _ _ _, _, rfl, _, rfl, (by show 2 ≤ sizeLine; decide), fun t nt => ?_⟩
        have ql : dq ≠ l := ne_of_none D.hq nl
        have hq1 : upd H3 l (.lst []) dq = some (.dT (ks.map fun p => (kOf p, V.ref (q p)))) := by rw [upd_ne ql]; exact D.hq
        have qt : dq ≠ t := ne_of_none hq1 nt
        have hlen := D.len
        refine ⟨dq, _, rfl, DPut.t (k := kOf ((1 : Int) + i, (1 : Int) + j)) (by rw [upd_ne qt]; exact hq1) upd_same (by rw [List.length_map]; exact small1000 (by omega)), ?_⟩
        exact ⟨_, _, _, rfl, D.step (by omega) (by omega) nl nt⟩
      · rintro σ H3 ⟨ks, q, v3, rfl, D⟩
        exact ⟨ks, q, _, v3, rfl, D.next tn hn4⟩
    · rintro σ H2 ⟨ks, q, v2, v3, rfl, D⟩
      have hlen := D.len
      refine k H2 ⟨x, dq, dp, dc, q, ks, n⟩ rfl rfl (show ks.length ≤ 20 by omega) (D.laid tn) D.kept ?_
      rintro b (rfl | rfl | ⟨p, hp, rfl⟩)
      · exact fp
      · exact fc
      · exact D.fs p hp
end
end K76

/-! The law's own small defs: _law_draw, _law_balanced, _law_number. -/
namespace K76
open PySem L2
def One (st : Addr) (b : Addr) : Prop := b = st
def spDraw (K : PySem.W.Frag) : Sp := fun vs H Q _ => ∃ (st sc : Addr) (a z size : Int) (ns : List Int), vs = [.ref st, .ref sc, .int size] ∧ H st = some (.lst [.int a, .int z]) ∧ SqL K H sc (ns.map V.int) ∧ 1 ≤ size ∧ size < 1073741824 ∧
  ∀ (H' : Hp) (a' z' d : Int), H' st = some (.lst [.int a', .int z']) → Keep (One st) H H' → 0 ≤ d → d < size → Q (.int d) H'
def spBal (C : Addr) : Sp := fun vs H Q _ => ∃ (L : Lay) (S : LS), vs = [.ref L.x] ∧ LinesAt C H L S ∧ L.ks.length ≤ 1000 ∧ S.sn + S.db = S.tk + S.ls + (tot L.ks fun p => (S.Q p).length) ∧ ∀ H', Same H H' → Q (.bl true) H'
def spNumber : Sp := fun vs H Q _ => ∃ (d : Addr) (a b z : Int), vs = [.ref d, .int z] ∧ H d = some (.lst [.int a, .int b, .int z]) ∧ Q (.int (7 * a + b)) H
theorem script_at {ns : List Int} {a : Int} (h : 0 < ns.length) : ∃ c, atI (ns.map V.int) (a % ((ns.map V.int).length : Int)) = some (.int c) := by
  rw [List.length_map]
  have h1 := Int.emod_nonneg a (b := (ns.length : Int)) (by omega)
  have h2 := Int.emod_lt_of_pos a (b := (ns.length : Int)) (by omega)
  generalize a % (ns.length : Int) = r at h1 h2
  have hr : r.toNat < ns.length := by omega
  exact ⟨ns[r.toNat], at_of (j := r.toNat) (by omega) (by rw [List.getElem?_map, List.getElem?_eq_getElem hr]; rfl)⟩
section
variable {P : Program} {w : World} {K : PySem.W.Frag} {mg : Str → Option Value} {base : Heap} {C : Addr}
theorem scDraw : FnScope ["_law_state", "_law_script", "_law_size", "_law_at", "_law_cell", "_law_first", "_law_digit"] ["_law_state", "_law_script", "_law_size"] (defScope sDraw) := ⟨rfl, rfl, rfl, by decide +kernel, rfl, by decide +kernel, by decide +kernel⟩
theorem ok_draw {f : Addr} {fd : FuncData} (F : Fun K "_law_draw" "_law_draw" sDraw f fd) (T : Txt K mg C) : FnOk P w K mg base CX0 1 f fd ["_law_state", "_law_script", "_law_size"] (spDraw K) := by
  refine F.ok scDraw (fun vs H Q E h => ?_) (fun cdv A outer s H vs Q E hr h => ?_)
  · obtain ⟨st, sc, a, z, size, ns, rfl, _⟩ := h
    rfl
  · obtain ⟨st, sc, a, z, size, ns, rfl, hst, hsc, h1, h2, k⟩ := h
    have hu := hu_of hr
    have i0 : ixN 2 0 = some 0 := by decide
    have i1 : ixN 2 1 = some 1 := by decide
    refine ⟨_, C8.pss_cut (ps_if (pt_cmpR op_eq (pe_ix ix_list (pv 0) pe_int (fun _ _ => rfl)) pe_int (nomark _))
        (pss_cons (ps_set (i := 3) scDraw.nd rfl (Or.inl rfl) (pe_ix ix_list (pv 0) pe_int (fun _ _ => rfl)))
        (pss_cons (ps_set (i := 4) scDraw.nd rfl (Or.inl rfl) pe_int)
        (C8.pss_cut (ps_if (pt_cmpR op_gt (pe_callB call_len_seq (by rfl) T.len PySem.boot_len (pa_cons (pv 1) pa_nil)) pe_int (nomark _))
          (pss_one (ps_set (i := 4) scDraw.nd rfl (Or.inl rfl) (pe_callTy call_int1 (by rfl) T.int PyProof.Rows.boot_int
            (pa_cons (pe_ix ix_list (pv 1) (pe_op op_mod (pv 3) (pe_callB call_len_seq (by rfl) T.len PySem.boot_len (pa_cons (pv 1) pa_nil))) (fun _ _ => rfl)) pa_nil)))) pss_nil)
        (C8.pss_cut (ps_if (pt_cmpR op_lt (pv 4) pe_int (nomark _)) (pss_one (ps_set (i := 4) scDraw.nd rfl (Or.inl rfl) (pe_op op_sub pe_int (pe_op op_mul pe_int (pv 4))))) pss_nil)
        (C8.pss_cut (ps_if (PW.pt (pw_and (pt_cmpR op_ge (pv 4) (pe_op op_pow pe_int pe_int) (nomark _)) (pw_and1 (pt_cmpR op_lt (pv 3) (pe_callB call_len_seq (by rfl) T.len PySem.boot_len (pa_cons (pv 1) pa_nil)) (nomark _)))))
          (pss_one (ps_asg (pv 4) (pg_sub (pv 0) pe_int set_list)))
          (pss_cons (ps_set (i := 5) scDraw.nd rfl (Or.inl rfl) (pe_op op_mod (pe_callTy call_int1 (by rfl) T.int PyProof.Rows.boot_int
              (pa_cons (pe_op op_add (pe_op op_add (pe_op op_mul (pv 4) pe_int) (pe_op op_mul (pv 3) pe_int)) pe_int) pa_nil)) pe_int))
            (pss_one (ps_asg (pe_op op_add pe_int (pe_op op_mod (pe_callTy call_int1 (by rfl) T.int PyProof.Rows.boot_int
              (pa_cons (pe_op op_add (pe_op op_mul (pv 5) pe_int) (pe_op op_mul (pv 3) pe_int)) pa_nil)) pe_int)) (pg_sub (pv 0) pe_int set_list)))))
        (pss_one (ps_asg (pe_op op_add (pv 3) pe_int) (pg_sub (pv 0) pe_int set_list)))))))) pss_nil)
      (pss_cons (ps_set (i := 6) scDraw.nd rfl (Or.inl rfl) (pe_op op_mod (pe_callTy call_int1 (by rfl) T.int PyProof.Rows.boot_int (pa_cons (pe_ix ix_list (pv 0) pe_int (fun _ _ => rfl)) pa_nil)) (pv 2)))
      (pss_cons (ps_asg (pe_op op_fdivN (pe_ix ix_list (pv 0) pe_int (fun _ _ => rfl)) (pv 2)) (pg_sub (pv 0) pe_int set_list))
      (pss_one (ps_ret (pv 6))))), ?_⟩
    refine ⟨fun σ H1 => ∃ (a z : Int) (v3 v4 v5 : Option V), σ = [some (.ref st), some (.ref sc), some (.int size), v3, v4, v5, none] ∧ H1 st = some (.lst [.int a, .int z]) ∧ Keep (One st) H H1, ?_, ?_⟩
    · refine ⟨_, rfl, st, _, _, _, rfl, rfl, SqL.of hst, at_of (j := 1) rfl rfl, rfl, _, rfl, ?_⟩
      refine ite2 (fun _ => ?_) (fun _ => ⟨a, z, none, none, none, rfl, hst, Keep.refl _ _⟩)
      refine ⟨_, rfl, st, _, _, _, rfl, rfl, SqL.of hst, at_of (j := 0) rfl rfl, ?_⟩
      refine ⟨fun σ H1 => H1 = H ∧ ∃ c : Int, σ = [some (.ref st), some (.ref sc), some (.int size), some (.int a), some (.int c), none, none], ?_, ?_⟩
      · refine ⟨_, rfl, sc, _, rfl, .inl hsc, _, _, rfl, rfl, _, rfl, ?_⟩
        refine ite2 (fun h0 => ?_) (fun _ => ⟨rfl, 0, rfl⟩)
        have h0' : 0 < ns.length := by
          have q := of_decide_eq_true h0
          rw [List.length_map] at q
          omega
        obtain ⟨c, hc⟩ := script_at (a := a) h0'
        exact ⟨_, rfl, _, rfl, _, rfl, sc, _, rfl, .inl hsc, _, _, rfl, rfl, by rw [List.length_map]; omega, sc, _, _, _, rfl, rfl, hsc, hc, .inl ⟨c, rfl, rfl, c, rfl⟩⟩
      · rintro σ H1 ⟨rfl, c, rfl⟩
        refine ⟨fun σ H2 => H2 = H1 ∧ ∃ c : Int, σ = [some (.ref st), some (.ref sc), some (.int size), some (.int a), some (.int c), none, none], ?_, ?_⟩
        · refine ⟨_, rfl, _, _, rfl, rfl, _, rfl, ?_⟩
          refine ite2 (fun _ => ?_) (fun _ => ⟨rfl, c, rfl⟩)
          exact ⟨_, rfl, _, _, rfl, rfl, .inl ⟨by decide, by decide⟩, _, _, rfl, rfl, rfl, _, rfl⟩
        · rintro σ H2 ⟨rfl, c, rfl⟩
          refine ⟨fun σ H3 => ∃ (z : Int) (v5 : Option V), σ = [some (.ref st), some (.ref sc), some (.int size), some (.int a), some (.int c), v5, none] ∧ H3 st = some (.lst [.int a, .int z]) ∧ Keep (One st) H2 H3, ?_, ?_⟩
          · refine ⟨_, rfl, _, _, rfl, rfl, ⟨by decide, by decide, by decide⟩, _, _, rfl, rfl, _, rfl, ?_⟩
            refine ite2 (fun _ => ?_) (fun _ => iteF ?_)
            · refine ⟨_, rfl, _, rfl, sc, _, rfl, .inl hsc, _, _, rfl, rfl, _, rfl, ?_⟩
              refine ite2 (fun _ => ?_) (fun _ => ?_)
              · exact ⟨_, rfl, _, rfl, st, _, _, 1, rfl, rfl, hst, i1, _, none, rfl, upd_same, Keep.upd (Keep.refl _ _) rfl⟩
              · refine ⟨_, rfl, _, _, rfl, rfl, .inr ⟨by decide, by decide⟩, _, rfl, _, _, rfl, rfl, .inr ⟨by decide, by decide⟩, _, _, rfl, rfl, _, _, rfl, rfl, .inl ⟨_, rfl, _, _, rfl, rfl, (show (0 : Int) < 2147483629 by decide), ?_⟩⟩
                refine ⟨_, rfl, _, _, rfl, rfl, .inr ⟨by decide, by decide⟩, _, rfl, _, _, rfl, rfl, .inr ⟨by decide, by decide⟩, _, _, rfl, rfl, .inl ⟨_, rfl, _, _, rfl, rfl, (show (0 : Int) < 2305843009213693951 by decide), _, _, rfl, rfl, _, rfl, st, _, _, 1, rfl, rfl, hst, i1, ?_⟩⟩
                exact ⟨_, _, rfl, upd_same, Keep.upd (Keep.refl _ _) rfl⟩
            · refine ⟨_, rfl, _, _, rfl, rfl, .inr ⟨by decide, by decide⟩, _, rfl, _, _, rfl, rfl, .inr ⟨by decide, by decide⟩, _, _, rfl, rfl, _, _, rfl, rfl, .inl ⟨_, rfl, _, _, rfl, rfl, (show (0 : Int) < 2147483629 by decide), ?_⟩⟩
              refine ⟨_, rfl, _, _, rfl, rfl, .inr ⟨by decide, by decide⟩, _, rfl, _, _, rfl, rfl, .inr ⟨by decide, by decide⟩, _, _, rfl, rfl, .inl ⟨_, rfl, _, _, rfl, rfl, (show (0 : Int) < 2305843009213693951 by decide), _, _, rfl, rfl, _, rfl, st, _, _, 1, rfl, rfl, hst, i1, ?_⟩⟩
              exact ⟨_, _, rfl, upd_same, Keep.upd (Keep.refl _ _) rfl⟩
          · rintro σ H3 ⟨z, v5, rfl, h3, k3⟩
            refine ⟨_, rfl, _, _, rfl, rfl, _, rfl, st, _, _, 0, rfl, rfl, h3, i0, ?_⟩
            exact ⟨a + 1, z, _, _, v5, rfl, upd_same, Keep.upd k3 rfl⟩
    · rintro σ H1 ⟨a, z, v3, v4, v5, rfl, h3, k3⟩
      refine ⟨_, rfl, st, _, _, _, rfl, rfl, SqL.of h3, at_of (j := 1) rfl rfl, .inl ⟨z, rfl, _, rfl, _, _, rfl, rfl, by omega, ?_⟩⟩
      refine ⟨_, rfl, st, _, _, _, rfl, rfl, SqL.of h3, at_of (j := 1) rfl rfl, _, rfl, _, _, rfl, rfl, ⟨by omega, by omega⟩, _, rfl, st, _, _, 1, rfl, rfl, h3, i1, _, rfl, ?_⟩
      exact k _ a _ _ upd_same (Keep.upd k3 rfl) (Int.emod_nonneg _ (by omega)) (Int.emod_lt_of_pos _ (by omega))
theorem scBal : FnScope ["_law_lines", "_law_made"] ["_law_lines"] (defScope sBal) := ⟨rfl, rfl, rfl, by decide +kernel, rfl, by decide +kernel, by decide +kernel⟩
theorem ok_bal {f : Addr} {fd : FuncData} (F : Fun K "_law_balanced" "_law_balanced" sBal f fd) (T : Txt K mg C) (MT : Md P w K mg base C 1 "total" ["self", "word"] (spTotal C)) : FnOk P w K mg base CX0 2 f fd ["_law_lines"] (spBal C) := by
  refine F.ok scBal (fun vs H Q E h => ?_) (fun cdv A outer s H vs Q E hr h => ?_)
  · obtain ⟨L, S, rfl, _⟩ := h
    rfl
  · obtain ⟨L, S, rfl, D, hks, hb, k⟩ := h
    refine ⟨_, pss_cons (ps_set (i := 1) scBal.nd rfl (Or.inl rfl) (pe_op op_add (pe_m MT T.cl hr (pv 0) (pa_cons pe_str pa_nil)) (pe_m MT T.cl hr (pv 0) (pa_cons pe_str pa_nil))))
      (pss_one (ps_ret (pe_cmpR op_eq (pv 1) (pe_op op_add (pe_op op_add (pe_m MT T.cl hr (pv 0) (pa_cons pe_str pa_nil)) (pe_m MT T.cl hr (pv 0) (pa_cons pe_str pa_nil)))
        (pe_m MT T.cl hr (pv 0) (pa_cons pe_str pa_nil))) (nomark _)))), ?_⟩
    have no (n : Int) (q p c : Addr) : (flds n q p c).lookup ("total" : Str) = none := fl_no _ _ _ _ (by decide +kernel) (by decide +kernel) (by decide +kernel) (by decide +kernel)
    obtain ⟨d0, o0⟩ := D.ob
    refine ⟨_, rfl, L.x, d0, _, rfl, o0, no _ _ _ _, L, S, _, rfl, D, hks, fun e => absurd e (by decide +kernel), fun _ => ⟨_, c_sn S, fun H1 s1 => ?_⟩⟩
    have D1 := D.same s1
    obtain ⟨d1, o1⟩ := D1.ob
    refine ⟨_, rfl, L.x, d1, _, rfl, o1, no _ _ _ _, L, S, _, rfl, D1, hks, fun e => absurd e (by decide +kernel), fun _ => ⟨_, c_db S, fun H2 s2 => ?_⟩⟩
    have D2 := D1.same s2
    obtain ⟨d2, o2⟩ := D2.ob
    refine ⟨_, _, rfl, rfl, _, rfl, ?_⟩
    refine ⟨_, rfl, L.x, d2, _, rfl, o2, no _ _ _ _, L, S, _, rfl, D2, hks, fun e => absurd e (by decide +kernel), fun _ => ⟨_, c_tk S, fun H3 s3 => ?_⟩⟩
    have D3 := D2.same s3
    obtain ⟨d3, o3⟩ := D3.ob
    refine ⟨_, rfl, L.x, d3, _, rfl, o3, no _ _ _ _, L, S, _, rfl, D3, hks, fun e => absurd e (by decide +kernel), fun _ => ⟨_, c_ls S, fun H4 s4 => ?_⟩⟩
    have D4 := D3.same s4
    obtain ⟨d4, o4⟩ := D4.ob
    refine ⟨_, _, rfl, rfl, ?_⟩
    refine ⟨_, rfl, L.x, d4, _, rfl, o4, no _ _ _ _, L, S, _, rfl, D4, hks, fun _ H5 s5 => ?_, fun e => absurd rfl e⟩
    refine ⟨_, _, rfl, rfl, rfl, ?_⟩
    have q := k H5 (L2.Same.trans s1 (L2.Same.trans s2 (L2.Same.trans s3 (L2.Same.trans s4 s5))))
    have e : decide (V.int (S.sn + S.db) = V.int (S.tk + S.ls + tot L.ks fun p => (S.Q p).length)) = true := decide_eq_true (by rw [hb])
    show Q (.bl (decide (V.int (S.sn + S.db) = V.int (S.tk + S.ls + tot L.ks fun p => (S.Q p).length)))) H5
    rw [e]
    exact q
theorem scNumber : FnScope ["_law_data", "_law_source"] ["_law_data", "_law_source"] (defScope sNumber) := ⟨rfl, rfl, rfl, by decide +kernel, rfl, by decide +kernel, by decide +kernel⟩
theorem ok_number {f : Addr} {fd : FuncData} (F : Fun K "_law_number" "_law_number" sNumber f fd) (T : Txt K mg C) : FnOk P w K mg base CX0 1 f fd ["_law_data", "_law_source"] spNumber := by
  refine F.ok scNumber (fun vs H Q E h => ?_) (fun cdv A outer s H vs Q E hr h => ?_)
  · obtain ⟨d, a, b, z, rfl, _⟩ := h
    rfl
  · obtain ⟨d, a, b, z, rfl, hd, k⟩ := h
    refine ⟨_, pss_cons (ps_if (PW.pt (pw_or (pt_not (pt_val (pe_callB call_isi (by rfl) T.isi PyProof.Rows.boot_isinstance (pa_cons (pv 0) (pa_cons (pe_bltn (v := .ty "list") (by rfl) T.lst PyProof.Rows.boot_list rfl) pa_nil)))))
        (pw_or (pt_cmpR op_ne (pe_callB call_len_seq (by rfl) T.len PySem.boot_len (pa_cons (pv 0) pa_nil)) pe_int (nomark _)) (pw_or1 (pt_cmpR op_ne (pe_ix ix_list (pv 0) pe_int (fun _ _ => rfl)) (pv 1) (nomark _))))))
        (pss_one ps_never) pss_nil)
      (pss_one (ps_ret (pe_op op_add (pe_op op_mul pe_int (pe_ix ix_list (pv 0) pe_int (fun _ _ => rfl))) (pe_ix ix_list (pv 0) pe_int (fun _ _ => rfl))))), ?_⟩
    refine ⟨_, rfl, _, _, _, _, true, rfl, ClsV.ty "list", TyX.base (TyOf.lst hd), kit_ty (by decide +kernel), true, rfl, iteF ?_⟩
    refine ⟨_, rfl, d, _, rfl, .inl (SqL.of hd), rfl, _, rfl, ?_⟩
    refine iteF ?_
    refine ⟨_, rfl, d, _, _, _, rfl, rfl, SqL.of hd, at_of (j := 2) rfl rfl, _, rfl, rfl, _, rfl, ?_⟩
    refine iteNS rfl ?_
    refine ⟨_, rfl, d, _, _, _, rfl, rfl, SqL.of hd, at_of (j := 0) rfl rfl, _, _, rfl, rfl, .inl ⟨by decide, by decide⟩, ?_⟩
    exact ⟨_, rfl, d, _, _, _, rfl, rfl, SqL.of hd, at_of (j := 1) rfl rfl, _, _, rfl, rfl, k⟩
end
end K76

/-! The law's world: the lines, the ledger, the state list; _law_sent. -/
namespace K76
open PySem L2
/-- a row of the ledger: its list, its tuple, the direction, the number -/
structure Rw where
  a : Addr
  t : Addr
  p : P2
  k : Int
def rv (r : Rw) : V := .ref r.a
def rk (r : Rw) : P2 × Int := (r.p, r.k)
def LS.W (S : LS) (p : P2) : List (List Int) := (S.Q p).map (·.2)
def LS.N (S : LS) (p : P2) : Nat := (S.Q p).length
/-- how it stands in the heap; H0: the heap at the law's entry -/
structure WH (C : Addr) (H0 H : Hp) (L : Lay) (S : LS) (lg st : Addr) (rows : List Rw) : Prop where
  la : LinesAt C H L S
  s0 : Same H0 H
  f0 : ∀ b, L.F b → H0 b = none
  hst : ∃ a z, H st = some (.lst [.int a, .int z])
  st0 : H0 st = none
  hlg : H lg = some (.lst (rows.map rv))
  lg0 : H0 lg = none
  lgF : ¬ L.F lg
  rw : ∀ r, r ∈ rows → H r.a = some (.lst [.ref r.t, .int r.k])
  rw0 : ∀ r, r ∈ rows → H0 r.a = none
  tp : ∀ r, r ∈ rows → H r.t = some (.tup [.int r.p.1, .int r.p.2])
  rnd : (rows.map Rw.a).Nodup
  three : ∀ p, p ∈ L.ks → ∀ e, e ∈ S.Q p → e.2.length = 3
  ksl : L.ks.length ≤ 20
/-- what holds of the numbers -/
structure WP (L : Lay) (S : LS) (rows : List Rw) : Prop where
  fit : Fits L.ks S.W (rows.map rk)
  bal : S.sn + S.db = S.tk + S.ls + tot L.ks S.N
  snt : S.sn = rows.length
theorem not_rv {rows : List Rw} {a : V} {k : Int} : (HO.lst [a, V.int k] : HO) ≠ .lst (rows.map rv) := by
  intro e
  injection e with e
  cases rows with
  | nil => simp at e
  | cons r rs => cases rs with
    | nil => simp at e
    | cons r2 rs2 =>
      simp only [List.map_cons] at e
      injection e with e1 e2
      injection e2 with e2 e3
      cases e2
theorem not_lref {es : List (Addr × List Int)} {a : V} {k : Int} : (HO.lst [a, V.int k] : HO) ≠ .lst (es.map lref) := by
  intro e
  injection e with e
  cases es with
  | nil => simp at e
  | cons r rs => cases rs with
    | nil => simp at e
    | cons r2 rs2 =>
      simp only [List.map_cons] at e
      injection e with e1 e2
      injection e2 with e2 e3
      cases e2
theorem not_lett {ds : List Int} (h : ds.length = 3) {a b : V} : (HO.lst [a, b] : HO) ≠ .lst (ds.map V.int) := by
  intro e
  injection e with e
  have q := congrArg List.length e
  rw [List.length_map, h] at q
  simp at q
theorem rv_lett {ds : List Int} (h : ds.length = 3) {rows : List Rw} : (HO.lst (rows.map rv) : HO) ≠ .lst (ds.map V.int) := by
  intro e
  injection e with e
  cases rows with
  | nil =>
    have q := congrArg List.length e
    rw [List.length_map, List.length_map, h] at q
    simp at q
  | cons r rs =>
    cases ds with
    | nil => simp at h
    | cons d dd =>
      simp only [List.map_cons] at e
      injection e with e1 e2
      cases e1
section
variable {C : Addr} {H0 H H' : Hp} {L : Lay} {S S' : LS} {lg st : Addr} {rows : List Rw} {p : P2}
theorem WH.ne_two (h : WH C H0 H L S lg st rows) {b : Addr} {u : V} {k : Int} (e : H b = some (.lst [u, .int k])) : (¬ L.Uses S b) ∧ b ≠ lg ∧ ∀ r, r ∈ rows → b ≠ r.t := by
  refine ⟨?_, ne_of e h.hlg not_rv, fun r hr => ne_of e (h.tp r hr) (fun q => nomatch q)⟩
  rintro (z | z | z | ⟨p, hp, d, hd, z⟩)
  · obtain ⟨dx, ob⟩ := h.la.ob
    exact ne_of e ob (fun q => nomatch q) z
  · exact ne_of e h.la.hq (fun q => nomatch q) z
  · exact h.la.notF e (fun _ q => nomatch q) (fun _ q => nomatch q) (fun _ => not_lref) z
  · exact ne_of e (h.la.lt p hp d hd).2 (not_lett (h.three p hp d hd)) z
theorem WH.stF (h : WH C H0 H L S lg st rows) : ¬ L.F st := by
  obtain ⟨a, z, e⟩ := h.hst
  exact fun f => (h.ne_two e).1 (.inr (.inr (.inl f)))
theorem WH.rwF (h : WH C H0 H L S lg st rows) {r : Rw} (hr : r ∈ rows) : ¬ L.F r.a := fun f => (h.ne_two (h.rw r hr)).1 (.inr (.inr (.inl f)))
theorem WH.tpF (h : WH C H0 H L S lg st rows) {r : Rw} (hr : r ∈ rows) : ¬ L.F r.t := h.la.notF (h.tp r hr) (fun _ q => nomatch q) (fun _ q => nomatch q) fun _ q => nomatch q
theorem WH.same (h : WH C H0 H L S lg st rows) (s : Same H H') : WH C H0 H' L S lg st rows := by
  obtain ⟨a, z, e⟩ := h.hst
  exact ⟨h.la.same s, L2.Same.trans h.s0 s, h.f0, ⟨a, z, s _ _ e⟩, h.st0, s _ _ h.hlg, h.lg0, h.lgF, fun r hr => s _ _ (h.rw r hr), h.rw0, fun r hr => s _ _ (h.tp r hr), h.rnd, h.three, h.ksl⟩
/-- behind a method of the lines -/
theorem WH.lines (h : WH C H0 H L S lg st rows) (D : LinesAt C H' L S') (k : Keep L.F H H') (t : ∀ p, p ∈ L.ks → ∀ e, e ∈ S'.Q p → e.2.length = 3) : WH C H0 H' L S' lg st rows := by
  obtain ⟨a, z, e⟩ := h.hst
  refine ⟨D, fun b o q => k b o (h.s0 b o q) fun f => ?_, h.f0, ⟨a, z, k _ _ e h.stF⟩, h.st0, k _ _ h.hlg h.lgF, h.lg0, h.lgF, fun r hr => k _ _ (h.rw r hr) (h.rwF hr), h.rw0, fun r hr => k _ _ (h.tp r hr) (h.tpF hr), h.rnd, t, h.ksl⟩
  rw [h.f0 b f] at q
  cases q
/-- behind a draw -/
theorem WH.drawn (h : WH C H0 H L S lg st rows) {a z : Int} (e : H' st = some (.lst [.int a, .int z])) (k : Keep (One st) H H') : WH C H0 H' L S lg st rows := by
  obtain ⟨a0, z0, e0⟩ := h.hst
  obtain ⟨n1, n2, n3⟩ := h.ne_two e0
  refine ⟨h.la.keep fun b o u q => k b o q fun f => n1 (by rw [← show b = st from f]; exact u), fun b o q => k b o (h.s0 b o q) fun f => ?_, h.f0, ⟨a, z, e⟩, h.st0, k _ _ h.hlg fun f => n2 f.symm, h.lg0, h.lgF,
    fun r hr => k _ _ (h.rw r hr) fun f => ?_, h.rw0, fun r hr => k _ _ (h.tp r hr) fun f => n3 r hr f.symm, h.rnd, h.three, h.ksl⟩
  · rw [show b = st from f, h.st0] at q
    cases q
  · exact ne_of (h.rw r hr) e0 (fun q => by cases q) f
/-- a row's number is stored -/
theorem WH.row (h : WH C H0 H L S lg st rows) {n : Nat} {r : Rw} (e : rows[n]? = some r) (k : Int) : WH C H0 (upd H r.a (.lst [.ref r.t, .int k])) L S lg st (rows.set n ⟨r.a, r.t, r.p, k⟩) := by
  have hr := List.mem_of_getElem? e
  obtain ⟨n1, n2, n3⟩ := h.ne_two (h.rw r hr)
  obtain ⟨a0, z0, e0⟩ := h.hst
  have hn := get_lt e
  have er : rows[n] = r := by
    rw [List.getElem?_eq_getElem hn] at e
    exact Option.some.inj e
  have ea : (rows.set n ⟨r.a, r.t, r.p, k⟩).map Rw.a = rows.map Rw.a := by
    rw [List.map_set]
    refine List.ext_getElem? fun j => ?_
    by_cases z : n = j
    · subst z
      rw [List.getElem?_set_self (by rw [List.length_map]; exact hn), List.getElem?_map, e]
      rfl
    · rw [List.getElem?_set_ne z]
  have ev : (rows.set n ⟨r.a, r.t, r.p, k⟩).map rv = rows.map rv := by
    have q (l : List Rw) : l.map rv = (l.map Rw.a).map V.ref := by
      rw [List.map_map]
      rfl
    rw [q, q, ea]
  have other : ∀ r', r' ∈ rows.set n ⟨r.a, r.t, r.p, k⟩ → r' = ⟨r.a, r.t, r.p, k⟩ ∨ (r' ∈ rows ∧ r'.a ≠ r.a) := fun r' hr' => by
    obtain ⟨j, hj⟩ := List.mem_iff_getElem?.mp hr'
    by_cases z : n = j
    · subst z
      rw [List.getElem?_set_self hn] at hj
      exact .inl (Option.some.inj hj).symm
    · rw [List.getElem?_set_ne z] at hj
      refine .inr ⟨List.mem_of_getElem? hj, fun q => z ?_⟩
      have g1 : (rows.map Rw.a)[n]? = some r.a := by rw [List.getElem?_map, e]; rfl
      have g2 : (rows.map Rw.a)[j]? = some r.a := by rw [List.getElem?_map, hj]; exact congrArg some q
      exact nd_ix h.rnd g1 g2
  refine ⟨h.la.keep fun b o u q => by rw [upd_ne (fun f => n1 (by rw [← f]; exact u))]; exact q, fun b o q => ?_, h.f0, ⟨a0, z0, by rw [upd_ne (ne_of e0 (h.rw r hr) (fun q => by cases q))]; exact e0⟩, h.st0,
    by rw [upd_ne n2.symm, ev]; exact h.hlg, h.lg0, h.lgF, fun r' hr' => ?_, fun r' hr' => ?_, fun r' hr' => ?_, by rw [ea]; exact h.rnd, h.three, h.ksl⟩
  · rw [upd_ne (fun f => by rw [f, h.rw0 r hr] at q; cases q)]
    exact h.s0 b o q
  · rcases other r' hr' with rfl | ⟨m, ne⟩
    · exact upd_same
    · rw [upd_ne ne]
      exact h.rw r' m
  · rcases other r' hr' with rfl | ⟨m, ne⟩
    · exact h.rw0 r hr
    · exact h.rw0 r' m
  · rcases other r' hr' with rfl | ⟨m, ne⟩
    · rw [upd_ne (n3 r hr).symm]
      exact h.tp r hr
    · rw [upd_ne (n3 r' m).symm]
      exact h.tp r' m
/-- a row is appended -/
theorem WH.snoc (h : WH C H0 H L S lg st rows) {r : Rw} (e : H r.a = some (.lst [.ref r.t, .int r.k])) (e2 : H r.t = some (.tup [.int r.p.1, .int r.p.2])) (n0 : H0 r.a = none) (nr : ∀ r', r' ∈ rows → r'.a ≠ r.a) :
    WH C H0 (upd H lg (.lst (rows.map rv ++ [rv r]))) L S lg st (rows ++ [r]) := by
  obtain ⟨a0, z0, e0⟩ := h.hst
  have nl : ¬ L.Uses S lg := by
    rintro (z | z | z | ⟨p, hp, d, hd, z⟩)
    · obtain ⟨dx, ob⟩ := h.la.ob
      exact ne_of h.hlg ob (fun q => nomatch q) z
    · exact ne_of h.hlg h.la.hq (fun q => nomatch q) z
    · exact h.lgF z
    · exact ne_of h.hlg (h.la.lt p hp d hd).2 (rv_lett (h.three p hp d hd)) z
  have two : ∀ {b : Addr} {u : V} {k : Int}, H b = some (.lst [u, .int k]) → upd H lg (.lst (rows.map rv ++ [rv r])) b = some (.lst [u, .int k]) := fun {b u k} q => by
    rw [upd_ne (ne_of q h.hlg not_rv)]
    exact q
  have tup : ∀ {b : Addr} {us : List V}, H b = some (.tup us) → upd H lg (.lst (rows.map rv ++ [rv r])) b = some (.tup us) := fun {b us} q => by
    rw [upd_ne (ne_of q h.hlg (fun z => nomatch z))]
    exact q
  refine ⟨h.la.keep fun b o u q => by rw [upd_ne (fun f => nl (by rw [← f]; exact u))]; exact q, fun b o q => ?_, h.f0, ⟨a0, z0, two e0⟩, h.st0, by rw [upd_same, List.map_append]; rfl, h.lg0, h.lgF, fun r' hr' => ?_, fun r' hr' => ?_, fun r' hr' => ?_, ?_, h.three, h.ksl⟩
  · rw [upd_ne (fun f => by rw [f, h.lg0] at q; cases q)]
    exact h.s0 b o q
  · rcases List.mem_append.mp hr' with m | m
    · exact two (h.rw r' m)
    · rw [List.mem_singleton.mp m]
      exact two e
  · rcases List.mem_append.mp hr' with m | m
    · exact h.rw0 r' m
    · rw [List.mem_singleton.mp m]
      exact n0
  · rcases List.mem_append.mp hr' with m | m
    · exact tup (h.tp r' m)
    · rw [List.mem_singleton.mp m]
      exact tup e2
  · rw [List.map_append]
    refine List.nodup_append.mpr ⟨h.rnd, by simp, fun a ha b hb z => ?_⟩
    obtain ⟨r', m, rfl⟩ := List.mem_map.mp ha
    have hb' : b ∈ [r.a] := hb
    rw [List.mem_singleton.mp hb'] at z
    exact nr r' m z
/-! ### the numbers -/
theorem W_set (w : List (Addr × List Int)) (S' : LS) (e : S'.Q = setQ S.Q p w) : S'.W = setQ S.W p (w.map (·.2)) := by
  have q := setQ_map (fun l : List (Addr × List Int) => l.map (·.2)) S.Q p w
  rw [← e] at q
  exact q
theorem N_set (w : List (Addr × List Int)) (S' : LS) (e : S'.Q = setQ S.Q p w) : S'.N = setQ S.N p w.length := by
  have q := setQ_map (fun l : List (Addr × List Int) => l.length) S.Q p w
  rw [← e] at q
  exact q
theorem WP.lostSend (h : WP L S rows) (hp : p ∈ L.ks) (hd : p.1 ≠ p.2) {r : Rw} (er : rk r = (p, 0)) : WP L { S with sn := S.sn + 1, ls := S.ls + 1 } (rows ++ [r]) := by
  refine ⟨?_, ?_, ?_⟩
  · rw [List.map_append]
    have q := h.fit.lost hp hd
    rw [← er] at q
    exact q
  · have q := h.bal
    show S.sn + 1 + S.db = S.tk + (S.ls + 1) + tot L.ks S.N
    omega
  · have q := h.snt
    show S.sn + 1 = ((rows ++ [r]).length : Int)
    rw [List.length_append, List.length_singleton]
    omega
theorem WP.sent (h : WP L S rows) (hn : L.ks.Nodup) (hp : p ∈ L.ks) (hd : p.1 ≠ p.2) {r : Rw} (er : rk r = (p, 1)) {l : Addr} : WP L { S with Q := setQ S.Q p (S.Q p ++ [(l, lett rows.length p.1)]), sn := S.sn + 1 } (rows ++ [r]) := by
  refine ⟨?_, ?_, ?_⟩
  · rw [List.map_append, W_set _ _ rfl, List.map_append]
    have q := h.fit.sent hp hd
    rw [← er, List.length_map] at q
    exact q
  · rw [N_set _ _ rfl, tot_set hn hp, List.length_append, List.length_singleton]
    have q := h.bal
    show S.sn + 1 + S.db = S.tk + S.ls + (tot L.ks S.N - ((S.Q p).length : Int) + (((S.Q p).length + 1 : Nat) : Int))
    omega
  · have q := h.snt
    show S.sn + 1 = ((rows ++ [r]).length : Int)
    rw [List.length_append, List.length_singleton]
    omega
end
/-- bounds that a turn raises by one -/
structure Small (S : LS) (rows : List Rw) (n : Nat) : Prop where
  q : ∀ p, (S.Q p).length ≤ n
  ps : S.ps.length ≤ n
  rw : rows.length ≤ n
theorem lett_len (n : Nat) (s : Int) : (lett n s).length = 3 := rfl
theorem small_lt {n m : Nat} (h : n ≤ m) (hm : m ≤ 1000) : n < sizeLine := small1000 (Nat.le_trans h hm)
def spSent (C : Addr) : Sp := fun vs H Q _ => ∃ (H0 : Hp) (L : Lay) (S : LS) (lg st : Addr) (rows : List Rw) (i j : Int) (n : Nat), vs = [.ref L.x, .ref lg, .int i, .int j] ∧ WH C H0 H L S lg st rows ∧ WP L S rows ∧ (i, j) ∈ L.ks ∧ i ≠ j ∧ Small S rows n ∧ n < 1000 ∧
  ∀ (H' : Hp) (S' : LS) (rows' : List Rw), WH C H0 H' L S' lg st rows' → WP L S' rows' → Small S' rows' (n + 1) → Q .non H'
section
variable {P : Program} {w : World} {K : PySem.W.Frag} {mg : Str → Option Value} {base : Heap} {C : Addr}
theorem scSent : FnScope ["_law_lines", "_law_ledger", "_law_source", "_law_target", "_law_number_here", "_law_data"] ["_law_lines", "_law_ledger", "_law_source", "_law_target"] (defScope sSent) := ⟨rfl, rfl, rfl, by decide +kernel, rfl, by decide +kernel, by decide +kernel⟩
theorem ok_sent {f : Addr} {fd : FuncData} (F : Fun K "_law_sent" "_law_sent" sSent f fd) (T : Txt K mg C) (MS : Md P w K mg base C 3 "send" ["self", "source", "target", "data"] (spSend C)) :
    FnOk P w K mg base CX0 4 f fd ["_law_lines", "_law_ledger", "_law_source", "_law_target"] (spSent C) := by
  refine F.ok scSent (fun vs H Q E h => ?_) (fun cdv A outer s H vs Q E hr h => ?_)
  · obtain ⟨H0, L, S, lg, st, rows, i, j, n, rfl, _⟩ := h
    rfl
  · obtain ⟨H0, L, S, lg, st, rows, i, j, n, rfl, D, N, hp, hij, sm, hn, k⟩ := h
    refine ⟨_, pss_cons (ps_set (i := 4) scSent.nd rfl (Or.inl rfl) (pe_callB call_len_seq (by rfl) T.len PySem.boot_len (pa_cons (pv 1) pa_nil)))
      (pss_cons (ps_set (i := 5) scSent.nd rfl (Or.inl rfl) (pe_lst (pa_cons (pe_op op_fdiv (pv 4) pe_int) (pa_cons (pe_op op_mod (pv 4) pe_int) (pa_cons (pv 2) pa_nil)))))
      (pss_cons (ps_expr (pe_bm PySem.F.plainAttrs_list PySem.F.slot_list_append PySem.F.type_list_append mt_append (pv 1)
        (pa_cons (pe_lst (pa_cons (pe_tup (pa_cons (pv 2) (pa_cons (pv 3) pa_nil))) (pa_cons pe_int pa_nil))) pa_nil)))
      (pss_one (ps_if (pt_val (pe_m MS T.cl hr (pv 0) (pa_cons (pv 2) (pa_cons (pv 3) (pa_cons (pv 5) pa_nil)))))
        (pss_one (ps_asg pe_int (pg_sub (pe_ix ix_list (pv 1) (pv 4) (fun _ _ => rfl)) pe_int set_list))) pss_nil)))), ?_⟩
    refine ⟨_, rfl, lg, _, rfl, .inl (SqL.of D.hlg), ?_⟩
    rw [List.length_map]
    refine ⟨_, rfl, _, _, rfl, rfl, ⟨by decide, by decide⟩, _, rfl, _, _, rfl, rfl, (by show (0 : Int) < 7; decide), _, rfl, (by show 3 ≤ sizeLine; decide), fun d nd => ?_⟩
    have s1 : Same H (upd H d (.lst ((lett rows.length i).map V.int))) := Same.new (Same.refl H) nd
    have D1 := D.same s1
    refine ⟨_, rfl, .inl ⟨rfl, _, SqL.of D1.hlg⟩, _, rfl, _, rfl, (by show 2 ≤ sizeLine; decide), fun t nt => ?_⟩
    have s2 := Same.new (o := .tup [.int i, .int j]) (Same.refl _) nt
    have D2 := D1.same s2
    refine ⟨(by show 2 ≤ sizeLine; decide), fun r nr => ?_⟩
    have s3 := Same.new (o := .lst [.ref t, .int 0]) (Same.refl _) nr
    have D3 := D2.same s3
    refine ⟨lg, _, _, rfl, rfl, D3.hlg, by rw [List.length_map]; exact small_lt sm.rw (by omega), ?_⟩
    have tr : t ≠ r := ne_of_none (show upd _ t (.tup [.int i, .int j]) t = some _ from upd_same) nr
    have D4 := D3.snoc (r := ⟨r, t, (i, j), 0⟩) upd_same (by show upd _ r _ t = _; rw [upd_ne tr]; exact upd_same)
      (L2.Same.free D2.s0 nr) fun r' m => ne_of_none (D2.rw r' m) nr
    obtain ⟨dx, ob⟩ := D4.la.ob
    have dt : d ≠ t := ne_of_none (show upd H d _ d = some (.lst ((lett rows.length i).map V.int)) from upd_same) nt
    have d3 : upd (upd (upd H d (.lst ((lett rows.length i).map V.int))) t (.tup [.int i, .int j])) r (.lst [.ref t, .int 0]) d = some (.lst ((lett rows.length i).map V.int)) := s3 _ _ (s2 _ _ upd_same)
    have dlg : d ≠ lg := (ne_of_none D.hlg nd).symm
    have hq := sm.q (i, j)
    refine ⟨_, rfl, L.x, dx, _, rfl, ob, fl_no _ _ _ _ (by decide +kernel) (by decide +kernel) (by decide +kernel) (by decide +kernel), _, rfl, _, rfl, _, rfl, L, S, i, j, d, lett rows.length i, rfl, D4.la, hp, small_lt hq (by omega), D.la.newF nd,
      by rw [upd_ne dlg]; exact d3, fun hb H5 l D5 c5 => ⟨true, rfl, iteT ?_⟩, fun hb H5 D5 c5 => ⟨false, rfl, iteF ?_⟩⟩
    · have W5 := D4.lines D5 c5 fun p hp e he => by
        have he' : e ∈ setQ S.Q (i, j) (S.Q (i, j) ++ [(l, lett rows.length i)]) p := he
        by_cases z : p = (i, j)
        · subst z
          rw [setQ_same] at he'
          rcases List.mem_append.mp he' with m | m
          · exact D.three _ hp e m
          · rw [List.mem_singleton.mp m]
            rfl
        · rw [setQ_ne z] at he'
          exact D.three p hp e he'
      have hg : (rows ++ [(⟨r, t, (i, j), 0⟩ : Rw)])[rows.length]? = some ⟨r, t, (i, j), 0⟩ := snoc_new _ _
      have W6 := W5.row hg 1
      refine ⟨_, rfl, _, rfl, lg, _, _, _, rfl, rfl, SqL.of W5.hlg, at_of (j := rows.length) rfl (by rw [List.getElem?_map, hg]; rfl), r, _, _, 1, rfl, rfl, W5.rw _ (List.mem_of_getElem? hg), rfl, ?_⟩
      have e6 : (rows ++ [(⟨r, t, (i, j), 0⟩ : Rw)]).set rows.length ⟨r, t, (i, j), 1⟩ = rows ++ [⟨r, t, (i, j), 1⟩] := by
        rw [List.set_append_right _ _ (Nat.le_refl _), Nat.sub_self]
        rfl
      have W6' := W6
      rw [e6] at W6'
      refine k _ _ _ W6' (N.sent D.la.nd hp hij rfl) ⟨fun p => ?_, Nat.le_succ_of_le sm.ps, ?_⟩
      · show (setQ S.Q (i, j) (S.Q (i, j) ++ [(l, lett rows.length i)]) p).length ≤ n + 1
        by_cases z : p = (i, j)
        · rw [z, setQ_same, List.length_append, List.length_singleton]
          omega
        · rw [setQ_ne z]
          exact Nat.le_succ_of_le (sm.q p)
      · rw [List.length_append, List.length_singleton]
        exact Nat.succ_le_succ sm.rw
    · have W5 := D4.lines D5 c5 D.three
      refine k _ _ _ W5 (N.lostSend hp hij rfl) ⟨fun p => Nat.le_succ_of_le (sm.q p), Nat.le_succ_of_le sm.ps, ?_⟩
      rw [List.length_append, List.length_singleton]
      exact Nat.succ_le_succ sm.rw
end
end K76

/-! _law_counted: one command on a waiting letter. -/
namespace K76
open PySem L2
section
variable {C : Addr} {H0 H H' : Hp} {L : Lay} {S S' : LS} {lg st : Addr} {rows : List Rw} {p : P2}
theorem rk_at {m : Nat} {r : Rw} (e : rows[m]? = some r) (rp : r.p = p) : (rows.map rk)[m]? = some (p, r.k) := by
  rw [List.getElem?_map, e, ← rp]
  rfl
theorem rk_set (m : Nat) (r : Rw) (k : Int) (rp : r.p = p) : (rows.set m ⟨r.a, r.t, r.p, k⟩).map rk = (rows.map rk).set m (p, k) := by
  rw [List.map_set, ← rp]
  rfl
theorem len_erase {α : Type} {l : List α} {i : Nat} {x : α} (h : l[i]? = some x) : (l.eraseIdx i).length + 1 = l.length := by
  have q := get_lt h
  rw [List.length_eraseIdx_of_lt q]
  omega
theorem WP.erase (h : WP L S rows) (hn : L.ks.Nodup) (hp : p ∈ L.ks) {i m : Nat} {e : Addr × List Int} {r : Rw} (he : (S.Q p)[i]? = some e) (hr : rows[m]? = some r) (rp : r.p = p) (el : e.2 = lett m p.1)
    (eq : S'.Q = setQ S.Q p ((S.Q p).eraseIdx i)) (e1 : S'.sn = S.sn) (e2 : S'.db = S.db) (e3 : S'.tk + S'.ls = S.tk + S.ls + 1) : WP L S' (rows.set m ⟨r.a, r.t, r.p, r.k + -1⟩) := by
  refine ⟨?_, ?_, ?_⟩
  · rw [rk_set m r _ rp, W_set _ _ eq, map_eraseIdx]
    refine h.fit.change (rk_at hr rp) fun d => ?_
    have g : (S.W p)[i]? = some (lett m p.1) := by
      show ((S.Q p).map (·.2))[i]? = _
      rw [List.getElem?_map, he, ← el]
      rfl
    exact count_erase_at g d
  · rw [N_set _ _ eq, tot_set hn hp]
    have q := h.bal
    have l := len_erase he
    show S'.sn + S'.db = S'.tk + S'.ls + (tot L.ks S.N - ((S.Q p).length : Int) + (((S.Q p).eraseIdx i).length : Int))
    omega
  · rw [e1, List.length_set]
    exact h.snt
theorem WP.dbl (h : WP L S rows) (hn : L.ks.Nodup) (hp : p ∈ L.ks) {m : Nat} {l : Addr} {r : Rw} {ds : List Int} (hr : rows[m]? = some r) (rp : r.p = p) (el : ds = lett m p.1) :
    WP L { S with Q := setQ S.Q p (S.Q p ++ [(l, ds)]), db := S.db + 1 } (rows.set m ⟨r.a, r.t, r.p, r.k + 1⟩) := by
  refine ⟨?_, ?_, ?_⟩
  · rw [rk_set m r _ rp, W_set _ _ rfl, List.map_append]
    refine h.fit.change (rk_at hr rp) fun d => ?_
    have q := count_snoc ((S.Q p).map (·.2)) (lett m p.1) d
    rw [← el] at q ⊢
    exact q
  · rw [N_set _ _ rfl, tot_set hn hp, List.length_append, List.length_singleton]
    have q := h.bal
    show S.sn + (S.db + 1) = S.tk + S.ls + (tot L.ks S.N - ((S.Q p).length : Int) + (((S.Q p).length + 1 : Nat) : Int))
    omega
  · rw [List.length_set]
    exact h.snt
theorem WP.swapped (h : WP L S rows) (hn : L.ks.Nodup) (hp : p ∈ L.ks) {m : Nat} {e1 e2 : Addr × List Int} (h1 : (S.Q p)[m]? = some e1) (h2 : (S.Q p)[m + 1]? = some e2) :
    WP L { S with Q := setQ S.Q p (((S.Q p).set m e2).set (m + 1) e1) } rows := by
  refine ⟨?_, ?_, h.snt⟩
  · rw [W_set _ _ rfl, List.map_set, List.map_set]
    refine h.fit.perm fun d => ?_
    exact count_swap_at (w := (S.Q p).map (·.2)) (by rw [List.getElem?_map, h1]; rfl) (by rw [List.getElem?_map, h2]; rfl) d
  · rw [N_set _ _ rfl, tot_set hn hp, List.length_set, List.length_set]
    have q := h.bal
    show S.sn + S.db = S.tk + S.ls + (tot L.ks S.N - ((S.Q p).length : Int) + ((S.Q p).length : Int))
    omega
/-- whose letter it is -/
theorem WP.owner (h : WP L S rows) (hp : p ∈ L.ks) {i : Nat} {e : Addr × List Int} (he : (S.Q p)[i]? = some e) : ∃ (m : Nat) (r : Rw), rows[m]? = some r ∧ r.p = p ∧ e.2 = lett m p.1 := by
  obtain ⟨m, k, hm, el⟩ := h.fit.link p hp e.2 (List.mem_map.mpr ⟨e, List.mem_of_getElem? he, rfl⟩)
  rw [List.getElem?_map] at hm
  obtain ⟨r, h1, h2⟩ := Option.map_eq_some_iff.mp hm
  exact ⟨m, r, h1, congrArg Prod.fst h2, el⟩
/-- what a command changes of the queues -/
structure Post (S S' : LS) (p : P2) (w : Str) (n : Int) : Prop where
  ps : S'.ps = S.ps
  q : ∀ r, r ≠ p → S'.Q r = S.Q r
  len : (S'.Q p).length ≤ (S.Q p).length + 1
  tk : w = "take" → S.on p = true → inQ S p n = true → (S'.Q p).length + 1 = (S.Q p).length
theorem Post.refl {w : Str} {n : Int} (h : w = "take" → S.on p = true → inQ S p n = true → False) : Post S S p w n := ⟨rfl, fun _ _ => rfl, Nat.le_succ _, fun a b c => (h a b c).elim⟩
theorem Post.mk' {w : Str} {n : Int} {l : List (Addr × List Int)} (ps : S'.ps = S.ps) (q : S'.Q = setQ S.Q p l) (len : l.length ≤ (S.Q p).length + 1) (tk : w = "take" → l.length + 1 = (S.Q p).length) : Post S S' p w n := by
  refine ⟨ps, fun r hr => by rw [q, setQ_ne hr], by rw [q, setQ_same]; exact len, fun a _ _ => by rw [q, setQ_same]; exact tk a⟩
theorem three_set {l : List (Addr × List Int)} (t : ∀ p, p ∈ L.ks → ∀ e, e ∈ S.Q p → e.2.length = 3) (q : S'.Q = setQ S.Q p l) (hl : ∀ e, e ∈ l → e.2.length = 3) : ∀ p, p ∈ L.ks → ∀ e, e ∈ S'.Q p → e.2.length = 3 := by
  intro r hr e he
  rw [q] at he
  by_cases z : r = p
  · rw [z, setQ_same] at he
    exact hl e he
  · rw [setQ_ne z] at he
    exact t r hr e he
end
theorem neTup {K : PySem.W.Frag} {H : Hp} {a b : Addr} {i j : Int} (ha : H a = some (.tup [.int i, .int j])) (hb : H b = some (.tup [.int i, .int j])) {Q : VK} (h : Q (.bl false) H) : rNeD K (.ref a) (.ref b) H Q := by
  have d : ∀ c, H c = some (.tup [.int i, .int j]) → Dp K H (.ref c) (.tuple [.int i, .int j]) := fun c hc => .tup (SqT.of hc) (.cons (.int i) (.cons (.int j) .nil))
  refine ⟨_, _, d a ha, d b hb, rfl, rfl, ?_⟩
  rw [show PyData.eqv (.tuple [.int i, .int j]) (.tuple [.int i, .int j]) = true from SeqAt.eqv_refl _ rfl]
  exact h
theorem neLst {K : PySem.W.Frag} {H : Hp} {a b : Addr} {i j k : Int} (ha : H a = some (.lst [.int i, .int j, .int k])) (hb : H b = some (.lst [.int i, .int j, .int k])) {Q : VK} (h : Q (.bl false) H) : rNeD K (.ref a) (.ref b) H Q := by
  have d : ∀ c, H c = some (.lst [.int i, .int j, .int k]) → Dp K H (.ref c) (.list [.int i, .int j, .int k]) := fun c hc => .lst (SqL.of hc) (.cons (.int i) (.cons (.int j) (.cons (.int k) .nil)))
  refine ⟨_, _, d a ha, d b hb, rfl, rfl, ?_⟩
  rw [show PyData.eqv (.list [.int i, .int j, .int k]) (.list [.int i, .int j, .int k]) = true from SeqAt.eqv_refl _ rfl]
  exact h
end K76

/-! _law_counted: the walk. -/
namespace K76
open PySem L2
def spCounted (C : Addr) : Sp := fun vs H Q _ => ∃ (H0 : Hp) (L : Lay) (S : LS) (lg st : Addr) (rows : List Rw) (i j n : Int) (z : Str), vs = [.ref L.x, .ref lg, .int i, .int j, .int n, .str z] ∧ WH C H0 H L S lg st rows ∧ WP L S rows ∧ (i, j) ∈ L.ks ∧ (S.Q (i, j)).length < 1000 ∧
  (z = "take" ∨ z = "drop" ∨ z = "double" ∨ z = "swap") ∧
  ∀ (H' : Hp) (S' : LS) (rows' : List Rw), WH C H0 H' L S' lg st rows' → WP L S' rows' → rows'.length = rows.length → Post S S' (i, j) z n → Q (.bl true) H'
/-- what holds behind the command: b, whether it was done -/
structure Done (C : Addr) (H0 H : Hp) (L : Lay) (S S1 : LS) (lg st : Addr) (rows : List Rw) (p : P2) (z : Str) (n nh : Int) (b : Bool) : Prop where
  wh : WH C H0 H L S1 lg st rows
  po : Post S S1 p z n
  no : b = false → WP L S1 rows
  yes : b = true → ∃ (m : Nat) (r : Rw), nh = (m : Int) ∧ rows[m]? = some r ∧ WP L S1 (rows.set m ⟨r.a, r.t, r.p, r.k + (if z = "double" then 1 else -1)⟩)
  ge : ¬ z = "take" → b = decide (0 ≤ nh)
section
variable {P : Program} {w : World} {K : PySem.W.Frag} {mg : Str → Option Value} {base : Heap} {C : Addr}
theorem scCounted : FnScope ["_law_lines", "_law_ledger", "_law_source", "_law_target", "_law_at", "_law_word", "_law_row", "_law_number_here", "_law_data", "_law_done"] ["_law_lines", "_law_ledger", "_law_source", "_law_target", "_law_at", "_law_word"] (defScope sCounted) :=
  ⟨rfl, rfl, rfl, by decide +kernel, rfl, by decide +kernel, by decide +kernel⟩
theorem ok_counted {f : Addr} {fd : FuncData} (F : Fun K "_law_counted" "_law_counted" sCounted f fd) (T : Txt K mg C) (MWt : Md P w K mg base C 1 "waiting" ["self", "source", "target"] (spWaiting C))
    (GN : Gd P w K mg base 1 "_law_number" ["_law_data", "_law_source"] spNumber) (MT : Md P w K mg base C 3 "take" ["self", "source", "target", "index"] (spTake C))
    (MD : Md P w K mg base C 2 "drop" ["self", "source", "target", "index"] (spDrop C)) (MDb : Md P w K mg base C 2 "double" ["self", "source", "target", "index"] (spDouble C))
    (MSw : Md P w K mg base C 2 "swap" ["self", "source", "target", "index"] (spSwap C)) :
    FnOk P w K mg base CX0 4 f fd ["_law_lines", "_law_ledger", "_law_source", "_law_target", "_law_at", "_law_word"] (spCounted C) := by
  refine F.ok scCounted (fun vs H Q E h => ?_) (fun cdv A outer s H vs Q E hr h => ?_)
  · obtain ⟨H0, L, S, lg, st, rows, i, j, n, z, rfl, _⟩ := h
    rfl
  · obtain ⟨H0, L, S, lg, st, rows, i, j, n, z, rfl, D, N, hp, hsz, hz, k⟩ := h
    have hr1 : Room 1 _ := hr.mono (by decide)
    have hr2 : Room 2 _ := hr.mono (by decide)
    have hsz' : (S.Q (i, j)).length < sizeLine := small1000 (by omega)
    refine ⟨_, pss_cons (ps_set (i := 6) scCounted.nd rfl (Or.inl rfl) (pe_m MWt T.cl hr1 (pv 0) (pa_cons (pv 2) (pa_cons (pv 3) pa_nil))))
      (pss_cons (ps_set (i := 7) scCounted.nd rfl (Or.inl rfl) (pe_un un_neg pe_int))
      (C8.pss_cut (ps_if (pt_chain op_le op_lt pe_int (pv 4) (pe_callB call_len_seq (by rfl) T.len PySem.boot_len (pa_cons (pv 6) pa_nil)))
        (pss_cons (ps_set (i := 7) scCounted.nd rfl (Or.inl rfl) (pe_g GN hr1 rfl (pa_cons (pe_ix ix_list (pv 6) (pv 4) (fun _ _ => rfl)) (pa_cons (pv 2) pa_nil))))
        (pss_one (ps_if (PW.pt (pw_or (pt_not (pt_chain op_le op_lt pe_int (pv 7) (pe_callB call_len_seq (by rfl) T.len PySem.boot_len (pa_cons (pv 1) pa_nil))))
          (pw_or1 (pt_cmpR (op_neD hr.units) (pe_ix ix_list (pe_ix ix_list (pv 1) (pv 7) (fun _ _ => rfl)) pe_int (fun _ _ => rfl)) (pe_tup (pa_cons (pv 2) (pa_cons (pv 3) pa_nil))) (nomark _))))) (pss_one ps_never) pss_nil))) pss_nil)
      (pss_cons (ps_if (pt_cmpR op_eq (pv 5) pe_str (nomark _)) (pss_cons (ps_expr (pe_m MSw T.cl hr2 (pv 0) (pa_cons (pv 2) (pa_cons (pv 3) (pa_cons (pv 4) pa_nil))))) (pss_one (ps_ret pe_bl))) pss_nil)
      (C8.pss_cut (ps_if (pt_cmpR op_eq (pv 5) pe_str (nomark _))
        (pss_cons (ps_set (i := 8) scCounted.nd rfl (Or.inl rfl) (pe_m MT T.cl hr (pv 0) (pa_cons (pv 2) (pa_cons (pv 3) (pa_cons (pv 4) pa_nil)))))
        (pss_cons (ps_set (i := 9) scCounted.nd rfl (Or.inl rfl) (pe_cmp (pc_notN (pv 8)) rfl))
        (pss_one (ps_if (PW.pt (pw_and (pt_val (pv 9)) (pw_and1 (PW.pt (pw_or (pt_cmpR op_lt (pv 7) pe_int (nomark _)) (pw_or1 (pt_cmpR (op_neD hr.units) (pv 8) (pe_ix ix_list (pv 6) (pv 4) (fun _ _ => rfl)) (nomark _))))))))
          (pss_one ps_never) pss_nil))))
        (pss_one (ps_if (pt_cmpR op_eq (pv 5) pe_str (nomark _))
          (pss_one (ps_set (i := 9) scCounted.nd rfl (Or.inl rfl) (pe_m MD T.cl hr2 (pv 0) (pa_cons (pv 2) (pa_cons (pv 3) (pa_cons (pv 4) pa_nil))))))
          (pss_one (ps_set (i := 9) scCounted.nd rfl (Or.inl rfl) (pe_m MDb T.cl hr2 (pv 0) (pa_cons (pv 2) (pa_cons (pv 3) (pa_cons (pv 4) pa_nil)))))))))
      (C8.pss_cut (ps_if (PW.pt (pw_and (pt_cmpR op_ne (pv 9) (pe_cmpR op_ge (pv 7) pe_int (nomark _)) (nomark _)) (pw_and1 (pt_cmpR op_ne (pv 5) pe_str (nomark _))))) (pss_one ps_never) pss_nil)
      (pss_cons (ps_if (pt_val (pv 9)) (pss_one (ps_asg
          (pe_op op_add (pe_ix ix_list (pe_ix ix_list (pv 1) (pv 7) (fun _ _ => rfl)) pe_int (fun _ _ => rfl))
            (pe_ix ix_list (pe_lst (pa_cons pe_int (pa_cons (pe_un un_neg pe_int) pa_nil))) (pe_callTy call_int1 (by rfl) T.int PyProof.Rows.boot_int (pa_cons (pe_cmpR op_ne (pv 5) pe_str (nomark _)) pa_nil)) (fun _ _ => rfl)))
          (pg_sub (pe_ix ix_list (pv 1) (pv 7) (fun _ _ => rfl)) pe_int set_list))) pss_nil)
      (pss_one (ps_ret pe_bl)))))))), ?_⟩
    obtain ⟨dx, ob⟩ := D.la.ob
    refine ⟨_, rfl, L.x, dx, _, rfl, ob, fl_no _ _ _ _ (by decide +kernel) (by decide +kernel) (by decide +kernel) (by decide +kernel), _, rfl, _, rfl, L, S, i, j, rfl, D.la, hp, hsz', fun H1 ra es s1 e1 na e2 e3 => ?_⟩
    have D1 := D.same s1
    have esl : es.length = (S.Q (i, j)).length := by
      have q := congrArg List.length e1
      rw [List.length_map, List.length_map] at q
      exact q
    have item : ∀ (q : Nat) (e : Addr × List Int), (S.Q (i, j))[q]? = some e → ∃ e', es[q]? = some e' ∧ H e'.1 = none ∧ H1 e'.1 = some (.lst (e.2.map V.int)) := fun q e he => by
      obtain ⟨e', he'⟩ : ∃ e', es[q]? = some e' := ⟨es[q]'(by rw [esl]; exact get_lt he), List.getElem?_eq_getElem _⟩
      have ee : e'.2 = e.2 := by
        have g : (es.map (·.2))[q]? = ((S.Q (i, j)).map (·.2))[q]? := by rw [e1]
        rw [List.getElem?_map, List.getElem?_map, he, he'] at g
        exact Option.some.inj g
      obtain ⟨g1, g2⟩ := e3 e' (List.mem_of_getElem? he')
      rw [ee] at g2
      exact ⟨e', he', g1, g2⟩
    refine ⟨1, rfl, ?_⟩
    -- behind the first if: nh is the letter's number, or -1
    refine ⟨fun σ H2 => ∃ nh : Int, σ = [some (.ref L.x), some (.ref lg), some (.int i), some (.int j), some (.int n), some (.str z), some (.ref ra), some (.int nh), none, none] ∧ Same H1 H2 ∧
      ((inQ S (i, j) n = false ∧ nh = -1) ∨ ∃ (q m : Nat) (e : Addr × List Int) (r : Rw), n = (q : Int) ∧ nh = (m : Int) ∧ (S.Q (i, j))[q]? = some e ∧ rows[m]? = some r ∧ r.p = (i, j) ∧ e.2 = lett m i), ?_, ?_⟩
    · refine ⟨_, rfl, _, _, rfl, rfl, _, rfl, ?_⟩
      refine ite2 (fun h0 => ?_) (fun h0 => ?_)
      · refine ⟨_, rfl, ra, _, rfl, .inl (SqL.of e2), _, _, rfl, rfl, _, rfl, ?_⟩
        refine ite2 (fun h1 => ?_) (fun h1 => ?_)
        · have h0' := of_decide_eq_true h0
          have h1' := of_decide_eq_true h1
          rw [List.length_map, esl] at h1'
          have hq : inQ S (i, j) n = true := by
            unfold inQ
            rw [h0, decide_eq_true h1']
            rfl
          obtain ⟨q, e, rfl, he⟩ := of_inQ hq
          obtain ⟨m, r, hm, rp, el⟩ := N.owner hp he
          obtain ⟨e', he', _, le⟩ := item q e he
          rw [el] at le
          refine ⟨_, rfl, _, rfl, ra, _, _, _, rfl, rfl, SqL.of e2, at_of (j := q) rfl (by rw [List.getElem?_map, he']; rfl), _, rfl, e'.1, _, _, i, rfl, le, ?_⟩
          rw [lett_no]
          refine ⟨_, rfl, _, _, rfl, rfl, true, congrArg V.bl (decide_eq_true (by omega)), iteT ?_⟩
          have hml := get_lt hm
          refine ⟨_, rfl, lg, _, rfl, .inl (SqL.of D1.hlg), _, _, rfl, rfl, true, congrArg V.bl (decide_eq_true (by rw [List.length_map]; omega)), iteF ?_⟩
          have hrm := List.mem_of_getElem? hm
          refine ⟨_, rfl, _, rfl, lg, _, _, _, rfl, rfl, SqL.of D1.hlg, at_of (j := m) rfl (by rw [List.getElem?_map, hm]; rfl), r.a, _, _, _, rfl, rfl, SqL.of (D1.rw r hrm), at_of (j := 0) rfl rfl, ?_⟩
          refine ⟨_, rfl, _, rfl, (by show 2 ≤ sizeLine; decide), fun t nt => ?_⟩
          have tp := D1.tp r hrm
          rw [rp] at tp
          have s2 := Same.new (o := .tup [.int i, .int j]) (Same.refl H1) nt
          refine neTup (i := i) (j := j) (s2 _ _ tp) upd_same ⟨false, rfl, iteF ?_⟩
          exact ⟨_, rfl, s2, .inr ⟨q, m, e, r, rfl, rfl, he, hm, rp, el⟩⟩
        · refine ⟨_, rfl, Same.refl H1, .inl ⟨?_, rfl⟩⟩
          unfold inQ
          rw [List.length_map, esl] at h1
          rw [eq_false_of_ne_true h1, Bool.and_false]
      · refine ⟨false, rfl, iteF ?_⟩
        refine ⟨_, rfl, Same.refl H1, .inl ⟨?_, rfl⟩⟩
        unfold inQ
        rw [eq_false_of_ne_true h0, Bool.false_and]
    · rintro σ H2 ⟨nh, rfl, s2, cases⟩
      have D2 := D1.same s2
      have s12 : Same H H2 := L2.Same.trans s1 s2
      have hnd := D.la.nd
      have known : inQ S (i, j) n = true → ∃ (q m : Nat) (e : Addr × List Int) (r : Rw), n = (q : Int) ∧ nh = (m : Int) ∧ (S.Q (i, j))[q]? = some e ∧ rows[m]? = some r ∧ r.p = (i, j) ∧ e.2 = lett m i := fun q => by
        rcases cases with ⟨a, _⟩ | a
        · rw [q] at a
          cases a
        · exact a
      have minus : inQ S (i, j) n = false → nh = -1 := fun q => by
        rcases cases with ⟨_, a⟩ | ⟨q', m, e, r, rfl, _, he, _⟩
        · exact a
        · rw [inQ_of he] at q
          cases q
      clear cases
      have threeE : ∀ (q : Nat) (e : Addr × List Int), e ∈ (S.Q (i, j)).eraseIdx q → e.2.length = 3 := fun q e he => D.three _ hp e (List.mem_of_mem_eraseIdx he)
      obtain ⟨d2, o2⟩ := D2.la.ob
      refine ⟨_, rfl, rfl, _, rfl, ?_⟩
      refine ite2 (fun hw => ?_) (fun hw => ?_)
      · have hw' : z = "swap" := V.str.inj (of_decide_eq_true hw)
        have nt : ¬ z = "take" := by
          rw [hw']
          decide +kernel
        refine ⟨_, rfl, L.x, d2, _, rfl, o2, fl_no _ _ _ _ (by decide +kernel) (by decide +kernel) (by decide +kernel) (by decide +kernel), _, rfl, _, rfl, _, rfl, L, S, i, j, n, rfl, D2.la, hp, hsz', fun m a b en ha hb H3 D3 c3 => ?_, fun H3 s3 => ?_⟩
        · refine k H3 _ rows (D2.lines D3 c3 (three_set (S := S) D.three rfl fun e he => ?_)) (N.swapped hnd hp ha hb) rfl (Post.mk' rfl rfl (by rw [List.length_set, List.length_set]; exact Nat.le_succ _) fun q => absurd q nt)
          rcases mem_set_of he with he | he
          · rw [he]
            exact D.three _ hp a (List.mem_of_getElem? ha)
          · rcases mem_set_of he with he | he
            · rw [he]
              exact D.three _ hp b (List.mem_of_getElem? hb)
            · exact D.three _ hp e he
        · exact k H3 S rows (D2.same s3) N rfl (Post.refl fun q _ _ => nt q)
      · -- take, drop or double
        refine ⟨fun σ H3 => ∃ (v8 : Option V) (b : Bool) (S1 : LS), σ = [some (.ref L.x), some (.ref lg), some (.int i), some (.int j), some (.int n), some (.str z), some (.ref ra), some (.int nh), v8, some (.bl b)] ∧ Done C H0 H3 L S S1 lg st rows (i, j) z n nh b, ?_, ?_⟩
        · refine ⟨_, rfl, rfl, _, rfl, ?_⟩
          refine ite2 (fun ht => ?_) (fun ht => ?_)
          · have ht' : z = "take" := V.str.inj (of_decide_eq_true ht)
            have nd : ¬ z = "double" := by
              rw [ht']
              decide +kernel
            refine ⟨_, rfl, L.x, d2, _, rfl, o2, fl_no _ _ _ _ (by decide +kernel) (by decide +kernel) (by decide +kernel) (by decide +kernel), _, rfl, _, rfl, _, rfl, L, S, i, j, n, rfl, D2.la, hp, hsz', fun q e en hon he H3 D3 c3 => ?_, fun hno H3 s3 => ?_⟩
            · subst en
              obtain ⟨q', m, e0, r, eq, em, he0, hm, rp, el⟩ := known (inQ_of he)
              have eqq : q' = q := by omega
              subst eqq
              have ee : e0 = e := Option.some.inj (he0.symm.trans he)
              subst ee
              obtain ⟨e', he', n', le⟩ := item q' e0 he
              have l1 := c3 _ _ (s2 _ _ le) (D.la.newF n')
              obtain ⟨nf, l2⟩ := D2.la.lt _ hp e0 (List.mem_of_getElem? he)
              have l3 := c3 _ _ l2 nf
              rw [el] at l1 l3
              refine ⟨_, rfl, _, rfl, true, rfl, iteT ?_⟩
              refine ⟨_, rfl, _, _, rfl, rfl, false, congrArg V.bl (decide_eq_false (by omega)), iteF ?_⟩
              refine ⟨_, rfl, _, rfl, _, rfl, ra, _, _, _, rfl, rfl, SqL.of (c3 _ _ (s2 _ _ e2) (D.la.newF na)), at_of (j := q') rfl (by rw [List.getElem?_map, he']; rfl), ?_⟩
              refine neLst (i := (m : Int) / 7) (j := (m : Int) % 7) (k := i) l3 l1 ⟨false, rfl, iteF ?_⟩
              refine ⟨_, true, _, rfl, D2.lines D3 c3 (three_set (S := S) D.three rfl (threeE q')), Post.mk' rfl rfl (by have := len_erase he; omega) (fun _ => len_erase he), fun z => (by cases z), fun _ => ⟨m, r, em, hm, ?_⟩, fun z => absurd ht' z⟩
              rw [if_neg nd]
              exact N.erase hnd hp he hm rp el rfl rfl rfl (by show S.tk + 1 + S.ls = _; omega)
            · refine ⟨_, rfl, _, rfl, false, rfl, iteF (iteF ?_)⟩
              exact ⟨_, false, S, rfl, D2.same s3, Post.refl (fun _ a b => by rw [a, b] at hno; cases hno), fun _ => N, fun z => (by cases z), fun z => absurd ht' z⟩
          · have ht' : ¬ z = "take" := fun q => ht (decide_eq_true (by rw [q]))
            refine ⟨_, rfl, rfl, _, rfl, ?_⟩
            refine ite2 (fun hd => ?_) (fun hd => ?_)
            · have hd' : z = "drop" := V.str.inj (of_decide_eq_true hd)
              have nd : ¬ z = "double" := by
                rw [hd']
                decide +kernel
              refine ⟨_, rfl, L.x, d2, _, rfl, o2, fl_no _ _ _ _ (by decide +kernel) (by decide +kernel) (by decide +kernel) (by decide +kernel), _, rfl, _, rfl, _, rfl, L, S, i, j, n, rfl, D2.la, hp, hsz', fun q e en he H3 D3 c3 => ?_, fun hno H3 s3 => ?_⟩
              · subst en
                obtain ⟨q', m, e0, r, eq, em, he0, hm, rp, el⟩ := known (inQ_of he)
                have eqq : q' = q := by omega
                subst eqq
                have ee : e0 = e := Option.some.inj (he0.symm.trans he)
                subst ee
                refine ⟨_, true, _, rfl, D2.lines D3 c3 (three_set (S := S) D.three rfl (threeE q')), Post.mk' rfl rfl (by have := len_erase he; omega) (fun q => absurd q ht'), fun z => (by cases z), fun _ => ⟨m, r, em, hm, ?_⟩, fun _ => (decide_eq_true (by omega)).symm⟩
                rw [if_neg nd]
                exact N.erase hnd hp he hm rp el rfl rfl rfl (by show S.tk + (S.ls + 1) = _; omega)
              · exact ⟨_, false, S, rfl, D2.same s3, Post.refl (fun q _ _ => ht' q), fun _ => N, fun z => (by cases z), fun _ => (decide_eq_false (by rw [minus hno]; omega)).symm⟩
            · have hdb : z = "double" := by
                rcases hz with q | q | q | q
                · exact absurd q ht'
                · exact absurd (decide_eq_true (by rw [q])) hd
                · exact q
                · exact absurd (decide_eq_true (by rw [q])) hw
              refine ⟨_, rfl, L.x, d2, _, rfl, o2, fl_no _ _ _ _ (by decide +kernel) (by decide +kernel) (by decide +kernel) (by decide +kernel), _, rfl, _, rfl, _, rfl, L, S, i, j, n, rfl, D2.la, hp, hsz', fun q e en he H3 l D3 c3 => ?_, fun hno H3 s3 => ?_⟩
              · subst en
                obtain ⟨q', m, e0, r, eq, em, he0, hm, rp, el⟩ := known (inQ_of he)
                have eqq : q' = q := by omega
                subst eqq
                have ee : e0 = e := Option.some.inj (he0.symm.trans he)
                subst ee
                refine ⟨_, true, _, rfl, D2.lines D3 c3 (three_set (S := S) D.three rfl fun e he2 => ?_), Post.mk' rfl rfl (by rw [List.length_append, List.length_singleton]; exact Nat.le_refl _) (fun q => absurd q ht'), fun z => (by cases z), fun _ => ⟨m, r, em, hm, ?_⟩, fun _ => (decide_eq_true (by omega)).symm⟩
                · rcases List.mem_append.mp he2 with he2 | he2
                  · exact D.three _ hp e he2
                  · rw [List.mem_singleton.mp he2]
                    exact D.three _ hp e0 (List.mem_of_getElem? he)
                · rw [if_pos hdb]
                  exact N.dbl hnd hp hm rp el
              · exact ⟨_, false, S, rfl, D2.same s3, Post.refl (fun q _ _ => ht' q), fun _ => N, fun z => (by cases z), fun _ => (decide_eq_false (by rw [minus hno]; omega)).symm⟩
        · rintro σ H3 ⟨v8, b, S1, rfl, Dn⟩
          refine ⟨fun σ' H' => σ' = [some (.ref L.x), some (.ref lg), some (.int i), some (.int j), some (.int n), some (.str z), some (.ref ra), some (.int nh), v8, some (.bl b)] ∧ H' = H3, ?_, ?_⟩
          · refine ⟨_, rfl, _, rfl, _, _, rfl, rfl, rfl, _, rfl, ?_⟩
            by_cases ht : z = "take"
            · refine ite2 (fun _ => ?_) (fun _ => iteF ⟨rfl, rfl⟩)
              refine ⟨_, rfl, rfl, _, rfl, ?_⟩
              exact iteNS (by rw [ht]) ⟨rfl, rfl⟩
            · exact iteNS (congrArg V.bl (Dn.ge ht)) (iteF ⟨rfl, rfl⟩)
          · rintro σ H' ⟨rfl, rfl⟩
            refine ⟨_, rfl, b, rfl, ?_⟩
            cases b with
            | false => exact iteF (k H' S1 rows Dn.wh (Dn.no rfl) rfl Dn.po)
            | true =>
              refine iteT ?_
              obtain ⟨m, r, rfl, hm, hN⟩ := Dn.yes rfl
              have hrm := List.mem_of_getElem? hm
              have gm : (rows.map rv)[m]? = some (rv r) := by
                rw [List.getElem?_map, hm]
                rfl
              refine ⟨_, rfl, _, rfl, lg, _, _, _, rfl, rfl, SqL.of Dn.wh.hlg, at_of (j := m) rfl gm, r.a, _, _, _, rfl, rfl, SqL.of (Dn.wh.rw r hrm), at_of (j := 1) rfl rfl, ?_⟩
              refine ⟨1, rfl, (by show 2 ≤ sizeLine; decide), fun u nu => ?_⟩
              have s4 := Same.new (o := .lst [.int 1, .int (-1)]) (Same.refl H') nu
              have D4 := Dn.wh.same s4
              have pick : atI [V.int 1, V.int (-1)] (if (!decide (V.str z = V.str "double")) = true then 1 else 0) = some (.int (if z = "double" then 1 else -1)) := by
                by_cases q : z = "double"
                · rw [if_pos q, decide_eq_true (by rw [q])]
                  rfl
                · rw [if_neg q, decide_eq_false (fun w => q (V.str.inj w))]
                  rfl
              refine ⟨_, rfl, rfl, .inr ⟨_, rfl, u, _, _, _, rfl, rfl, SqL.of upd_same, pick, _, _, rfl, rfl, ?_⟩⟩
              refine ⟨_, rfl, _, rfl, lg, _, _, _, rfl, rfl, SqL.of D4.hlg, at_of (j := m) rfl gm, r.a, _, _, 1, rfl, rfl, D4.rw r hrm, rfl, ?_⟩
              exact k _ S1 _ (D4.row hm _) hN (by rw [List.length_set]) Dn.po
end
end K76

/-! _law_emptied. -/
namespace K76
open PySem L2
/-- what holds while the queues are emptied: all of the devices up to i, and of i + 1 those up to j, are empty -/
structure Emp (C : Addr) (H0 H : Hp) (L : Lay) (S : LS) (lg st : Addr) (rows : List Rw) (len B i j : Nat) : Prop where
  wh : WH C H0 H L S lg st rows
  wp : WP L S rows
  rl : rows.length = len
  b : ∀ p, (S.Q p).length ≤ B
  e : ∀ p, p ∈ L.ks → (p.1 ≤ i ∨ (p.1 = (i : Int) + 1 ∧ p.2 ≤ j)) → S.Q p = []
def spEmptied (K : PySem.W.Frag) (C : Addr) : Sp := fun vs H Q _ => ∃ (H0 : Hp) (L : Lay) (S : LS) (lg st sc : Addr) (rows : List Rw) (ns : List Int) (B : Nat), vs = [.ref L.x, .ref lg, .ref st, .ref sc, .int L.n] ∧ WH C H0 H L S lg st rows ∧ WP L S rows ∧
  SqL K H0 sc (ns.map V.int) ∧ (∀ p, (S.Q p).length ≤ B) ∧ B < 1000 ∧ 1 ≤ L.n ∧ L.n ≤ 4 ∧
  ∀ (H' : Hp) (S' : LS) (rows' : List Rw), WH C H0 H' L S' lg st rows' → WP L S' rows' → (∀ p, p ∈ L.ks → S'.Q p = []) → Q (.bl true) H'
theorem iteNN {c A B : Prop} [Decidable c] (hc : ¬ c) (h : A) : if (!decide c) = true then A else B := by
  rw [decide_eq_false hc]
  exact iteT h
theorem drop_on (S : LS) (p : P2) : ({ S with ps := dropK S.ps (lineK p) } : LS).on p = true := by
  unfold LS.on
  show (!(valV (dropK S.ps (lineK p)) (lineK p)).isSome) = true
  rw [val_drop]
  rfl
section
variable {P : Program} {w : World} {K : PySem.W.Frag} {mg : Str → Option Value} {base : Heap} {C : Addr}
theorem scEmptied : FnScope ["_law_lines", "_law_ledger", "_law_state", "_law_script", "_law_count", "_law_source", "_law_target", "_law_turn", "_law_at"] ["_law_lines", "_law_ledger", "_law_state", "_law_script", "_law_count"] (defScope sEmptied) :=
  ⟨rfl, rfl, rfl, by decide +kernel, rfl, by decide +kernel, by decide +kernel⟩
theorem ok_emptied {f : Addr} {fd : FuncData} (F : Fun K "_law_emptied" "_law_emptied" sEmptied f fd) (T : Txt K mg C) (MWt : Md P w K mg base C 1 "waiting" ["self", "source", "target"] (spWaiting C))
    (MJn : Md P w K mg base C 2 "join" ["self", "first", "second"] (spJoin C)) (MTt : Md P w K mg base C 1 "total" ["self", "word"] (spTotal C))
    (GDr : Gd P w K mg base 1 "_law_draw" ["_law_state", "_law_script", "_law_size"] (spDraw K)) (GB : Gd P w K mg base 2 "_law_balanced" ["_law_lines"] (spBal C))
    (GC : Gd P w K mg base 4 "_law_counted" ["_law_lines", "_law_ledger", "_law_source", "_law_target", "_law_at", "_law_word"] (spCounted C)) :
    FnOk P w K mg base CX0 5 f fd ["_law_lines", "_law_ledger", "_law_state", "_law_script", "_law_count"] (spEmptied K C) := by
  refine F.ok scEmptied (fun vs H Q E h => ?_) (fun cdv A outer s H vs Q E hr h => ?_)
  · obtain ⟨H0, L, S, lg, st, sc, rows, ns, B, rfl, _⟩ := h
    rfl
  · obtain ⟨H0, L, S, lg, st, sc, rows, ns, B, rfl, D, N, hsc, hB, hB2, hn1, hn4, k⟩ := h
    have hr1 : Room 1 _ := hr.mono (by decide)
    have hr2 : Room 2 _ := hr.mono (by decide)
    refine ⟨_, pss_cons (ps_for PassesOwn.never rfl (pi_range2 (by rfl) T.rng (pa_cons pe_int (pa_cons (pe_op op_add (pv 4) pe_int) pa_nil))) (pg_name (i := 5) scEmptied.nd rfl (Or.inl rfl))
        (pss_one (ps_for PassesOwn.never rfl (pi_range2 (by rfl) T.rng (pa_cons pe_int (pa_cons (pe_op op_add (pv 4) pe_int) pa_nil))) (pg_name (i := 6) scEmptied.nd rfl (Or.inl rfl))
          (pss_one (ps_if (pt_cmpR op_ne (pv 5) (pv 6) (nomark _))
            (pss_cons (ps_expr (pe_m MJn T.cl hr2 (pv 0) (pa_cons (pv 5) (pa_cons (pv 6) pa_nil))))
            (pss_cons (ps_for PassesOwn.never rfl (pi_range1 (by rfl) T.rng (pa_cons (pe_callB call_len_seq (by rfl) T.len PySem.boot_len (pa_cons (pe_m MWt T.cl hr1 (pv 0) (pa_cons (pv 5) (pa_cons (pv 6) pa_nil))) pa_nil)) pa_nil))
              (pg_name (i := 7) scEmptied.nd rfl (Or.inl rfl))
              (pss_cons (ps_set (i := 8) scEmptied.nd rfl (Or.inl rfl) (pe_g GDr hr1 rfl (pa_cons (pv 2) (pa_cons (pv 3) (pa_cons
                (pe_callB call_len_seq (by rfl) T.len PySem.boot_len (pa_cons (pe_m MWt T.cl hr1 (pv 0) (pa_cons (pv 5) (pa_cons (pv 6) pa_nil))) pa_nil)) pa_nil)))))
              (pss_one (ps_if (PW.pt (pw_or (pt_not (pt_val (pe_g GC hr rfl (pa_cons (pv 0) (pa_cons (pv 1) (pa_cons (pv 5) (pa_cons (pv 6) (pa_cons (pv 8) (pa_cons pe_str pa_nil)))))))))
                (pw_or1 (pt_not (pt_val (pe_g GB hr2 rfl (pa_cons (pv 0) pa_nil))))))) (pss_one ps_never) pss_nil))))
            (pss_one (ps_if (pt_cmpR (op_neD hr.units) (pe_m MWt T.cl hr1 (pv 0) (pa_cons (pv 5) (pa_cons (pv 6) pa_nil))) (pe_lst pa_nil) (nomark _)) (pss_one ps_never) pss_nil)))) pss_nil)))))
      (pss_one (ps_ret (pe_cmpR op_eq (pe_m MTt T.cl hr1 (pv 0) (pa_cons pe_str pa_nil)) pe_int (nomark _)))), ?_⟩
    have noW (n : Int) (q p c : Addr) : (flds n q p c).lookup ("waiting" : Str) = none := fl_no _ _ _ _ (by decide +kernel) (by decide +kernel) (by decide +kernel) (by decide +kernel)
    have tn : ((L.n.toNat : Nat) : Int) = L.n := by omega
    have e0 : (L.n + 1 - 1 : Int).toNat = L.n.toNat := by congr 1; omega
    refine ⟨_, rfl, _, _, rfl, rfl, 1, L.n + 1, rfl, ⟨by omega, by omega, by omega, by omega⟩, ?_⟩
    rw [e0]
    refine for_range (lo := 1) (n := L.n.toNat) (fun i σ H2 => ∃ (S : LS) (rows' : List Rw) (v5 v6 v7 v8 : Option V), σ = [some (.ref L.x), some (.ref lg), some (.ref st), some (.ref sc), some (.int L.n), v5, v6, v7, v8] ∧ Emp C H0 H2 L S lg st rows' rows.length B i 0)
      ⟨S, rows, none, none, none, none, rfl, D, N, rfl, hB, fun p hp h => by have := (D.la.mem p).mp hp; omega⟩ ?_ ?_
    · rintro i σ H2 hi ⟨S, rows', v5, v6, v7, v8, rfl, D⟩
      refine ⟨_, rfl, _, _, rfl, rfl, 1, L.n + 1, rfl, ⟨by omega, by omega, by omega, by omega⟩, ?_⟩
      rw [e0]
      refine for_range (lo := 1) (n := L.n.toNat) (fun j σ H3 => ∃ (S : LS) (rows' : List Rw) (v6 v7 v8 : Option V), σ = [some (.ref L.x), some (.ref lg), some (.ref st), some (.ref sc), some (.int L.n), some (.int (1 + (i : Int))), v6, v7, v8] ∧ Emp C H0 H3 L S lg st rows' rows.length B i j)
        ⟨S, rows', v6, v7, v8, rfl, D⟩ ?_ ?_
      · rintro j σ H3 hj ⟨S, rows1, v6, v7, v8, rfl, D⟩
        have hp : ((1 : Int) + (i : Int), (1 : Int) + (j : Int)) ∈ L.ks := (D.wh.la.mem _).mpr (by show 1 ≤ (1 : Int) + i ∧ (1 : Int) + i ≤ L.n ∧ 1 ≤ (1 : Int) + j ∧ (1 : Int) + j ≤ L.n; omega)
        generalize ep : ((1 : Int) + (i : Int), (1 : Int) + (j : Int)) = p at hp
        have p1 : (1 : Int) + (i : Int) = p.1 := by rw [← ep]
        have p2 : (1 : Int) + (j : Int) = p.2 := by rw [← ep]
        -- what the turn has to bring
        have fin : ∀ (S' : LS) (rows2 : List Rw) (H4 : Hp), WH C H0 H4 L S' lg st rows2 → WP L S' rows2 → rows2.length = rows.length → (∀ r, (S'.Q r).length ≤ B) → (∀ r, r ≠ p → S'.Q r = S.Q r) → S'.Q p = [] → Emp C H0 H4 L S' lg st rows2 rows.length B i (j + 1) := by
          intro S' rows2 H4 a1 a2 a3 a4 a5 a6
          refine ⟨a1, a2, a3, a4, fun r hr h => ?_⟩
          by_cases z : r = p
          · rw [z]
            exact a6
          · rw [a5 r z]
            refine D.e r hr ?_
            have : ¬ (r.1 = p.1 ∧ r.2 = p.2) := fun q => z (Prod.ext q.1 q.2)
            omega
        refine ⟨_, rfl, _, rfl, rfl, _, rfl, ?_⟩
        by_cases hd : (i : Int) = j
        · refine iteNS (by rw [hd]) ?_
          exact ⟨S, rows1, _, v7, v8, rfl, fin S rows1 H3 D.wh D.wp D.rl D.b (fun _ _ => rfl) (by
            have q := D.wp.fit.diag hp (by omega)
            exact List.map_eq_nil_iff.mp q)⟩
        · refine iteNN (fun q => hd (by have q' := V.int.inj q; omega)) ?_
          obtain ⟨dx, ob⟩ := D.wh.la.ob
          refine ⟨_, rfl, L.x, dx, _, rfl, ob, fl_no _ _ _ _ (by decide +kernel) (by decide +kernel) (by decide +kernel) (by decide +kernel), _, rfl, _, rfl, L, S, _, _, rfl, D.wh.la, fun H4 D4 c4 => ?_⟩
          rw [ep] at D4
          rw [p1, p2]
          have W4 : WH C H0 H4 L { S with ps := dropK S.ps (lineK p) } lg st rows1 := D.wh.lines D4 c4 D.wh.three
          have N4 : WP L { S with ps := dropK S.ps (lineK p) } rows1 := ⟨D.wp.fit, D.wp.bal, D.wp.snt⟩
          have O4 := drop_on S p
          generalize hS4 : ({ S with ps := dropK S.ps (lineK p) } : LS) = S4 at W4 N4 O4
          have hQ4 : S4.Q = S.Q := by rw [← hS4]
          clear D4 hS4
          have hb4 : ∀ r, (S4.Q r).length ≤ B := fun r => by rw [hQ4]; exact D.b r
          have hbp := hb4 p
          obtain ⟨d4, o4⟩ := W4.la.ob
          refine ⟨_, rfl, L.x, d4, _, rfl, o4, noW _ _ _ _, _, rfl, _, rfl, L, S4, p.1, p.2, rfl, W4.la, hp, small_lt hbp (by omega), fun H5 ra es s5 e1 na e2 e3 => ?_⟩
          have esl : es.length = (S4.Q p).length := by
            have q := congrArg List.length e1
            rw [List.length_map, List.length_map] at q
            exact q
          have W5 := W4.same s5
          refine ⟨ra, _, rfl, .inl (SqL.of e2), _, rfl, by rw [List.length_map, esl]; omega, by rw [List.length_map, esl]; omega, ?_⟩
          rw [List.length_map, esl]
          refine for_range (lo := 0) (n := (((S4.Q p).length : Nat) : Int).toNat) (fun t σ H6 => ∃ (S6 : LS) (rows6 : List Rw) (v7 v8 : Option V), σ = [some (.ref L.x), some (.ref lg), some (.ref st), some (.ref sc), some (.int L.n), some (.int p.1), some (.int p.2), v7, v8] ∧
            WH C H0 H6 L S6 lg st rows6 ∧ WP L S6 rows6 ∧ rows6.length = rows.length ∧ (∀ r, r ≠ p → S6.Q r = S4.Q r) ∧ S6.on p = true ∧ (S6.Q p).length + t = (S4.Q p).length) ⟨S4, rows1, v7, v8, rfl, W5, N4, D.rl, fun _ _ => rfl, O4, rfl⟩ ?_ ?_
          · rintro t σ H6 ht ⟨S6, rows6, v7, v8, rfl, W6, N6, rl6, ne6, on6, l6⟩
            obtain ⟨d6, o6⟩ := W6.la.ob
            refine ⟨_, rfl, _, rfl, _, rfl, L.x, d6, _, rfl, o6, noW _ _ _ _, _, rfl, _, rfl, L, S6, p.1, p.2, rfl, W6.la, hp, small_lt (show (S6.Q p).length ≤ B by omega) (by omega), fun H7 rb fs s7 f1 nb f2 f3 => ?_⟩
            have fsl : fs.length = (S6.Q p).length := by
              have q := congrArg List.length f1
              rw [List.length_map, List.length_map] at q
              exact q
            have W7 := W6.same s7
            obtain ⟨a, z, e7⟩ := W7.hst
            refine ⟨rb, _, rfl, .inl (SqL.of f2), ?_⟩
            rw [List.length_map, fsl]
            refine ⟨st, sc, a, z, _, ns, rfl, e7, W7.s0.seq hsc, by omega, by omega, fun H8 a' z' d e8 c8 d0 d1 => ?_⟩
            have W8 := W7.drawn e8 c8
            refine ⟨_, rfl, _, rfl, _, rfl, _, rfl, _, rfl, H0, L, S6, lg, st, rows6, p.1, p.2, d, _, rfl, W8, N6, hp, (by show (S6.Q p).length < 1000; omega), .inl rfl, fun H9 S9 rows9 W9 N9 rl9 po => ?_⟩
            refine ⟨true, rfl, iteF ?_⟩
            have hks : L.ks.length ≤ 1000 := Nat.le_trans W9.ksl (by decide)
            refine ⟨_, rfl, L, S9, rfl, W9.la, hks, N9.bal, fun H10 s10 => ⟨true, rfl, iteF ?_⟩⟩
            refine ⟨S9, rows9, _, _, rfl, W9.same s10, N9, by rw [rl9, rl6], fun r hr => by rw [po.q r hr, ne6 r hr], ?_, ?_⟩
            · unfold LS.on
              rw [po.ps]
              exact on6
            · have q := po.tk rfl on6 (by
                unfold inQ
                rw [decide_eq_true d0, decide_eq_true (show d < ((S6.Q p).length : Int) from d1)]
                rfl)
              have q' : (S9.Q p).length + 1 = (S6.Q p).length := q
              omega
          · rintro σ H6 ⟨S6, rows6, v7, v8, rfl, W6, N6, rl6, ne6, on6, l6⟩
            have hz : S6.Q p = [] := by
              refine List.eq_nil_of_length_eq_zero ?_
              omega
            obtain ⟨d6, o6⟩ := W6.la.ob
            refine ⟨_, rfl, L.x, d6, _, rfl, o6, noW _ _ _ _, _, rfl, _, rfl, L, S6, p.1, p.2, rfl, W6.la, hp, (by show (S6.Q p).length < _; rw [hz]; decide), fun H7 rb fs s7 f1 nb f2 f3 => ?_⟩
            have f1' : fs = [] := by
              have q : fs.map (·.2) = (S6.Q p).map (·.2) := f1
              rw [hz] at q
              exact List.map_eq_nil_iff.mp q
            subst f1'
            refine ⟨Nat.zero_le _, fun u nu => ?_⟩
            have s8 := Same.new (o := .lst []) (Same.refl H7) nu
            refine ⟨_, _, .lst (SqL.of (s8 _ _ f2)) .nil, .lst (SqL.of upd_same) .nil, rfl, rfl, false, rfl, iteF ?_⟩
            refine ⟨S6, rows6, _, v7, v8, rfl, fin S6 rows6 _ (W6.same (L2.Same.trans s7 s8)) N6 rl6 (fun r => ?_) (fun r hr => by rw [ne6 r hr, hQ4]) hz⟩
            by_cases z : r = p
            · rw [z, hz]
              exact Nat.zero_le _
            · rw [ne6 r z]
              exact hb4 r
      · rintro σ H3 ⟨S, rows1, v6, v7, v8, rfl, D⟩
        refine ⟨S, rows1, _, v6, v7, v8, rfl, D.wh, D.wp, D.rl, D.b, fun p hp h => D.e p hp ?_⟩
        have := (D.wh.la.mem p).mp hp
        omega
    · rintro σ H2 ⟨S, rows1, v5, v6, v7, v8, rfl, D⟩
      have all : ∀ p, p ∈ L.ks → S.Q p = [] := fun p hp => D.e p hp (by have := (D.wh.la.mem p).mp hp; omega)
      obtain ⟨dx, ob⟩ := D.wh.la.ob
      have hks : L.ks.length ≤ 1000 := Nat.le_trans D.wh.ksl (by decide)
      refine ⟨_, rfl, L.x, dx, _, rfl, ob, fl_no _ _ _ _ (by decide +kernel) (by decide +kernel) (by decide +kernel) (by decide +kernel), L, S, _, rfl, D.wh.la, hks, fun _ H3 s3 => ?_, fun e => absurd rfl e⟩
      refine ⟨rfl, ?_⟩
      have z : (tot L.ks fun p => (S.Q p).length) = 0 := tot_zero fun p hp => by rw [all p hp]; rfl
      show Q (.bl (decide (V.int (tot L.ks fun p => (S.Q p).length) = V.int 0))) H3
      rw [z, decide_eq_true rfl]
      exact k H3 S rows1 (D.wh.same s3) D.wp all
end
end K76

/-! law. -/
namespace K76
open PySem L2
def spLaw (K : PySem.W.Frag) : Sp := fun vs H Q _ => ∃ (a : Addr) (ns : List Int), vs = [.ref a] ∧ SqL K H a (ns.map V.int) ∧ ns.length ≤ 63 ∧ ∀ H', Q (.bl true) H'
theorem ends {n a b : Int} (h2 : 2 ≤ n) (h4 : n ≤ 4) (_ : 0 ≤ a) (a1 : a < n) (b0 : 0 ≤ b) (b1 : b < n - 1) :
    1 ≤ 1 + (1 + a + b) % n ∧ 1 + (1 + a + b) % n ≤ n ∧ 1 + a ≠ 1 + (1 + a + b) % n := by
  have c : n = 2 ∨ n = 3 ∨ n = 4 := by omega
  rcases c with rfl | rfl | rfl <;> omega
theorem word_at {d : Int} (h : 7 ≤ d) (h2 : d < 12) : ∃ z : Str, atI [V.str "take", V.str "drop", V.str "double", V.str "swap", V.str "take"] (d - 7) = some (.str z) ∧ (z = "take" ∨ z = "drop" ∨ z = "double" ∨ z = "swap") := by
  have c : d = 7 ∨ d = 8 ∨ d = 9 ∨ d = 10 ∨ d = 11 := by omega
  rcases c with rfl | rfl | rfl | rfl | rfl
  · exact ⟨_, at_of (j := 0) (by decide) rfl, .inl rfl⟩
  · exact ⟨_, at_of (j := 1) (by decide) rfl, .inr (.inl rfl)⟩
  · exact ⟨_, at_of (j := 2) (by decide) rfl, .inr (.inr (.inl rfl))⟩
  · exact ⟨_, at_of (j := 3) (by decide) rfl, .inr (.inr (.inr rfl))⟩
  · exact ⟨_, at_of (j := 4) (by decide) rfl, .inl rfl⟩
theorem Small.post {S S' : LS} {rows rows' : List Rw} {n : Nat} {p : P2} {z : Str} {k : Int} (h : Small S rows n) (po : Post S S' p z k) (e : rows'.length = rows.length) : Small S' rows' (n + 1) := by
  refine ⟨fun r => ?_, by rw [po.ps]; exact Nat.le_succ_of_le h.ps, by rw [e]; exact Nat.le_succ_of_le h.rw⟩
  by_cases q : r = p
  · rw [q]
    exact Nat.le_trans po.len (Nat.succ_le_succ (h.q p))
  · rw [po.q r q]
    exact Nat.le_succ_of_le (h.q r)
section
variable {P : Program} {w : World} {K : PySem.W.Frag} {mg : Str → Option Value} {base : Heap} {C : Addr}
theorem scLaw : FnScope ["_law_script", "_law_state", "_law_count", "_law_lines", "_law_ledger", "_law_turn", "_law_source", "_law_target", "_law_kind", "_law_at", "_law_row"] ["_law_script"] (defScope sLaw) :=
  ⟨rfl, rfl, rfl, by decide +kernel, rfl, by decide +kernel, by decide +kernel⟩
theorem ok_law {f fI : Addr} {fd fdI : FuncData} (F : Fun K "law" "law" sLaw f fd) (T : Txt K mg C) (M : Mk K C fI) (GI : FnOk P w K mg base CX0 1 fI fdI ["self", "count"] (spInit C)) (bI : Binds K fdI ["self", "count"] [])
    (MWt : Md P w K mg base C 1 "waiting" ["self", "source", "target"] (spWaiting C)) (MCt : Md P w K mg base C 2 "cut" ["self", "first", "second"] (spCut C))
    (MJn : Md P w K mg base C 2 "join" ["self", "first", "second"] (spJoin C)) (MTt : Md P w K mg base C 1 "total" ["self", "word"] (spTotal C))
    (GDr : Gd P w K mg base 1 "_law_draw" ["_law_state", "_law_script", "_law_size"] (spDraw K)) (GB : Gd P w K mg base 2 "_law_balanced" ["_law_lines"] (spBal C))
    (GS : Gd P w K mg base 4 "_law_sent" ["_law_lines", "_law_ledger", "_law_source", "_law_target"] (spSent C))
    (GC : Gd P w K mg base 4 "_law_counted" ["_law_lines", "_law_ledger", "_law_source", "_law_target", "_law_at", "_law_word"] (spCounted C))
    (GE : Gd P w K mg base 5 "_law_emptied" ["_law_lines", "_law_ledger", "_law_state", "_law_script", "_law_count"] (spEmptied K C)) :
    FnOk P w K mg base CX0 6 f fd ["_law_script"] (spLaw K) := by
  refine F.ok scLaw (fun vs H Q E h => ?_) (fun cdv A outer s H vs Q E hr h => ?_)
  · obtain ⟨a, ns, rfl, _⟩ := h
    rfl
  · obtain ⟨sc, ns, rfl, hS, hlen, k⟩ := h
    have hr1 : Room 1 _ := hr.mono (by decide)
    have hr2 : Room 2 _ := hr.mono (by decide)
    have hr4 : Room 4 _ := hr.mono (by decide)
    refine ⟨_, pss_cons (ps_set (i := 1) scLaw.nd rfl (Or.inl rfl) (pe_lst (pa_cons pe_int (pa_cons pe_int pa_nil))))
      (pss_cons (ps_set (i := 2) scLaw.nd rfl (Or.inl rfl) (pe_op op_add pe_int (pe_g GDr hr1 rfl (pa_cons (pv 1) (pa_cons (pv 0) (pa_cons pe_int pa_nil))))))
      (pss_cons (ps_set (i := 3) scLaw.nd rfl (Or.inl rfl) (pe_make M GI hr2 rfl T.mgC bI .nil pass0 (pa_cons (pv 2) pa_nil)))
      (pss_cons (ps_set (i := 4) scLaw.nd rfl (Or.inl rfl) (pe_lst pa_nil))
      (pss_cons (ps_for PassesOwn.never rfl (pi_range1 (by rfl) T.rng (pa_cons (pe_g GDr hr1 rfl (pa_cons (pv 1) (pa_cons (pv 0) (pa_cons pe_int pa_nil)))) pa_nil)) (pg_name (i := 5) scLaw.nd rfl (Or.inl rfl))
        (pss_cons (ps_set (i := 6) scLaw.nd rfl (Or.inl rfl) (pe_op op_add pe_int (pe_g GDr hr1 rfl (pa_cons (pv 1) (pa_cons (pv 0) (pa_cons (pv 2) pa_nil))))))
        (pss_cons (ps_set (i := 7) scLaw.nd rfl (Or.inl rfl) (pe_op op_add pe_int (pe_op op_mod (pe_callTy call_int1 (by rfl) T.int PyProof.Rows.boot_int (pa_cons (pe_op op_add (pv 6)
          (pe_g GDr hr1 rfl (pa_cons (pv 1) (pa_cons (pv 0) (pa_cons (pe_op op_sub (pv 2) pe_int) pa_nil))))) pa_nil)) (pv 2))))
        (pss_cons (ps_set (i := 8) scLaw.nd rfl (Or.inl rfl) (pe_g GDr hr1 rfl (pa_cons (pv 1) (pa_cons (pv 0) (pa_cons pe_int pa_nil)))))
        (C8.pss_cut (ps_if (pt_cmpR op_lt (pv 8) pe_int (nomark _))
          (pss_one (ps_expr (pe_g GS hr4 rfl (pa_cons (pv 3) (pa_cons (pv 4) (pa_cons (pv 6) (pa_cons (pv 7) pa_nil)))))))
          (pss_one (ps_if (pt_cmpR op_eq (pv 8) pe_int (nomark _))
            (pss_one (ps_expr (pe_m MCt T.cl hr2 (pv 3) (pa_cons (pv 6) (pa_cons (pv 7) pa_nil)))))
            (pss_one (ps_if (pt_cmpR op_eq (pv 8) pe_int (nomark _))
              (pss_one (ps_expr (pe_m MJn T.cl hr2 (pv 3) (pa_cons (pv 6) (pa_cons (pv 7) pa_nil)))))
              (pss_cons (ps_set (i := 9) scLaw.nd rfl (Or.inl rfl) (pe_op op_sub (pe_g GDr hr1 rfl (pa_cons (pv 1) (pa_cons (pv 0) (pa_cons (pe_op op_add
                (pe_callB call_len_seq (by rfl) T.len PySem.boot_len (pa_cons (pe_m MWt T.cl hr1 (pv 3) (pa_cons (pv 6) (pa_cons (pv 7) pa_nil))) pa_nil)) pe_int) pa_nil)))) pe_int))
              (pss_one (ps_if (pt_not (pt_val (pe_g GC hr4 rfl (pa_cons (pv 3) (pa_cons (pv 4) (pa_cons (pv 6) (pa_cons (pv 7) (pa_cons (pv 9) (pa_cons
                (pe_ix ix_list (pe_lst (pa_cons pe_str (pa_cons pe_str (pa_cons pe_str (pa_cons pe_str (pa_cons pe_str pa_nil)))))) (pe_op op_sub (pv 8) pe_int) (fun _ _ => rfl)) pa_nil))))))))) (pss_one ps_never) pss_nil))))))))
        (pss_one (ps_if (pt_not (pt_val (pe_g GB hr2 rfl (pa_cons (pv 3) pa_nil)))) (pss_one ps_never) pss_nil)))))))
      (pss_cons (ps_if (pt_not (pt_val (pe_g GE hr rfl (pa_cons (pv 3) (pa_cons (pv 4) (pa_cons (pv 1) (pa_cons (pv 0) (pa_cons (pv 2) pa_nil)))))))) (pss_one ps_never) pss_nil)
      (pss_one (ps_ret (pe_and (pe_cmpR op_eq (pe_callB call_len_seq (by rfl) T.len PySem.boot_len (pa_cons
          (pe_lc (own := [("_law_row", 10)]) (g := gName 10) rfl scLaw.nd (pi_list (pv 4))
            (blkOk_by (own := [("_law_row", 10)]) (N := ["_law_script", "_law_state", "_law_count", "_law_lines", "_law_ledger", "_law_turn", "_law_source", "_law_target", "_law_kind", "_law_at", "_law_row"]) (sc := defScope sLaw) (by decide +kernel))
            (fun _ _ _ _ _ => pg_name (i := 10) scLaw.nd rfl (Or.inl rfl)) (fun _ _ _ _ _ => pts_one (pt_cmpR op_ne (pe_ix (ix_listK (K := K) rfl) (pv 10) pe_int (fun _ _ => rfl)) pe_int (nomark _)))
            (fun _ _ _ _ _ => pv 10)) pa_nil)) pe_int (nomark _))
        (pe_one (pe_cmpR op_eq (pe_m MTt T.cl hr1 (pv 3) (pa_cons pe_str pa_nil)) (pe_callB call_len_seq (by rfl) T.len PySem.boot_len (pa_cons (pv 4) pa_nil)) (nomark _))))))))))), ?_⟩
    -- state = [0, 0]; count = 2 + draw
    refine ⟨(by show 2 ≤ sizeLine; decide), fun st nst => ?_⟩
    have s1 : Same H (upd H st (.lst [.int 0, .int 0])) := Same.new (Same.refl H) nst
    refine ⟨_, rfl, _, rfl, st, sc, 0, 0, 3, ns, rfl, upd_same, s1.seq hS, by decide, by decide, fun H2 a2 z2 d e2 c2 d0 d1 => ?_⟩
    have s2 : Same H H2 := fun b o e => c2 b o (s1 b o e) (ne_of_none e nst)
    refine ⟨_, _, rfl, rfl, ?_⟩
    -- lines = Lines(count); ledger = []
    refine ⟨_, rfl, ?_⟩
    intro x dx nx ndx nex
    refine ⟨x, dx, 2 + d, rfl, upd_same, by omega, by omega, fun H3 L Lx Ln hks D3 kp f0 => ⟨rfl, ?_⟩⟩
    subst Lx
    have up : ∀ b o, H2 b = some o → upd (upd H2 dx (.own L.x)) L.x (.ins C dx []) b = some o := fun b o e => by
      rw [upd_ne (ne_of_none e nx), upd_ne (ne_of_none e ndx)]
      exact e
    have k3 : Same H2 H3 := fun b o e => kp b o (up b o e) (ne_of_none e nx)
    have s3 : Same H H3 := L2.Same.trans s2 k3
    refine ⟨Nat.zero_le _, fun lg nlg => ?_⟩
    have s4' : Same H3 (upd H3 lg (.lst [])) := Same.new (Same.refl H3) nlg
    have s4 : Same H (upd H3 lg (.lst [])) := L2.Same.trans s3 s4'
    have W4 : WH C H (upd H3 lg (.lst [])) L S0 lg st [] := by
      refine ⟨D3.same s4', s4, fun b fb => ?_, ⟨a2, z2, s4' _ _ (k3 _ _ e2)⟩, nst, upd_same, Same.free s3 nlg, D3.newF nlg, fun r hr => by simp at hr, fun r hr => by simp at hr, fun r hr => by simp at hr, List.nodup_nil, fun p _ e he => ?_, hks⟩
      · cases q : H b with
        | none => rfl
        | some o =>
          have z := f0 b fb
          rw [up b o (s2 b o q)] at z
          cases z
      · have he' : e ∈ ([] : List (Addr × List Int)) := he
        simp at he'
    have N4 : WP L S0 [] := by
      refine ⟨⟨fun p _ d hd => ?_, fun m p k hm => by simp at hm⟩, ?_, rfl⟩
      · have hd' : d ∈ ([] : List (List Int)) := hd
        simp at hd'
      · have z : tot L.ks S0.N = 0 := tot_zero fun p _ => rfl
        rw [z]
        rfl
    generalize upd H3 lg (.lst []) = H4 at W4
    clear s4 s4' s3 k3 up kp f0 D3 e2 c2 s2 s1
    -- for turn in range(draw)
    obtain ⟨a4, z4, e4⟩ := W4.hst
    refine ⟨_, rfl, _, rfl, st, sc, a4, z4, 71, ns, rfl, e4, W4.s0.seq hS, by decide, by decide, fun H5 a5 z5 turns e5 c5 t0 t1 => ?_⟩
    have W5 := W4.drawn e5 c5
    refine ⟨_, rfl, by omega, by omega, ?_⟩
    refine for_range (lo := 0) (n := turns.toNat) (fun i σ H6 => ∃ (S : LS) (rows : List Rw) (v5 v6 v7 v8 v9 : Option V), σ = [some (.ref sc), some (.ref st), some (.int L.n), some (.ref L.x), some (.ref lg), v5, v6, v7, v8, v9, none] ∧ WH C H H6 L S lg st rows ∧ WP L S rows ∧ Small S rows i)
      ⟨S0, [], none, none, none, none, none, (by rw [Ln]; rfl), W5, N4, ⟨fun _ => Nat.zero_le _, Nat.zero_le _, Nat.zero_le _⟩⟩ ?_ ?_
    · rintro i σ H6 hi ⟨S, rows, v5, v6, v7, v8, v9, rfl, W6, N6, sm⟩
      obtain ⟨a6, z6, e6⟩ := W6.hst
      refine ⟨_, rfl, _, rfl, _, rfl, st, sc, a6, z6, L.n, ns, rfl, e6, W6.s0.seq hS, by omega, by omega, fun H7 a7 z7 da e7 c7 da0 da1 => ?_⟩
      have W7 := W6.drawn e7 c7
      refine ⟨_, _, rfl, rfl, ?_⟩
      refine ⟨_, rfl, _, rfl, _, rfl, _, rfl, _, _, rfl, rfl, st, sc, a7, z7, _, ns, rfl, e7, W7.s0.seq hS, by omega, by omega, fun H8 a8 z8 db e8 c8 db0 db1 => ?_⟩
      have W8 := W7.drawn e8 c8
      refine ⟨_, _, rfl, rfl, .inl ⟨_, rfl, _, rfl, _, _, rfl, rfl, by omega, _, _, rfl, rfl, ?_⟩⟩
      obtain ⟨hs1, hs2, hs3⟩ := ends (n := L.n) (a := da) (b := db) (by omega) (by omega) da0 da1 db0 db1
      have hp : ((1 : Int) + da, (1 : Int) + (1 + da + db) % L.n) ∈ L.ks := (W8.la.mem _).mpr ⟨by show 1 ≤ (1 : Int) + da; omega, by show (1 : Int) + da ≤ L.n; omega, hs1, hs2⟩
      refine ⟨_, rfl, _, rfl, st, sc, a8, z8, 12, ns, rfl, e8, W8.s0.seq hS, by decide, by decide, fun H9 a9 z9 kd e9 c9 kd0 kd1 => ?_⟩
      have W9 := W8.drawn e9 c9
      have hq := sm.q (1 + da, 1 + (1 + da + db) % L.n)
      -- one command
      refine ⟨fun σ H10 => ∃ (S' : LS) (rows' : List Rw) (v9 : Option V), σ = [some (.ref sc), some (.ref st), some (.int L.n), some (.ref L.x), some (.ref lg), some (.int (0 + (i : Int))), some (.int (1 + da)), some (.int (1 + (1 + da + db) % L.n)), some (.int kd), v9, none] ∧ WH C H H10 L S' lg st rows' ∧ WP L S' rows' ∧ Small S' rows' (i + 1), ?_, ?_⟩
      · refine ⟨_, rfl, _, _, rfl, rfl, _, rfl, ?_⟩
        refine ite2 (fun _ => ?_) (fun hk4 => ?_)
        · exact ⟨_, rfl, _, rfl, _, rfl, _, rfl, H, L, S, lg, st, rows, 1 + da, 1 + (1 + da + db) % L.n, i, rfl, W9, N6, hp, hs3, sm, by omega, fun H' S' rows' a b c => ⟨S', rows', _, rfl, a, b, c⟩⟩
        · refine ⟨_, rfl, rfl, _, rfl, ?_⟩
          obtain ⟨dx9, o9⟩ := W9.la.ob
          refine ite2 (fun _ => ?_) (fun hk5 => ?_)
          · refine ⟨_, rfl, L.x, dx9, _, rfl, o9, fl_no _ _ _ _ (by decide +kernel) (by decide +kernel) (by decide +kernel) (by decide +kernel), _, rfl, _, rfl, L, S, 1 + da, 1 + (1 + da + db) % L.n, rfl, W9.la, small_lt sm.ps (by omega), fun H' D' c' => ?_⟩
            exact ⟨_, rows, _, rfl, W9.lines D' c' W9.three, ⟨N6.fit, N6.bal, N6.snt⟩, fun p => Nat.le_succ_of_le (sm.q p), Nat.le_trans (length_putK _ _ _) (Nat.succ_le_succ sm.ps), Nat.le_succ_of_le sm.rw⟩
          · refine ⟨_, rfl, rfl, _, rfl, ?_⟩
            refine ite2 (fun _ => ?_) (fun hk6 => ?_)
            · refine ⟨_, rfl, L.x, dx9, _, rfl, o9, fl_no _ _ _ _ (by decide +kernel) (by decide +kernel) (by decide +kernel) (by decide +kernel), _, rfl, _, rfl, L, S, 1 + da, 1 + (1 + da + db) % L.n, rfl, W9.la, fun H' D' c' => ?_⟩
              exact ⟨_, rows, _, rfl, W9.lines D' c' W9.three, ⟨N6.fit, N6.bal, N6.snt⟩, fun p => Nat.le_succ_of_le (sm.q p), Nat.le_trans (dropK_le _ _) (Nat.le_succ_of_le sm.ps), Nat.le_succ_of_le sm.rw⟩
            · have h4 : ¬ kd < 5 := fun q => hk4 (decide_eq_true q)
              have h5 : ¬ kd = 5 := fun q => hk5 (decide_eq_true (by rw [q]))
              have h6 : ¬ kd = 6 := fun q => hk6 (decide_eq_true (by rw [q]))
              obtain ⟨wd, hwd, hwz⟩ := word_at (d := kd) (by omega) kd1
              refine ⟨_, rfl, _, rfl, _, rfl, L.x, dx9, _, rfl, o9, fl_no _ _ _ _ (by decide +kernel) (by decide +kernel) (by decide +kernel) (by decide +kernel), _, rfl, _, rfl, L, S, 1 + da, 1 + (1 + da + db) % L.n, rfl, W9.la, hp, small_lt hq (by omega), fun H10 ra es s10 e1 na e2 e3 => ?_⟩
              have esl : es.length = (S.Q (1 + da, 1 + (1 + da + db) % L.n)).length := by
                have q := congrArg List.length e1
                rw [List.length_map, List.length_map] at q
                exact q
              have W10 := W9.same s10
              refine ⟨ra, _, rfl, .inl (SqL.of e2), _, _, rfl, rfl, ?_⟩
              refine ⟨st, sc, a9, z9, _, ns, rfl, s10 _ _ e9, W10.s0.seq hS, by omega, by rw [List.length_map, esl]; omega, fun H11 a11 z11 dd e11 c11 dd0 dd1 => ?_⟩
              have W11 := W10.drawn e11 c11
              refine ⟨_, _, rfl, rfl, ?_⟩
              refine ⟨_, rfl, _, rfl, _, rfl, _, rfl, _, rfl, (by show 5 ≤ sizeLine; decide), fun u nu => ?_⟩
              have W12 := W11.same (Same.new (o := .lst [.str "take", .str "drop", .str "double", .str "swap", .str "take"]) (Same.refl _) nu)
              refine ⟨_, rfl, _, _, rfl, rfl, u, _, _, _, rfl, rfl, SqL.of upd_same, hwd, ?_⟩
              refine ⟨H, L, S, lg, st, rows, 1 + da, 1 + (1 + da + db) % L.n, dd - 1, wd, rfl, W12, N6, hp, by omega, hwz, fun H13 S' rows' a b c po => ⟨true, rfl, iteF ?_⟩⟩
              exact ⟨S', rows', _, rfl, a, b, sm.post po c⟩
      · rintro σ H10 ⟨S', rows', v9, rfl, W10, N10, sm'⟩
        have hks' : L.ks.length ≤ 1000 := Nat.le_trans hks (by decide)
        refine ⟨_, rfl, L, S', rfl, W10.la, hks', N10.bal, fun H11 s11 => ⟨true, rfl, iteF ?_⟩⟩
        exact ⟨S', rows', _, _, _, _, v9, rfl, W10.same s11, N10, sm'⟩
    · rintro σ H6 ⟨S, rows, v5, v6, v7, v8, v9, rfl, W6, N6, sm⟩
      refine ⟨_, rfl, _, rfl, _, rfl, _, rfl, _, rfl, H, L, S, lg, st, sc, rows, ns, turns.toNat, rfl, W6, N6, hS, sm.q, by omega, by omega, by omega, fun H7 S7 rows7 W7 N7 all => ⟨true, rfl, iteF ?_⟩⟩
      have zero : ∀ r, r ∈ rows7 → r.k = 0 := fun r hr => N7.fit.over (fun p hp => by show (S7.Q p).map (·.2) = []; rw [all p hp]; rfl) (rk r) (List.mem_map.mpr ⟨r, hr, rfl⟩)
      refine ⟨_, rfl, lg, rfl, ⟨_, SqL.of W7.hlg⟩, fun R nR => ?_⟩
      refine lc_list (K := K) (a := lg) (xs := rows7.map rv) (fun _ H8 => Same H7 H8 ∧ H8 R = some (.lst [])) ⟨Same.new (Same.refl _) nR, upd_same⟩ (fun _ H8 _ q => SqL.of (q.1 _ _ W7.hlg)) ?_ ?_
      · rintro m y H8 hm ⟨s8, e8⟩
        rw [List.getElem?_map] at hm
        obtain ⟨r, hr, rfl⟩ := Option.map_eq_some_iff.mp hm
        have hrm := List.mem_of_getElem? hr
        have er := s8 _ _ (W7.rw r hrm)
        refine ⟨rfl, ?_⟩
        refine ⟨_, rfl, r.a, _, _, _, rfl, rfl, SqL.of er, at_of (j := 1) rfl rfl, rfl, _, rfl, ?_⟩
        exact iteNS (by rw [zero r hrm]) ⟨s8, e8⟩
      · rintro H8 ⟨s8, e8⟩
        have W8 := W7.same s8
        refine ⟨R, _, rfl, .inl (SqL.of e8), rfl, true, rfl, iteT ?_⟩
        obtain ⟨d8, o8⟩ := W8.la.ob
        have hks' : L.ks.length ≤ 1000 := Nat.le_trans hks (by decide)
        refine ⟨_, rfl, L.x, d8, _, rfl, o8, fl_no _ _ _ _ (by decide +kernel) (by decide +kernel) (by decide +kernel) (by decide +kernel), L, S7, _, rfl, W8.la, hks', fun e => absurd e (by decide +kernel), fun _ => ⟨_, c_sn S7, fun H9 s9 => ?_⟩⟩
        refine ⟨_, rfl, lg, _, rfl, .inl (SqL.of (W8.same s9).hlg), rfl, ?_⟩
        have e : decide (V.int S7.sn = V.int ((rows7.map rv).length : Int)) = true := decide_eq_true (by rw [List.length_map, N7.snt])
        show Q (.bl (decide (V.int S7.sn = V.int ((rows7.map rv).length : Int)))) H9
        rw [e]
        exact k H9
end
end K76

/-! What the top has written, and the end. -/
namespace K76
open PySem L2
theorem all_mk {l : PySem.W.OpenLaw} {w : World} {K : PySem.W.Frag} {h : Heap} {mg : Str → Option Value} {fa C f1 f2 f3 f4 f5 f6 f7 f8 f9 f10 f11 f12 f13 f14 f15 f16 f17 f18 f19 f20 : Addr} (X : K.In h) (G : h.Ns mainGlobals mg) (hfa : mg "law" = some (.ref fa))
    {od1 an1 od2 an2 od3 an3 od4 an4 od5 an5 od6 an6 od7 an7 od8 an8 od9 an9 od10 an10 od11 an11 od12 an12 od13 an13 od14 an14 od15 an15 od16 an16 od17 an17 od18 an18 od19 an19 od20 an20 : Option Addr} {sl1 sl2 sl3 sl4 sl5 sl6 sl7 sl8 sl9 sl10 sl11 sl12 sl13 sl14 sl15 sl16 sl17 sl18 sl19 sl20 : Array (Option Value)} {oc1 kV1 dc1 pm1 cd1 ct1 oc2 kV2 dc2 pm2 cd2 ct2 oc3 kV3 dc3 pm3 cd3 ct3 oc4 kV4 dc4 pm4 cd4 ct4 oc5 kV5 dc5 pm5 cd5 ct5 oc6 kV6 dc6 pm6 cd6 ct6 oc7 kV7 dc7 pm7 cd7 ct7 oc8 kV8 dc8 pm8 cd8 ct8 oc9 kV9 dc9 pm9 cd9 ct9 oc10 kV10 dc10 pm10 cd10 ct10 oc11 kV11 dc11 pm11 cd11 ct11 oc12 kV12 dc12 pm12 cd12 ct12 oc13 kV13 dc13 pm13 cd13 ct13 oc14 kV14 dc14 pm14 cd14 ct14 oc15 kV15 dc15 pm15 cd15 ct15 oc16 kV16 dc16 pm16 cd16 ct16 oc17 kV17 dc17 pm17 cd17 ct17 oc18 kV18 dc18 pm18 cd18 ct18 oc19 kV19 dc19 pm19 cd19 ct19 oc20 kV20 dc20 pm20 cd20 ct20 : Value}
    (aC : PySem.W.nsIn K mainGlobals "Lines" = some (some (.ref C)))
    (a1 : PySem.W.findIn K (.ref C) "__init__" = some (some (.ref f1))) (i1 : PySem.W.isFn K (.ref f1) = true) (l1 : K.lookup f1 = some ⟨oc1, od1, .func (PySem.W.fnOf "__init__" "Lines.__init__" (defArgs sInit) (defBody sInit) (defScope sInit) .none kV1 dc1 pm1 an1 cd1 ct1), sl1⟩) (c1 : PySem.W.codeIn K cd1 "Lines.__init__" = true) (k1 : PySem.W.keepIn K (.ref f1) = true)
    (a2 : PySem.W.findIn K (.ref C) "is_joined" = some (some (.ref f2))) (i2 : PySem.W.isFn K (.ref f2) = true) (l2 : K.lookup f2 = some ⟨oc2, od2, .func (PySem.W.fnOf "is_joined" "Lines.is_joined" (defArgs sIsJoined) (defBody sIsJoined) (defScope sIsJoined) .none kV2 dc2 pm2 an2 cd2 ct2), sl2⟩) (c2 : PySem.W.codeIn K cd2 "Lines.is_joined" = true) (k2 : PySem.W.keepIn K (.ref f2) = true)
    (a3 : PySem.W.findIn K (.ref C) "waiting" = some (some (.ref f3))) (i3 : PySem.W.isFn K (.ref f3) = true) (l3 : K.lookup f3 = some ⟨oc3, od3, .func (PySem.W.fnOf "waiting" "Lines.waiting" (defArgs sWaiting) (defBody sWaiting) (defScope sWaiting) .none kV3 dc3 pm3 an3 cd3 ct3), sl3⟩) (c3 : PySem.W.codeIn K cd3 "Lines.waiting" = true) (k3 : PySem.W.keepIn K (.ref f3) = true)
    (a4 : PySem.W.findIn K (.ref C) "send" = some (some (.ref f4))) (i4 : PySem.W.isFn K (.ref f4) = true) (l4 : K.lookup f4 = some ⟨oc4, od4, .func (PySem.W.fnOf "send" "Lines.send" (defArgs sSend) (defBody sSend) (defScope sSend) .none kV4 dc4 pm4 an4 cd4 ct4), sl4⟩) (c4 : PySem.W.codeIn K cd4 "Lines.send" = true) (k4 : PySem.W.keepIn K (.ref f4) = true)
    (a5 : PySem.W.findIn K (.ref C) "waits" = some (some (.ref f5))) (i5 : PySem.W.isFn K (.ref f5) = true) (l5 : K.lookup f5 = some ⟨oc5, od5, .func (PySem.W.fnOf "waits" "Lines.waits" (defArgs sWaits) (defBody sWaits) (defScope sWaits) .none kV5 dc5 pm5 an5 cd5 ct5), sl5⟩) (c5 : PySem.W.codeIn K cd5 "Lines.waits" = true) (k5 : PySem.W.keepIn K (.ref f5) = true)
    (a6 : PySem.W.findIn K (.ref C) "take" = some (some (.ref f6))) (i6 : PySem.W.isFn K (.ref f6) = true) (l6 : K.lookup f6 = some ⟨oc6, od6, .func (PySem.W.fnOf "take" "Lines.take" (defArgs sTake) (defBody sTake) (defScope sTake) .none kV6 dc6 pm6 an6 cd6 ct6), sl6⟩) (c6 : PySem.W.codeIn K cd6 "Lines.take" = true) (k6 : PySem.W.keepIn K (.ref f6) = true)
    (a7 : PySem.W.findIn K (.ref C) "drop" = some (some (.ref f7))) (i7 : PySem.W.isFn K (.ref f7) = true) (l7 : K.lookup f7 = some ⟨oc7, od7, .func (PySem.W.fnOf "drop" "Lines.drop" (defArgs sDrop) (defBody sDrop) (defScope sDrop) .none kV7 dc7 pm7 an7 cd7 ct7), sl7⟩) (c7 : PySem.W.codeIn K cd7 "Lines.drop" = true) (k7 : PySem.W.keepIn K (.ref f7) = true)
    (a8 : PySem.W.findIn K (.ref C) "double" = some (some (.ref f8))) (i8 : PySem.W.isFn K (.ref f8) = true) (l8 : K.lookup f8 = some ⟨oc8, od8, .func (PySem.W.fnOf "double" "Lines.double" (defArgs sDouble) (defBody sDouble) (defScope sDouble) .none kV8 dc8 pm8 an8 cd8 ct8), sl8⟩) (c8 : PySem.W.codeIn K cd8 "Lines.double" = true) (k8 : PySem.W.keepIn K (.ref f8) = true)
    (a9 : PySem.W.findIn K (.ref C) "swap" = some (some (.ref f9))) (i9 : PySem.W.isFn K (.ref f9) = true) (l9 : K.lookup f9 = some ⟨oc9, od9, .func (PySem.W.fnOf "swap" "Lines.swap" (defArgs sSwap) (defBody sSwap) (defScope sSwap) .none kV9 dc9 pm9 an9 cd9 ct9), sl9⟩) (c9 : PySem.W.codeIn K cd9 "Lines.swap" = true) (k9 : PySem.W.keepIn K (.ref f9) = true)
    (a10 : PySem.W.findIn K (.ref C) "cut" = some (some (.ref f10))) (i10 : PySem.W.isFn K (.ref f10) = true) (l10 : K.lookup f10 = some ⟨oc10, od10, .func (PySem.W.fnOf "cut" "Lines.cut" (defArgs sCut) (defBody sCut) (defScope sCut) .none kV10 dc10 pm10 an10 cd10 ct10), sl10⟩) (c10 : PySem.W.codeIn K cd10 "Lines.cut" = true) (k10 : PySem.W.keepIn K (.ref f10) = true)
    (a11 : PySem.W.findIn K (.ref C) "join" = some (some (.ref f11))) (i11 : PySem.W.isFn K (.ref f11) = true) (l11 : K.lookup f11 = some ⟨oc11, od11, .func (PySem.W.fnOf "join" "Lines.join" (defArgs sJoin) (defBody sJoin) (defScope sJoin) .none kV11 dc11 pm11 an11 cd11 ct11), sl11⟩) (c11 : PySem.W.codeIn K cd11 "Lines.join" = true) (k11 : PySem.W.keepIn K (.ref f11) = true)
    (a12 : PySem.W.findIn K (.ref C) "total" = some (some (.ref f12))) (i12 : PySem.W.isFn K (.ref f12) = true) (l12 : K.lookup f12 = some ⟨oc12, od12, .func (PySem.W.fnOf "total" "Lines.total" (defArgs sTotal) (defBody sTotal) (defScope sTotal) .none kV12 dc12 pm12 an12 cd12 ct12), sl12⟩) (c12 : PySem.W.codeIn K cd12 "Lines.total" = true) (k12 : PySem.W.keepIn K (.ref f12) = true)
    (a13 : PySem.W.nsIn K mainGlobals "line_of" = some (some (.ref f13))) (l13 : K.lookup f13 = some ⟨oc13, od13, .func (PySem.W.fnOf "line_of" "line_of" (defArgs sLineOf) (defBody sLineOf) (defScope sLineOf) .none kV13 dc13 pm13 an13 cd13 ct13), sl13⟩) (c13 : PySem.W.codeIn K cd13 "line_of" = true) (k13 : PySem.W.keepIn K (.ref f13) = true)
    (a14 : PySem.W.nsIn K mainGlobals "_law_draw" = some (some (.ref f14))) (l14 : K.lookup f14 = some ⟨oc14, od14, .func (PySem.W.fnOf "_law_draw" "_law_draw" (defArgs sDraw) (defBody sDraw) (defScope sDraw) .none kV14 dc14 pm14 an14 cd14 ct14), sl14⟩) (c14 : PySem.W.codeIn K cd14 "_law_draw" = true) (k14 : PySem.W.keepIn K (.ref f14) = true)
    (a15 : PySem.W.nsIn K mainGlobals "_law_balanced" = some (some (.ref f15))) (l15 : K.lookup f15 = some ⟨oc15, od15, .func (PySem.W.fnOf "_law_balanced" "_law_balanced" (defArgs sBal) (defBody sBal) (defScope sBal) .none kV15 dc15 pm15 an15 cd15 ct15), sl15⟩) (c15 : PySem.W.codeIn K cd15 "_law_balanced" = true) (k15 : PySem.W.keepIn K (.ref f15) = true)
    (a16 : PySem.W.nsIn K mainGlobals "_law_sent" = some (some (.ref f16))) (l16 : K.lookup f16 = some ⟨oc16, od16, .func (PySem.W.fnOf "_law_sent" "_law_sent" (defArgs sSent) (defBody sSent) (defScope sSent) .none kV16 dc16 pm16 an16 cd16 ct16), sl16⟩) (c16 : PySem.W.codeIn K cd16 "_law_sent" = true) (k16 : PySem.W.keepIn K (.ref f16) = true)
    (a17 : PySem.W.nsIn K mainGlobals "_law_number" = some (some (.ref f17))) (l17 : K.lookup f17 = some ⟨oc17, od17, .func (PySem.W.fnOf "_law_number" "_law_number" (defArgs sNumber) (defBody sNumber) (defScope sNumber) .none kV17 dc17 pm17 an17 cd17 ct17), sl17⟩) (c17 : PySem.W.codeIn K cd17 "_law_number" = true) (k17 : PySem.W.keepIn K (.ref f17) = true)
    (a18 : PySem.W.nsIn K mainGlobals "_law_counted" = some (some (.ref f18))) (l18 : K.lookup f18 = some ⟨oc18, od18, .func (PySem.W.fnOf "_law_counted" "_law_counted" (defArgs sCounted) (defBody sCounted) (defScope sCounted) .none kV18 dc18 pm18 an18 cd18 ct18), sl18⟩) (c18 : PySem.W.codeIn K cd18 "_law_counted" = true) (k18 : PySem.W.keepIn K (.ref f18) = true)
    (a19 : PySem.W.nsIn K mainGlobals "_law_emptied" = some (some (.ref f19))) (l19 : K.lookup f19 = some ⟨oc19, od19, .func (PySem.W.fnOf "_law_emptied" "_law_emptied" (defArgs sEmptied) (defBody sEmptied) (defScope sEmptied) .none kV19 dc19 pm19 an19 cd19 ct19), sl19⟩) (c19 : PySem.W.codeIn K cd19 "_law_emptied" = true) (k19 : PySem.W.keepIn K (.ref f19) = true)
    (a20 : PySem.W.nsIn K mainGlobals "law" = some (some (.ref f20))) (l20 : K.lookup f20 = some ⟨oc20, od20, .func (PySem.W.fnOf "law" "law" (defArgs sLaw) (defBody sLaw) (defScope sLaw) .none kV20 dc20 pm20 an20 cd20 ct20), sl20⟩) (c20 : PySem.W.codeIn K cd20 "law" = true) (k20 : PySem.W.keepIn K (.ref f20) = true)
    (pg : PySem.W.plainGet K C Str.empty = true) (hd : PySem.W.hasDictIn K C = true) (po : PySem.W.plainOver K C = true) (sa : PySem.W.findIn K (.ref C) "__setattr__" = some (some (.builtin "object.__setattr__"))) (mk : PySem.W.makesIn K C = true) (kc : PySem.W.keepIn K (.ref C) = true)
    (n0 : PySem.W.findIn K (.ref C) "size" = some none) (n1 : PySem.W.findIn K (.ref C) "queues" = some none) (n2 : PySem.W.findIn K (.ref C) "parted" = some none) (n3 : PySem.W.findIn K (.ref C) "counts" = some none) (z0 : PySem.W.nsIn K mainGlobals "len" = some none) (z1 : PySem.W.nsIn K mainGlobals "min" = some none) (z2 : PySem.W.nsIn K mainGlobals "max" = some none) (z3 : PySem.W.nsIn K mainGlobals "list" = some none) (z4 : PySem.W.nsIn K mainGlobals "range" = some none) (z5 : PySem.W.nsIn K mainGlobals "sum" = some none) (z6 : PySem.W.nsIn K mainGlobals "int" = some none) (z7 : PySem.W.nsIn K mainGlobals "isinstance" = some none) :
    ∃ fd : FuncData, (∀ (s : Shared) (v : Value), BindsTo s fd ⟨[v], []⟩ [("_law_script", v)]) ∧ ∀ base : Heap, K.In base → base.Ns mainGlobals mg → FnOk l.prog w K mg base CX0 6 fa fd ["_law_script"] (spLaw K) := by
  have e := hfa.symm.trans (PySem.W.mg_of X G a20)
  cases e
  have T : Txt K mg C := ⟨⟨pg, hd, po, sa⟩, n0, n1, n2, n3, PySem.W.mg_of X G aC, PySem.W.mg_none_of X G z0, PySem.W.mg_none_of X G z1, PySem.W.mg_none_of X G z2, PySem.W.mg_none_of X G z3, PySem.W.mg_none_of X G z4, PySem.W.mg_none_of X G z5, PySem.W.mg_none_of X G z6, PySem.W.mg_none_of X G z7⟩
  have F1 := fun_mk (st := sInit) l1 c1 k1
  have F2 := fun_mk (st := sIsJoined) l2 c2 k2
  have F3 := fun_mk (st := sWaiting) l3 c3 k3
  have F4 := fun_mk (st := sSend) l4 c4 k4
  have F5 := fun_mk (st := sWaits) l5 c5 k5
  have F6 := fun_mk (st := sTake) l6 c6 k6
  have F7 := fun_mk (st := sDrop) l7 c7 k7
  have F8 := fun_mk (st := sDouble) l8 c8 k8
  have F9 := fun_mk (st := sSwap) l9 c9 k9
  have F10 := fun_mk (st := sCut) l10 c10 k10
  have F11 := fun_mk (st := sJoin) l11 c11 k11
  have F12 := fun_mk (st := sTotal) l12 c12 k12
  have F13 := fun_mk (st := sLineOf) l13 c13 k13
  have F14 := fun_mk (st := sDraw) l14 c14 k14
  have F15 := fun_mk (st := sBal) l15 c15 k15
  have F16 := fun_mk (st := sSent) l16 c16 k16
  have F17 := fun_mk (st := sNumber) l17 c17 k17
  have F18 := fun_mk (st := sCounted) l18 c18 k18
  have F19 := fun_mk (st := sEmptied) l19 c19 k19
  have F20 := fun_mk (st := sLaw) l20 c20 k20
  have b1 := F1.binds (ps := ["self", "count"]) fun _ _ _ _ _ _ us hl => match us, hl with | [_, _], _ => rfl
  have b2 := F2.binds (ps := ["self", "first", "second"]) fun _ _ _ _ _ _ us hl => match us, hl with | [_, _, _], _ => rfl
  have b3 := F3.binds (ps := ["self", "source", "target"]) fun _ _ _ _ _ _ us hl => match us, hl with | [_, _, _], _ => rfl
  have b4 := F4.binds (ps := ["self", "source", "target", "data"]) fun _ _ _ _ _ _ us hl => match us, hl with | [_, _, _, _], _ => rfl
  have b5 := F5.binds (ps := ["self", "source", "target", "index"]) fun _ _ _ _ _ _ us hl => match us, hl with | [_, _, _, _], _ => rfl
  have b6 := F6.binds (ps := ["self", "source", "target", "index"]) fun _ _ _ _ _ _ us hl => match us, hl with | [_, _, _, _], _ => rfl
  have b7 := F7.binds (ps := ["self", "source", "target", "index"]) fun _ _ _ _ _ _ us hl => match us, hl with | [_, _, _, _], _ => rfl
  have b8 := F8.binds (ps := ["self", "source", "target", "index"]) fun _ _ _ _ _ _ us hl => match us, hl with | [_, _, _, _], _ => rfl
  have b9 := F9.binds (ps := ["self", "source", "target", "index"]) fun _ _ _ _ _ _ us hl => match us, hl with | [_, _, _, _], _ => rfl
  have b10 := F10.binds (ps := ["self", "first", "second"]) fun _ _ _ _ _ _ us hl => match us, hl with | [_, _, _], _ => rfl
  have b11 := F11.binds (ps := ["self", "first", "second"]) fun _ _ _ _ _ _ us hl => match us, hl with | [_, _, _], _ => rfl
  have b12 := F12.binds (ps := ["self", "word"]) fun _ _ _ _ _ _ us hl => match us, hl with | [_, _], _ => rfl
  have b13 := F13.binds (ps := ["first", "second"]) fun _ _ _ _ _ _ us hl => match us, hl with | [_, _], _ => rfl
  have b14 := F14.binds (ps := ["_law_state", "_law_script", "_law_size"]) fun _ _ _ _ _ _ us hl => match us, hl with | [_, _, _], _ => rfl
  have b15 := F15.binds (ps := ["_law_lines"]) fun _ _ _ _ _ _ us hl => match us, hl with | [_], _ => rfl
  have b16 := F16.binds (ps := ["_law_lines", "_law_ledger", "_law_source", "_law_target"]) fun _ _ _ _ _ _ us hl => match us, hl with | [_, _, _, _], _ => rfl
  have b17 := F17.binds (ps := ["_law_data", "_law_source"]) fun _ _ _ _ _ _ us hl => match us, hl with | [_, _], _ => rfl
  have b18 := F18.binds (ps := ["_law_lines", "_law_ledger", "_law_source", "_law_target", "_law_at", "_law_word"]) fun _ _ _ _ _ _ us hl => match us, hl with | [_, _, _, _, _, _], _ => rfl
  have b19 := F19.binds (ps := ["_law_lines", "_law_ledger", "_law_state", "_law_script", "_law_count"]) fun _ _ _ _ _ _ us hl => match us, hl with | [_, _, _, _, _], _ => rfl
  refine ⟨PySem.W.fnOf "law" "law" (defArgs sLaw) (defBody sLaw) (defScope sLaw) .none kV20 dc20 pm20 an20 cd20 ct20, fun s v => .of_eq rfl, fun base _ _ => ?_⟩
  have GL : Gd l.prog w K mg base 1 "line_of" ["first", "second"] spLineOf := ⟨⟨f13, _, ok_line_of F13 T (C := C), PySem.W.mg_of X G a13, k13, b13⟩⟩
  have MJ : Md l.prog w K mg base C 2 "is_joined" ["self", "first", "second"] (spIsJoined C) := ⟨⟨f2, _, ok_is_joined F2 T GL, ⟨a2, i2, k2⟩, b2⟩⟩
  have MWt : Md l.prog w K mg base C 1 "waiting" ["self", "source", "target"] (spWaiting C) := ⟨⟨f3, _, ok_waiting F3 T, ⟨a3, i3, k3⟩, b3⟩⟩
  have MS : Md l.prog w K mg base C 3 "send" ["self", "source", "target", "data"] (spSend C) := ⟨⟨f4, _, ok_send F4 T MJ, ⟨a4, i4, k4⟩, b4⟩⟩
  have MW : Md l.prog w K mg base C 1 "waits" ["self", "source", "target", "index"] (spWaits C) := ⟨⟨f5, _, ok_waits F5 T, ⟨a5, i5, k5⟩, b5⟩⟩
  have MT : Md l.prog w K mg base C 3 "take" ["self", "source", "target", "index"] (spTake C) := ⟨⟨f6, _, ok_take F6 T MJ MW, ⟨a6, i6, k6⟩, b6⟩⟩
  have MD : Md l.prog w K mg base C 2 "drop" ["self", "source", "target", "index"] (spDrop C) := ⟨⟨f7, _, ok_drop F7 T MW, ⟨a7, i7, k7⟩, b7⟩⟩
  have MDb : Md l.prog w K mg base C 2 "double" ["self", "source", "target", "index"] (spDouble C) := ⟨⟨f8, _, ok_double F8 T MW, ⟨a8, i8, k8⟩, b8⟩⟩
  have MSw : Md l.prog w K mg base C 2 "swap" ["self", "source", "target", "index"] (spSwap C) := ⟨⟨f9, _, ok_swap F9 T MW, ⟨a9, i9, k9⟩, b9⟩⟩
  have MCt : Md l.prog w K mg base C 2 "cut" ["self", "first", "second"] (spCut C) := ⟨⟨f10, _, ok_cut F10 T GL, ⟨a10, i10, k10⟩, b10⟩⟩
  have MJn : Md l.prog w K mg base C 2 "join" ["self", "first", "second"] (spJoin C) := ⟨⟨f11, _, ok_join F11 T GL, ⟨a11, i11, k11⟩, b11⟩⟩
  have MTt : Md l.prog w K mg base C 1 "total" ["self", "word"] (spTotal C) := ⟨⟨f12, _, ok_total F12 T, ⟨a12, i12, k12⟩, b12⟩⟩
  have GDr : Gd l.prog w K mg base 1 "_law_draw" ["_law_state", "_law_script", "_law_size"] (spDraw K) := ⟨⟨f14, _, ok_draw F14 T, PySem.W.mg_of X G a14, k14, b14⟩⟩
  have GB : Gd l.prog w K mg base 2 "_law_balanced" ["_law_lines"] (spBal C) := ⟨⟨f15, _, ok_bal F15 T MTt, PySem.W.mg_of X G a15, k15, b15⟩⟩
  have GS : Gd l.prog w K mg base 4 "_law_sent" ["_law_lines", "_law_ledger", "_law_source", "_law_target"] (spSent C) := ⟨⟨f16, _, ok_sent F16 T MS, PySem.W.mg_of X G a16, k16, b16⟩⟩
  have GN : Gd l.prog w K mg base 1 "_law_number" ["_law_data", "_law_source"] spNumber := ⟨⟨f17, _, ok_number F17 T, PySem.W.mg_of X G a17, k17, b17⟩⟩
  have GC : Gd l.prog w K mg base 4 "_law_counted" ["_law_lines", "_law_ledger", "_law_source", "_law_target", "_law_at", "_law_word"] (spCounted C) := ⟨⟨f18, _, ok_counted F18 T MWt GN MT MD MDb MSw, PySem.W.mg_of X G a18, k18, b18⟩⟩
  have GE : Gd l.prog w K mg base 5 "_law_emptied" ["_law_lines", "_law_ledger", "_law_state", "_law_script", "_law_count"] (spEmptied K C) := ⟨⟨f19, _, ok_emptied F19 T MWt MJn MTt GDr GB GC, PySem.W.mg_of X G a19, k19, b19⟩⟩
  exact ok_law F20 T ⟨mk, a1, i1, kc⟩ (ok_init F1 T) b1 MWt MCt MJn MTt GDr GB GS GC GE
theorem walk {l : PySem.W.OpenLaw} {q : Program} {loose : List Str} {XP : (Str → Option Value) → Heap → Prop} {YP : World → Heap → Prop} {d : DefRec} {K : Params → PySem.W.Frag} (hn : l.most = some 63) (hdf : d.params.defaults = [])
    (hY : ∀ (w : World) (h : Heap), YP w h → (K w.params).In h)
    (F : ∀ (w : World) (mg : Str → Option Value) (fa : Addr) (h : Heap), (K w.params).In h → h.Ns mainGlobals mg → mg d.name = some (.ref fa) →
      ∃ fd : FuncData, (∀ (s : Shared) (u : Value), BindsTo s fd ⟨[u], []⟩ [("_law_script", u)]) ∧ ∀ base : Heap, (K w.params).In base → base.Ns mainGlobals mg → FnOk l.prog w (K w.params) mg base CX0 6 fa fd ["_law_script"] (spLaw (K w.params))) :
    PySem.W.WalkO q loose XP YP l.row.toRowW d [] (fun f vs => PySem.call f vs) :=
  L2.walk_of (n := 63) (k := 6) (x := "_law_script") (CX := fun _ => CX0) (sp := fun w => spLaw (K w.params)) hn (by decide) hdf ⟨rfl, by decide, by decide⟩ hY F (fun _ _ a ns hl _ hS => ⟨a, ns, rfl, hS, hl, fun _ => rfl⟩) fun _ _ _ _ _ z => z
end K76
open PySem PySem.W PyProof.Rows
set_option maxRecDepth 100000 in
set_option maxHeartbeats 0 in
theorem PySem.Challenge.cw_folderkin_k76_whole_no_letter_from_nowhe_holds : PySem.Challenge.rw_folderkin_k76_whole_no_letter_from_nowhe.Holds := by
  w_on; o_law; k_head; (case hw => w_witness2)
  k_fill
  refine K76.walk (l := PySem.Challenge.rw_folderkin_k76_whole_no_letter_from_nowhe) rfl rfl (fun w h Y => PySem.W.kIn_of Y) ?F
  case F =>
    intro w mg fa h KX G hmg
    refine' K76.all_mk KX G hmg ?aC ?a1 ?i1 ?l1 ?c1 ?k1 ?a2 ?i2 ?l2 ?c2 ?k2 ?a3 ?i3 ?l3 ?c3 ?k3 ?a4 ?i4 ?l4 ?c4 ?k4 ?a5 ?i5 ?l5 ?c5 ?k5 ?a6 ?i6 ?l6 ?c6 ?k6 ?a7 ?i7 ?l7 ?c7 ?k7 ?a8 ?i8 ?l8 ?c8 ?k8 ?a9 ?i9 ?l9 ?c9 ?k9 ?a10 ?i10 ?l10 ?c10 ?k10 ?a11 ?i11 ?l11 ?c11 ?k11 ?a12 ?i12 ?l12 ?c12 ?k12 ?a13 ?l13 ?c13 ?k13 ?a14 ?l14 ?c14 ?k14 ?a15 ?l15 ?c15 ?k15 ?a16 ?l16 ?c16 ?k16 ?a17 ?l17 ?c17 ?k17 ?a18 ?l18 ?c18 ?k18 ?a19 ?l19 ?c19 ?k19 ?a20 ?l20 ?c20 ?k20 ?pg ?hd ?po ?sa ?mk ?kc ?n0 ?n1 ?n2 ?n3 ?z0 ?z1 ?z2 ?z3 ?z4 ?z5 ?z6 ?z7
    (case aC => k_is)
    (case a1 => k_is)
    (case i1 => k_is)
    (case l1 => k_is)
    (case c1 => k_is)
    (case k1 => k_is)
    (case a2 => k_is)
    (case i2 => k_is)
    (case l2 => k_is)
    (case c2 => k_is)
    (case k2 => k_is)
    (case a3 => k_is)
    (case i3 => k_is)
    (case l3 => k_is)
    (case c3 => k_is)
    (case k3 => k_is)
    (case a4 => k_is)
    (case i4 => k_is)
    (case l4 => k_is)
    (case c4 => k_is)
    (case k4 => k_is)
    (case a5 => k_is)
    (case i5 => k_is)
    (case l5 => k_is)
    (case c5 => k_is)
    (case k5 => k_is)
    (case a6 => k_is)
    (case i6 => k_is)
    (case l6 => k_is)
    (case c6 => k_is)
    (case k6 => k_is)
    (case a7 => k_is)
    (case i7 => k_is)
    (case l7 => k_is)
    (case c7 => k_is)
    (case k7 => k_is)
    (case a8 => k_is)
    (case i8 => k_is)
    (case l8 => k_is)
    (case c8 => k_is)
    (case k8 => k_is)
    (case a9 => k_is)
    (case i9 => k_is)
    (case l9 => k_is)
    (case c9 => k_is)
    (case k9 => k_is)
    (case a10 => k_is)
    (case i10 => k_is)
    (case l10 => k_is)
    (case c10 => k_is)
    (case k10 => k_is)
    (case a11 => k_is)
    (case i11 => k_is)
    (case l11 => k_is)
    (case c11 => k_is)
    (case k11 => k_is)
    (case a12 => k_is)
    (case i12 => k_is)
    (case l12 => k_is)
    (case c12 => k_is)
    (case k12 => k_is)
    (case a13 => k_is)
    (case l13 => k_is)
    (case c13 => k_is)
    (case k13 => k_is)
    (case a14 => k_is)
    (case l14 => k_is)
    (case c14 => k_is)
    (case k14 => k_is)
    (case a15 => k_is)
    (case l15 => k_is)
    (case c15 => k_is)
    (case k15 => k_is)
    (case a16 => k_is)
    (case l16 => k_is)
    (case c16 => k_is)
    (case k16 => k_is)
    (case a17 => k_is)
    (case l17 => k_is)
    (case c17 => k_is)
    (case k17 => k_is)
    (case a18 => k_is)
    (case l18 => k_is)
    (case c18 => k_is)
    (case k18 => k_is)
    (case a19 => k_is)
    (case l19 => k_is)
    (case c19 => k_is)
    (case k19 => k_is)
    (case a20 => k_is)
    (case l20 => k_is)
    (case c20 => k_is)
    (case k20 => k_is)
    (case pg => k_is)
    (case hd => k_is)
    (case po => k_is)
    (case sa => k_is)
    (case mk => k_is)
    (case kc => k_is)
    (case n0 => k_is)
    (case n1 => k_is)
    (case n2 => k_is)
    (case n3 => k_is)
    (case z0 => k_is)
    (case z1 => k_is)
    (case z2 => k_is)
    (case z3 => k_is)
    (case z4 => k_is)
    (case z5 => k_is)
    (case z6 => k_is)
    (case z7 => k_is)
