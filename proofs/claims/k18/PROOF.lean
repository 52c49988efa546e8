import PyProof.Rows.All
import Wide.All
import OpenK.AllK
import Wide.FinOn
import HandS.ForMost
import HandS.IsInst
import HandS.Flow
import HandS.TupAny
import HandS.Wide
import HandS.WideBits
import HandS.Deep
import HandS.TupLe
import KE.SortData
import HandS.Conv
import HandS.SetFor
import HandS.Strs
import HandS.NoneIn
import HandS.Small
import HandS.Zip
import HandS.Comp
import KE.GoesMore
import KE.GoesEnum
import HandS.Defaults
import HandS.HeadEnd
import HandS.HeadHook1
import HandS.HeadHook2
import HandS.DictComp
import HandS.WordsDict
import HandS.Head0
import HandS.Head1
import HandS.Head2
import HandS.Style
import HandS.SetKeys
import HandS.TupMul
import HandS.More
import KE.DataMinMax
import KE.DatumOrd
import KE.KStateDown
import PySem.Challenge.RW_grovesapart_k18_whole_exchanges_and_cuts
set_option Elab.async false
set_option linter.all false
set_option maxRecDepth 100000
set_option maxHeartbeats 4000000
set_option autoImplicit false
/-! L3: a pure reading of the hand layer. Core: values, cells, worlds. -/
namespace L3
open PySem PySem.Spec PyProof.Rows L2

/-- a value of the reading: data, a cell that may change, a set of ints -/
inductive W where
  | dat (d : PyData) | loc (n : Nat) | iset (ks : List Int) | frz (ds : List PyData) | ty (n : String) | tys (ns : List String)
inductive Cell where
  | list (xs : List W) | dict (kvs : List (Key × W)) | froz (kvs : List (Key × W))
abbrev Store := List Cell
abbrev E3 := List (Option W)

def mask (H : Hp) (l : List Addr) : Hp := fun b => if b ∈ l then none else H b
theorem mask_some {H : Hp} {l : List Addr} {a : Addr} {o : HO} : mask H l a = some o ↔ a ∉ l ∧ H a = some o := by
  unfold mask
  by_cases h : a ∈ l
  · simp [h]
  · simp [h]
theorem mask_le {H : Hp} {l : List Addr} : Same (mask H l) H := fun b o e => (mask_some.mp e).2
theorem mask_none {H : Hp} {l : List Addr} {a : Addr} (h : H a = none) : mask H l a = none := by
  unfold mask; split <;> first | rfl | exact h
theorem mask_upd_in {H : Hp} {l : List Addr} {a : Addr} {o : HO} (h : a ∈ l) : mask (upd H a o) l = mask H l := by
  funext b
  unfold mask upd
  by_cases hb : b ∈ l
  · rw [if_pos hb, if_pos hb]
  · rw [if_neg hb, if_neg hb, if_neg (fun e : b = a => hb (by rw [e]; exact h))]
theorem mask_upd_out {H : Hp} {l : List Addr} {a : Addr} {o : HO} (h : a ∉ l) : mask (upd H a o) l = upd (mask H l) a o := by
  funext b
  unfold mask upd
  by_cases hb : b = a
  · subst hb; rw [if_neg h, if_pos rfl, if_pos rfl]
  · rw [if_neg hb, if_neg hb]
theorem mask_upd_new {H : Hp} {l : List Addr} {a : Addr} {o : HO} (h : H a = none) (h' : ∀ b ∈ l, H b ≠ none) : mask (upd H a o) (l ++ [a]) = mask H l := by
  funext b
  unfold mask upd
  by_cases hb : b = a
  · subst hb
    rw [if_pos (by simp)]
    by_cases hl : b ∈ l
    · exact absurd h (h' _ hl)
    · rw [if_neg hl, h]
  · rw [if_neg hb]
    by_cases hl : b ∈ l
    · rw [if_pos hl, if_pos (List.mem_append_left _ hl)]
    · rw [if_neg hl, if_neg (by simp [hl, hb])]

mutual
/-- data that no one changes -/
inductive RD (K : PySem.W.Frag) (M : Hp) : V → PyData → Prop
  | non : RD K M .non .none
  | bl (b : Bool) : RD K M (.bl b) (.bool b)
  | int (i : Int) : RD K M (.int i) (.int i)
  | str (x : Str) : RD K M (.str x) (.str x)
  | lst {a : Addr} {xs : List V} {ds : List PyData} : M a = some (.lst xs) → ds.length ≤ sizeLine → RDs K M xs ds → RD K M (.ref a) (.list ds)
  | tup {a : Addr} {xs : List V} {ds : List PyData} : SqT K M a xs → ds.length ≤ sizeLine → RDs K M xs ds → RD K M (.ref a) (.tuple ds)
inductive RDs (K : PySem.W.Frag) (M : Hp) : List V → List PyData → Prop
  | nil : RDs K M [] []
  | cons {v : V} {vs : List V} {d : PyData} {ds : List PyData} : RD K M v d → RDs K M vs ds → RDs K M (v :: vs) (d :: ds)
end
theorem Same.sqL {K : PySem.W.Frag} {M M' : Hp} (s : Same M M') {a : Addr} {xs : List V} (h : SqL K M a xs) : SqL K M' a xs := L2.Same.seq s h
theorem sameT {K : PySem.W.Frag} {M M' : Hp} (s : Same M M') {a : Addr} {xs : List V} (h : SqT K M a xs) : SqT K M' a xs := by
  rcases h with h | h
  · rcases h with h | ⟨o, h⟩
    · exact .inl (.inl (s _ _ h))
    · exact .inl (.inr ⟨o, s _ _ h⟩)
  · exact .inr h
mutual
theorem RD.mono {K : PySem.W.Frag} {M M' : Hp} (s : Same M M') : ∀ {v : V} {d : PyData}, RD K M v d → RD K M' v d
  | _, _, .non => .non
  | _, _, .bl b => .bl b
  | _, _, .int i => .int i
  | _, _, .str x => .str x
  | _, _, .lst h z r => .lst (s _ _ h) z (RDs.mono s r)
  | _, _, .tup h z r => .tup (sameT s h) z (RDs.mono s r)
theorem RDs.mono {K : PySem.W.Frag} {M M' : Hp} (s : Same M M') : ∀ {vs : List V} {ds : List PyData}, RDs K M vs ds → RDs K M' vs ds
  | _, _, .nil => .nil
  | _, _, .cons a b => .cons (RD.mono s a) (RDs.mono s b)
end
mutual
theorem RD.dp {K : PySem.W.Frag} {M : Hp} : ∀ {v : V} {d : PyData}, RD K M v d → Dp K M v d
  | _, _, .non => .non
  | _, _, .bl b => .bl b
  | _, _, .int i => .int i
  | _, _, .str x => .str x
  | _, _, .lst h z r => .lst (SqL.of h) (RDs.dp r)
  | _, _, .tup h z r => .tup h (RDs.dp r)
theorem RDs.dp {K : PySem.W.Frag} {M : Hp} : ∀ {vs : List V} {ds : List PyData}, RDs K M vs ds → DpAll K M vs ds
  | _, _, .nil => .nil
  | _, _, .cons a b => .cons (RD.dp a) (RDs.dp b)
end
theorem RDs.length {K : PySem.W.Frag} {M : Hp} : ∀ {vs : List V} {ds : List PyData}, RDs K M vs ds → vs.length = ds.length
  | _, _, .nil => rfl
  | _, _, .cons _ b => by rw [List.length_cons, List.length_cons, RDs.length b]
theorem RDs.append {K : PySem.W.Frag} {M : Hp} : ∀ {vs us : List V} {ds es : List PyData}, RDs K M vs ds → RDs K M us es → RDs K M (vs ++ us) (ds ++ es)
  | _, _, _, _, .nil, s => s
  | _, _, _, _, .cons a b, s => .cons a (RDs.append b s)
theorem RDs.get {K : PySem.W.Frag} {M : Hp} : ∀ {vs : List V} {ds : List PyData} {i : Nat} {d : PyData}, RDs K M vs ds → ds[i]? = some d → ∃ v, vs[i]? = some v ∧ RD K M v d
  | _, _, i, _, .nil, e => by simp at e
  | _, _, 0, _, .cons a _, e => by simp at e; subst e; exact ⟨_, rfl, a⟩
  | _, _, i + 1, d, .cons _ b, e => by
    obtain ⟨v, h1, h2⟩ := RDs.get (i := i) (d := d) b (by simpa using e)
    exact ⟨v, by simpa using h1, h2⟩
theorem RDs.get_none {K : PySem.W.Frag} {M : Hp} {vs : List V} {ds : List PyData} {i : Nat} (r : RDs K M vs ds) (e : ds[i]? = none) : vs[i]? = none := by
  have := r.length
  rw [List.getElem?_eq_none_iff] at e ⊢
  omega

/-- a value of the reading: M what no one changes, μ where the cells stand -/
inductive RW (K : PySem.W.Frag) (M : Hp) (μ : List Addr) : V → W → Prop
  | dat {v : V} {d : PyData} : RD K M v d → RW K M μ v (.dat d)
  | loc {a : Addr} {n : Nat} : μ[n]? = some a → RW K M μ (.ref a) (.loc n)
  | iset {a : Addr} {ks : List Int} : M a = some (.set (fun i => decide (i ∈ ks)) ks.length) → ks.Nodup → RW K M μ (.ref a) (.iset ks)
  | frz {a : Addr} {xs : List V} {ds : List PyData} : SqL K M a xs → ds.length ≤ sizeLine → RDs K M xs ds → RW K M μ (.ref a) (.frz ds)
  | ty (n : String) : RW K M μ (.ty n) (.ty n)
  | tys {a : Addr} {ns : List String} : M a = some (.tup (ns.map V.ty)) → RW K M μ (.ref a) (.tys ns)
abbrev RWs (K : PySem.W.Frag) (M : Hp) (μ : List Addr) : List V → List W → Prop := Paired (RW K M μ)
theorem RW.mono {K : PySem.W.Frag} {M M' : Hp} {μ μ' : List Addr} (s : Same M M') (p : μ <+: μ') {v : V} {w : W} (r : RW K M μ v w) : RW K M' μ' v w := by
  cases r with
  | dat h => exact .dat (h.mono s)
  | loc h => exact .loc (by obtain ⟨t, rfl⟩ := p; rw [List.getElem?_append_left (by have := List.getElem?_eq_some_iff.mp h; exact this.1)]; exact h)
  | iset h n => exact .iset (s _ _ h) n
  | frz h z r => exact .frz (Same.sqL s h) z (r.mono s)
  | ty n => exact .ty n
  | tys h => exact .tys (s _ _ h)
theorem RWs.mono {K : PySem.W.Frag} {M M' : Hp} {μ μ' : List Addr} (s : Same M M') (p : μ <+: μ') {v : List V} {w : List W} (r : RWs K M μ v w) : RWs K M' μ' v w := Paired.mapP r fun _ _ q => q.mono s p
inductive COk (K : PySem.W.Frag) (M : Hp) (μ : List Addr) (H : Hp) (a : Addr) : Cell → Prop
  | list {vs : List V} {ws : List W} : H a = some (.lst vs) → ws.length ≤ sizeLine → RWs K M μ vs ws → COk K M μ H a (.list ws)
  | dict {vs : List (Key × V)} {ws : List (Key × W)} : H a = some (.dK vs) → ws.length ≤ sizeLine → Paired (fun (p : Key × V) (q : Key × W) => p.1 = q.1 ∧ RW K M μ p.2 q.2) vs ws → COk K M μ H a (.dict ws)
  | froz {o : Obj} {vs : List (Key × V)} {ws : List (Key × W)} : H a = some (.frz o (.dK vs)) → ws.length ≤ sizeLine → Paired (fun (p : Key × V) (q : Key × W) => p.1 = q.1 ∧ RW K M μ p.2 q.2) vs ws → COk K M μ H a (.froz ws)
theorem COk.mono {K : PySem.W.Frag} {M M' : Hp} {μ μ' : List Addr} {H H' : Hp} {a : Addr} (s : Same M M') (p : μ <+: μ') (e : H' a = H a) {c : Cell} (r : COk K M μ H a c) : COk K M' μ' H' a c := by
  cases r with
  | list h z r => exact .list (e.trans h) z (RWs.mono s p r)
  | dict h z r => exact .dict (e.trans h) z (Paired.mapP r fun _ _ q => ⟨q.1, q.2.mono s p⟩)
  | froz h z r => exact .froz (e.trans h) z (Paired.mapP r fun _ _ q => ⟨q.1, q.2.mono s p⟩)
theorem COk.some {K : PySem.W.Frag} {M : Hp} {μ : List Addr} {H : Hp} {a : Addr} {c : Cell} (r : COk K M μ H a c) : H a ≠ none := by
  cases r with
  | list h _ _ => rw [h]; simp
  | dict h _ _ => rw [h]; simp
  | froz h _ _ => rw [h]; simp

/-- the heap's state: cells at μ, what others may change at hid -/
structure Sd (K : PySem.W.Frag) (H : Hp) (st : Store) (μ hid : List Addr) : Prop where
  len : μ.length = st.length
  cell : ∀ (n : Nat) (c : Cell) (a : Addr), st[n]? = some c → μ[n]? = some a → COk K (mask H (μ ++ hid)) μ H a c
  hds : ∀ a ∈ hid, H a ≠ none
  nd : (μ ++ hid).Nodup
theorem Sd.there {K : PySem.W.Frag} {H : Hp} {st : Store} {μ hid : List Addr} (s : Sd K H st μ hid) : ∀ a ∈ μ ++ hid, H a ≠ none := fun a h => by
  rcases List.mem_append.mp h with h | h
  · obtain ⟨n, hn, e⟩ := List.getElem_of_mem h
    have h1 : n < st.length := by have := s.len; omega
    exact (s.cell n st[n] a (List.getElem?_eq_getElem h1) (by rw [List.getElem?_eq_getElem hn, e])).some
  · exact s.hds a h
/-- from one heap to a later one -/
structure Nx (H : Hp) (μ : List Addr) (H' : Hp) (μ' hid : List Addr) : Prop where
  same : Same (mask H (μ ++ hid)) (mask H' (μ' ++ hid))
  pre : μ <+: μ'
  keep : ∀ a ∈ hid, H' a = H a
  frz : ∀ a o u, H a = some (.frz o u) → H' a = some (.frz o u)
theorem Nx.refl {H : Hp} {μ hid : List Addr} : Nx H μ H μ hid := ⟨fun _ _ e => e, List.prefix_refl _, fun _ _ => rfl, fun _ _ _ e => e⟩
theorem Nx.trans {H H1 H2 : Hp} {μ μ1 μ2 hid : List Addr} (a : Nx H μ H1 μ1 hid) (b : Nx H1 μ1 H2 μ2 hid) : Nx H μ H2 μ2 hid :=
  ⟨fun x o e => b.same x o (a.same x o e), a.pre.trans b.pre, fun x h => (b.keep x h).trans (a.keep x h), fun x o u e => b.frz x o u (a.frz x o u e)⟩
/-- a new object that no one changes -/
theorem frz_put {H : Hp} {p : Addr} {o : HO} (h : ∀ o' u, H p ≠ some (.frz o' u)) : ∀ a o' u, H a = some (.frz o' u) → (upd H p o) a = some (.frz o' u) := fun a o' u e => by
  rw [upd_ne (fun z => by subst z; exact h _ _ e)]; exact e
theorem frz_new {H : Hp} {p : Addr} {o : HO} (h : H p = none) : ∀ a o' u, H a = some (.frz o' u) → (upd H p o) a = some (.frz o' u) := frz_put fun o' u e => by rw [h] at e; cases e
theorem nfL {H : Hp} {a : Addr} {vs : List V} (h : H a = some (.lst vs)) : ∀ o' u, H a ≠ some (.frz o' u) := fun o' u e => by rw [h] at e; cases e
theorem nfD {H : Hp} {a : Addr} {vs : List (Key × V)} (h : H a = some (.dK vs)) : ∀ o' u, H a ≠ some (.frz o' u) := fun o' u e => by rw [h] at e; cases e
theorem Nx.new {K : PySem.W.Frag} {H : Hp} {st : Store} {μ hid : List Addr} (s : Sd K H st μ hid) {p : Addr} {o : HO} (h : H p = none) : Nx H μ (upd H p o) μ hid := by
  have hp : p ∉ μ ++ hid := fun q => s.there p q h
  refine ⟨fun b u e => ?_, List.prefix_refl _, fun a ha => upd_ne fun e => hp (e ▸ List.mem_append_right _ ha), frz_new h⟩
  rw [mask_upd_out hp]
  have : b ≠ p := fun z => by subst z; rw [mask_none h] at e; cases e
  rw [upd_ne this]; exact e
theorem Sd.new {K : PySem.W.Frag} {H : Hp} {st : Store} {μ hid : List Addr} (s : Sd K H st μ hid) {p : Addr} {o : HO} (h : H p = none) : Sd K (upd H p o) st μ hid where
  len := s.len
  cell := fun n c a h1 h2 => (s.cell n c a h1 h2).mono (Nx.new s h).same (List.prefix_refl _) (upd_ne fun (e : a = p) => s.there a (List.mem_append_left _ (List.mem_of_getElem? h2)) (by rw [e]; exact h))
  hds := fun a ha => by
    by_cases e : a = p
    · subst e; rw [upd_same]; simp
    · rw [upd_ne e]; exact s.hds a ha
  nd := s.nd
theorem mask_new_at {K : PySem.W.Frag} {H : Hp} {st : Store} {μ hid : List Addr} (s : Sd K H st μ hid) {p : Addr} {o : HO} (h : H p = none) : mask (upd H p o) (μ ++ hid) p = some o :=
  mask_some.mpr ⟨fun q => s.there p q h, upd_same⟩
/-- a new cell -/
theorem mask_cons_new {H : Hp} {μ hid : List Addr} {p : Addr} {o : HO} (h : H p = none) (hs : ∀ b ∈ μ ++ hid, H b ≠ none) : mask (upd H p o) ((μ ++ [p]) ++ hid) = mask H (μ ++ hid) := by
  have e := mask_upd_new (o := o) h hs
  rw [← e]
  funext b
  unfold mask
  simp only [List.mem_append, List.mem_singleton]
  by_cases h1 : b ∈ μ <;> by_cases h2 : b ∈ hid <;> by_cases h3 : b = p <;> simp [h1, h2, h3]
theorem Nx.cell {K : PySem.W.Frag} {H : Hp} {st : Store} {μ hid : List Addr} (s : Sd K H st μ hid) {p : Addr} {o : HO} (h : H p = none) : Nx H μ (upd H p o) (μ ++ [p]) hid := by
  have hp : p ∉ μ ++ hid := fun q => s.there p q h
  refine ⟨fun b u e => ?_, List.prefix_append _ _, fun a ha => upd_ne fun e => hp (e ▸ List.mem_append_right _ ha), frz_new h⟩
  rw [mask_cons_new h s.there]; exact e
theorem Sd.newCell {K : PySem.W.Frag} {H : Hp} {st : Store} {μ hid : List Addr} (s : Sd K H st μ hid) {p : Addr} {o : HO} {c : Cell} (h : H p = none)
    (hc : COk K (mask H (μ ++ hid)) (μ ++ [p]) (upd H p o) p c) : Sd K (upd H p o) (st ++ [c]) (μ ++ [p]) hid where
  len := by simp [s.len]
  cell := fun n c' a h1 h2 => by
    rw [mask_cons_new h s.there]
    by_cases hn : n < st.length
    · rw [List.getElem?_append_left hn] at h1
      rw [List.getElem?_append_left (by rw [s.len]; exact hn)] at h2
      exact (s.cell n c' a h1 h2).mono (fun _ _ e => e) (List.prefix_append _ _) (upd_ne fun (e : a = p) => s.there a (List.mem_append_left _ (List.mem_of_getElem? h2)) (by rw [e]; exact h))
    · have hn' : n = st.length := by
        have := (List.getElem?_eq_some_iff.mp h1).1
        rw [List.length_append, List.length_singleton] at this
        omega
      subst hn'
      rw [List.getElem?_append_right (Nat.le_refl _), Nat.sub_self] at h1
      rw [List.getElem?_append_right (by rw [s.len]; exact Nat.le_refl _), s.len, Nat.sub_self] at h2
      simp at h1 h2
      subst h1 h2
      exact hc
  hds := fun a ha => by
    by_cases e : a = p
    · subst e; rw [upd_same]; simp
    · rw [upd_ne e]; exact s.hds a ha
  nd := by
    have hp : p ∉ μ ++ hid := fun q => s.there p q h
    have nd := s.nd
    rw [List.append_assoc, List.nodup_append]
    rw [List.nodup_append] at nd
    refine ⟨nd.1, ?_, fun a ha b hb e => ?_⟩
    · rw [List.singleton_append, List.nodup_cons]
      exact ⟨fun q => hp (List.mem_append_right _ q), nd.2.1⟩
    · subst e
      rw [List.singleton_append, List.mem_cons] at hb
      rcases hb with e | hb
      · subst e; exact hp (List.mem_append_left _ ha)
      · exact nd.2.2 a ha a hb rfl
/-- a cell is changed -/
theorem Nx.put {H : Hp} {μ hid : List Addr} {n : Nat} {a : Addr} {o : HO} (ha : μ[n]? = some a) (nd : (μ ++ hid).Nodup) (hf : ∀ o' u, H a ≠ some (.frz o' u)) : Nx H μ (upd H a o) μ hid := by
  have hm : a ∈ μ := List.mem_of_getElem? ha
  refine ⟨fun b u e => ?_, List.prefix_refl _, fun b hb => upd_ne fun e => ?_, frz_put hf⟩
  · rw [mask_upd_in (List.mem_append_left _ hm)]; exact e
  · subst e; rw [List.nodup_append] at nd; exact nd.2.2 b hm b hb rfl
theorem Sd.put {K : PySem.W.Frag} {H : Hp} {st : Store} {μ hid : List Addr} (s : Sd K H st μ hid) {n : Nat} {a : Addr} {o : HO} {c : Cell} (ha : μ[n]? = some a)
    (hc : COk K (mask H (μ ++ hid)) μ (upd H a o) a c) : Sd K (upd H a o) (st.set n c) μ hid where
  len := by rw [List.length_set]; exact s.len
  cell := fun m c' b h1 h2 => by
    have hm : a ∈ μ := List.mem_of_getElem? ha
    rw [mask_upd_in (List.mem_append_left _ hm)]
    by_cases e : m = n
    · subst e
      rw [ha] at h2; cases h2
      have hl : m < st.length := by have := (List.getElem?_eq_some_iff.mp ha).1; rw [s.len] at this; exact this
      rw [List.getElem?_set_self hl] at h1; cases h1
      exact hc
    · rw [List.getElem?_set_ne (Ne.symm e)] at h1
      refine (s.cell m c' b h1 h2).mono (fun _ _ e => e) (List.prefix_refl _) (upd_ne fun z => ?_)
      subst z
      have nd := s.nd
      rw [List.nodup_append] at nd
      obtain ⟨l1, e1⟩ := List.getElem?_eq_some_iff.mp h2
      obtain ⟨l2, e2⟩ := List.getElem?_eq_some_iff.mp ha
      exact e ((List.getElem_inj nd.1).mp (e1.trans e2.symm))
  hds := fun b hb => by
    by_cases e : b = a
    · subst e; rw [upd_same]; simp
    · rw [upd_ne e]; exact s.hds b hb
  nd := s.nd

/-- the frame's names -/
def RE (K : PySem.W.Frag) (M : Hp) (μ : List Addr) (σ : L2.St) (env : E3) : Prop :=
  σ.length = env.length ∧ ∀ (i : Nat) (w : W), env[i]? = some (some w) → ∃ v, σ[i]? = some (some v) ∧ RW K M μ v w
theorem RE.mono {K : PySem.W.Frag} {M M' : Hp} {μ μ' : List Addr} {σ : L2.St} {env : E3} (s : Same M M') (p : μ <+: μ') (r : RE K M μ σ env) : RE K M' μ' σ env :=
  ⟨r.1, fun i w e => let ⟨v, h1, h2⟩ := r.2 i w e; ⟨v, h1, h2.mono s p⟩⟩
theorem RE.set {K : PySem.W.Frag} {M : Hp} {μ : List Addr} {σ : L2.St} {env : E3} {i : Nat} {v : V} {w : W} (r : RE K M μ σ env) (q : RW K M μ v w) : RE K M μ (σ.set i (some v)) (env.set i (some w)) := by
  refine ⟨by rw [List.length_set, List.length_set]; exact r.1, fun j u e => ?_⟩
  by_cases h : i = j
  · subst h
    by_cases hl : i < env.length
    · rw [List.getElem?_set_self hl] at e
      have e' := Option.some.inj (Option.some.inj e)
      subst e'
      exact ⟨v, List.getElem?_set_self (by rw [r.1]; exact hl), q⟩
    · rw [List.getElem?_eq_none (by rw [List.length_set]; omega)] at e; cases e
  · rw [List.getElem?_set_ne h] at e
    obtain ⟨u', h1, h2⟩ := r.2 j u e
    exact ⟨u', by rw [List.getElem?_set_ne h]; exact h1, h2⟩
structure Wd (K : PySem.W.Frag) (σ : L2.St) (H : Hp) (env : E3) (st : Store) (μ hid : List Addr) : Prop where
  ev : RE K (mask H (μ ++ hid)) μ σ env
  sd : Sd K H st μ hid
theorem Wd.next {K : PySem.W.Frag} {σ : L2.St} {H H' : Hp} {env : E3} {st st' : Store} {μ μ' hid : List Addr} (w : Wd K σ H env st μ hid) (n : Nx H μ H' μ' hid) (s : Sd K H' st' μ' hid) : Wd K σ H' env st' μ' hid :=
  ⟨w.ev.mono n.same n.pre, s⟩

abbrev Ev := E3 → Store → Option (W × Store)
/-- an expression's reading -/
def TX (K : PySem.W.Frag) (f : Ev) : TE := fun σ H Q => ∃ env st μ hid w st', Wd K σ H env st μ hid ∧ f env st = some (w, st') ∧
  ∀ v H' μ', Nx H μ H' μ' hid → Sd K H' st' μ' hid → RW K (mask H' (μ' ++ hid)) μ' v w → Q v H'
theorem TX.go {K : PySem.W.Frag} {f : Ev} {σ : L2.St} {H : Hp} {env : E3} {st st' : Store} {μ hid : List Addr} {w : W} {Q : VK} (W0 : Wd K σ H env st μ hid) (e : f env st = some (w, st'))
    (k : ∀ v H' μ', Nx H μ H' μ' hid → Wd K σ H' env st' μ' hid → RW K (mask H' (μ' ++ hid)) μ' v w → Q v H') : TX K f σ H Q :=
  ⟨env, st, μ, hid, w, st', W0, e, fun v H' μ' n s r => k v H' μ' n (W0.next n s) r⟩
end L3
set_option Elab.async false
set_option linter.all false
set_option maxRecDepth 100000
set_option maxHeartbeats 4000000
set_option autoImplicit false
/-! L3: expressions. -/
namespace L3
open PySem PySem.Spec PyProof.Rows L2

def Out (K : PySem.W.Frag) (H : Hp) (μ hid : List Addr) (w : W) (st' : Store) (Q : VK) : Prop :=
  ∀ v H' μ', Nx H μ H' μ' hid → Sd K H' st' μ' hid → RW K (mask H' (μ' ++ hid)) μ' v w → Q v H'
theorem Out.here {K : PySem.W.Frag} {H : Hp} {μ hid : List Addr} {w : W} {st : Store} {Q : VK} (o : Out K H μ hid w st Q) (s : Sd K H st μ hid) {v : V} (r : RW K (mask H (μ ++ hid)) μ v w) : Q v H := o v H μ Nx.refl s r
theorem Out.new {K : PySem.W.Frag} {H : Hp} {μ hid : List Addr} {w : W} {st : Store} {Q : VK} (o : Out K H μ hid w st Q) (s : Sd K H st μ hid) {p : Addr} {u : HO} (h : H p = none)
    (r : RW K (mask (upd H p u) (μ ++ hid)) μ (.ref p) w) : Q (.ref p) (upd H p u) := o _ _ μ (Nx.new s h) (s.new h) r
abbrev Op2 := W → W → Store → Option (W × Store)
abbrev OpN := List W → Store → Option (W × Store)
def T2 (K : PySem.W.Frag) (op : Op2) : R2 := fun x y H Q => ∃ st μ hid wx wy w st', Sd K H st μ hid ∧ RW K (mask H (μ ++ hid)) μ x wx ∧ RW K (mask H (μ ++ hid)) μ y wy ∧ op wx wy st = some (w, st') ∧ Out K H μ hid w st' Q
def T1 (K : PySem.W.Frag) (op : W → Store → Option (W × Store)) : V → Hp → VK → Prop := fun x H Q => ∃ st μ hid wx w st', Sd K H st μ hid ∧ RW K (mask H (μ ++ hid)) μ x wx ∧ op wx st = some (w, st') ∧ Out K H μ hid w st' Q
def TN (K : PySem.W.Frag) (op : OpN) : List V → Hp → VK → Prop := fun xs H Q => ∃ st μ hid ws w st', Sd K H st μ hid ∧ RWs K (mask H (μ ++ hid)) μ xs ws ∧ op ws st = some (w, st') ∧ Out K H μ hid w st' Q

theorem PE.imp {X : Cx} {e : Expr} {t t' : TE} (h : PE X e t) (k : ∀ σ H Q, t' σ H Q → t σ H Q) : PE X e t' := ⟨fun pins s σ H Q I q => h.run pins s σ H Q I (k _ _ _ q)⟩
theorem PT.imp {X : Cx} {e : Expr} {t t' : TT} (h : PT X e t) (k : ∀ σ H Q, t' σ H Q → t σ H Q) : PT X e t' := ⟨fun pins s σ H Q I q => h.run pins s σ H Q I (k _ _ _ q)⟩
theorem PW.imp {X : Cx} {e : Expr} {t t' : TT} (h : PW X e t) (k : ∀ σ H Q, t' σ H Q → t σ H Q) : PW X e t' := ⟨fun wh pins s σ H Q I q => h.run wh pins s σ H Q I (k _ _ _ q)⟩
theorem PA.imp {X : Cx} {e : List Expr} {t t' : TA} (h : PA X e t) (k : ∀ σ H Q, t' σ H Q → t σ H Q) : PA X e t' := ⟨fun pos pins s σ H Q I q => h.run pos pins s σ H Q I (k _ _ _ q)⟩
theorem PS.imp {X : Cx} {e : Stmt} {t t' : TS} (h : PS X e t) (k : ∀ D σ H, t' D σ H → t D σ H) : PS X e t' := ⟨fun pins s σ H Q I q => h.run pins s σ H Q I (k _ _ _ q)⟩
theorem PSs.imp {X : Cx} {e : List Stmt} {t t' : TS} (h : PSs X e t) (k : ∀ D σ H, t' D σ H → t D σ H) : PSs X e t' := ⟨fun pins s σ H Q I q => h.run pins s σ H Q I (k _ _ _ q)⟩

/-! ### names, constants -/
def bDat (d : PyData) : Ev := fun _ st => some (.dat d, st)
def bVar (i : Nat) : Ev := fun env st => match env[i]? with
  | some (some w) => some (w, st)
  | _ => none
def bTy (n : String) : Ev := fun _ st => some (.ty n, st)
section
variable {X : Cx} {a b c : Expr} {pos : Pos} {f g : Ev}
theorem x_var {i : Nat} {x : Str} (hN : X.N[i]? = some x) (hv : Vis X.env.scope x) (hd : (x == ("__debug__" : Str)) = false := by decide) (hcd : (x == ("__classdict__" : Str)) = false := by decide) : PE X (.Name x pos) (TX X.K (bVar i)) := by
  refine PE.imp (pe_var hN hv hd hcd) fun σ H Q ⟨env, st, μ, hid, w, st', W0, e, q⟩ => ?_
  unfold bVar at e
  split at e
  · rename_i w' he
    cases e
    obtain ⟨v, h1, h2⟩ := W0.ev.2 i w he
    exact ⟨v, h1, q v H μ Nx.refl W0.sd h2⟩
  · cases e
theorem x_dat {v : V} {d : PyData} (h : PE X a (tC v)) (r : ∀ M, RD X.K M v d) : PE X a (TX X.K (bDat d)) :=
  PE.imp h fun σ H Q ⟨env, st, μ, hid, w, st', W0, e, q⟩ => by cases e; exact q v H μ Nx.refl W0.sd (.dat (r _))
theorem x_int {i : Int} {j : Nat} : PE X (.Constant (.int i) j pos) (TX X.K (bDat (.int i))) := x_dat pe_int fun _ => .int i
theorem x_bl {i : Bool} {j : Nat} : PE X (.Constant (.bool i) j pos) (TX X.K (bDat (.bool i))) := x_dat pe_bl fun _ => .bl i
theorem x_non {j : Nat} : PE X (.Constant .none j pos) (TX X.K (bDat .none)) := x_dat pe_non fun _ => .non
theorem x_str {i : Str} {j : Nat} : PE X (.Constant (.str i) j pos) (TX X.K (bDat (.str i))) := x_dat pe_str fun _ => .str i
theorem x_globI {x : Str} {i : Int} {t : Tok} (hg : Gl X x) (hm : X.mg x = some (.int i t)) (hd : (x == ("__debug__" : Str)) = false := by decide) : PE X (.Name x pos) (TX X.K (bDat (.int i))) := x_dat (pe_glob (v := .int i) hg hm ⟨_, rfl⟩ hd) fun _ => .int i
theorem x_globS {x : Str} {i : Str} {t : Tok} (hg : Gl X x) (hm : X.mg x = some (.str i t)) (hd : (x == ("__debug__" : Str)) = false := by decide) : PE X (.Name x pos) (TX X.K (bDat (.str i))) := x_dat (pe_glob (v := .str i) hg hm ⟨_, rfl⟩ hd) fun _ => .str i
theorem x_ty {x : Str} {n : String} (hg : Gl X x) (hm : X.mg x = none) (hv : bootBuiltins x = some (.type n)) (hn : x ≠ "__name__" := by decide) (hd : (x == ("__debug__" : Str)) = false := by decide) : PE X (.Name x pos) (TX X.K (bTy n)) :=
  PE.imp (pe_bltn (v := .ty n) hg hm hv rfl hn hd) fun σ H Q ⟨env, st, μ, hid, w, st', W0, e, q⟩ => by cases e; exact q _ H μ Nx.refl W0.sd (.ty n)

/-! ### two places -/
def b2 (o : Op2) (f g : Ev) : Ev := fun env st => (f env st).bind fun r => (g env r.2).bind fun t => o r.1 t.1 t.2
theorem TX.two {o : Op2} {K : PySem.W.Frag} {σ : L2.St} {H : Hp} {Q : VK} (h : TX K (b2 o f g) σ H Q) : tOp (T2 K o) (TX K f) (TX K g) σ H Q := by
  obtain ⟨env, st, μ, hid, w, st', W0, e, q⟩ := h
  unfold b2 at e
  cases hf : f env st with
  | none => rw [hf] at e; cases e
  | some r =>
    obtain ⟨x, s1⟩ := r
    rw [hf] at e
    simp only [Option.bind_some] at e
    cases hg : g env s1 with
    | none => rw [hg] at e; cases e
    | some t =>
      obtain ⟨y, s2⟩ := t
      rw [hg] at e
      exact TX.go W0 hf fun vx H1 μ1 n1 W1 rx => TX.go W1 hg fun vy H2 μ2 n2 W2 ry => ⟨s2, μ2, hid, x, y, w, st', W2.sd, rx.mono n2.same n2.pre, ry, e, fun v H' μ' n s r => q v H' μ' ((n1.trans n2).trans n) s r⟩
theorem x_bin {op : Operator} {o : Op2} (ho : OpR X (binaryOp op) (T2 X.K o)) (ha : PE X a (TX X.K f)) (hb : PE X b (TX X.K g)) : PE X (.BinOp a op b pos) (TX X.K (b2 o f g)) :=
  PE.imp (pe_op ho ha hb) fun σ H Q h => TX.two h
theorem x_cmp {op : CmpOp} {o : Op2} (ho : OpR X (compareOp op) (T2 X.K o)) (ha : PE X a (TX X.K f)) (hb : PE X b (TX X.K g)) (hm : behindInMarks op b = false) : PE X (.Compare a [op] [b] pos) (TX X.K (b2 o f g)) :=
  PE.imp (pe_cmpR ho ha hb hm) fun σ H Q h => TX.two h
theorem x_ix {o : Op2} (ho : IxR X (T2 X.K o)) (ha : PE X a (TX X.K f)) (hb : PE X b (TX X.K g)) (hs : PlainIx b) : PE X (.Subscript a b pos) (TX X.K (b2 o f g)) :=
  PE.imp (pe_ix ho ha hb hs) fun σ H Q h => TX.two h
def b1 (o : W → Store → Option (W × Store)) (f : Ev) : Ev := fun env st => (f env st).bind fun r => o r.1 r.2
theorem TX.one {o : W → Store → Option (W × Store)} {K : PySem.W.Frag} {σ : L2.St} {H : Hp} {Q : VK} (h : TX K (b1 o f) σ H Q) : TX K f σ H fun x H1 => T1 K o x H1 Q := by
  obtain ⟨env, st, μ, hid, w, st', W0, e, q⟩ := h
  unfold b1 at e
  cases hf : f env st with
  | none => rw [hf] at e; cases e
  | some r =>
    obtain ⟨x, s1⟩ := r
    rw [hf] at e
    exact TX.go W0 hf fun vx H1 μ1 n1 W1 rx => ⟨s1, μ1, hid, x, w, st', W1.sd, rx, e, fun v H' μ' n s r => q v H' μ' (n1.trans n) s r⟩
theorem x_un {op : UnaryOp} {o : W → Store → Option (W × Store)} (ho : UnR X (unaryOp op) (T1 X.K o)) (ha : PE X a (TX X.K f)) : PE X (.UnaryOp op a pos) (TX X.K (b1 o f)) :=
  PE.imp (pe_un ho ha) fun σ H Q h => TX.one h

/-! ### arguments -/
abbrev Ea := E3 → Store → Option (List W × Store)
def TAx (K : PySem.W.Frag) (f : Ea) : TA := fun σ H Q => ∃ env st μ hid ws st', Wd K σ H env st μ hid ∧ f env st = some (ws, st') ∧
  ∀ vs H' μ', Nx H μ H' μ' hid → Sd K H' st' μ' hid → RWs K (mask H' (μ' ++ hid)) μ' vs ws → Q vs H'
def aNil : Ea := fun _ st => some ([], st)
def aCons (f : Ev) (g : Ea) : Ea := fun env st => (f env st).bind fun r => (g env r.2).bind fun t => some (r.1 :: t.1, t.2)
theorem xa_nil : PA X [] (TAx X.K aNil) := PA.imp pa_nil fun σ H Q ⟨env, st, μ, hid, w, st', W0, e, q⟩ => by cases e; exact q [] H μ Nx.refl W0.sd .nil
theorem TAx.go {K : PySem.W.Frag} {f : Ea} {σ : L2.St} {H : Hp} {env : E3} {st st' : Store} {μ hid : List Addr} {w : List W} {Q : List V → Hp → Prop} (W0 : Wd K σ H env st μ hid) (e : f env st = some (w, st'))
    (k : ∀ v H' μ', Nx H μ H' μ' hid → Wd K σ H' env st' μ' hid → RWs K (mask H' (μ' ++ hid)) μ' v w → Q v H') : TAx K f σ H Q :=
  ⟨env, st, μ, hid, w, st', W0, e, fun v H' μ' n s r => k v H' μ' n (W0.next n s) r⟩
theorem xa_cons {es : List Expr} {t : Ea} (ha : PE X a (TX X.K f)) (hr : PA X es (TAx X.K t)) (hs : starEach (a :: es) X.env = (false, eval a X.env) :: starEach es X.env := by rfl) : PA X (a :: es) (TAx X.K (aCons f t)) := by
  refine PA.imp (pa_cons ha hr hs) fun σ H Q ⟨env, st, μ, hid, ws, st', W0, e, q⟩ => ?_
  unfold aCons at e
  cases hf : f env st with
  | none => rw [hf] at e; cases e
  | some r =>
    obtain ⟨x, s1⟩ := r
    rw [hf] at e
    simp only [Option.bind_some] at e
    cases hg : t env s1 with
    | none => rw [hg] at e; cases e
    | some u =>
      obtain ⟨y, s2⟩ := u
      rw [hg] at e
      cases e
      exact TX.go W0 hf fun vx H1 μ1 n1 W1 rx => TAx.go W1 hg fun vy H2 μ2 n2 W2 ry => q _ _ μ2 (n1.trans n2) W2.sd (.cons (rx.mono n2.same n2.pre) ry)
def bN (o : OpN) (f : Ea) : Ev := fun env st => (f env st).bind fun r => o r.1 r.2
theorem TX.args {o : OpN} {f : Ea} {K : PySem.W.Frag} {σ : L2.St} {H : Hp} {Q : VK} (h : TX K (bN o f) σ H Q) : tCB (TN K o) (TAx K f) σ H Q := by
  obtain ⟨env, st, μ, hid, w, st', W0, e, q⟩ := h
  unfold bN at e
  cases hf : f env st with
  | none => rw [hf] at e; cases e
  | some r =>
    obtain ⟨x, s1⟩ := r
    rw [hf] at e
    exact TAx.go W0 hf fun vx H1 μ1 n1 W1 rx => ⟨s1, μ1, hid, x, w, st', W1.sd, rx, e, fun v H' μ' n s r => q v H' μ' (n1.trans n) s r⟩
theorem x_callB {es : List Expr} {o : OpN} {t : Ea} {id : String} {x : Str} {p : Pos} (hc : CallR X (.builtin id) (TN X.K o)) (hg : Gl X x) (hm : X.mg x = none) (hv : bootBuiltins x = some (.builtin id)) (ha : PA X (a :: es) (TAx X.K t)) (hn : x ≠ "__name__" := by decide) (hdb : (x == ("__debug__" : Str)) = false := by decide)
    (he : starEach (a :: es) X.env = (false, eval a X.env) :: starEach es X.env := by rfl) (hpl : (backTo pos (starEach es X.env)).any (·.1) = false := by rfl) : PE X (.Call (.Name x p) (a :: es) [] pos) (TX X.K (bN o t)) :=
  PE.imp (pe_callB hc hg hm hv ha hn hdb he hpl) fun σ H Q h => TX.args h
theorem x_callTy {es : List Expr} {o : OpN} {t : Ea} {T : String} {x : Str} {p : Pos} (hc : CallR X (.type T) (TN X.K o)) (hg : Gl X x) (hm : X.mg x = none) (hv : bootBuiltins x = some (.type T)) (ha : PA X (a :: es) (TAx X.K t)) (hn : x ≠ "__name__" := by decide) (hdb : (x == ("__debug__" : Str)) = false := by decide)
    (he : starEach (a :: es) X.env = (false, eval a X.env) :: starEach es X.env := by rfl) (hpl : (backTo pos (starEach es X.env)).any (·.1) = false := by rfl) : PE X (.Call (.Name x p) (a :: es) [] pos) (TX X.K (bN o t)) :=
  PE.imp (pe_callTy hc hg hm hv ha hn hdb he hpl) fun σ H Q h => TX.args h

/-! ### displays -/
def datOf : W → Option PyData
  | .dat d => some d
  | _ => none
def tyOf : W → Option String
  | .ty d => some d
  | _ => none
def opTup : OpN := fun ws st => match ws.mapM datOf with
  | some ds => if ds.length ≤ sizeLine then some (.dat (.tuple ds), st) else none
  | none => match ws.mapM tyOf with
    | some ns => if ns.length ≤ 1000 then some (.tys ns, st) else none
    | none => none
def opLst : OpN := fun ws st => match ws.mapM datOf with
  | some ds => if ds.length ≤ sizeLine then some (.dat (.list ds), st) else none
  | none => none
def opLstNew : OpN := fun ws st => if ws.length ≤ sizeLine then some (.loc st.length, st ++ [.list ws]) else none
theorem RWs.dat {K : PySem.W.Frag} {M : Hp} {μ : List Addr} : ∀ {vs : List V} {ws : List W} {ds : List PyData}, RWs K M μ vs ws → ws.mapM datOf = some ds → RDs K M vs ds
  | _, _, _, .nil, e => by
    have e' : some ([] : List PyData) = some _ := e
    cases e'; exact .nil
  | _, _, _, .cons (a := v) (b := w) r t, e => by
    rw [List.mapM_cons] at e
    cases w with
    | dat d =>
      simp only [datOf, Option.bind_eq_bind, Option.bind_some] at e
      rw [Option.bind_eq_some_iff] at e
      obtain ⟨ds, h1, h2⟩ := e
      cases h2
      cases r with
      | dat h => exact .cons h (RWs.dat t h1)
    | _ => simp [datOf] at e
theorem RWs.tys {K : PySem.W.Frag} {M : Hp} {μ : List Addr} : ∀ {vs : List V} {ws : List W} {ds : List String}, RWs K M μ vs ws → ws.mapM tyOf = some ds → vs = ds.map V.ty
  | _, _, _, .nil, e => by
    have e' : some ([] : List String) = some _ := e
    cases e'; rfl
  | _, _, _, .cons (a := v) (b := w) r t, e => by
    rw [List.mapM_cons] at e
    cases w with
    | ty d =>
      simp only [tyOf, Option.bind_eq_bind, Option.bind_some] at e
      rw [Option.bind_eq_some_iff] at e
      obtain ⟨ds, h1, h2⟩ := e
      cases h2
      cases r with
      | ty h => rw [RWs.tys t h1]; rfl
    | _ => simp [tyOf] at e
theorem RD.tupNew {K : PySem.W.Frag} {H : Hp} {st : Store} {μ hid : List Addr} (s : Sd K H st μ hid) {p : Addr} (h : H p = none) {vs : List V} {ds : List PyData} (z : ds.length ≤ sizeLine) (r : RDs K (mask H (μ ++ hid)) vs ds) :
    RD K (mask (upd H p (.tup vs)) (μ ++ hid)) (.ref p) (.tuple ds) := .tup (.inl (.inl (mask_new_at s h))) z (r.mono (Nx.new s h).same)
theorem RD.lstNew {K : PySem.W.Frag} {H : Hp} {st : Store} {μ hid : List Addr} (s : Sd K H st μ hid) {p : Addr} (h : H p = none) {vs : List V} {ds : List PyData} (z : ds.length ≤ sizeLine) (r : RDs K (mask H (μ ++ hid)) vs ds) :
    RD K (mask (upd H p (.lst vs)) (μ ++ hid)) (.ref p) (.list ds) := .lst (mask_new_at s h) z (r.mono (Nx.new s h).same)
theorem x_tup {es : List Expr} {t : Ea} {k : Nat} (ha : PA X es (TAx X.K t)) (hl : es.length ≤ 1000 := by decide) : PE X (.Tuple es k pos) (TX X.K (bN opTup t)) := by
  refine PE.imp (pe_tup ha) fun σ H Q h => ?_
  obtain ⟨env, st, μ, hid, w, st', W0, e, q⟩ := h
  unfold bN at e
  cases hf : t env st with
  | none => rw [hf] at e; cases e
  | some r =>
    obtain ⟨ws, s1⟩ := r
    rw [hf] at e
    refine TAx.go W0 hf fun vs H1 μ1 n1 W1 rx => ?_
    simp only [Option.bind_some, opTup] at e
    have hz : (1000 : Nat) ≤ sizeLine := by rw [sizeLine_eq]; decide
    split at e
    · rename_i ds hd
      split at e
      · rename_i hz
        cases e
        have rd := RWs.dat rx hd
        refine ⟨by rw [rd.length]; exact hz, fun p hp => ?_⟩
        exact q _ _ μ1 (n1.trans (Nx.new W1.sd hp)) (W1.sd.new hp) (.dat (RD.tupNew W1.sd hp hz rd))
      · cases e
    · split at e
      · rename_i ns hd
        split at e
        · rename_i hz1
          cases e
          have rd := RWs.tys rx hd
          subst rd
          refine ⟨by rw [List.length_map]; omega, fun p hp => ?_⟩
          exact q _ _ μ1 (n1.trans (Nx.new W1.sd hp)) (W1.sd.new hp) (.tys (mask_new_at W1.sd hp))
        · cases e
      · cases e
theorem x_lst {es : List Expr} {t : Ea} (ha : PA X es (TAx X.K t)) : PE X (.List es pos) (TX X.K (bN opLst t)) := by
  refine PE.imp (pe_lst ha) fun σ H Q h => ?_
  obtain ⟨env, st, μ, hid, w, st', W0, e, q⟩ := h
  unfold bN at e
  cases hf : t env st with
  | none => rw [hf] at e; cases e
  | some r =>
    obtain ⟨ws, s1⟩ := r
    rw [hf] at e
    refine TAx.go W0 hf fun vs H1 μ1 n1 W1 rx => ?_
    simp only [Option.bind_some, opLst] at e
    split at e
    · rename_i ds hd
      split at e
      · rename_i hz
        cases e
        have rd := RWs.dat rx hd
        refine ⟨by rw [rd.length]; exact hz, fun p hp => ?_⟩
        exact q _ _ μ1 (n1.trans (Nx.new W1.sd hp)) (W1.sd.new hp) (.dat (RD.lstNew W1.sd hp hz rd))
      · cases e
    · cases e
theorem x_lstNew {es : List Expr} {t : Ea} (ha : PA X es (TAx X.K t)) : PE X (.List es pos) (TX X.K (bN opLstNew t)) := by
  refine PE.imp (pe_lst ha) fun σ H Q h => ?_
  obtain ⟨env, st, μ, hid, w, st', W0, e, q⟩ := h
  unfold bN at e
  cases hf : t env st with
  | none => rw [hf] at e; cases e
  | some r =>
    obtain ⟨ws, s1⟩ := r
    rw [hf] at e
    refine TAx.go W0 hf fun vs H1 μ1 n1 W1 rx => ?_
    simp only [Option.bind_some, opLstNew] at e
    split at e
    · rename_i hz
      cases e
      have rl : vs.length = ws.length := Paired.length rx
      refine ⟨by rw [rl]; exact hz, fun p hp => ?_⟩
      have hh := W1.sd.there
      refine q _ _ (μ1 ++ [p]) (n1.trans (Nx.cell W1.sd hp)) (W1.sd.newCell hp (.list upd_same hz (rx.mono (fun _ _ e => e) (List.prefix_append _ _)))) (.loc ?_)
      rw [← W1.sd.len, List.getElem?_append_right (Nat.le_refl _), Nat.sub_self]; rfl
    · cases e
end
end L3
set_option Elab.async false
set_option linter.all false
set_option maxRecDepth 100000
set_option maxHeartbeats 4000000
set_option autoImplicit false
/-! L3: operations by values. -/
namespace L3
open PySem PySem.Spec PyProof.Rows L2
section
variable {X : Cx}
theorem sz1000 {n : Nat} (h : n ≤ 1000) : n ≤ sizeLine := by have : sizeLine = 16777216 := sizeLine_eq; omega

def opAdd : Op2
  | .dat (.int i), .dat (.int j), st => some (.dat (.int (i + j)), st)
  | .dat (.str x), .dat (.str y), st => if x.length + y.length ≤ sizeLine then some (.dat (.str (x ++ y)), st) else none
  | .dat (.tuple xs), .dat (.tuple ys), st => if xs.length + ys.length ≤ sizeLine then some (.dat (.tuple (xs ++ ys)), st) else none
  | .dat (.list xs), .dat (.list ys), st => if xs.length + ys.length ≤ sizeLine then some (.dat (.list (xs ++ ys)), st) else none
  | _, _, _ => none
theorem o_add : OpR X (binaryOp .Add) (T2 X.K opAdd) := by
  intro pins s σ H x y v u Q I rx ry ⟨st, μ, hid, wx, wy, w, st', sd, hx, hy, e, q⟩
  unfold opAdd at e
  split at e
  · rename_i i j st
    cases hx with | dat hx => cases hx; cases hy with | dat hy => cases hy; cases e; exact op_add pins s σ H _ _ v u Q I rx ry ⟨_, _, rfl, rfl, q.here sd (.dat (.int _))⟩
  · rename_i i j st
    split at e
    · rename_i hz
      cases hx with | dat hx => cases hx; cases hy with | dat hy => cases hy; cases e; exact op_add_str pins s σ H _ _ v u Q I rx ry ⟨_, _, rfl, rfl, hz, q.here sd (.dat (.str _))⟩
    · cases e
  · rename_i i j st
    split at e
    · rename_i hz
      cases hx with
      | dat hx => cases hx with
        | tup ax _ rxs => cases hy with
          | dat hy => cases hy with
            | tup ay _ rys =>
              cases e
              have l1 := rxs.length
              have l2 := rys.length
              refine op_catA pins s σ H _ _ v u Q I rx ry ⟨_, _, _, _, rfl, rfl, sameT mask_le ax, sameT mask_le ay, by omega, fun ez => ?_, fun _ ez => ?_, fun _ _ p hp => ?_⟩
              · subst ez; cases rxs; exact q.here sd (.dat (.tup ay (by simpa using hz) rys))
              · subst ez; cases rys; exact q.here sd (.dat (.tup ax (by simpa using hz) (by simpa using rxs)))
              · exact q.new sd hp (.dat (RD.tupNew sd hp (by rw [List.length_append]; exact hz) (rxs.append rys)))
    · cases e
  · rename_i i j st
    split at e
    · rename_i hz
      cases hx with
      | dat hx => cases hx with
        | lst ax _ rxs => cases hy with
          | dat hy => cases hy with
            | lst ay _ rys =>
              cases e
              have l1 := rxs.length
              have l2 := rys.length
              exact op_cat pins s σ H _ _ v u Q I rx ry ⟨_, _, _, _, rfl, rfl, mask_le _ _ ax, mask_le _ _ ay, by omega, fun p hp => q.new sd hp (.dat (RD.lstNew sd hp (by rw [List.length_append]; exact hz) (rxs.append rys)))⟩
    · cases e
  · cases e

/-- ints -/
def opI (C : Int → Int → Bool) (g : Int → Int → Int) : Op2
  | .dat (.int i), .dat (.int j), st => if C i j = true then some (.dat (.int (g i j)), st) else none
  | _, _, _ => none
theorem o_I {F : Value → Value → Sem Value} {C : Int → Int → Bool} {D : Int → Int → Prop} {g : Int → Int → Int} (h : OpR X F (rI D fun i j => .int (g i j))) (hc : ∀ i j, C i j = true → D i j) : OpR X F (T2 X.K (opI C g)) := by
  intro pins s σ H x y v u Q I rx ry ⟨st, μ, hid, wx, wy, w, st', sd, hx, hy, e, q⟩
  unfold opI at e
  split at e
  · rename_i i j st
    split at e
    · rename_i hz
      cases hx with | dat hx => cases hx; cases hy with | dat hy => cases hy; cases e; exact h pins s σ H _ _ v u Q I rx ry ⟨_, _, rfl, rfl, hc _ _ hz, q.here sd (.dat (.int _))⟩
    · cases e
  · cases e
def opSub : Op2 := opI (fun _ _ => true) fun i j => i - j
theorem o_sub : OpR X (binaryOp .Sub) (T2 X.K opSub) := o_I (D := fun _ _ => True) (fun pins s σ H x y v u Q I rx ry ⟨i, j, h1, h2, _, h4⟩ => op_sub pins s σ H x y v u Q I rx ry ⟨i, j, h1, h2, h4⟩) fun _ _ _ => trivial
def bits (i : Int) : Nat := i.natAbs.log2
def opMul : Op2
  | .dat (.int i), .dat (.int j), st => if bits i + bits j < 1000000 then some (.dat (.int (i * j)), st) else none
  | _, _, _ => none
theorem o_mul : OpR X (binaryOp .Mult) (T2 X.K opMul) := by
  intro pins s σ H x y v u Q I rx ry ⟨st, μ, hid, wx, wy, w, st', sd, hx, hy, e, q⟩
  unfold opMul at e
  split at e
  · rename_i i j st
    split at e
    · rename_i hz
      cases hx with | dat hx => cases hx; cases hy with | dat hy => cases hy; cases e; exact op_mulW pins s σ H _ _ v u Q I rx ry ⟨_, _, rfl, rfl, hz, q.here sd (.dat (.int _))⟩
    · cases e
  · cases e
def opMod : Op2 := opI (fun _ j => decide (0 < j)) fun i j => i % j
theorem o_mod : OpR X (binaryOp .Mod) (T2 X.K opMod) := o_I op_mod fun _ _ h => of_decide_eq_true h
def opDiv : Op2 := opI (fun _ j => decide (0 < j) && decide (bits j < 9000)) fun i j => i / j
theorem o_div : OpR X (binaryOp .FloorDiv) (T2 X.K opDiv) := o_I op_fdivW fun i j h => by
  rw [Bool.and_eq_true] at h
  exact ⟨of_decide_eq_true h.1, of_decide_eq_true h.2⟩
def opPow : Op2 := opI (fun i j => decide (0 ≤ j) && decide (j ≤ 1000000) && decide (i.natAbs < 2 ^ 64)) fun i j => i ^ j.toNat
theorem o_pow : OpR X (binaryOp .Pow) (T2 X.K opPow) := o_I op_pow fun i j h => by
  rw [Bool.and_eq_true, Bool.and_eq_true] at h
  exact ⟨of_decide_eq_true h.1.1, of_decide_eq_true h.1.2, of_decide_eq_true h.2⟩
def opNeg : W → Store → Option (W × Store)
  | .dat (.int i), st => some (.dat (.int (-i)), st)
  | _, _ => none
theorem o_neg : UnR X (unaryOp .USub) (T1 X.K opNeg) := by
  intro pins s σ H x v Q I rx ⟨st, μ, hid, wx, w, st', sd, hx, e, q⟩
  unfold opNeg at e
  split at e
  · cases hx with | dat hx => cases hx; cases e; exact un_neg pins s σ H _ v Q I rx ⟨_, rfl, q.here sd (.dat (.int _))⟩
  · cases e

/-! ### reading whole lists -/
def dataOf (st : Store) : W → Option PyData
  | .dat d => some d
  | .frz ds => some (.list ds)
  | .loc n => match st[n]? with
    | some (.list ws) => (ws.mapM datOf).map .list
    | _ => none
  | _ => none
theorem Sd.at {K : PySem.W.Frag} {H : Hp} {st : Store} {μ hid : List Addr} (sd : Sd K H st μ hid) {n : Nat} {c : Cell} {a : Addr} (h : st[n]? = some c) (ha : μ[n]? = some a) : COk K (mask H (μ ++ hid)) μ H a c := sd.cell n c a h ha
theorem dp_of {K : PySem.W.Frag} {H : Hp} {st : Store} {μ hid : List Addr} (sd : Sd K H st μ hid) {v : V} {w : W} {d : PyData} (r : RW K (mask H (μ ++ hid)) μ v w) (e : dataOf st w = some d) : Dp K H v d := by
  cases r with
  | dat h => cases e; exact (h.mono mask_le).dp
  | frz h z r => cases e; exact .lst (Same.sqL mask_le h) (r.mono mask_le).dp
  | loc h =>
    rename_i a n
    simp only [dataOf] at e
    split at e
    · rename_i ws hw
      obtain ⟨ds, h1, rfl⟩ := Option.map_eq_some_iff.mp e
      cases sd.at hw h with
      | list h2 h3 h4 => exact .lst (SqL.of h2) ((RWs.dat h4 h1).mono mask_le).dp
    · cases e
  | _ => cases e
/-- a sequence's items -/
def seqOf (st : Store) : W → Option (List W)
  | .dat (.list ds) => some (ds.map .dat)
  | .dat (.tuple ds) => some (ds.map .dat)
  | .frz ds => some (ds.map .dat)
  | .loc n => match st[n]? with
    | some (.list ws) => some ws
    | _ => none
  | _ => none
theorem RDs.ws {K : PySem.W.Frag} {M : Hp} {μ : List Addr} : ∀ {vs : List V} {ds : List PyData}, RDs K M vs ds → RWs K M μ vs (ds.map .dat)
  | _, _, .nil => .nil
  | _, _, .cons a b => .cons (.dat a) b.ws
theorem seq_of {K : PySem.W.Frag} {H : Hp} {st : Store} {μ hid : List Addr} (sd : Sd K H st μ hid) {v : V} {w : W} {ws : List W} (r : RW K (mask H (μ ++ hid)) μ v w) (e : seqOf st w = some ws) :
    ws.length ≤ sizeLine ∧ ∃ a xs, v = .ref a ∧ (SqL K H a xs ∨ SqT K H a xs) ∧ RWs K (mask H (μ ++ hid)) μ xs ws := by
  cases r with
  | dat h => cases h with
    | lst h z r => cases e; exact ⟨by rw [List.length_map]; exact z, _, _, rfl, .inl (SqL.of (mask_le _ _ h)), r.ws⟩
    | tup h z r => cases e; exact ⟨by rw [List.length_map]; exact z, _, _, rfl, .inr (sameT mask_le h), r.ws⟩
    | _ => cases e
  | frz h z r => cases e; exact ⟨by rw [List.length_map]; exact z, _, _, rfl, .inl (Same.sqL mask_le h), r.ws⟩
  | loc h =>
    simp only [seqOf] at e
    split at e
    · rename_i ws' hw
      cases e
      cases sd.at hw h with
      | list h2 h3 h4 => exact ⟨h3, _, _, rfl, .inl (SqL.of h2), h4⟩
    · cases e
  | _ => cases e

/-! ### comparisons -/
def txts : W → W → Option Bool
  | .dat (.str a), .dat (.str b) => some (decide (a = b))
  | _, _ => none
def opEq : Op2 := fun x y st => match txts x y with
  | some b => some (.dat (.bool b), st)
  | none => match dataOf st x, dataOf st y with
    | some d, some e => if SeqAt.shaped d && SeqAt.shaped e then some (.dat (.bool (PyData.eqv d e)), st) else none
    | _, _ => none
def opNe : Op2 := fun x y st => match txts x y with
  | some b => some (.dat (.bool (!b)), st)
  | none => match dataOf st x, dataOf st y with
    | some d, some e => if SeqAt.shaped d && SeqAt.shaped e then some (.dat (.bool (!PyData.eqv d e)), st) else none
    | _, _ => none
theorem txts_some {x y : W} {b : Bool} (h : txts x y = some b) : ∃ a c, x = .dat (.str a) ∧ y = .dat (.str c) ∧ b = decide (a = c) := by
  unfold txts at h
  split at h
  · cases h; exact ⟨_, _, rfl, rfl, rfl⟩
  · cases h
theorem dec_vstr (a c : Str) : decide (V.str a = V.str c) = decide (a = c) := decide_eq_decide.mpr ⟨fun e => V.str.inj e, fun e => by rw [e]⟩
theorem o_eq (hu : X.A.units + 64 < cLine) : OpR X (compareOp .Eq) (T2 X.K opEq) := by
  intro pins s σ H x y v u Q I rx ry ⟨st, μ, hid, wx, wy, w, st', sd, hx, hy, e, q⟩
  unfold opEq at e
  split at e
  · rename_i b hb
    obtain ⟨a, c, rfl, rfl, rfl⟩ := txts_some hb
    cases e
    cases hx with | dat hx => cases hx; cases hy with | dat hy => cases hy; exact op_eq pins s σ H _ _ v u Q I rx ry ⟨rfl, by rw [dec_vstr]; exact q.here sd (.dat (.bl _))⟩
  · split at e
    · rename_i d d' h1 h2
      split at e
      · rename_i hs
        rw [Bool.and_eq_true] at hs
        cases e
        exact op_eqD hu pins s σ H x y v u Q I rx ry ⟨d, d', dp_of sd hx h1, dp_of sd hy h2, hs.1, hs.2, q.here sd (.dat (.bl _))⟩
      · cases e
    · cases e
theorem o_ne (hu : X.A.units + 64 < cLine) : OpR X (compareOp .NotEq) (T2 X.K opNe) := by
  intro pins s σ H x y v u Q I rx ry ⟨st, μ, hid, wx, wy, w, st', sd, hx, hy, e, q⟩
  unfold opNe at e
  split at e
  · rename_i b hb
    obtain ⟨a, c, rfl, rfl, rfl⟩ := txts_some hb
    cases e
    cases hx with | dat hx => cases hx; cases hy with | dat hy => cases hy; exact op_ne pins s σ H _ _ v u Q I rx ry ⟨rfl, by rw [dec_vstr]; exact q.here sd (.dat (.bl _))⟩
  · split at e
    · rename_i d d' h1 h2
      split at e
      · rename_i hs
        rw [Bool.and_eq_true] at hs
        cases e
        exact op_neD hu pins s σ H x y v u Q I rx ry ⟨d, d', dp_of sd hx h1, dp_of sd hy h2, hs.1, hs.2, q.here sd (.dat (.bl _))⟩
      · cases e
    · cases e
/-- `in` -/
def opIn (neg : Bool) : Op2 := fun x y st => match dataOf st x, dataOf st y with
  | some d, some (.list ds) => if SeqAt.shaped d && SeqAt.shaped (.list ds) then some (.dat (.bool (neg ^^ ds.any fun z => PyData.eqv z d)), st) else none
  | some d, some (.tuple ds) => if SeqAt.shaped d && SeqAt.shaped (.tuple ds) then some (.dat (.bool (neg ^^ ds.any fun z => PyData.eqv z d)), st) else none
  | _, _ => none
theorem room_tup {d : PyData} {ds : List PyData} {u : Nat} (h : SeqAt.shaped d = true) (hu : u + 65 < cLine) : u + 1 + min (PyData.depthAll ds) d.depth < cLine := by
  have h1 := SeqAt.depth_of_shaped h
  have h2 : min (PyData.depthAll ds) d.depth ≤ d.depth := Nat.min_le_right _ _
  omega
theorem o_in (hu : X.A.units + 65 < cLine) : OpR X (compareOp .In) (T2 X.K (opIn false)) := by
  intro pins s σ H x y v u Q I rx ry ⟨st, μ, hid, wx, wy, w, st', sd, hx, hy, e, q⟩
  unfold opIn at e
  split at e
  · rename_i d ds h1 h2
    split at e
    · rename_i hs
      rw [Bool.and_eq_true] at hs
      cases e
      exact op_inD hu pins s σ H x y v u Q I rx ry ⟨d, ds, dp_of sd hx h1, dp_of sd hy h2, hs.1, hs.2, by have := q.here sd (.dat (.bl _)); simpa using this⟩
    · cases e
  · rename_i d ds h1 h2
    split at e
    · rename_i hs
      rw [Bool.and_eq_true] at hs
      cases e
      obtain ⟨as, r1⟩ := Dp.reads I d x v (dp_of sd hx h1) rx
      obtain ⟨bs, r2⟩ := Dp.reads I (.tuple ds) y u (dp_of sd hy h2) ry
      exact SeqAt.in_tuple_reads r2 r1 (SeqAt.canLay_of_shaped hs.2) (SeqAt.canLay_of_shaped hs.1) (room_tup hs.1 hu) ⟨.bl _, H, I, rfl, by have := q.here sd (.dat (.bl _)); simpa using this⟩
    · cases e
  · cases e
theorem o_notIn (hu : X.A.units + 65 < cLine) : OpR X (compareOp .NotIn) (T2 X.K (opIn true)) := by
  intro pins s σ H x y v u Q I rx ry ⟨st, μ, hid, wx, wy, w, st', sd, hx, hy, e, q⟩
  unfold opIn at e
  split at e
  · rename_i d ds h1 h2
    split at e
    · rename_i hs
      rw [Bool.and_eq_true] at hs
      cases e
      exact op_notInD hu pins s σ H x y v u Q I rx ry ⟨d, ds, dp_of sd hx h1, dp_of sd hy h2, hs.1, hs.2, by have := q.here sd (.dat (.bl _)); simpa using this⟩
    · cases e
  · rename_i d ds h1 h2
    split at e
    · rename_i hs
      rw [Bool.and_eq_true] at hs
      cases e
      obtain ⟨as, r1⟩ := Dp.reads I d x v (dp_of sd hx h1) rx
      obtain ⟨bs, r2⟩ := Dp.reads I (.tuple ds) y u (dp_of sd hy h2) ry
      exact SeqAt.notIn_tuple_reads r2 r1 (SeqAt.canLay_of_shaped hs.2) (SeqAt.canLay_of_shaped hs.1) (room_tup hs.1 hu) ⟨.bl _, H, I, rfl, by have := q.here sd (.dat (.bl _)); simpa using this⟩
    · cases e
  · cases e
/-- order of ints, of tuples of ints -/
def intOf : PyData → Option Int
  | .int i => some i
  | _ => none
theorem RDs.ints {K : PySem.W.Frag} {M : Hp} : ∀ {vs : List V} {ds : List PyData} {ns : List Int}, RDs K M vs ds → ds.mapM intOf = some ns → vs = ns.map V.int
  | _, _, _, .nil, e => by
    have e' : some ([] : List Int) = some _ := e
    cases e'; rfl
  | _, _, _, .cons (v := v) (d := d) r t, e => by
    rw [List.mapM_cons] at e
    cases d with
    | int d =>
      simp only [intOf, Option.bind_eq_bind, Option.bind_some] at e
      rw [Option.bind_eq_some_iff] at e
      obtain ⟨ds, h1, h2⟩ := e
      cases h2
      cases r
      rw [RDs.ints t h1]; rfl
    | _ => simp [intOf] at e
def opLt : Op2
  | .dat (.int i), .dat (.int j), st => some (.dat (.bool (decide (i < j))), st)
  | .dat (.tuple xs), .dat (.tuple ys), st => match xs.mapM intOf, ys.mapM intOf with
    | some ns, some ms => some (.dat (.bool (HT.lexLt ns ms)), st)
    | _, _ => none
  | _, _, _ => none
theorem o_lt (hu : X.A.units < cLine) : OpR X (compareOp .Lt) (T2 X.K opLt) := by
  intro pins s σ H x y v u Q I rx ry ⟨st, μ, hid, wx, wy, w, st', sd, hx, hy, e, q⟩
  unfold opLt at e
  split at e
  · cases hx with | dat hx => cases hx; cases hy with | dat hy => cases hy; cases e; exact op_lt pins s σ H _ _ v u Q I rx ry ⟨_, _, rfl, rfl, q.here sd (.dat (.bl _))⟩
  · split at e
    · rename_i ns ms h1 h2
      cases hx with
      | dat hx => cases hx with
        | tup ax _ rxs => cases hy with
          | dat hy => cases hy with
            | tup ay _ rys =>
              cases e
              have e1 := rxs.ints h1
              have e2 := rys.ints h2
              subst e1 e2
              exact op_ltT hu pins s σ H _ _ v u Q I rx ry ⟨_, _, ns, ms, rfl, rfl, sameT mask_le ax, sameT mask_le ay, q.here sd (.dat (.bl _))⟩
    · cases e
  · cases e
def opLe : Op2
  | .dat (.int i), .dat (.int j), st => some (.dat (.bool (decide (i ≤ j))), st)
  | .dat (.tuple xs), .dat (.tuple ys), st => match xs.mapM intOf, ys.mapM intOf with
    | some ns, some ms => some (.dat (.bool (!HT.lexLt ms ns)), st)
    | _, _ => none
  | _, _, _ => none
theorem lexAt_shift (e r : Nat → Bool) (z : Bool) : ∀ (k i : Nat), Ob.lexAt e r z (i + 1) k = Ob.lexAt (fun j => e (j + 1)) (fun j => r (j + 1)) z i k
  | 0, _ => rfl
  | k + 1, i => by
    rw [Ob.lexAt_succ, Ob.lexAt_succ, lexAt_shift e r z k (i + 1)]
theorem lexAt_le : ∀ (ns ms : List Int), Ob.lexAt (fun j => decide (ns.getD j 0 = ms.getD j 0)) (fun j => decide (ns.getD j 0 ≤ ms.getD j 0)) (decide (ns.length ≤ ms.length)) 0 (min ns.length ms.length) = !HT.lexLt ms ns
  | [], [] => rfl
  | [], m :: ms => by simp [Ob.lexAt, HT.lexLt]
  | n :: ns, [] => by simp [Ob.lexAt, HT.lexLt]
  | n :: ns, m :: ms => by
    have ih := lexAt_le ns ms
    rw [show min (n :: ns).length (m :: ms).length = min ns.length ms.length + 1 by simp only [List.length_cons]; omega, Ob.lexAt_succ, lexAt_shift]
    simp only [List.getD_cons_zero, List.getD_cons_succ, List.length_cons, Nat.add_le_add_iff_right, HT.lexLt]
    by_cases h : n = m
    · subst h; simp; exact ih
    · have h' : ¬ m = n := fun z => h z.symm
      simp only [h, h', decide_false, Bool.false_eq_true, if_false]
      by_cases h2 : n ≤ m
      · have : ¬ m < n := by omega
        simp [h2, this]
      · have : m < n := by omega
        simp [h2, this]
theorem o_le (hu : X.A.units < cLine) : OpR X (compareOp .LtE) (T2 X.K opLe) := by
  intro pins s σ H x y v u Q I rx ry ⟨st, μ, hid, wx, wy, w, st', sd, hx, hy, e, q⟩
  unfold opLe at e
  split at e
  · cases hx with | dat hx => cases hx; cases hy with | dat hy => cases hy; cases e; exact op_le pins s σ H _ _ v u Q I rx ry ⟨_, _, rfl, rfl, q.here sd (.dat (.bl _))⟩
  · split at e
    · rename_i ns ms h1 h2
      cases hx with
      | dat hx => cases hx with
        | tup ax _ rxs => cases hy with
          | dat hy => cases hy with
            | tup ay _ rys =>
              cases e
              have e1 := rxs.ints h1
              have e2 := rys.ints h2
              subst e1 e2
              refine op_leT hu pins s σ H _ _ v u Q I rx ry ⟨_, _, ns, ms, rfl, rfl, sameT mask_le ax, sameT mask_le ay, ?_⟩
              rw [lexAt_le]
              exact q.here sd (.dat (.bl _))
    · cases e
  · cases e
def opGt : Op2
  | .dat (.int i), .dat (.int j), st => some (.dat (.bool (decide (j < i))), st)
  | _, _, _ => none
theorem o_gt : OpR X (compareOp .Gt) (T2 X.K opGt) := by
  intro pins s σ H x y v u Q I rx ry ⟨st, μ, hid, wx, wy, w, st', sd, hx, hy, e, q⟩
  unfold opGt at e
  split at e
  · cases hx with | dat hx => cases hx; cases hy with | dat hy => cases hy; cases e; exact op_gt pins s σ H _ _ v u Q I rx ry ⟨_, _, rfl, rfl, q.here sd (.dat (.bl _))⟩
  · cases e
def opGe : Op2
  | .dat (.int i), .dat (.int j), st => some (.dat (.bool (decide (j ≤ i))), st)
  | _, _, _ => none
theorem o_ge : OpR X (compareOp .GtE) (T2 X.K opGe) := by
  intro pins s σ H x y v u Q I rx ry ⟨st, μ, hid, wx, wy, w, st', sd, hx, hy, e, q⟩
  unfold opGe at e
  split at e
  · cases hx with | dat hx => cases hx; cases hy with | dat hy => cases hy; cases e; exact op_ge pins s σ H _ _ v u Q I rx ry ⟨_, _, rfl, rfl, q.here sd (.dat (.bl _))⟩
  · cases e
/-- is, is not: of None and of bools -/
def opIs (neg : Bool) : Op2
  | .dat (.bool a), .dat (.bool b), st => some (.dat (.bool (neg ^^ decide (a = b))), st)
  | .dat d, .dat .none, st => some (.dat (.bool (neg ^^ (match d with | .none => true | _ => false))), st)
  | .loc _, .dat .none, st => some (.dat (.bool neg), st)
  | _, _, _ => none
theorem o_is : OpR X (compareOp .Is) (T2 X.K (opIs false)) := by
  intro pins s σ H x y v u Q I rx ry ⟨st, μ, hid, wx, wy, w, st', sd, hx, hy, e, q⟩
  unfold opIs at e
  split at e
  · cases hx with | dat hx => cases hx; cases hy with | dat hy => cases hy; cases e; exact op_is_bl pins s σ H _ _ v u Q I rx ry ⟨_, _, rfl, rfl, by have := q.here sd (.dat (.bl _)); simpa using this⟩
  · cases hy with | dat hy => cases hy; cases e; refine op_isN pins s σ H _ _ v u Q I rx ry ⟨rfl, ?_⟩; (cases hx with | dat hx => cases hx <;> (have := q.here sd (.dat (.bl _)); simpa using this))
  · cases hy with | dat hy => cases hy; cases e; refine op_isN pins s σ H _ _ v u Q I rx ry ⟨rfl, ?_⟩; cases hx; have := q.here sd (.dat (.bl _)); simpa using this
  · cases e
theorem o_isNot : OpR X (compareOp .IsNot) (T2 X.K (opIs true)) := by
  intro pins s σ H x y v u Q I rx ry ⟨st, μ, hid, wx, wy, w, st', sd, hx, hy, e, q⟩
  unfold opIs at e
  split at e
  · cases hx with | dat hx => cases hx; cases hy with | dat hy => cases hy; cases e; exact op_isnot_bl pins s σ H _ _ v u Q I rx ry ⟨_, _, rfl, rfl, by have := q.here sd (.dat (.bl _)); simpa using this⟩
  · cases hy with | dat hy => cases hy; cases e; refine op_notN pins s σ H _ _ v u Q I rx ry ⟨rfl, ?_⟩; (cases hx with | dat hx => cases hx <;> (have := q.here sd (.dat (.bl _)); simpa using this))
  · cases hy with | dat hy => cases hy; cases e; refine op_notN pins s σ H _ _ v u Q I rx ry ⟨rfl, ?_⟩; cases hx; have := q.here sd (.dat (.bl _)); simpa using this
  · cases e
end
end L3
set_option Elab.async false
set_option linter.all false
set_option maxRecDepth 100000
set_option maxHeartbeats 4000000
set_option autoImplicit false
/-! L3: built-in calls by values, subscripts, tests. -/
namespace L3
open PySem PySem.Spec PyProof.Rows L2
section
variable {X : Cx}

theorem rw1 {K : PySem.W.Frag} {M : Hp} {μ : List Addr} {xs : List V} {w : W} (r : RWs K M μ xs [w]) : ∃ x, xs = [x] ∧ RW K M μ x w := by
  cases r with
  | cons a b => cases b; exact ⟨_, rfl, a⟩
theorem rw2 {K : PySem.W.Frag} {M : Hp} {μ : List Addr} {xs : List V} {w w' : W} (r : RWs K M μ xs [w, w']) : ∃ x y, xs = [x, y] ∧ RW K M μ x w ∧ RW K M μ y w' := by
  cases r with
  | cons a b => cases b with
    | cons c d => cases d; exact ⟨_, _, rfl, a, c⟩

def opLen : OpN
  | [.dat (.str x)], st => if x.length ≤ sizeLine then some (.dat (.int x.length), st) else none
  | [.loc n], st => match st[n]? with
    | some (.list ws) => some (.dat (.int ws.length), st)
    | some (.dict ws) => some (.dat (.int ws.length), st)
    | _ => none
  | [w], st => match seqOf st w with
    | some ws => some (.dat (.int ws.length), st)
    | none => none
  | _, _ => none
theorem o_len : CallR X (.builtin "len") (TN X.K opLen) := by
  intro pins s σ H xs us Q I r ⟨st, μ, hid, ws, w, st', sd, hx, e, q⟩
  unfold opLen at e
  split at e
  · obtain ⟨x, rfl, rx⟩ := rw1 hx
    split at e
    · rename_i hz
      cases rx with | dat rx => cases rx; cases e; exact call_len_str pins s σ H _ us Q I r ⟨_, rfl, hz, q.here sd (.dat (.int _))⟩
    · cases e
  · obtain ⟨x, rfl, rx⟩ := rw1 hx
    cases rx with
    | loc ha =>
      split at e
      · rename_i hw
        cases e
        cases sd.at hw ha with
        | list h2 h3 h4 =>
          have hl : _ = _ := Paired.length h4
          exact call_len_seq pins s σ H _ us Q I r ⟨_, _, rfl, .inl (SqL.of h2), by rw [hl]; exact q.here sd (.dat (.int _))⟩
      · rename_i hw
        cases e
        cases sd.at hw ha with
        | dict h2 h3 h4 =>
          have hl : _ = _ := Paired.length h4
          exact call_lenD pins s σ H _ us Q I r ⟨_, _, rfl, h2, by rw [hl]; exact q.here sd (.dat (.int _))⟩
      · cases e
  · obtain ⟨x, rfl, rx⟩ := rw1 hx
    split at e
    · rename_i ws hw
      cases e
      obtain ⟨_, a, vs, rfl, hq, hr⟩ := seq_of sd rx hw
      have hl : vs.length = ws.length := Paired.length hr
      exact call_len_seq pins s σ H _ us Q I r ⟨_, _, rfl, hq, by rw [hl]; exact q.here sd (.dat (.int _))⟩
    · cases e
  · cases e
/-- tuple(x), list(x) -/
def tupOf : W → Option (List PyData)
  | .dat (.tuple ds) => some ds
  | _ => none
def opTuple : OpN
  | [w], st => match tupOf w with
    | some ds => some (.dat (.tuple ds), st)
    | none => match seqOf st w with
      | some ws => match ws.mapM datOf with
        | some ds => some (.dat (.tuple ds), st)
        | none => none
      | none => none
  | _, _ => none
theorem mapM_len {ws : List W} : ∀ {ds : List PyData}, ws.mapM datOf = some ds → ds.length = ws.length := by
  induction ws with
  | nil => intro ds e; have e' : some ([] : List PyData) = some ds := e; cases e'; rfl
  | cons w ws ih =>
    intro ds e
    rw [List.mapM_cons] at e
    cases w with
    | dat d =>
      simp only [datOf, Option.bind_eq_bind, Option.bind_some] at e
      rw [Option.bind_eq_some_iff] at e
      obtain ⟨ds', h1, h2⟩ := e
      cases h2
      rw [List.length_cons, List.length_cons, ih h1]
    | _ => simp [datOf] at e
theorem seqL_of {K : PySem.W.Frag} {H : Hp} {st : Store} {μ hid : List Addr} (sd : Sd K H st μ hid) {v : V} {w : W} {ws : List W} (r : RW K (mask H (μ ++ hid)) μ v w) (e : seqOf st w = some ws) (hn : ∀ ds, w ≠ .dat (.tuple ds)) :
    ws.length ≤ sizeLine ∧ ∃ a xs, v = .ref a ∧ SqL K H a xs ∧ RWs K (mask H (μ ++ hid)) μ xs ws := by
  cases r with
  | dat h => cases h with
    | lst h z r => cases e; exact ⟨by rw [List.length_map]; exact z, _, _, rfl, SqL.of (mask_le _ _ h), r.ws⟩
    | tup h z r => exact absurd rfl (hn _)
    | _ => cases e
  | frz h z r => cases e; exact ⟨by rw [List.length_map]; exact z, _, _, rfl, Same.sqL mask_le h, r.ws⟩
  | loc h =>
    simp only [seqOf] at e
    split at e
    · rename_i ws' hw
      cases e
      cases sd.at hw h with
      | list h2 h3 h4 => exact ⟨h3, _, _, rfl, SqL.of h2, h4⟩
    · cases e
  | _ => cases e
theorem o_tuple : CallR X (.type "tuple") (TN X.K opTuple) := by
  intro pins s σ H xs us Q I r ⟨st, μ, hid, ws, w, st', sd, hx, e, q⟩
  unfold opTuple at e
  split at e
  · obtain ⟨x, rfl, rx⟩ := rw1 hx
    split at e
    · rename_i ds ht
      cases e
      cases rx with
      | dat rx =>
        cases rx with
        | tup h z rr => cases ht; exact call_tuple_of pins s σ H _ us Q I r ⟨_, _, rfl, .inr ⟨sameT mask_le h, q.here sd (.dat (.tup h z rr))⟩⟩
        | _ => cases ht
      | _ => cases ht
    · rename_i ht
      split at e
      · rename_i ws hw
        split at e
        · rename_i ds hd
          cases e
          have hn := mapM_len hd
          obtain ⟨hz, a, vs, rfl, hq, hr⟩ := seqL_of sd rx hw (by
            intro ds hd
            rw [hd] at ht
            cases ht)
          exact call_tuple_of pins s σ H _ us Q I r ⟨_, _, rfl, .inl ⟨hq, fun p hp => q.new sd hp (.dat (RD.tupNew sd hp (by omega) (hr.dat hd)))⟩⟩
        · cases e
      · cases e
  · cases e
def opList : OpN
  | [w], st => match seqOf st w with
    | some ws => match ws.mapM datOf with
      | some ds => some (.dat (.list ds), st)
      | none => none
    | none => none
  | _, _ => none
theorem o_list : CallR X (.type "list") (TN X.K opList) := by
  intro pins s σ H xs us Q I r ⟨st, μ, hid, ws, w, st', sd, hx, e, q⟩
  unfold opList at e
  split at e
  · obtain ⟨x, rfl, rx⟩ := rw1 hx
    split at e
    · rename_i ws hw
      split at e
      · rename_i ds hd
        cases e
        obtain ⟨hz, a, vs, rfl, hq, hr⟩ := seq_of sd rx hw
        have hn := mapM_len hd
        exact call_list_of pins s σ H _ us Q I r ⟨_, _, rfl, hq, fun p hp => q.new sd hp (.dat (RD.lstNew sd hp (by omega) (hr.dat hd)))⟩
      · cases e
    · cases e
  · cases e
def opListNew : OpN
  | [w], st => match seqOf st w with
    | some ws => some (.loc st.length, st ++ [.list ws])
    | none => none
  | _, _ => none
theorem Out.cell {K : PySem.W.Frag} {H : Hp} {μ hid : List Addr} {st : Store} {c : Cell} {Q : VK} (o : Out K H μ hid (.loc st.length) (st ++ [c]) Q) (s : Sd K H st μ hid) {p : Addr} {u : HO} (h : H p = none)
    (r : COk K (mask H (μ ++ hid)) (μ ++ [p]) (upd H p u) p c) : Q (.ref p) (upd H p u) :=
  o _ _ (μ ++ [p]) (Nx.cell s h) (s.newCell h r) (.loc (by rw [← s.len, List.getElem?_append_right (Nat.le_refl _), Nat.sub_self]; rfl))
theorem o_listNew : CallR X (.type "list") (TN X.K opListNew) := by
  intro pins s σ H xs us Q I r ⟨st, μ, hid, ws, w, st', sd, hx, e, q⟩
  unfold opListNew at e
  split at e
  · obtain ⟨x, rfl, rx⟩ := rw1 hx
    split at e
    · rename_i ws hw
      cases e
      obtain ⟨hz, a, vs, rfl, hq, hr⟩ := seq_of sd rx hw
      exact call_list_of pins s σ H _ us Q I r ⟨_, _, rfl, hq, fun p hp => q.cell sd hp (.list upd_same hz (hr.mono (fun _ _ e => e) (List.prefix_append _ _)))⟩
    · cases e
  · cases e
/-- of ints -/
def opAbs : OpN
  | [.dat (.int i)], st => some (.dat (.int (if i < 0 then -i else i)), st)
  | _, _ => none
theorem o_abs : CallR X (.builtin "abs") (TN X.K opAbs) := by
  intro pins s σ H xs us Q I r ⟨st, μ, hid, ws, w, st', sd, hx, e, q⟩
  unfold opAbs at e
  split at e
  · obtain ⟨x, rfl, rx⟩ := rw1 hx
    cases rx with | dat rx => cases rx; cases e; exact call_abs pins s σ H _ us Q I r ⟨_, rfl, q.here sd (.dat (.int _))⟩
  · cases e
def opInt : OpN
  | [.dat (.int i)], st => some (.dat (.int i), st)
  | _, _ => none
theorem o_int : CallR X (.type "int") (TN X.K opInt) := by
  intro pins s σ H xs us Q I r ⟨st, μ, hid, ws, w, st', sd, hx, e, q⟩
  unfold opInt at e
  split at e
  · obtain ⟨x, rfl, rx⟩ := rw1 hx
    cases rx with | dat rx => cases rx; cases e; exact call_int1 pins s σ H _ us Q I r (.inl ⟨_, rfl, q.here sd (.dat (.int _))⟩)
  · cases e
def opMax : OpN
  | [.dat (.int i), .dat (.int j)], st => some (.dat (.int (if j > i then j else i)), st)
  | _, _ => none
theorem o_max (hc : X.calm = true) : CallR X (.builtin "max") (TN X.K opMax) := by
  intro pins s σ H xs us Q I r ⟨st, μ, hid, ws, w, st', sd, hx, e, q⟩
  unfold opMax at e
  split at e
  · obtain ⟨x, y, rfl, rx, ry⟩ := rw2 hx
    cases rx with | dat rx => cases rx; cases ry with | dat ry => cases ry; cases e; exact call_max2 hc pins s σ H _ us Q I r ⟨_, _, rfl, q.here sd (.dat (.int _))⟩
  · cases e
def opMin : OpN
  | [.dat (.int i), .dat (.int j)], st => some (.dat (.int (if j < i then j else i)), st)
  | _, _ => none
theorem o_min (hc : X.calm = true) : CallR X (.builtin "min") (TN X.K opMin) := by
  intro pins s σ H xs us Q I r ⟨st, μ, hid, ws, w, st', sd, hx, e, q⟩
  unfold opMin at e
  split at e
  · obtain ⟨x, y, rfl, rx, ry⟩ := rw2 hx
    cases rx with | dat rx => cases rx; cases ry with | dat ry => cases ry; cases e; exact call_min2 hc pins s σ H _ us Q I r ⟨_, _, rfl, q.here sd (.dat (.int _))⟩
  · cases e
def opDivmod : OpN
  | [.dat (.int i), .dat (.int j)], st => if 0 < j ∧ Builtin.divisionGoesByPylong i j = false then some (.dat (.tuple [.int (i / j), .int (i % j)]), st) else none
  | _, _ => none
theorem o_divmod : CallR X (.builtin "divmod") (TN X.K opDivmod) := by
  intro pins s σ H xs us Q I r ⟨st, μ, hid, ws, w, st', sd, hx, e, q⟩
  unfold opDivmod at e
  split at e
  · obtain ⟨x, y, rfl, rx, ry⟩ := rw2 hx
    split at e
    · rename_i hj
      cases rx with | dat rx => cases rx; cases ry with | dat ry => cases ry; cases e; exact call_divmodW pins s σ H _ us Q I r ⟨_, _, rfl, hj, fun p hp => q.new sd hp (.dat (RD.tupNew sd hp (by show 2 ≤ sizeLine; decide) (.cons (.int _) (.cons (.int _) .nil))))⟩
    · cases e
  · cases e
/-- lists of bools -/
def boolOf : PyData → Option Bool
  | .bool i => some i
  | _ => none
theorem RDs.bools {K : PySem.W.Frag} {M : Hp} : ∀ {vs : List V} {ds : List PyData} {ns : List Bool}, RDs K M vs ds → ds.mapM boolOf = some ns → vs = ns.map V.bl
  | _, _, _, .nil, e => by
    have e' : some ([] : List Bool) = some _ := e
    cases e'; rfl
  | _, _, _, .cons (v := v) (d := d) r t, e => by
    rw [List.mapM_cons] at e
    cases d with
    | bool d =>
      simp only [boolOf, Option.bind_eq_bind, Option.bind_some] at e
      rw [Option.bind_eq_some_iff] at e
      obtain ⟨ds, h1, h2⟩ := e
      cases h2
      cases r
      rw [RDs.bools t h1]; rfl
    | _ => simp [boolOf] at e
def opAll : OpN
  | [.dat (.list ds)], st => match ds.mapM boolOf with
    | some bs => some (.dat (.bool (bs.all id)), st)
    | none => none
  | _, _ => none
def opAny : OpN
  | [.dat (.list ds)], st => match ds.mapM boolOf with
    | some bs => some (.dat (.bool (bs.any id)), st)
    | none => none
  | _, _ => none
theorem o_all (hc : X.calm = true) : CallR X (.builtin "all") (TN X.K opAll) := by
  intro pins s σ H xs us Q I r ⟨st, μ, hid, ws, w, st', sd, hx, e, q⟩
  unfold opAll at e
  split at e
  · obtain ⟨x, rfl, rx⟩ := rw1 hx
    split at e
    · rename_i bs hb
      cases e
      cases rx with
      | dat rx => cases rx with
        | lst h _ rr =>
          have := rr.bools hb
          subst this
          exact cr_all hc pins s σ H _ us Q I r ⟨_, bs, rfl, SqL.of (mask_le _ _ h), q.here sd (.dat (.bl _))⟩
    · cases e
  · cases e
theorem o_any (hc : X.calm = true) : CallR X (.builtin "any") (TN X.K opAny) := by
  intro pins s σ H xs us Q I r ⟨st, μ, hid, ws, w, st', sd, hx, e, q⟩
  unfold opAny at e
  split at e
  · obtain ⟨x, rfl, rx⟩ := rw1 hx
    split at e
    · rename_i bs hb
      cases e
      cases rx with
      | dat rx => cases rx with
        | lst h _ rr =>
          have := rr.bools hb
          subst this
          exact cr_any hc pins s σ H _ us Q I r ⟨_, bs, rfl, SqL.of (mask_le _ _ h), q.here sd (.dat (.bl _))⟩
    · cases e
  · cases e
def opSum : OpN
  | [.dat (.list ds)], st => match ds.mapM intOf with
    | some bs => some (.dat (.int bs.sum), st)
    | none => none
  | _, _ => none
theorem o_sum (hc : X.calm = true) : CallR X (.builtin "sum") (TN X.K opSum) := by
  intro pins s σ H xs us Q I r ⟨st, μ, hid, ws, w, st', sd, hx, e, q⟩
  unfold opSum at e
  split at e
  · obtain ⟨x, rfl, rx⟩ := rw1 hx
    split at e
    · rename_i bs hb
      cases e
      cases rx with
      | dat rx => cases rx with
        | lst h _ rr =>
          have := rr.ints hb
          subst this
          exact cr_sum hc pins s σ H _ us Q I r ⟨_, bs, rfl, SqL.of (mask_le _ _ h), q.here sd (.dat (.int _))⟩
    · cases e
  · cases e
/-- repr -/
def deepOf (st : Store) (w : W) : Option PyData := match dataOf st w with
  | some d => some d
  | none => match w with
    | .loc n => match st[n]? with
      | some (.list ws) => (ws.mapM (dataOf st)).map .list
      | _ => none
    | _ => none
theorem deep_all {K : PySem.W.Frag} {H : Hp} {st : Store} {μ hid : List Addr} (sd : Sd K H st μ hid) : ∀ {vs : List V} {ws : List W} {ds : List PyData}, RWs K (mask H (μ ++ hid)) μ vs ws → ws.mapM (dataOf st) = some ds → DpAll K H vs ds
  | _, _, _, .nil, e => by
    have e : some ([] : List PyData) = some _ := e
    cases e; exact .nil
  | _, _, _, .cons r t, e => by
    rw [List.mapM_cons] at e
    obtain ⟨d, h1, e⟩ := Option.bind_eq_some_iff.mp e
    obtain ⟨ds, h2, e⟩ := Option.bind_eq_some_iff.mp e
    cases e
    exact .cons (dp_of sd r h1) (deep_all sd t h2)
theorem deep_dp {K : PySem.W.Frag} {H : Hp} {st : Store} {μ hid : List Addr} (sd : Sd K H st μ hid) {v : V} {w : W} {d : PyData} (r : RW K (mask H (μ ++ hid)) μ v w) (e : deepOf st w = some d) : Dp K H v d := by
  unfold deepOf at e
  split at e
  · rename_i d' h
    cases e
    exact dp_of sd r h
  · split at e
    · split at e
      · rename_i n _ ws hw
        obtain ⟨ds, h1, h2⟩ := Option.map_eq_some_iff.mp e
        cases h2
        cases r with
        | loc ha =>
          cases sd.at hw ha with
          | list h2 h3 h4 => exact .lst (SqL.of h2) (deep_all sd h4 h1)
      · cases e
    · cases e
def opRepr : OpN
  | [w], st => match deepOf st w with
    | some d => if d.showable = true ∧ d.hasDict = false ∧ d.depth ≤ 64 ∧ d.shown.length ≤ sizeLine then some (.dat (.str d.shown), st) else none
    | none => none
  | _, _ => none
theorem o_repr (hg : X.A.guards = some []) (hu : X.A.units + 100 < cLine) : CallR X (.builtin "repr") (TN X.K opRepr) := by
  intro pins s σ H xs us Q I r ⟨st, μ, hid, ws, w, st', sd, hx, e, q⟩
  unfold opRepr at e
  split at e
  · obtain ⟨x, rfl, rx⟩ := rw1 hx
    split at e
    · rename_i d hdp
      split at e
      · rename_i hc
        obtain ⟨h1, h2, h3, h4⟩ := hc
        cases e
        obtain ⟨u, rfl, ru⟩ := vals1 r
        have dp := deep_dp sd rx hdp
        obtain ⟨as, rr⟩ := Dp.reads I d x u dp ru
        have fin : ∀ h' t tk, (∀ b o, s.heap.get? b = some o → h'.get? b = some o) → EP X pins σ Q (.str d.shown t) { s with heap := h', toks := tk } := fun h' t tk hk =>
          ⟨.str d.shown, H, I.kept hk, ⟨_, rfl⟩, q.here sd (.dat (.str _))⟩
        · cases dp with
          | non => cases ru; exact PySem.P.repr_of_none (fin s.heap _ _ fun _ _ e => e)
          | bl b => cases ru; exact PySem.P.repr_of_bool (fin s.heap _ _ fun _ _ e => e)
          | int i => obtain ⟨t, hh⟩ := ru; cases hh; exact PySem.P.repr_of_int (of_decide_eq_true h1) (fin s.heap _ _ fun _ _ e => e)
          | str i => obtain ⟨t, hh⟩ := ru; cases hh; exact PySem.P.repr_of_str (fin s.heap _ _ fun _ _ e => e) h4
          | lst _ _ => cases ru; exact repr_of_reads' rr h1 (fun h => by rw [h2] at h; cases h) hg (by omega) (fun _ _ e => e) (fun h' t tk hk => fin h' t tk hk) h4
          | tup _ _ => cases ru; exact repr_of_reads' rr h1 (fun h => by rw [h2] at h; cases h) hg (by omega) (fun _ _ e => e) (fun h' t tk hk => fin h' t tk hk) h4
      · cases e
    · cases e
  · cases e
end
end L3
set_option Elab.async false
set_option linter.all false
set_option maxRecDepth 100000
set_option maxHeartbeats 4000000
set_option autoImplicit false
/-! L3: isinstance, sorted, sets, subscripts, ranges, tests. -/
namespace L3
open PySem PySem.Spec PyProof.Rows L2
section
variable {X : Cx} {a b c : Expr} {pos : Pos} {f g : Ev}

/-! ### isinstance -/
def tyName (st : Store) : W → Option String
  | .dat .none => some "NoneType"
  | .dat (.bool _) => some "bool"
  | .dat (.int _) => some "int"
  | .dat (.str _) => some "str"
  | .dat (.list _) => some "list"
  | .dat (.tuple _) => some "tuple"
  | .loc n => match st[n]? with
    | some (.list _) => some "list"
    | some (.dict _) => some "dict"
    | _ => none
  | _ => none
theorem ty_of {K : PySem.W.Frag} {H : Hp} {st : Store} {μ hid : List Addr} (sd : Sd K H st μ hid) (I : True) {v : V} {w : W} {n : String} (r : RW K (mask H (μ ++ hid)) μ v w) (e : tyName st w = some n) : TyX K H v (.type n) := by
  cases r with
  | dat h =>
    cases h with
    | non => cases e; exact .base .non
    | bl b => cases e; exact .base (.bl b)
    | int i => cases e; exact .base (.int i)
    | str x => cases e; exact .base (.str x)
    | lst h _ _ => cases e; exact .base (.lst (mask_le _ _ h))
    | tup h _ _ =>
      cases e
      rcases sameT (mask_le (H := H) (l := μ ++ hid)) h with (h | ⟨o, h⟩) | ⟨o, its, n, h1, h2, _⟩
      · exact .base (.tup h)
      · exact .fTuple h
      · exact .kTuple h1 h2
  | loc ha =>
    simp only [tyName] at e
    split at e
    · rename_i hw; cases e; cases sd.at hw ha with | list h2 _ _ => exact .base (.lst h2)
    · rename_i hw; cases e; cases sd.at hw ha with | dict h2 _ _ => exact .base (.dK h2)
    · cases e
  | _ => cases e
def kitAnyB (t : String) : List String → Option Bool
  | [] => some false
  | n :: r => match kitB t n with
    | some true => some true
    | some false => kitAnyB t r
    | none => none
theorem kitAny_of {K : PySem.W.Frag} {t : String} : ∀ {ns : List String} {b : Bool}, kitAnyB t ns = some b → PySem.W.kitAny K (.type t) (ns.map Value.type) = some b
  | [], _, e => by cases e; rfl
  | n :: r, b, e => by
    unfold kitAnyB at e
    cases h : kitB t n with
    | none => rw [h] at e; cases e
    | some x =>
      rw [h] at e
      refine kitAny_cons (kit_ty h) (fun hb => ?_) fun hb => ?_
      · subst hb; exact kitAny_of e
      · subst hb; cases e; rfl
def opIsinst : OpN
  | [w, .ty n], st => match tyName st w with
    | some t => match kitB t n with
      | some b => some (.dat (.bool b), st)
      | none => none
    | none => none
  | [w, .tys ns], st => match tyName st w with
    | some t => match kitAnyB t ns with
      | some b => some (.dat (.bool b), st)
      | none => none
    | none => none
  | _, _ => none
theorem clsTys : ∀ ns : List String, Paired ClsV (ns.map V.ty) (ns.map Value.type)
  | [] => .nil
  | n :: r => .cons (.ty n) (clsTys r)
theorem o_isinst : CallR X (.builtin "isinstance") (TN X.K opIsinst) := by
  intro pins s σ H xs us Q I r ⟨st, μ, hid, ws, w, st', sd, hx, e, q⟩
  unfold opIsinst at e
  split at e
  · obtain ⟨x, y, rfl, rx, ry⟩ := rw2 hx
    split at e
    · rename_i t ht
      split at e
      · rename_i b hb
        cases e
        cases ry
        exact call_isi pins s σ H _ us Q I r ⟨_, _, _, _, b, rfl, .ty _, ty_of sd trivial rx ht, kit_ty hb, q.here sd (.dat (.bl _))⟩
      · cases e
    · cases e
  · obtain ⟨x, y, rfl, rx, ry⟩ := rw2 hx
    split at e
    · rename_i t ht
      split at e
      · rename_i b hb
        cases e
        cases ry with
        | tys h => exact call_isiT pins s σ H _ us Q I r ⟨_, _, _, _, _, b, rfl, mask_le _ _ h, clsTys _, ty_of sd trivial rx ht, kitAny_of hb, q.here sd (.dat (.bl _))⟩
      · cases e
    · cases e
  · cases e

/-! ### sorted -/
def allAlike (ds : List PyData) : Bool := ds.all fun d => ds.all fun d' => PySem.W.alike d d'
def isTupC : PyData → Bool
  | .tuple (_ :: _) => true
  | _ => false
def isFlatC : PyData → Bool
  | .tuple _ => false
  | .none => false
  | _ => true
def sortable (ds : List PyData) : Bool := ds.all isTupC || ds.all isFlatC
def srt (ds : List PyData) : List PyData := ds.mergeSort (PySem.W.dataLe false id)
def opSorted : OpN
  | [w], st => match seqOf st w with
    | some ws => match ws.mapM datOf with
      | some ds => if allAlike ds = true ∧ sortable ds = true ∧ (ds.all fun d => decide (d.depth ≤ 64)) = true then some (.dat (.list (srt ds)), st) else none
      | none => none
    | none => none
  | _, _ => none
theorem each_of {K : PySem.W.Frag} {M : Hp} : ∀ {vs : List V} {us : List Value} {ds : List PyData}, Vals vs us → RDs K M vs ds → PySem.W.EachIs (fun (u : Value) (d : PyData) => ∃ v, RelV v u ∧ RD K M v d) us ds
  | _, _, _, .nil, .nil => .nil
  | _, _, _, .cons r t, .cons r' t' => .cons ⟨_, r, r'⟩ (each_of t t')
theorem of_each {K : PySem.W.Frag} {M : Hp} : ∀ {us : List Value} {ds : List PyData}, PySem.W.EachIs (fun (u : Value) (d : PyData) => ∃ v, RelV v u ∧ RD K M v d) us ds → ∃ vs, Vals vs us ∧ RDs K M vs ds
  | _, _, .nil => ⟨[], .nil, .nil⟩
  | _, _, .cons ⟨v, r, r'⟩ t => by
    obtain ⟨vs, h1, h2⟩ := of_each t
    exact ⟨v :: vs, .cons r h1, .cons r' h2⟩
theorem each_reads {K : PySem.W.Frag} {H : Hp} {hid : List Addr} {pins : List (Addr × Obj)} {σ : L2.St} {s : Shared} (I : Inv X pins σ H s) (hK : K = X.K) : ∀ {us : List Value} {ds : List PyData}, PySem.W.EachIs (fun (u : Value) (d : PyData) => ∃ v, RelV v u ∧ RD K (mask H hid) v d) us ds →
    PySem.W.EachIs (fun (u : Value) (d : PyData) => ∃ as, Reads s.heap u (id d) as) us ds
  | _, _, .nil => .nil
  | _, _, .cons (b := d) ⟨v, r, r'⟩ t => .cons (by subst hK; exact Dp.reads I d v _ (r'.mono mask_le).dp r) (each_reads I hK t)
/-- sorted(t) of a tuple -/
theorem sorted_tupD {prog : Program} {w : World} {A : Around} {E : Value → Shared → Prop} {s : Shared} {t : Addr} {vs : List Value} {ds : List PyData} {R : Value → PyData → Prop} {Q : Value → Shared → Prop} (ht : s.heap.IsTuple t vs.toArray) (e : PySem.W.EachIs R vs ds)
    (er : PySem.W.EachIs (fun (v : Value) (d : PyData) => ∃ as, Reads s.heap v (id d) as) vs ds) (hal : PySem.W.AllAlike (ds.map id)) (hk : PySem.W.Sortable (ds.map id)) (hL : vs.length ≤ sizeLine) (hu : ∀ d, d ∈ ds → A.units + 2 + (id d).depth < cLine)
    (h : ∀ (h' H2 : Heap) (out : List Value), (∀ b o, s.heap.get? b = some o → h'.get? b = some o) → (∀ b o, h'.get? b = some o → H2.get? b = some o) → (∃ ep, H2.get? h'.objs.size = some (seqObj "list" out.toArray ep)) → out.length = vs.length → PySem.W.EachIs R out (srt ds) → Q (.ref h'.objs.size) { s with heap := H2 }) :
    wpAny (model prog w) A (call (.builtin "sorted") [.ref t]) Q E s := by
  obtain ⟨o, ho, hc, n, hd⟩ := id ht
  refine Calls.call_function_entry PyProof.Rows.kind_sorted PyProof.Rows.plain_sorted PyProof.Rows.entry_sorted (PyProof.Rows.args_sorted1 _) ?_
  unfold Builtin.«sorted»
  refine wpAny_bind (m := checkCount "sorted" 1 1 _) (wpAny_pure (wpAny_bind (wpAny_collect_seq (n := n) t (.inr rfl) ho hc hd (fun h' hk' => ?_) (by rw [List.size_toArray]; exact hL))))
  refine wpAny_bind (wpAny_newList ?_ hL)
  have hoL : (h'.push (seqObj "list" vs.toArray 0)).get? h'.objs.size = some (seqObj "list" vs.toArray 0) := Heap.get?_push_size _ rfl
  have old : ∀ b o, s.heap.get? b = some o → b ≠ h'.objs.size ∧ (h'.push (seqObj "list" vs.toArray 0)).get? b = some o := fun b o q => ⟨Nat.ne_of_lt (Heap.lt_size (hk' b o q)), Heap.get?_push_of_some _ (hk' b o q)⟩
  have er' : PySem.W.EachIs (fun (v : Value) (d : PyData) => ∃ as, Reads (PySem.W.sortingHeap (h'.push (seqObj "list" vs.toArray 0)) h'.objs.size vs) v (id d) as) vs ds := er.mono fun _ _ ⟨as, r⟩ => ⟨as, PyProof.Rows.Reads.keeps (fun b o q => PySem.W.sortingHeap_old (old b o q).1 (old b o q).2) r⟩
  show wpAny _ _ _ _ _ { s with heap := h'.push (seqObj "list" vs.toArray 0) }
  refine wpAny_bind (wpAny_holding (wpAny_call_entry PyProof.Rows.slot_list_sort ⟨_, hoL, rfl⟩ PyProof.Rows.entry_list_sort (PySem.W.list_sort_vals (s := { s with heap := h'.push (seqObj "list" vs.toArray 0) }) hoL
    (PySem.W.SortsAt.data (s := { s with heap := PySem.W.sortingHeap (h'.push (seqObj "list" vs.toArray 0)) h'.objs.size vs }) (PySem.W.each_map (R := fun v d => ∃ as, Reads (PySem.W.sortingHeap (h'.push (seqObj "list" vs.toArray 0)) h'.objs.size vs) v d as) id er') hal hk (PySem.W.bound_map hu)) hL ⟨_, rfl, ?_⟩) (PyProof.Rows.args_list_sort _)))
  refine wpAny_pure ⟨_, rfl, ?_⟩
  exact h h' _ (PySem.W.sortVals _ false vs vs) hk' (fun b o q => (PyProof.Rows.sortedHeap_old (Nat.ne_of_lt (Heap.lt_size q)) (by rw [size_push']; exact Nat.lt_succ_of_lt (Heap.lt_size q))).trans (Heap.get?_push_of_some _ q)) (PyProof.Rows.sortedHeap_at hoL) (PySem.W.sortVals_length false rfl) (PySem.W.sortVals_data false e er' hal)
theorem o_sorted (hu : X.A.units + 100 < cLine) : CallR X (.builtin "sorted") (TN X.K opSorted) := by
  intro pins s σ H xs us Q I r ⟨st, μ, hid, ws, w, st', sd, hx, e, q⟩
  unfold opSorted at e
  split at e
  · obtain ⟨x, rfl, rx⟩ := rw1 hx
    split at e
    · rename_i ws hw
      split at e
      · rename_i ds hd
        split at e
        · rename_i hc
          obtain ⟨h1, h2, h3⟩ := hc
          cases e
          obtain ⟨hz, a, vs, rfl, hq, hr⟩ := seq_of sd rx hw
          have rd := hr.dat hd
          obtain ⟨its, rv, pl, hzv⟩ : ∃ its : List Value, Vals vs its ∧ (s.heap.IsList a its.toArray ∨ s.heap.IsTuple a its.toArray) ∧ its.length ≤ sizeLine := by
            rcases hq with hq | hq
            · obtain ⟨its, a1, a2, a3⟩ := I.list hq
              exact ⟨its, a1, .inl a2.isList, by rw [← a1.length]; exact a3⟩
            · obtain ⟨its, a1, a2, a3⟩ := I.tuple hq
              exact ⟨its, a1, .inr a2, by rw [← a1.length]; exact a3⟩
          obtain ⟨u, rfl, ru⟩ := vals1 r
          cases ru
          have ea := each_of rv rd
          have hn := mapM_len hd
          have al : PySem.W.AllAlike (ds.map id) := by
            rw [List.map_id]
            intro d hd d' hd'
            exact List.all_eq_true.mp (List.all_eq_true.mp h1 d hd) d' hd'
          have so : PySem.W.Sortable (ds.map id) := by
            rw [List.map_id]
            rcases Bool.or_eq_true_iff.mp h2 with h | h
            · refine .inl fun d hd => ?_
              have := List.all_eq_true.mp h d hd
              unfold isTupC at this
              split at this
              · exact ⟨_, _, rfl⟩
              · cases this
            · refine .inr fun d hd => ?_
              have := List.all_eq_true.mp h d hd
              unfold isFlatC at this
              split at this
              · cases this
              · cases this
              · rename_i h1 h2
                exact ⟨h2, h1⟩
          have hb : ∀ d, d ∈ ds → X.A.units + 2 + (id d).depth < cLine := fun d hd => by
            have := of_decide_eq_true (List.all_eq_true.mp h3 d hd)
            simp only [id]; omega
          have hlen2 : (srt ds).length ≤ sizeLine := by unfold srt; rw [List.length_mergeSort]; omega
          rcases pl with pl | pl
          · refine PySem.W.sorted_data pl ea (each_reads I rfl ea) al so (by omega) hb fun out ho eo => ?_
            obtain ⟨vs', k1, k2⟩ := of_each eo
            obtain ⟨ep, he'⟩ := PyProof.Rows.sortedAll_at s.heap its out.toArray
            have hlen : vs'.length ≤ sizeLine := by have := k1.length; omega
            have hp : H (s.heap.objs.size + 1) = none := I.hok.fresh (Nat.le_succ _)
            exact ⟨.ref _, upd H (s.heap.objs.size + 1) (.lst vs'), I.laid (t' := s.toks) (fun _ _ => PyProof.Rows.sortedAll_old) (Nat.le_succ _) ⟨hlen, out, ep, k1, he'⟩, rfl, q.new sd hp (.dat (RD.lstNew sd hp hlen2 k2))⟩
          · refine sorted_tupD pl ea (each_reads I rfl ea) al so hzv hb fun h' H2 out o1 o2 ⟨ep, he'⟩ ho eo => ?_
            obtain ⟨vs', k1, k2⟩ := of_each eo
            have hlen : vs'.length ≤ sizeLine := by have := k1.length; omega
            have I1 : Inv X pins σ H { s with heap := h' } := I.kept (t' := s.toks) o1
            have hp : H h'.objs.size = none := I1.hok.fresh (Nat.le_refl _)
            exact ⟨.ref _, upd H h'.objs.size (.lst vs'), I1.laid (t' := s.toks) o2 (Nat.le_refl _) ⟨hlen, out, ep, k1, he'⟩, rfl, q.new sd hp (.dat (RD.lstNew sd hp hlen2 k2))⟩
        · cases e
      · cases e
    · cases e
  · cases e
/-- sorted(set(t)), t a tuple of ints -/
def insI (x : Int) : List Int → List Int
  | [] => [x]
  | y :: ys => if x < y then x :: y :: ys else if x = y then y :: ys else y :: insI x ys
def sset : List Int → List Int
  | [] => []
  | x :: xs => insI x (sset xs)
theorem mem_insI {x y : Int} : ∀ {l : List Int}, y ∈ insI x l ↔ y = x ∨ y ∈ l
  | [] => by simp [insI]
  | z :: l => by
    unfold insI
    split
    · simp
    · split
      · rename_i h; subst h; simp
      · simp only [List.mem_cons, mem_insI (l := l)]
        constructor
        · rintro (h | h | h) <;> simp [h]
        · rintro (h | h | h) <;> simp [h]
theorem mem_sset {y : Int} : ∀ {l : List Int}, y ∈ sset l ↔ y ∈ l
  | [] => by simp [sset]
  | x :: l => by unfold sset; rw [mem_insI, mem_sset (l := l), List.mem_cons]
theorem insI_sorted {x : Int} : ∀ {l : List Int}, l.Pairwise (· < ·) → (insI x l).Pairwise (· < ·)
  | [], _ => by simp [insI]
  | z :: l, h => by
    rw [List.pairwise_cons] at h
    unfold insI
    split
    · rename_i h1
      refine List.pairwise_cons.mpr ⟨fun y hy => ?_, List.pairwise_cons.mpr h⟩
      rcases List.mem_cons.mp hy with e | hy
      · omega
      · have := h.1 y hy; omega
    · split
      · exact List.pairwise_cons.mpr h
      · refine List.pairwise_cons.mpr ⟨fun y hy => ?_, insI_sorted h.2⟩
        rcases mem_insI.mp hy with e | hy
        · omega
        · exact h.1 y hy
theorem sset_sorted : ∀ l : List Int, (sset l).Pairwise (· < ·)
  | [] => .nil
  | x :: l => insI_sorted (sset_sorted l)
theorem sorted_unique : ∀ {l m : List Int}, l.Pairwise (· < ·) → m.Pairwise (· < ·) → (∀ x, x ∈ l ↔ x ∈ m) → l = m
  | [], [], _, _, _ => rfl
  | [], y :: m, _, _, h => absurd ((h y).mpr List.mem_cons_self) (by simp)
  | x :: l, [], _, _, h => absurd ((h x).mp List.mem_cons_self) (by simp)
  | x :: l, y :: m, h1, h2, h => by
    rw [List.pairwise_cons] at h1 h2
    have e : x = y := by
      have a := (h x).mp List.mem_cons_self
      have b := (h y).mpr List.mem_cons_self
      rcases List.mem_cons.mp a with a | a
      · exact a
      · rcases List.mem_cons.mp b with b | b
        · exact b.symm
        · have := h2.1 x a; have := h1.1 y b; omega
    subst e
    rw [sorted_unique h1.2 h2.2 fun z => ⟨fun hz => ?_, fun hz => ?_⟩]
    · rcases List.mem_cons.mp ((h z).mp (List.mem_cons_of_mem _ hz)) with e | q
      · subst e; have := h1.1 z hz; omega
      · exact q
    · rcases List.mem_cons.mp ((h z).mpr (List.mem_cons_of_mem _ hz)) with e | q
      · subst e; have := h2.1 z hz; omega
      · exact q
theorem sset_len : ∀ l : List Int, (sset l).length ≤ l.length
  | [] => Nat.le_refl _
  | x :: l => by
    have h := sset_len l
    have : ∀ m : List Int, (insI x m).length ≤ m.length + 1 := fun m => by
      induction m with
      | nil => simp [insI]
      | cons z m ih => unfold insI; split <;> (try split) <;> simp <;> omega
    have := this (sset l)
    unfold sset; rw [List.length_cons]; omega
def opSortSetT : W → Store → Option (W × Store)
  | .dat (.tuple ds), st => match ds.mapM intOf with
    | some ns => if ns.length < 64 then some (.dat (.list ((sset ns).map .int)), st) else none
    | none => none
  | _, _ => none
theorem rds_ints {K : PySem.W.Frag} {M : Hp} : ∀ ns : List Int, RDs K M (ns.map V.int) (ns.map .int)
  | [] => .nil
  | n :: ns => .cons (.int n) (rds_ints ns)
theorem x_sortSetT {p p2 p3 p4 : Pos} (hc : X.calm = true) (hg : Gl X "sorted") (hm : X.mg "sorted" = none) (hg2 : Gl X "set") (hm2 : X.mg "set" = none) (ha : PE X a (TX X.K f))
    (na : starEach [a] X.env = (false, eval a X.env) :: starEach [] X.env := by rfl) : PE X (.Call (.Name "sorted" p) [.Call (.Name "set" p2) [a] [] p3] [] p4) (TX X.K (b1 opSortSetT f)) := by
  refine ⟨fun pins s σ H Q I h => ?_⟩
  refine Call_ (ld_blt I hg hm PyProof.Rows.boot_sorted ?_)
  refine PyProof.Rows.callWith_builtin1 (PyProof.Rows.args_cons ?_ rfl) rfl rfl
  refine Call_ (ld_blt I hg2 hm2 PyProof.Rows.boot_set ?_)
  refine PyProof.Rows.callWith_type1 (PyProof.Rows.args_cons (thn (ha.run pins s σ H _ I (TX.one h)) fun v s1 ⟨x, H1, I1, r1, q1⟩ => PyProof.Rows.args_nil ?_) na) na rfl
  obtain ⟨st, μ, hid, wx, w, st', sd, rx, e, q⟩ := q1
  unfold opSortSetT at e
  split at e
  · rename_i ds st
    split at e
    · rename_i ns hns
      split at e
      · rename_i hl
        cases e
        cases rx with
        | dat rx =>
          cases rx with
          | tup hq _ rr =>
            cases r1
            have := rr.ints hns
            subst this
            obtain ⟨its, rv, pl, hz⟩ := I1.tuple (sameT mask_le hq)
            refine call_set_tupI ns (I1.ok.hd hc) (show s1.heap.IsTuple _ its.toArray from pl) (by simpa using rv.ints) (by unfold scanBound; omega) fun h' tk c R hcn hk => ?_
            refine PyProof.Rows.args_nil ?_
            have I2 : Inv X pins σ H1 { s1 with heap := h', toks := tk } := I1.kept hk
            have R2 : SetR X.w ({ s1 with heap := h', toks := tk } : Shared).heap s1.heap.objs.size (fun j => decide (j ∈ ns)) c := R
            generalize ({ s1 with heap := h', toks := tk } : Shared) = s2 at R2 I2 ⊢
            refine sorted_set R2 (I2.ok.hd hc) (by omega) fun s' p out c' ns' k g' o' hp hg' hi hs hm hlen => ?_
            have hn : H1 p = none := I2.hok.fresh hp
            have en : ns' = sset ns := sorted_unique hs (sset_sorted ns) fun z => by rw [hm z, mem_sset]; simp
            subst en
            have hlen2 : ((sset ns).map V.int).length ≤ sizeLine := by rw [List.length_map]; have := sset_len ns; exact sz1000 (by omega)
            have J : Inv X pins σ (upd H1 p (.lst ((sset ns).map V.int))) { s2 with heap := s'.heap, gens := s'.gens, drawn := s'.drawn, toks := s'.toks } :=
              I2.call (ch := []) (Un.laid k hp hn) (I2.hok.laid k hp ⟨hlen2, out.toList, c', vals_of_ints hi, hg'⟩) (by rw [g']; exact I2.bare) (fun _ z => nomatch z)
            have e' : s' = { s2 with heap := s'.heap, gens := s'.gens, drawn := s'.drawn, toks := s'.toks } := by
              cases s'
              cases s2
              cases o'
              rfl
            rw [e']
            exact ⟨.ref p, _, J, rfl, q.new sd hn (.dat (RD.lstNew sd hn (by rw [List.length_map]; have := sset_len ns; exact sz1000 (by omega)) (rds_ints _)))⟩
      · cases e
    · cases e
  · cases e
end
end L3
set_option Elab.async false
set_option linter.all false
set_option maxRecDepth 100000
set_option maxHeartbeats 4000000
set_option autoImplicit false
/-! L3: subscripts, slices, ranges, tests. -/
namespace L3
open PySem PySem.Spec PyProof.Rows L2
section
variable {X : Cx} {a b c : Expr} {pos : Pos} {f g : Ev}

theorem PE.or {e : Expr} {t t' : TE} (h : PE X e t) (h' : PE X e t') : PE X e (fun σ H Q => t σ H Q ∨ t' σ H Q) :=
  ⟨fun pins s σ H Q I q => q.elim (h.run pins s σ H Q I) (h'.run pins s σ H Q I)⟩
def keyOf : W → Option Key
  | .dat (.int i) => some (.inl i)
  | .dat (.str x) => some (.inr x)
  | _ => none
def valW (kvs : List (Key × W)) (k : Key) : Option W := (kvs.find? fun kv => decide (kv.1 = k)).map (·.2)
def opIdx : Op2 := fun w i st => match w, i with
  | .dat (.str z), .dat (.int i) => if z.length ≤ sizeLine then (atI z.cps.toList i).map fun c => (.dat (.str ⟨#[c]⟩), st) else none
  | w, .dat (.int i) => match seqOf st w with
    | some ws => (atI ws i).map (·, st)
    | none => none
  | _, _ => none
def opGetD : Op2 := fun w i st => match w, keyOf i with
  | .loc n, some k => match st[n]? with
    | some (.dict kvs) => (valW kvs k).map (·, st)
    | some (.froz kvs) => (valW kvs k).map (·, st)
    | _ => none
  | _, _ => none
theorem RWs.at {K : PySem.W.Frag} {M : Hp} {μ : List Addr} {vs : List V} {ws : List W} {i : Int} {w : W} (r : RWs K M μ vs ws) (e : atI ws i = some w) : ∃ v, atI vs i = some v ∧ RW K M μ v w := by
  unfold atI at e ⊢
  have hl : vs.length = ws.length := Paired.length r
  rw [hl]
  obtain ⟨j, h1, h2⟩ := Option.bind_eq_some_iff.mp e
  have key : ∀ {vs : List V} {ws : List W} {j : Nat}, RWs K M μ vs ws → ws[j]? = some w → ∃ v, vs[j]? = some v ∧ RW K M μ v w := by
    intro vs ws j r e
    induction r generalizing j with
    | nil => simp at e
    | cons a b ih =>
      cases j with
      | zero => simp at e; subst e; exact ⟨_, rfl, a⟩
      | succ j => obtain ⟨v, h1, h2⟩ := ih (j := j) (by simpa using e); exact ⟨v, by simpa using h1, h2⟩
  obtain ⟨v, h3, h4⟩ := key r h2
  exact ⟨v, by rw [h1]; exact h3, h4⟩
theorem o_idx : IxR X (T2 X.K opIdx) := by
  intro value slice pins s σ H x y v u Q I rx ry ⟨st, μ, hid, wx, wy, w, st', sd, hx, hy, e, q⟩ hs
  unfold opIdx at e
  split at e
  · split at e
    · rename_i hz
      obtain ⟨c, h1, h2⟩ := Option.map_eq_some_iff.mp e
      cases h2
      cases hx with | dat hx => cases hx; cases hy with | dat hy => cases hy; exact ix_str value slice pins s σ H _ _ v u Q I rx ry ⟨_, _, c, rfl, rfl, hz, h1, q.here sd (.dat (.str _))⟩ hs
    · cases e
  · split at e
    · rename_i ws hw
      obtain ⟨c, h1, h2⟩ := Option.map_eq_some_iff.mp e
      cases h2
      obtain ⟨hz, a, vs, rfl, hq, hr⟩ := seq_of sd hx hw
      obtain ⟨v', h3, h4⟩ := hr.at h1
      cases hy with
      | dat hy =>
        cases hy
        rcases hq with hq | hq
        · exact ix_list value slice pins s σ H _ _ v u Q I rx ry ⟨_, _, _, v', rfl, rfl, hq, h3, q.here sd h4⟩ hs
        · exact ix_tup value slice pins s σ H _ _ v u Q I rx ry ⟨_, _, _, v', rfl, rfl, hq, h3, q.here sd h4⟩ hs
    · cases e
  · cases e
theorem x_idx (ha : PE X a (TX X.K f)) (hb : PE X b (TX X.K g)) (hs : PlainIx b) : PE X (.Subscript a b pos) (TX X.K (b2 opIdx f g)) := x_ix o_idx ha hb hs
theorem valV_of {K : PySem.W.Frag} {M : Hp} {μ : List Addr} {vs : List (Key × V)} {ws : List (Key × W)} {k : Key} (r : Paired (fun (p : Key × V) (q : Key × W) => p.1 = q.1 ∧ RW K M μ p.2 q.2) vs ws) :
    (valW ws k = none ∧ valV vs k = none) ∨ ∃ v w, valW ws k = some w ∧ valV vs k = some v ∧ RW K M μ v w := by
  induction r with
  | nil => exact .inl ⟨rfl, rfl⟩
  | cons a b ih =>
    rename_i p q _ _
    obtain ⟨h1, h2⟩ := a
    unfold valW valV
    rw [List.find?_cons, List.find?_cons, h1]
    by_cases h : q.1 = k
    · simp only [h, decide_true]; exact .inr ⟨_, _, rfl, rfl, h2⟩
    · simp only [h, decide_false]; exact ih
theorem keyOf_rel {K : PySem.W.Frag} {M : Hp} {μ : List Addr} {v : V} {w : W} {k : Key} (r : RW K M μ v w) (e : keyOf w = some k) : v = kV k := by
  unfold keyOf at e
  split at e
  · cases e; cases r with | dat h => cases h; rfl
  · cases e; cases r with | dat h => cases h; rfl
  · cases e
theorem o_getD {x y : V} {H : Hp} {Q : VK} (h : T2 X.K opGetD x y H Q) : ∃ a v, x = .ref a ∧ DGet H a y (some v) ∧ Q v H := by
  obtain ⟨st, μ, hid, wx, wy, w, st', sd, hx, hy, e, q⟩ := h
  unfold opGetD at e
  split at e
  · rename_i n k hk
    split at e
    · rename_i kvs hw
      obtain ⟨w', h1, h2⟩ := Option.map_eq_some_iff.mp e
      cases h2
      cases hx with
      | loc hax =>
        cases sd.at hw hax with
        | dict h2 h3 h4 =>
          rcases valV_of (k := k) h4 with ⟨h5, _⟩ | ⟨v', w'', h5, h6, h7⟩
          · rw [h5] at h1; cases h1
          · rw [h5] at h1; cases h1
            have := keyOf_rel hy hk
            subst this
            exact ⟨_, _, rfl, by rw [← h6]; exact DGet.k h2, q.here sd h7⟩
    · rename_i kvs hw
      obtain ⟨w', h1, h2⟩ := Option.map_eq_some_iff.mp e
      cases h2
      cases hx with
      | loc hax =>
        cases sd.at hw hax with
        | froz h2 h3 h4 =>
          rcases valV_of (k := k) h4 with ⟨h5, _⟩ | ⟨v', w'', h5, h6, h7⟩
          · rw [h5] at h1; cases h1
          · rw [h5] at h1; cases h1
            have := keyOf_rel hy hk
            subst this
            exact ⟨_, _, rfl, by rw [← h6]; exact .inl ⟨_, _, .inr ⟨_, h2⟩, rfl, rfl⟩, q.here sd h7⟩
    · cases e
  · cases e
theorem TX.mono {K : PySem.W.Frag} {f : Ev} {σ : L2.St} {H : Hp} {Q Q' : VK} (h : TX K f σ H Q) (k : ∀ v H', Q v H' → Q' v H') : TX K f σ H Q' := by
  obtain ⟨env, st, μ, hid, w, st', W0, e, q⟩ := h
  exact ⟨env, st, μ, hid, w, st', W0, e, fun v H' μ' n s r => k _ _ (q v H' μ' n s r)⟩
theorem x_getD (hu : X.A.units + 1 < cLine) (ha : PE X a (TX X.K f)) (hb : PE X b (TX X.K g)) (hs : NoSl b) : PE X (.Subscript a b pos) (TX X.K (b2 opGetD f g)) :=
  PE.imp (pe_dget hu ha hb hs) fun σ H Q h => TX.mono (TX.two h) fun x H1 h1 => TX.mono h1 fun y H2 h2 => o_getD h2
/-! ### slices -/
abbrev Ep := E3 → Store → Option (Option Int × Store)
def TPx (K : PySem.W.Frag) (f : Ep) : TO := fun σ H Q => ∃ env st μ hid w st', Wd K σ H env st μ hid ∧ f env st = some (w, st') ∧
  ∀ H' μ', Nx H μ H' μ' hid → Sd K H' st' μ' hid → Q w H'
def pNone : Ep := fun _ st => some (none, st)
def pSome (f : Ev) : Ep := fun env st => match f env st with
  | some (.dat (.int i), st') => some (some i, st')
  | _ => none
theorem xp_none : PO X none (TPx X.K pNone) := ⟨fun pins s σ H Q I ⟨env, st, μ, hid, w, st', W0, e, q⟩ => by cases e; exact po_none.run pins s σ H Q I (q H μ Nx.refl W0.sd)⟩
theorem xp_some (ha : PE X a (TX X.K f)) : PO X (some a) (TPx X.K (pSome f)) := ⟨fun pins s σ H Q I ⟨env, st, μ, hid, w, st', W0, e, q⟩ => by
  unfold pSome at e
  split at e
  · rename_i i s1 hf
    cases e
    refine (po_some ha).run pins s σ H Q I (TX.go W0 hf fun v H1 μ1 n1 W1 r => ?_)
    cases r with
    | dat r => cases r; exact ⟨i, rfl, q H1 μ1 n1 W1.sd⟩
  · cases e⟩
def cut {α : Type} (xs : List α) (lo hi : Option Int) : List α := (xs.drop (HT.sIx xs.length 0 lo)).take (HT.sIx xs.length xs.length hi - HT.sIx xs.length 0 lo)
theorem RDs.drop {K : PySem.W.Frag} {M : Hp} : ∀ {vs : List V} {ds : List PyData} (n : Nat), RDs K M vs ds → RDs K M (vs.drop n) (ds.drop n)
  | _, _, 0, r => r
  | _, _, _ + 1, .nil => .nil
  | _, _, n + 1, .cons _ t => RDs.drop n t
theorem RDs.take {K : PySem.W.Frag} {M : Hp} : ∀ {vs : List V} {ds : List PyData} (n : Nat), RDs K M vs ds → RDs K M (vs.take n) (ds.take n)
  | _, _, 0, _ => .nil
  | _, _, _ + 1, .nil => .nil
  | _, _, n + 1, .cons r t => .cons r (RDs.take n t)
theorem RDs.cut {K : PySem.W.Frag} {M : Hp} {vs : List V} {ds : List PyData} (lo hi : Option Int) (r : RDs K M vs ds) : RDs K M (cutV vs lo hi) (cut ds lo hi) := by
  unfold cutV L3.cut
  rw [r.length]
  exact (r.drop _).take _
theorem cut_len {α : Type} (xs : List α) (lo hi : Option Int) : (cut xs lo hi).length ≤ xs.length := by
  unfold cut
  rw [List.length_take, List.length_drop]
  omega
theorem cut_whole {α : Type} {xs : List α} {lo hi : Option Int} (h : HT.sIx xs.length 0 lo = 0 ∧ HT.sIx xs.length xs.length hi = xs.length) : cut xs lo hi = xs := by
  unfold cut
  rw [h.1, h.2]
  simp
abbrev Op3 := W → Option Int → Option Int → Store → Option (W × Store)
def opSlice : Op3
  | .dat (.tuple ds), lo, hi, st => some (.dat (.tuple (cut ds lo hi)), st)
  | .dat (.list ds), lo, hi, st => some (.dat (.list (cut ds lo hi)), st)
  | .loc n, lo, hi, st => match st[n]? with
    | some (.list ws) => match ws.mapM datOf with
      | some ds => some (.dat (.list (cut ds lo hi)), st)
      | none => none
    | _ => none
  | _, _, _, _ => none
def bSlice (f : Ev) (p q : Ep) : Ev := fun env st => (f env st).bind fun r => (p env r.2).bind fun t => (q env t.2).bind fun u => opSlice r.1 t.1 u.1 u.2
theorem x_slice {lo hi : Option Expr} {p q : Ep} {p2 : Pos} (ha : PE X a (TX X.K f)) (hl : PO X lo (TPx X.K p)) (hh : PO X hi (TPx X.K q)) : PE X (.Subscript a (.Slice lo hi none p2) pos) (TX X.K (bSlice f p q)) := by
  refine PE.imp (pe_slice (SlR.or sl_tupA sl_list) ha hl hh) fun σ H Q ⟨env, st, μ, hid, w, st', W0, e, q1⟩ => ?_
  unfold bSlice at e
  obtain ⟨⟨wx, s1⟩, h1, e⟩ := Option.bind_eq_some_iff.mp e
  obtain ⟨⟨l, s2⟩, h2, e⟩ := Option.bind_eq_some_iff.mp e
  obtain ⟨⟨u, s3⟩, h3, e⟩ := Option.bind_eq_some_iff.mp e
  refine TX.go W0 h1 fun vx H1 μ1 n1 W1 rx => ?_
  refine ⟨env, s1, μ1, hid, l, s2, W1, h2, fun H2 μ2 n2 sd2 => ?_⟩
  refine ⟨env, s2, μ2, hid, u, s3, W1.next n2 sd2, h3, fun H3 μ3 n3 sd => ?_⟩
  have rx := (rx.mono n2.same n2.pre).mono n3.same n3.pre
  have q : Out X.K H3 μ3 hid w st' Q := fun v H' μ' n s r => q1 v H' μ' (((n1.trans n2).trans n3).trans n) s r
  dsimp only at e
  unfold opSlice at e
  split at e
  · cases e
    cases rx with
    | dat rx => cases rx with
      | tup h z rr =>
        have hl := rr.length
        refine .inl ⟨_, _, rfl, sameT mask_le h, fun hw => ?_, fun _ p hp => q.new sd hp (.dat (RD.tupNew sd hp (Nat.le_trans (cut_len _ _ _) z) (rr.cut _ _)))⟩
        rw [hl] at hw
        rw [cut_whole hw] at q
        exact q.here sd (.dat (.tup h z rr))
  · cases e
    cases rx with
    | dat rx => cases rx with
      | lst h z rr => exact .inr ⟨_, _, rfl, SqL.of (mask_le _ _ h), fun p hp => q.new sd hp (.dat (RD.lstNew sd hp (Nat.le_trans (cut_len _ _ _) z) (rr.cut _ _)))⟩
  · split at e
    · rename_i ws hw
      split at e
      · rename_i ds hd
        cases e
        cases rx with
        | loc ha => cases sd.at hw ha with
          | list h2 h3 h4 =>
            have hn := mapM_len hd
            exact .inr ⟨_, _, rfl, SqL.of h2, fun p hp => q.new sd hp (.dat (RD.lstNew sd hp (Nat.le_trans (cut_len _ _ _) (by omega)) ((h4.dat hd).cut _ _)))⟩
      · cases e
    · cases e
  · cases e
/-! ### list(range(..)), tuple(range(..)) -/
def rgD (a b : Int) : List PyData := (List.range (b - a).toNat).map fun i => .int (a + (i : Nat))
theorem rg_rd {K : PySem.W.Frag} {M : Hp} (a b : Int) : RDs K M (rgV a b) (rgD a b) := by
  unfold rgV rgD
  generalize List.range (b - a).toNat = l
  induction l with
  | nil => exact .nil
  | cons x l ih => exact .cons (.int _) ih
theorem rgD_length (a b : Int) : (rgD a b).length = (b - a).toNat := by unfold rgD; rw [List.length_map, List.length_range]
def rgOk (a b : Int) : Bool := decide (-(2 ^ 62) ≤ a) && decide (a < 2 ^ 62) && decide (-(2 ^ 62) ≤ b) && decide (b < 2 ^ 62) && decide ((b - a).toNat ≤ 2 ^ 24)
theorem rgOk_of {a b : Int} (h : rgOk a b = true) : RgOk a b := by
  unfold rgOk at h
  simp only [Bool.and_eq_true, decide_eq_true_eq] at h
  exact ⟨h.1.1.1.1, h.1.1.1.2, h.1.1.2, h.1.2, h.2⟩
def opRg (tup : Bool) (new : Bool) : Op2
  | .dat (.int i), .dat (.int j), st => if rgOk i j = true then (if tup then some (.dat (.tuple (rgD i j)), st) else if new then some (.loc st.length, st ++ [.list ((rgD i j).map .dat)]) else some (.dat (.list (rgD i j)), st)) else none
  | _, _, _ => none
theorem rg_fin {K : PySem.W.Frag} {i j : Int} {H : Hp} {Q : VK} {st st' : Store} {μ hid : List Addr} {w : W} {tup new : Bool} (sd : Sd K H st μ hid) (e : opRg tup new (.dat (.int i)) (.dat (.int j)) st = some (w, st')) (q : Out K H μ hid w st' Q) :
    RgOk i j ∧ ∀ p, H p = none → Q (.ref p) (upd H p (if tup then .tup (rgV i j) else .lst (rgV i j))) := by
  change (if rgOk i j = true then _ else none) = some (w, st') at e
  split at e
  · rename_i hr
    have ok := rgOk_of hr
    have hz : (rgD i j).length ≤ sizeLine := by rw [rgD_length]; exact ok.2.2.2.2
    refine ⟨ok, fun p hp => ?_⟩
    cases tup with
    | true => cases e; exact q.new sd hp (.dat (RD.tupNew sd hp hz (rg_rd _ _)))
    | false =>
      cases new with
      | false => cases e; exact q.new sd hp (.dat (RD.lstNew sd hp hz (rg_rd _ _)))
      | true => cases e; exact q.cell sd hp (.list upd_same (by rw [List.length_map]; exact hz) ((rg_rd _ _).ws))
  · cases e
theorem x_listRg1 {new : Bool} {p p1 q pos : Pos} (hc : X.calm = true) (hg : Gl X "list") (hm : X.mg "list" = none) (hg2 : Gl X "range") (hm2 : X.mg "range" = none) (ha : PE X a (TX X.K f)) (na : starEach [a] X.env = (false, eval a X.env) :: starEach [] X.env := by rfl)
    (na2 : starEach [Expr.Call (.Name "range" p1) [a] [] q] X.env = (false, eval (Expr.Call (.Name "range" p1) [a] [] q) X.env) :: starEach [] X.env := by rfl) : PE X (.Call (.Name "list" p) [.Call (.Name "range" p1) [a] [] q] [] pos) (TX X.K (b2 (opRg false new) (bDat (.int 0)) f)) := by
  refine PE.imp (pe_listRg hc hg hm (prg_1 hg2 hm2 ha na) na2) fun σ H Q ⟨env, st, μ, hid, w, st', W0, e, q1⟩ => ?_
  unfold b2 at e
  obtain ⟨⟨wx, s1⟩, h1, e⟩ := Option.bind_eq_some_iff.mp e
  obtain ⟨⟨wy, s2⟩, h2, e⟩ := Option.bind_eq_some_iff.mp e
  cases h1
  refine TX.go W0 h2 fun vy H1 μ1 n1 W1 ry => ?_
  have q : Out X.K H1 μ1 hid w st' Q := fun v H' μ' n s r => q1 v H' μ' (n1.trans n) s r
  cases wy with
  | dat d => cases d with
    | int j => cases ry with | dat ry => cases ry; exact ⟨j, rfl, rg_fin W1.sd e q⟩
    | _ => cases e
  | _ => cases e
theorem x_listRg2 {new : Bool} {p p1 q pos : Pos} (hc : X.calm = true) (hg : Gl X "list") (hm : X.mg "list" = none) (hg2 : Gl X "range") (hm2 : X.mg "range" = none) (ha : PE X a (TX X.K f)) (hb : PE X b (TX X.K g)) (na : starEach [a, b] X.env = (false, eval a X.env) :: starEach [b] X.env := by rfl)
    (nb : starEach [b] X.env = (false, eval b X.env) :: starEach [] X.env := by rfl) (hp : (backTo q (starEach [b] X.env)).any (·.1) = false := by rfl)
    (na2 : starEach [Expr.Call (.Name "range" p1) [a, b] [] q] X.env = (false, eval (Expr.Call (.Name "range" p1) [a, b] [] q) X.env) :: starEach [] X.env := by rfl) : PE X (.Call (.Name "list" p) [.Call (.Name "range" p1) [a, b] [] q] [] pos) (TX X.K (b2 (opRg false new) f g)) := by
  refine PE.imp (pe_listRg hc hg hm (prg_2 hg2 hm2 ha hb na nb hp) na2) fun σ H Q ⟨env, st, μ, hid, w, st', W0, e, q1⟩ => ?_
  unfold b2 at e
  obtain ⟨⟨wx, s1⟩, h1, e⟩ := Option.bind_eq_some_iff.mp e
  obtain ⟨⟨wy, s2⟩, h2, e⟩ := Option.bind_eq_some_iff.mp e
  refine TX.go W0 h1 fun vx H0 μ0 n0 W0 rx => TX.go W0 h2 fun vy H1 μ1 n1 W1 ry => ?_
  have q : Out X.K H1 μ1 hid w st' Q := fun v H' μ' n s r => q1 v H' μ' ((n0.trans n1).trans n) s r
  have rx := rx.mono n1.same n1.pre
  cases wx with
  | dat d => cases d with
    | int i =>
      cases wy with
      | dat d => cases d with
        | int j => cases rx with | dat rx => cases rx; cases ry with | dat ry => cases ry; exact ⟨i, j, rfl, rfl, rg_fin W1.sd e q⟩
        | _ => cases e
      | _ => cases e
    | _ => cases e
  | _ => cases e
theorem x_tupRg1 {p p1 q pos : Pos} (hc : X.calm = true) (hg : Gl X "tuple") (hm : X.mg "tuple" = none) (hg2 : Gl X "range") (hm2 : X.mg "range" = none) (ha : PE X a (TX X.K f)) (na : starEach [a] X.env = (false, eval a X.env) :: starEach [] X.env := by rfl)
    (na2 : starEach [Expr.Call (.Name "range" p1) [a] [] q] X.env = (false, eval (Expr.Call (.Name "range" p1) [a] [] q) X.env) :: starEach [] X.env := by rfl) : PE X (.Call (.Name "tuple" p) [.Call (.Name "range" p1) [a] [] q] [] pos) (TX X.K (b2 (opRg true false) (bDat (.int 0)) f)) := by
  refine PE.imp (pe_tupRg hc hg hm (prg_1 hg2 hm2 ha na) na2) fun σ H Q ⟨env, st, μ, hid, w, st', W0, e, q1⟩ => ?_
  unfold b2 at e
  obtain ⟨⟨wx, s1⟩, h1, e⟩ := Option.bind_eq_some_iff.mp e
  obtain ⟨⟨wy, s2⟩, h2, e⟩ := Option.bind_eq_some_iff.mp e
  cases h1
  refine TX.go W0 h2 fun vy H1 μ1 n1 W1 ry => ?_
  have q : Out X.K H1 μ1 hid w st' Q := fun v H' μ' n s r => q1 v H' μ' (n1.trans n) s r
  cases wy with
  | dat d => cases d with
    | int j => cases ry with | dat ry => cases ry; exact ⟨j, rfl, rg_fin W1.sd e q⟩
    | _ => cases e
  | _ => cases e
theorem x_tupRg2 {p p1 q pos : Pos} (hc : X.calm = true) (hg : Gl X "tuple") (hm : X.mg "tuple" = none) (hg2 : Gl X "range") (hm2 : X.mg "range" = none) (ha : PE X a (TX X.K f)) (hb : PE X b (TX X.K g)) (na : starEach [a, b] X.env = (false, eval a X.env) :: starEach [b] X.env := by rfl)
    (nb : starEach [b] X.env = (false, eval b X.env) :: starEach [] X.env := by rfl) (hp : (backTo q (starEach [b] X.env)).any (·.1) = false := by rfl)
    (na2 : starEach [Expr.Call (.Name "range" p1) [a, b] [] q] X.env = (false, eval (Expr.Call (.Name "range" p1) [a, b] [] q) X.env) :: starEach [] X.env := by rfl) : PE X (.Call (.Name "tuple" p) [.Call (.Name "range" p1) [a, b] [] q] [] pos) (TX X.K (b2 (opRg true false) f g)) := by
  refine PE.imp (pe_tupRg hc hg hm (prg_2 hg2 hm2 ha hb na nb hp) na2) fun σ H Q ⟨env, st, μ, hid, w, st', W0, e, q1⟩ => ?_
  unfold b2 at e
  obtain ⟨⟨wx, s1⟩, h1, e⟩ := Option.bind_eq_some_iff.mp e
  obtain ⟨⟨wy, s2⟩, h2, e⟩ := Option.bind_eq_some_iff.mp e
  refine TX.go W0 h1 fun vx H0 μ0 n0 W0 rx => TX.go W0 h2 fun vy H1 μ1 n1 W1 ry => ?_
  have q : Out X.K H1 μ1 hid w st' Q := fun v H' μ' n s r => q1 v H' μ' ((n0.trans n1).trans n) s r
  have rx := rx.mono n1.same n1.pre
  cases wx with
  | dat d => cases d with
    | int i =>
      cases wy with
      | dat d => cases d with
        | int j => cases rx with | dat rx => cases rx; cases ry with | dat ry => cases ry; exact ⟨i, j, rfl, rfl, rg_fin W1.sd e q⟩
        | _ => cases e
      | _ => cases e
    | _ => cases e
  | _ => cases e
/-! ### tests -/
abbrev Et := E3 → Store → Option (Bool × Store)
def TTx (K : PySem.W.Frag) (f : Et) : TT := fun σ H Q => ∃ env st μ hid w st', Wd K σ H env st μ hid ∧ f env st = some (w, st') ∧
  ∀ H' μ', Nx H μ H' μ' hid → Sd K H' st' μ' hid → Q w H'
theorem TTx.go {K : PySem.W.Frag} {f : Et} {σ : L2.St} {H : Hp} {env : E3} {st st' : Store} {μ hid : List Addr} {w : Bool} {Q : Bool → Hp → Prop} (W0 : Wd K σ H env st μ hid) (e : f env st = some (w, st'))
    (k : ∀ H' μ', Nx H μ H' μ' hid → Wd K σ H' env st' μ' hid → Q w H') : TTx K f σ H Q :=
  ⟨env, st, μ, hid, w, st', W0, e, fun H' μ' n s => k H' μ' n (W0.next n s)⟩
def truth (st : Store) : W → Option Bool
  | .dat .none => some false
  | .dat (.bool b) => some b
  | .dat (.int i) => some (i != 0)
  | .dat (.str x) => if x.length ≤ sizeLine then some ((x.length : Int) != 0) else none
  | .dat (.list ds) => some (!ds.isEmpty)
  | .dat (.tuple ds) => some (!ds.isEmpty)
  | .loc n => match st[n]? with
    | some (.list ws) => some (!ws.isEmpty)
    | some (.dict ws) => some (!ws.isEmpty)
    | _ => none
  | _ => none
theorem tru_of {K : PySem.W.Frag} {H : Hp} {st : Store} {μ hid : List Addr} (sd : Sd K H st μ hid) {v : V} {w : W} {k : Bool} (r : RW K (mask H (μ ++ hid)) μ v w) (e : truth st w = some k) : TruV K v H k := by
  cases r with
  | dat h =>
    cases h with
    | non => cases e; rfl
    | bl b => cases e; rfl
    | int i => cases e; rfl
    | str x =>
      simp only [truth] at e
      split at e
      · rename_i hz; cases e; exact ⟨hz, rfl⟩
      · cases e
    | lst h z r => cases e; have := r.length; exact .inl ⟨_, SqL.of (mask_le _ _ h), by cases r <;> rfl⟩
    | tup h z r => cases e; exact .inr (.inl ⟨_, sameT mask_le h, by cases r <;> rfl⟩)
  | loc ha =>
    simp only [truth] at e
    split at e
    · rename_i hw; cases e; cases sd.at hw ha with | list h2 _ h4 => exact .inl ⟨_, SqL.of h2, by cases h4 <;> rfl⟩
    · rename_i hw; cases e; cases sd.at hw ha with | dict h2 _ h4 => exact .inr (.inr ⟨_, h2, by cases h4 <;> rfl⟩)
    · cases e
  | _ => cases e
def tTru (f : Ev) : Et := fun env st => (f env st).bind fun r => (truth r.2 r.1).map (·, r.2)
theorem xt_val (ha : PE X a (TX X.K f)) (he : ∀ whole, isTrue a X.env whole = (do let v ← whole; standAt a.pos; holding [v] (truthy v)) := by intro _; rfl) : PT X a (TTx X.K (tTru f)) := by
  refine PT.imp (pt_truth ha he) fun σ H Q ⟨env, st, μ, hid, w, st', W0, e, q⟩ => ?_
  unfold tTru at e
  obtain ⟨⟨wx, s1⟩, h1, e⟩ := Option.bind_eq_some_iff.mp e
  obtain ⟨k, h2, h3⟩ := Option.map_eq_some_iff.mp e
  cases h3
  exact TX.go W0 h1 fun v H1 μ1 n1 W1 r => ⟨_, tru_of W1.sd r h2, q H1 μ1 n1 W1.sd⟩
/-- a bool's own -/
def tBl (f : Ev) : Et := fun env st => match f env st with
  | some (.dat (.bool b), st') => some (b, st')
  | _ => none
theorem TTx.bl {K : PySem.W.Frag} {σ : L2.St} {H : Hp} {Q : Bool → Hp → Prop} (h : TTx K (tBl f) σ H Q) : tTest (TX K f) σ H Q := by
  obtain ⟨env, st, μ, hid, w, st', W0, e, q⟩ := h
  unfold tBl at e
  split at e
  · rename_i b s1 hf
    cases e
    exact TX.go W0 hf fun v H1 μ1 n1 W1 r => by cases r with | dat r => cases r; exact ⟨_, rfl, q H1 μ1 n1 W1.sd⟩
  · cases e
theorem xt_cmp {op : CmpOp} {o : Op2} (ho : OpR X (compareOp op) (T2 X.K o)) (ha : PE X a (TX X.K f)) (hb : PE X b (TX X.K g)) (hm : behindInMarks op b = false) : PT X (.Compare a [op] [b] pos) (TTx X.K (tBl (b2 o f g))) :=
  PT.imp (pt_cmpR ho ha hb hm) fun σ H Q h => by
    have h := h.bl
    exact TX.two h
def bChain (o o' : Op2) (f g h : Ev) : Ev := fun env st => (f env st).bind fun r => (g env r.2).bind fun t => (o r.1 t.1 t.2).bind fun u => match u.1 with
  | .dat (.bool true) => (h env u.2).bind fun z => o' t.1 z.1 z.2
  | .dat (.bool false) => some (.dat (.bool false), u.2)
  | _ => none
theorem TX.chain {o o' : Op2} {h : Ev} {K : PySem.W.Frag} {σ : L2.St} {H : Hp} {Q : VK} (h0 : TX K (bChain o o' f g h) σ H Q) : tChain (T2 K o) (T2 K o') (TX K f) (TX K g) (TX K h) σ H Q := by
  obtain ⟨env, st, μ, hid, w, st', W0, e, q⟩ := h0
  unfold bChain at e
  obtain ⟨⟨wx, s1⟩, h1, e⟩ := Option.bind_eq_some_iff.mp e
  obtain ⟨⟨wy, s2⟩, h2, e⟩ := Option.bind_eq_some_iff.mp e
  obtain ⟨⟨wu, s3⟩, h3, e⟩ := Option.bind_eq_some_iff.mp e
  refine TX.go W0 h1 fun vx H1 μ1 n1 W1 rx => TX.go W1 h2 fun vy H2 μ2 n2 W2 ry => ⟨s2, μ2, hid, wx, wy, wu, s3, W2.sd, rx.mono n2.same n2.pre, ry, h3, fun v H3 μ3 n3 sd3 r3 => ?_⟩
  have W3 := W2.next n3 sd3
  split at e
  · rename_i hu
    obtain rfl : wu = .dat (.bool true) := hu
    cases r3 with
    | dat r3 =>
      cases r3
      obtain ⟨⟨wz, s4⟩, h4, e⟩ := Option.bind_eq_some_iff.mp e
      refine ⟨true, rfl, ?_⟩
      rw [if_pos rfl]
      exact TX.go W3 h4 fun vz H4 μ4 n4 W4 rz => ⟨s4, μ4, hid, wy, wz, w, st', W4.sd, (ry.mono n3.same n3.pre).mono n4.same n4.pre, rz, e, fun v H' μ' n s r => q v H' μ' ((((n1.trans n2).trans n3).trans n4).trans n) s r⟩
  · rename_i hu
    obtain rfl : wu = .dat (.bool false) := hu
    cases e
    cases r3 with
    | dat r3 =>
      cases r3
      refine ⟨false, rfl, ?_⟩
      rw [if_neg (by decide)]
      exact q _ H3 μ3 ((n1.trans n2).trans n3) sd3 (.dat (.bl _))
  · cases e
theorem x_chain {op op' : CmpOp} {o o' : Op2} {h : Ev} (ho : OpR X (compareOp op) (T2 X.K o)) (ho' : OpR X (compareOp op') (T2 X.K o')) (ha : PE X a (TX X.K f)) (hb : PE X b (TX X.K g)) (hc : PE X c (TX X.K h))
    (hm : lastMarks [op, op'] [b, c] = false := by with_unfolding_all rfl) : PE X (.Compare a [op, op'] [b, c] pos) (TX X.K (bChain o o' f g h)) :=
  PE.imp (pe_chain ho ho' ha hb hc hm) fun σ H Q q => TX.chain q
theorem xt_chain {op op' : CmpOp} {o o' : Op2} {h : Ev} (ho : OpR X (compareOp op) (T2 X.K o)) (ho' : OpR X (compareOp op') (T2 X.K o')) (ha : PE X a (TX X.K f)) (hb : PE X b (TX X.K g)) (hc : PE X c (TX X.K h))
    (hm : lastMarks [op, op'] [b, c] = false := by with_unfolding_all rfl) : PT X (.Compare a [op, op'] [b, c] pos) (TTx X.K (tBl (bChain o o' f g h))) :=
  PT.imp (pt_chain ho ho' ha hb hc hm) fun σ H Q q => TX.chain q.bl
def tNo (f : Et) : Et := fun env st => (f env st).map fun r => (!r.1, r.2)
theorem xt_not {f : Et} (ha : PT X a (TTx X.K f)) : PT X (.UnaryOp .Not a pos) (TTx X.K (tNo f)) :=
  PT.imp (pt_not ha) fun σ H Q ⟨env, st, μ, hid, w, st', W0, e, q⟩ => by
    unfold tNo at e
    obtain ⟨⟨k, s1⟩, h1, h2⟩ := Option.map_eq_some_iff.mp e
    cases h2
    exact ⟨env, st, μ, hid, k, s1, W0, h1, q⟩
def tAn (f g : Et) : Et := fun env st => (f env st).bind fun r => if r.1 = true then g env r.2 else some (false, r.2)
def tOr3 (f g : Et) : Et := fun env st => (f env st).bind fun r => if r.1 = true then some (true, r.2) else g env r.2
section
variable {rest : List Expr} {f g : Et}
theorem xw_and (ha : PT X a (TTx X.K f)) (hb : PW X (.BoolOp .And (b :: rest) pos) (TTx X.K g)) : PW X (.BoolOp .And (a :: b :: rest) pos) (TTx X.K (tAn f g)) :=
  PW.imp (pw_and ha hb) fun σ H Q ⟨env, st, μ, hid, w, st', W0, e, q⟩ => by
    unfold tAn at e
    obtain ⟨⟨k, s1⟩, h1, e⟩ := Option.bind_eq_some_iff.mp e
    refine TTx.go W0 h1 fun H1 μ1 n1 W1 => ?_
    cases k with
    | true => rw [if_pos rfl] at e ⊢; exact TTx.go W1 e fun H2 μ2 n2 W2 => q H2 μ2 (n1.trans n2) W2.sd
    | false => simp only [Bool.false_eq_true, if_false] at e ⊢; cases e; exact q H1 μ1 n1 W1.sd
theorem xw_or (ha : PT X a (TTx X.K f)) (hb : PW X (.BoolOp .Or (b :: rest) pos) (TTx X.K g)) : PW X (.BoolOp .Or (a :: b :: rest) pos) (TTx X.K (tOr3 f g)) :=
  PW.imp (pw_or ha hb) fun σ H Q ⟨env, st, μ, hid, w, st', W0, e, q⟩ => by
    unfold tOr3 at e
    obtain ⟨⟨k, s1⟩, h1, e⟩ := Option.bind_eq_some_iff.mp e
    refine TTx.go W0 h1 fun H1 μ1 n1 W1 => ?_
    cases k with
    | true => rw [if_pos rfl] at e ⊢; cases e; exact q H1 μ1 n1 W1.sd
    | false => simp only [Bool.false_eq_true, if_false] at e ⊢; exact TTx.go W1 e fun H2 μ2 n2 W2 => q H2 μ2 (n1.trans n2) W2.sd
end
/-! ### and, or, not, if as values -/
def bAnd (f g : Ev) : Ev := fun env st => (f env st).bind fun r => (truth r.2 r.1).bind fun k => if k = true then g env r.2 else some r
def bOr (f g : Ev) : Ev := fun env st => (f env st).bind fun r => (truth r.2 r.1).bind fun k => if k = true then some r else g env r.2
def bNot (f : Ev) : Ev := fun env st => (f env st).bind fun r => (truth r.2 r.1).map fun k => (.dat (.bool (!k)), r.2)
theorem x_and {rest : List Expr} (ha : PE X a (TX X.K f)) (hb : PE X (.BoolOp .And (b :: rest) pos) (TX X.K g)) : PE X (.BoolOp .And (a :: b :: rest) pos) (TX X.K (bAnd f g)) :=
  PE.imp (pe_andT ha hb) fun σ H Q ⟨env, st, μ, hid, w, st', W0, e, q⟩ => by
    unfold bAnd at e
    obtain ⟨⟨x, s1⟩, h1, e⟩ := Option.bind_eq_some_iff.mp e
    obtain ⟨k, h2, e⟩ := Option.bind_eq_some_iff.mp e
    refine TX.go W0 h1 fun v H1 μ1 n1 W1 r => ⟨k, tru_of W1.sd r h2, ?_⟩
    cases k with
    | true => rw [if_pos rfl] at e ⊢; exact TX.go W1 e fun v H2 μ2 n2 W2 r => q v H2 μ2 (n1.trans n2) W2.sd r
    | false => simp only [Bool.false_eq_true, if_false] at e ⊢; cases e; exact q v H1 μ1 n1 W1.sd r
theorem x_or {rest : List Expr} (ha : PE X a (TX X.K f)) (hb : PE X (.BoolOp .Or (b :: rest) pos) (TX X.K g)) : PE X (.BoolOp .Or (a :: b :: rest) pos) (TX X.K (bOr f g)) :=
  PE.imp (pe_orT ha hb) fun σ H Q ⟨env, st, μ, hid, w, st', W0, e, q⟩ => by
    unfold bOr at e
    obtain ⟨⟨x, s1⟩, h1, e⟩ := Option.bind_eq_some_iff.mp e
    obtain ⟨k, h2, e⟩ := Option.bind_eq_some_iff.mp e
    refine TX.go W0 h1 fun v H1 μ1 n1 W1 r => ⟨k, tru_of W1.sd r h2, ?_⟩
    cases k with
    | true => rw [if_pos rfl] at e ⊢; cases e; exact q v H1 μ1 n1 W1.sd r
    | false => simp only [Bool.false_eq_true, if_false] at e ⊢; exact TX.go W1 e fun v H2 μ2 n2 W2 r => q v H2 μ2 (n1.trans n2) W2.sd r
theorem x_not (ha : PE X a (TX X.K f)) : PE X (.UnaryOp .Not a pos) (TX X.K (bNot f)) :=
  PE.imp (pe_notT ha) fun σ H Q ⟨env, st, μ, hid, w, st', W0, e, q⟩ => by
    unfold bNot at e
    obtain ⟨⟨x, s1⟩, h1, e⟩ := Option.bind_eq_some_iff.mp e
    obtain ⟨k, h2, h3⟩ := Option.map_eq_some_iff.mp e
    cases h3
    exact TX.go W0 h1 fun v H1 μ1 n1 W1 r => ⟨k, tru_of W1.sd r h2, q _ H1 μ1 n1 W1.sd (.dat (.bl _))⟩
def bIf (t : Et) (f g : Ev) : Ev := fun env st => (t env st).bind fun r => if r.1 = true then f env r.2 else g env r.2
theorem x_if {t : Et} (hc : PT X c (TTx X.K t)) (ha : PE X a (TX X.K f)) (hb : PE X b (TX X.K g)) : PE X (.IfExp c a b pos) (TX X.K (bIf t f g)) :=
  PE.imp (pe_ifExp hc ha hb) fun σ H Q ⟨env, st, μ, hid, w, st', W0, e, q⟩ => by
    unfold bIf at e
    obtain ⟨⟨k, s1⟩, h1, e⟩ := Option.bind_eq_some_iff.mp e
    refine TTx.go W0 h1 fun H1 μ1 n1 W1 => ?_
    cases k with
    | true => rw [if_pos rfl] at e ⊢; exact TX.go W1 e fun v H2 μ2 n2 W2 r => q v H2 μ2 (n1.trans n2) W2.sd r
    | false => simp only [Bool.false_eq_true, if_false] at e ⊢; exact TX.go W1 e fun v H2 μ2 n2 W2 r => q v H2 μ2 (n1.trans n2) W2.sd r
end
end L3
set_option Elab.async false
set_option linter.all false
set_option maxRecDepth 100000
set_option maxHeartbeats 4000000
set_option autoImplicit false
/-! L3: targets, statements, loops. -/
namespace L3
open PySem PySem.Spec PyProof.Rows L2
section
variable {X : Cx} {a b c : Expr} {pos : Pos} {f g : Ev}
/-! ### targets -/
abbrev Eg := W → E3 → Store → Option (E3 × Store)
abbrev Egs := List W → E3 → Store → Option (E3 × Store)
def After (σ σ' : L2.St) (sl : List Nat) : Prop := σ'.length = σ.length ∧ ∀ j, j ∉ sl → σ'[j]? = σ[j]?
theorem After.refl {σ : L2.St} {sl : List Nat} : After σ σ sl := ⟨rfl, fun _ _ => rfl⟩
theorem After.trans {σ σ' σ'' : L2.St} {sl sl' : List Nat} (h : After σ σ' sl) (h' : After σ' σ'' sl') : After σ σ'' (sl ++ sl') :=
  ⟨h'.1.trans h.1, fun j hj => (h'.2 j fun q => hj (List.mem_append_right _ q)).trans (h.2 j fun q => hj (List.mem_append_left _ q))⟩
def TGx (K : PySem.W.Frag) (sl : List Nat) (g : Eg) : TG := fun v σ H Q => ∃ env st μ hid w env' st', Wd K σ H env st μ hid ∧ RW K (mask H (μ ++ hid)) μ v w ∧ g w env st = some (env', st') ∧
  ∀ σ' H' μ', Nx H μ H' μ' hid → Wd K σ' H' env' st' μ' hid → After σ σ' sl → Q σ' H'
def TGsx (K : PySem.W.Frag) (sl : List Nat) (g : Egs) : TGs := fun v σ H Q => ∃ env st μ hid w env' st', Wd K σ H env st μ hid ∧ RWs K (mask H (μ ++ hid)) μ v w ∧ g w env st = some (env', st') ∧
  ∀ σ' H' μ', Nx H μ H' μ' hid → Wd K σ' H' env' st' μ' hid → After σ σ' sl → Q σ' H'
theorem PG.imp {tg : Expr} {t t' : TG} (h : PG X tg t) (k : ∀ v σ H Q, t' v σ H Q → t v σ H Q) : PG X tg t' := ⟨fun pins s σ H x v Q I r q => h.run pins s σ H x v Q I r (k _ _ _ _ q)⟩
theorem PGs.imp {tg : List Expr} {t t' : TGs} (h : PGs X tg t) (k : ∀ v σ H Q, t' v σ H Q → t v σ H Q) : PGs X tg t' := ⟨fun pins s σ H x v Q I r q => h.run pins s σ H x v Q I r (k _ _ _ _ q)⟩
theorem PG.or {tg : Expr} {t t' : TG} (h : PG X tg t) (h' : PG X tg t') : PG X tg (fun v σ H Q => t v σ H Q ∨ t' v σ H Q) :=
  ⟨fun pins s σ H x v Q I r q => q.elim (h.run pins s σ H x v Q I r) (h'.run pins s σ H x v Q I r)⟩
def gNm (i : Nat) : Eg := fun w env st => some (env.set i (some w), st)
def gNl : Egs
  | [], env, st => some (env, st)
  | _, _, _ => none
def gCn (g : Eg) (h : Egs) : Egs
  | w :: ws, env, st => (g w env st).bind fun r => h ws r.1 r.2
  | [], _, _ => none
def gTp (n : Nat) (g : Egs) : Eg := fun w env st => match seqOf st w with
  | some ws => if ws.length = n then g ws env st else none
  | none => none
theorem xg_name {i : Nat} {x : Str} (hN : X.N.Nodup) (hi : X.N[i]? = some x) (hx : Loc X.env.scope x) (hf : X.fn x = true ∨ X.env.scope.names.lookup x = some .local := by first | exact .inl rfl | exact .inr rfl | assumption) : PG X (.Name x pos) (TGx X.K [i] (gNm i)) :=
  PG.imp (pg_name hN hi hx hf) fun v σ H Q ⟨env, st, μ, hid, w, env', st', W0, r, e, q⟩ => by
    cases e
    refine q _ H μ Nx.refl ⟨W0.ev.set r, W0.sd⟩ ⟨List.length_set, fun j hj => ?_⟩
    rw [List.getElem?_set_ne]
    intro e; exact hj (by simp [e])
theorem xgs_nil : PGs X [] (TGsx X.K [] gNl) :=
  PGs.imp pgs_nil fun v σ H Q ⟨env, st, μ, hid, w, env', st', W0, r, e, q⟩ => by
    cases r with
    | nil => cases e; exact ⟨rfl, q σ H μ Nx.refl W0 After.refl⟩
    | cons a b => cases e
theorem xgs_cons {e : Expr} {es : List Expr} {sl sl' : List Nat} {g : Eg} {h : Egs} (h1 : PG X e (TGx X.K sl g)) (h2 : PGs X es (TGsx X.K sl' h))
    (hs : (assignEach (e :: es) X.env).map (·.2) = assign e X.env :: (assignEach es X.env).map (·.2) := by rfl) : PGs X (e :: es) (TGsx X.K (sl ++ sl') (gCn g h)) :=
  PGs.imp (pgs_cons h1 h2 hs) fun v σ H Q ⟨env, st, μ, hid, w, env', st', W0, r, e, q⟩ => by
    cases r with
    | nil => cases e
    | cons r1 r2 =>
      obtain ⟨⟨env1, st1⟩, h3, h4⟩ := Option.bind_eq_some_iff.mp e
      refine ⟨_, _, rfl, env, st, μ, hid, _, env1, st1, W0, r1, h3, fun σ1 H1 μ1 n1 W1 a1 => ?_⟩
      exact ⟨env1, st1, μ1, hid, _, env', st', W1, RWs.mono n1.same n1.pre r2, h4, fun σ2 H2 μ2 n2 W2 a2 => q σ2 H2 μ2 (n1.trans n2) W2 (a1.trans a2)⟩
theorem xg_tup {es : List Expr} {k n : Nat} {sl : List Nat} {g : Egs} (hc : X.calm = true) (h : PGs X es (TGsx X.K sl g))
    (hn : (assignEach es X.env).length = n := by rfl) (hst : (assignEach es X.env).findIdx? (·.1) = none := by rfl) : PG X (.Tuple es k pos) (TGx X.K sl (gTp n g)) :=
  PG.imp (PG.or (pg_tup hc h hn hst) (pg_unl hc h hn hst)) fun v σ H Q ⟨env, st, μ, hid, w, env', st', W0, r, e, q⟩ => by
    unfold gTp at e
    split at e
    · rename_i ws hw
      split at e
      · rename_i hl
        obtain ⟨_, a, xs, rfl, hq, hr⟩ := seq_of W0.sd r hw
        have hl2 : xs.length = ws.length := Paired.length hr
        rcases hq with hq | hq
        · exact .inr ⟨a, xs, rfl, hq, by omega, env, st, μ, hid, ws, env', st', W0, hr, e, q⟩
        · exact .inl ⟨a, xs, rfl, hq, by omega, env, st, μ, hid, ws, env', st', W0, hr, e, q⟩
      · cases e
    · cases e
/-- stores -/
def putW (kvs : List (Key × W)) (k : Key) (v : W) : List (Key × W) := match kvs with
  | [] => [(k, v)]
  | p :: r => if p.1 = k then (k, v) :: r else p :: putW r k v
def opSet : W → W → W → Store → Option Store := fun o i w st => match o with
  | .loc n => match st[n]? with
    | some (.list ws) => match i with
      | .dat (.int i) => match ixN ws.length i with
        | some j => some (st.set n (.list (ws.set j w)))
        | none => none
      | _ => none
    | _ => none
  | _ => none
def gSb (f i : Ev) : Eg := fun w env st => (f env st).bind fun r => (i env r.2).bind fun t => (opSet r.1 t.1 w t.2).map (env, ·)
theorem RWs.set {K : PySem.W.Frag} {M : Hp} {μ : List Addr} {v : V} {w : W} (r : RW K M μ v w) : ∀ {vs : List V} {ws : List W} (j : Nat), RWs K M μ vs ws → RWs K M μ (vs.set j v) (ws.set j w)
  | _, _, _, .nil => .nil
  | _, _, 0, .cons _ t => .cons r t
  | _, _, j + 1, .cons q t => .cons q (RWs.set r j t)
theorem xg_sub {o i : Expr} (ho : PE X o (TX X.K f)) (hi : PE X i (TX X.K g))
    (ha : ∀ v, assign (.Subscript o i pos) X.env v = (do
      let ov ← holding [v] (eval o X.env)
      let iv ← holding [v, ov] (eval i X.env)
      standAt pos
      holding [v, ov, iv] (setItem ov iv v)
      release [v, ov, iv] []) := by intro _; rfl) : PG X (.Subscript o i pos) (TGx X.K [] (gSb f g)) :=
  PG.imp (pg_sub ho hi set_list ha) fun v σ H Q ⟨env, st, μ, hid, w, env', st', W0, r, e, q⟩ => by
    unfold gSb at e
    obtain ⟨⟨wo, s1⟩, h1, e⟩ := Option.bind_eq_some_iff.mp e
    obtain ⟨⟨wi, s2⟩, h2, e⟩ := Option.bind_eq_some_iff.mp e
    obtain ⟨s3, h3, h4⟩ := Option.map_eq_some_iff.mp e
    cases h4
    refine TX.go W0 h1 fun vo H1 μ1 n1 W1 ro => TX.go W1 h2 fun vi H2 μ2 n2 W2 ri => ?_
    have ro := ro.mono n2.same n2.pre
    have r := (r.mono n1.same n1.pre).mono n2.same n2.pre
    dsimp only at h3
    unfold opSet at h3
    split at h3
    · rename_i n
      split at h3
      · rename_i ws hw
        split at h3
        · rename_i ii
          split at h3
          · rename_i j hj
            cases h3
            cases ro with
            | loc hm =>
              cases ri with
              | dat ri =>
                cases ri
                cases W2.sd.at hw hm with
                | @list vs _ h5 h6 h7 =>
                  have hl : _ = _ := Paired.length h7
                  refine ⟨_, _, _, j, rfl, rfl, h5, by rw [hl]; exact hj, ?_⟩
                  have np := Nx.put (H := H2) (o := .lst (vs.set j v)) hm W2.sd.nd (nfL h5)
                  have sp := W2.sd.put (o := .lst (vs.set j v)) hm (c := .list (ws.set j w)) (.list upd_same (by rw [List.length_set]; exact h6) (h7.set r j))
                  exact q σ _ μ2 ((n1.trans n2).trans np) (W2.next np sp) After.refl
          · cases h3
        · cases h3
      · cases h3
    · cases h3
/-! ### statements -/
inductive Fl where
  | nx | rt (w : W) | bk | ct
abbrev Eb := E3 → Store → Option (Fl × E3 × Store)
def FinS (K : PySem.W.Frag) (H : Hp) (μ hid : List Addr) (D : Ends) (fl : Fl) (env' : E3) (st' : Store) : Prop := match fl with
  | .nx => ∀ σ' H' μ', Nx H μ H' μ' hid → Wd K σ' H' env' st' μ' hid → D.nx σ' H'
  | .rt w => ∀ v H' μ', Nx H μ H' μ' hid → Sd K H' st' μ' hid → RW K (mask H' (μ' ++ hid)) μ' v w → D.rt v H'
  | .bk => ∀ σ' H' μ', Nx H μ H' μ' hid → Wd K σ' H' env' st' μ' hid → D.bk σ' H'
  | .ct => ∀ σ' H' μ', Nx H μ H' μ' hid → Wd K σ' H' env' st' μ' hid → D.ct σ' H'
def TSx (K : PySem.W.Frag) (f : Eb) : TS := fun D σ H => ∃ env st μ hid fl env' st', Wd K σ H env st μ hid ∧ f env st = some (fl, env', st') ∧ FinS K H μ hid D fl env' st'
theorem FinS.from {K : PySem.W.Frag} {H H1 : Hp} {μ μ1 hid : List Addr} {D : Ends} {fl : Fl} {env' : E3} {st' : Store} (n : Nx H μ H1 μ1 hid) (h : FinS K H μ hid D fl env' st') : FinS K H1 μ1 hid D fl env' st' := by
  cases fl with
  | nx => exact fun σ' H' μ' n' w => h σ' H' μ' (n.trans n') w
  | rt w => exact fun v H' μ' n' s r => h v H' μ' (n.trans n') s r
  | bk => exact fun σ' H' μ' n' w => h σ' H' μ' (n.trans n') w
  | ct => exact fun σ' H' μ' n' w => h σ' H' μ' (n.trans n') w
theorem TSx.go {K : PySem.W.Frag} {f : Eb} {σ : L2.St} {H : Hp} {env env' : E3} {st st' : Store} {μ hid : List Addr} {fl : Fl} {D : Ends} (W0 : Wd K σ H env st μ hid) (e : f env st = some (fl, env', st')) (k : FinS K H μ hid D fl env' st') : TSx K f D σ H :=
  ⟨env, st, μ, hid, fl, env', st', W0, e, k⟩
def bPass : Eb := fun env st => some (.nx, env, st)
def bBrk : Eb := fun env st => some (.bk, env, st)
def bCnt : Eb := fun env st => some (.ct, env, st)
def bBad : Eb := fun _ _ => none
def bSeq (f g : Eb) : Eb := fun env st => (f env st).bind fun r => match r.1 with
  | .nx => g r.2.1 r.2.2
  | _ => some r
def bRet (f : Ev) : Eb := fun env st => (f env st).map fun r => (.rt r.1, env, r.2)
def bRetN : Eb := fun env st => some (.rt (.dat .none), env, st)
def bAsg (f : Ev) (g : Eg) : Eb := fun env st => (f env st).bind fun r => (g r.1 env r.2).map fun t => (.nx, t.1, t.2)
def bExp (f : Ev) : Eb := fun env st => (f env st).map fun r => (.nx, env, r.2)
def bIfS (t : Et) (f g : Eb) : Eb := fun env st => (t env st).bind fun r => if r.1 = true then f env r.2 else g env r.2
section
variable {s : Stmt} {ss tt : List Stmt} {u v : Eb}
theorem xs_bad : PS X s (TSx X.K bBad) := PS.imp (t := tNever) (ps_never) fun D σ H ⟨_, _, _, _, _, _, _, _, e, _⟩ => by cases e
theorem xss_bad : PSs X ss (TSx X.K bBad) := PSs.imp (t := tNever) (pss_never) fun D σ H ⟨_, _, _, _, _, _, _, _, e, _⟩ => by cases e
theorem xs_pass : PS X (.Pass pos) (TSx X.K bPass) := PS.imp ps_pass fun D σ H ⟨env, st, μ, hid, fl, env', st', W0, e, q⟩ => by cases e; exact q σ H μ Nx.refl W0
theorem xs_brk : PS X (.Break pos) (TSx X.K bBrk) := PS.imp ps_break fun D σ H ⟨env, st, μ, hid, fl, env', st', W0, e, q⟩ => by cases e; exact q σ H μ Nx.refl W0
theorem xs_cnt : PS X (.Continue pos) (TSx X.K bCnt) := PS.imp ps_continue fun D σ H ⟨env, st, μ, hid, fl, env', st', W0, e, q⟩ => by cases e; exact q σ H μ Nx.refl W0
theorem xss_nil : PSs X [] (TSx X.K bPass) := PSs.imp pss_nil fun D σ H ⟨env, st, μ, hid, fl, env', st', W0, e, q⟩ => by cases e; exact q σ H μ Nx.refl W0
theorem xss_one (h : PS X s (TSx X.K u)) : PSs X [s] (TSx X.K u) := pss_one h
theorem TSx.seq {K : PySem.W.Frag} {D : Ends} {σ : L2.St} {H : Hp} (h : TSx K (bSeq u v) D σ H) : tSeq (TSx K u) (TSx K v) D σ H := by
  obtain ⟨env, st, μ, hid, fl, env', st', W0, e, q⟩ := h
  unfold bSeq at e
  obtain ⟨⟨fl1, env1, st1⟩, h1, e⟩ := Option.bind_eq_some_iff.mp e
  refine TSx.go W0 h1 ?_
  cases fl1 with
  | nx => exact fun σ' H' μ' n w => TSx.go w e (FinS.from n q)
  | rt w => cases e; exact q
  | bk => cases e; exact q
  | ct => cases e; exact q
theorem xss_cons (h : PS X s (TSx X.K u)) (h2 : PSs X ss (TSx X.K v)) : PSs X (s :: ss) (TSx X.K (bSeq u v)) := PSs.imp (pss_cons h h2) fun D σ H q => q.seq
theorem xs_ret (ha : PE X a (TX X.K f)) : PS X (.Return (some a) pos) (TSx X.K (bRet f)) :=
  PS.imp (ps_ret ha) fun D σ H ⟨env, st, μ, hid, fl, env', st', W0, e, q⟩ => by
    unfold bRet at e
    obtain ⟨⟨w, s1⟩, h1, h2⟩ := Option.map_eq_some_iff.mp e
    cases h2
    exact TX.go W0 h1 fun v H1 μ1 n1 W1 r => q v H1 μ1 n1 W1.sd r
theorem xs_retN : PS X (.Return none pos) (TSx X.K bRetN) :=
  PS.imp ps_retN fun D σ H ⟨env, st, μ, hid, fl, env', st', W0, e, q⟩ => by cases e; exact q _ H μ Nx.refl W0.sd (.dat .non)
theorem TSx.asg {K : PySem.W.Frag} {D : Ends} {σ : L2.St} {H : Hp} {sl : List Nat} {g : Eg} (h : TSx K (bAsg f g) D σ H) : tAsg (TX K f) (TGx K sl g) D σ H := by
  obtain ⟨env, st, μ, hid, fl, env', st', W0, e, q⟩ := h
  unfold bAsg at e
  obtain ⟨⟨w, s1⟩, h1, e⟩ := Option.bind_eq_some_iff.mp e
  obtain ⟨⟨env1, s2⟩, h2, h3⟩ := Option.map_eq_some_iff.mp e
  cases h3
  exact TX.go W0 h1 fun v H1 μ1 n1 W1 r => ⟨env, s1, μ1, hid, w, env1, s2, W1, r, h2, fun σ' H' μ' n W2 _ => q σ' H' μ' (n1.trans n) W2⟩
theorem xs_asg {tg : Expr} {sl : List Nat} {g : Eg} (he : PE X a (TX X.K f)) (hg : PG X tg (TGx X.K sl g)) (hs : swapsWithSole [tg] a pos.line X.env = pure false := by rfl) (hw : swappedStores [tg] a X.env = pure none := by rfl)
    (h1 : (assignEach [tg] X.env).map (·.2) = [assign tg X.env] := by rfl) : PS X (.Assign [tg] a pos) (TSx X.K (bAsg f g)) := PS.imp (ps_asg he hg hs hw h1) fun D σ H q => q.asg
theorem xs_set {i : Nat} {x : Str} {pos' : Pos} (hN : X.N.Nodup) (hi : X.N[i]? = some x) (hx : Loc X.env.scope x) (he : PE X a (TX X.K f)) (hs : swapsWith a (some (.Name x pos')) pos.line X.env = pure false := by rfl) (hf : X.fn x = true ∨ X.env.scope.names.lookup x = some .local := by first | exact .inl rfl | exact .inr rfl | assumption) :
    PS X (.Assign [.Name x pos'] a pos) (TSx X.K (bAsg f (gNm i))) := PS.imp (ps_set hN hi hx he hs hf) fun D σ H h => by
    obtain ⟨env, st, μ, hid, fl, env', st', W0, e, q⟩ := h
    unfold bAsg at e
    obtain ⟨⟨w, s1⟩, h1, e⟩ := Option.bind_eq_some_iff.mp e
    cases e
    exact TX.go W0 h1 fun v H1 μ1 n1 W1 r => q _ H1 μ1 n1 ⟨W1.ev.set r, W1.sd⟩
theorem xs_exp (ha : PE X a (TX X.K f)) (hs : swapsWith a none pos.line X.env = pure false := by rfl) : PS X (.Expr a pos) (TSx X.K (bExp f)) :=
  PS.imp (ps_expr ha hs) fun D σ H ⟨env, st, μ, hid, fl, env', st', W0, e, q⟩ => by
    unfold bExp at e
    obtain ⟨⟨w, s1⟩, h1, h2⟩ := Option.map_eq_some_iff.mp e
    cases h2
    exact TX.go W0 h1 fun v H1 μ1 n1 W1 r => q σ H1 μ1 n1 W1
theorem xs_if {t : Et} (hc : PT X c (TTx X.K t)) (h1 : PSs X ss (TSx X.K u)) (h2 : PSs X tt (TSx X.K v)) : PS X (.If c ss tt pos) (TSx X.K (bIfS t u v)) :=
  PS.imp (ps_if hc h1 h2) fun D σ H ⟨env, st, μ, hid, fl, env', st', W0, e, q⟩ => by
    unfold bIfS at e
    obtain ⟨⟨k, s1⟩, h3, e⟩ := Option.bind_eq_some_iff.mp e
    refine TTx.go W0 h3 fun H1 μ1 n1 W1 => ?_
    cases k with
    | true => rw [if_pos rfl] at e ⊢; exact TSx.go W1 e (FinS.from n1 q)
    | false => simp only [Bool.false_eq_true, if_false] at e ⊢; exact TSx.go W1 e (FinS.from n1 q)
/-- name op= e -/
def bAug (i : Nat) (o : Op2) (f : Ev) : Eb := fun env st => match env[i]? with
  | some (some x) => (f env st).bind fun r => (o x r.1 r.2).map fun t => (.nx, env.set i (some t.1), t.2)
  | _ => none
theorem xs_aug {i : Nat} {x : Str} {op : Operator} {o : Op2} {pos' : Pos} (hN : X.N.Nodup) (hi : X.N[i]? = some x) (hx : Loc X.env.scope x) (he : PE X a (TX X.K f)) (ho : OpR X (inplaceOp op) (T2 X.K o)) (hf : X.fn x = true ∨ X.env.scope.names.lookup x = some .local := by first | exact .inl rfl | exact .inr rfl | assumption) :
    PS X (.AugAssign (.Name x pos') op a pos) (TSx X.K (bAug i o f)) :=
  PS.imp (ps_aug (ti := T2 X.K o) hN hi hx he (fun pins s σ H x y v u Q I rx ry h => ho pins s σ H x y v u Q I rx ry h) hf) fun D σ H ⟨env, st, μ, hid, fl, env', st', W0, e, q⟩ => by
    unfold bAug at e
    split at e
    · rename_i x' hx'
      obtain ⟨⟨y, s1⟩, h1, e⟩ := Option.bind_eq_some_iff.mp e
      obtain ⟨⟨z, s2⟩, h2, h3⟩ := Option.map_eq_some_iff.mp e
      cases h3
      obtain ⟨v, hv, rv⟩ := W0.ev.2 i x' hx'
      exact ⟨v, hv, TX.go W0 h1 fun vy H1 μ1 n1 W1 ry => ⟨s1, μ1, hid, x', y, z, s2, W1.sd, rv.mono n1.same n1.pre, ry, h2, fun vz H' μ' n s r => q _ H' μ' (n1.trans n) ⟨(W1.next n s).ev.set r, s⟩⟩⟩
    · cases e
end
end
end L3
set_option Elab.async false
set_option linter.all false
set_option maxRecDepth 100000
set_option maxHeartbeats 4000000
set_option autoImplicit false
/-! L3: what is walked; loops; comprehensions. -/
namespace L3
open PySem PySem.Spec PyProof.Rows L2
section
variable {X : Cx} {a b c : Expr} {pos : Pos} {f g : Ev}

/-- what is walked: the item at a turn (none: stuck; some none: the end) -/
structure It3 where
  n : Nat
  item : Store → Nat → Option (Option W)
def Walks (K : PySem.W.Frag) (J : It) (it : It3) (M0 : Hp) (μ0 : List Addr) (H0 : Hp) : Prop := ∀ H st μ hid, Same M0 (mask H (μ ++ hid)) → μ0 <+: μ → (∀ a o u, H0 a = some (.frz o u) → H a = some (.frz o u)) → Sd K H st μ hid → ∀ i,
  (∀ w, it.item st i = some (some w) → i < sizeLine ∧ J.go i H ∧ ∀ x H', J.yld i H x H' → Nx H μ H' μ hid ∧ Sd K H' st μ hid ∧ RW K (mask H' (μ ++ hid)) μ x w) ∧ (it.item st i = some none → J.stop i H)
abbrev Ei := E3 → Store → Option (It3 × Store)
def TIx (K : PySem.W.Frag) (f : Ei) : TI := fun σ H R => ∃ env st μ hid it st', Wd K σ H env st μ hid ∧ f env st = some (it, st') ∧
  ∀ J H' μ', Nx H μ H' μ' hid → Sd K H' st' μ' hid → Walks K J it (mask H' (μ' ++ hid)) μ' H' → R J H'
theorem PI.imp {tg e : Expr} {t t' : TI} (h : PI X tg e t) (k : ∀ σ H R, t' σ H R → t σ H R) : PI X tg e t' := ⟨fun pins s σ H R I q => h.run pins s σ H R I (k _ _ _ q)⟩
theorem PI.or {tg e : Expr} {t t' : TI} (h : PI X tg e t) (h' : PI X tg e t') : PI X tg e (fun σ H R => t σ H R ∨ t' σ H R) := ⟨fun pins s σ H R I q => q.elim (h.run pins s σ H R I) (h'.run pins s σ H R I)⟩
/-! ### a sequence -/
def liveSeq (w : W) (ws : List W) : It3 := ⟨ws.length, fun st i => match seqOf st w with
  | some us => some us[i]?
  | none => none⟩
def iSeq (f : Ev) : Ei := fun env st => (f env st).bind fun r => (seqOf r.2 r.1).map fun ws => (liveSeq r.1 ws, r.2)
theorem RWs.get {K : PySem.W.Frag} {M : Hp} {μ : List Addr} {w : W} : ∀ {vs : List V} {ws : List W} {j : Nat}, RWs K M μ vs ws → ws[j]? = some w → ∃ v, vs[j]? = some v ∧ RW K M μ v w
  | _, _, _, .nil, e => by simp at e
  | _, _, 0, .cons a _, e => by simp at e; subst e; exact ⟨_, rfl, a⟩
  | _, _, j + 1, .cons _ b, e => by
    obtain ⟨v, h1, h2⟩ := RWs.get (j := j) b (by simpa using e)
    exact ⟨v, by simpa using h1, h2⟩
theorem seq_inj {K : PySem.W.Frag} {H : Hp} {a : Addr} {v : V} (h : v = .ref a) {b : Addr} (h' : v = .ref b) : a = b := by subst h; cases h'; rfl
/-- the kinds: lists, tuples -/
theorem walk_seq {K : PySem.W.Frag} {M H0 : Hp} {μ : List Addr} {x : V} {w : W} {ws : List W} {a : Addr} (r : RW K M μ x w) (ea : x = .ref a) (hl : ∀ ds, w ≠ .dat (.tuple ds)) : Walks K (Itl K a) (liveSeq w ws) M μ H0 := by
  intro H st μ' hid s p fz sd i
  have r' := r.mono s p
  subst ea
  refine ⟨fun w' e => ?_, fun e => ?_⟩
  · simp only [liveSeq] at e
    split at e
    · rename_i us hu
      obtain ⟨hz, b, xs, eb, hq, hr⟩ := seqL_of sd r' hu hl
      cases eb
      have e : us[i]? = some w' := Option.some.inj e
      obtain ⟨v, h1, h2⟩ := hr.get e
      have hi := (List.getElem?_eq_some_iff.mp e).1
      refine ⟨by omega, ⟨xs, v, hq, h1⟩, fun y H' hy => ?_⟩
      obtain ⟨rfl, hy⟩ := hy
      have := hy xs hq
      rw [h1] at this; cases this
      exact ⟨Nx.refl, sd, h2⟩
    · cases e
  · simp only [liveSeq] at e
    split at e
    · rename_i us hu
      obtain ⟨hz, b, xs, eb, hq, hr⟩ := seqL_of sd r' hu hl
      cases eb
      have e : us[i]? = none := Option.some.inj e
      have hlen : _ = _ := Paired.length hr
      exact ⟨xs, hq, by have := List.getElem?_eq_none_iff.mp e; omega⟩
    · cases e
theorem walk_tup {K : PySem.W.Frag} {M H0 : Hp} {μ : List Addr} {x : V} {ds : List PyData} {ws : List W} {a : Addr} (r : RW K M μ x (.dat (.tuple ds))) (ea : x = .ref a) : Walks K (Itt K a) (liveSeq (.dat (.tuple ds)) ws) M μ H0 := by
  intro H st μ' hid s p fz sd i
  have r' := r.mono s p
  subst ea
  cases r' with
  | dat r' =>
    cases r' with
    | tup hq hz hr =>
      have hq := sameT mask_le hq
      have hlen := hr.length
      refine ⟨fun w' e => ?_, fun e => ?_⟩
      · have e : (ds.map W.dat)[i]? = some w' := Option.some.inj e
        obtain ⟨v, h1, h2⟩ := (hr.ws (μ := μ')).get e
        have hi := (List.getElem?_eq_some_iff.mp e).1
        rw [List.length_map] at hi
        refine ⟨by omega, ⟨_, v, hq, h1⟩, fun y H' hy => ?_⟩
        obtain ⟨rfl, hy⟩ := hy
        have := hy _ hq
        rw [h1] at this; cases this
        exact ⟨Nx.refl, sd, h2⟩
      · have e : (ds.map W.dat)[i]? = none := Option.some.inj e
        exact ⟨_, hq, by have := List.getElem?_eq_none_iff.mp e; rw [List.length_map] at this; omega⟩
theorem xi_seq {tg : Expr} (ha : PE X a (TX X.K f)) : PI X tg a (TIx X.K (iSeq f)) :=
  PI.imp (PI.or (pi_list ha) (pi_tup ha)) fun σ H R ⟨env, st, μ, hid, it, st', W0, e, q⟩ => by
    unfold iSeq at e
    obtain ⟨⟨w, s1⟩, h1, e⟩ := Option.bind_eq_some_iff.mp e
    obtain ⟨ws, h2, h3⟩ := Option.map_eq_some_iff.mp e
    cases h3
    by_cases ht : ∃ ds, w = .dat (.tuple ds)
    · obtain ⟨ds, rfl⟩ := ht
      refine .inr (TX.go W0 h1 fun v H1 μ1 n1 W1 r => ?_)
      have r0 := r
      cases r with
      | dat r => cases r with
        | tup hq hz hr => exact ⟨_, rfl, ⟨_, sameT mask_le hq⟩, q _ H1 μ1 n1 W1.sd (walk_tup r0 rfl)⟩
    · refine .inl (TX.go W0 h1 fun v H1 μ1 n1 W1 r => ?_)
      have hn : ∀ ds, w ≠ .dat (.tuple ds) := fun ds h => ht ⟨ds, h⟩
      obtain ⟨_, a, xs, rfl, hq, hr⟩ := seqL_of W1.sd r h2 hn
      exact ⟨a, rfl, ⟨xs, hq⟩, q _ H1 μ1 n1 W1.sd (walk_seq r rfl hn)⟩
/-! ### range -/
def itRange (a b : Int) : It3 := ⟨(b - a).toNat, fun _ i => some (if i < (b - a).toNat then some (.dat (.int (a + i))) else none)⟩
def iRange (f g : Ev) : Ei := fun env st => (f env st).bind fun r => (g env r.2).bind fun t => match r.1, t.1 with
  | .dat (.int i), .dat (.int j) => if rgOk i j = true then some (itRange i j, t.2) else none
  | _, _ => none
theorem walk_range {K : PySem.W.Frag} {M H0 : Hp} {μ : List Addr} {i j : Int} (h : rgOk i j = true) : Walks K (Itr i (j - i).toNat) (itRange i j) M μ H0 := by
  intro H st μ' hid s p fz sd k
  have hz := (rgOk_of h).2.2.2.2
  have hs : sizeLine = 2 ^ 24 := sizeLine_eq
  refine ⟨fun w e => ?_, fun e => ?_⟩
  · have e := Option.some.inj e
    split at e
    · rename_i hk
      cases e
      refine ⟨by omega, hk, fun x H' hy => ?_⟩
      obtain ⟨rfl, rfl⟩ := hy
      exact ⟨Nx.refl, sd, .dat (.int _)⟩
    · cases e
  · have e := Option.some.inj e
    split at e
    · cases e
    · rename_i hk; exact Nat.le_of_not_lt hk
theorem xi_range1 {tg : Expr} {p : Pos} (hg : Gl X "range") (hm : X.mg "range" = none) (ha : PE X a (TX X.K f)) (hs : starEach [a] X.env = [(false, eval a X.env)] := by rfl) : PI X tg (.Call (.Name "range" p) [a] [] pos) (TIx X.K (iRange (bDat (.int 0)) f)) :=
  PI.imp (pi_range1 hg hm (pa_cons ha pa_nil hs) hs) fun σ H R ⟨env, st, μ, hid, it, st', W0, e, q⟩ => by
    unfold iRange at e
    obtain ⟨⟨w, s1⟩, h1, e⟩ := Option.bind_eq_some_iff.mp e
    cases h1
    obtain ⟨⟨w2, s2⟩, h2, e⟩ := Option.bind_eq_some_iff.mp e
    refine TX.go W0 h2 fun v H1 μ1 n1 W1 r => ?_
    cases w2 with
    | dat d => cases d with
      | int j =>
        simp only at e
        split at e
        · rename_i hr
          cases e
          cases r with
          | dat r =>
            cases r
            have ok := rgOk_of hr
            refine ⟨j, rfl, ok.2.2.1, ok.2.2.2.1, ?_⟩
            have := q (Itr 0 (j - 0).toNat) H1 μ1 n1 W1.sd (walk_range hr)
            rw [Int.sub_zero] at this
            exact this
        · cases e
      | _ => cases e
    | _ => cases e
theorem xi_range2 {tg : Expr} {p : Pos} (hg : Gl X "range") (hm : X.mg "range" = none) (ha : PE X a (TX X.K f)) (hb : PE X b (TX X.K g)) (hs : starEach [a, b] X.env = [(false, eval a X.env), (false, eval b X.env)] := by rfl) (hs2 : starEach [b] X.env = [(false, eval b X.env)] := by rfl) :
    PI X tg (.Call (.Name "range" p) [a, b] [] pos) (TIx X.K (iRange f g)) :=
  PI.imp (pi_range2 hg hm (pa_cons ha (pa_cons hb pa_nil hs2) (by rw [hs, hs2])) hs hs2) fun σ H R ⟨env, st, μ, hid, it, st', W0, e, q⟩ => by
    unfold iRange at e
    obtain ⟨⟨w, s1⟩, h1, e⟩ := Option.bind_eq_some_iff.mp e
    obtain ⟨⟨w2, s2⟩, h2, e⟩ := Option.bind_eq_some_iff.mp e
    refine TX.go W0 h1 fun v0 H0 μ0 n0 W0 r0 => TX.go W0 h2 fun v H1 μ1 n1 W1 r => ?_
    have r0 := r0.mono n1.same n1.pre
    cases w with
    | dat d => cases d with
      | int i =>
        cases w2 with
        | dat d => cases d with
          | int j =>
            simp only at e
            split at e
            · rename_i hr
              cases e
              cases r0 with
              | dat r0 => cases r0; cases r with
                | dat r =>
                  cases r
                  have ok := rgOk_of hr
                  exact ⟨i, j, rfl, ⟨ok.1, ok.2.1, ok.2.2.1, ok.2.2.2.1⟩, q _ H1 μ1 (n0.trans n1) W1.sd (walk_range hr)⟩
            · cases e
          | _ => cases e
        | _ => cases e
      | _ => cases e
    | _ => cases e
/-! ### zip -/
def pairW : Option W → Option W → Option W
  | some (.dat x), some (.dat y) => some (.dat (.tuple [x, y]))
  | _, _ => none
def itZip (xs ys : List PyData) : It3 := ⟨min xs.length ys.length, fun _ i => some (match xs[i]?, ys[i]? with
  | some x, some y => some (.dat (.tuple [x, y]))
  | _, _ => none)⟩
def iZip (f g : Ev) : Ei := fun env st => (f env st).bind fun r => (g env r.2).bind fun t => match r.1, t.1 with
  | .dat (.tuple xs), .dat (.tuple ys) => some (itZip xs ys, t.2)
  | .dat (.list xs), .dat (.list ys) => some (itZip xs ys, t.2)
  | _, _ => none
theorem zip_none {xs ys : List PyData} {i : Nat} (e : (match xs[i]?, ys[i]? with | some x, some y => some (W.dat (.tuple [x, y])) | _, _ => none) = none) : xs.length ≤ i ∨ ys.length ≤ i := by
  by_cases h1 : i < xs.length
  · by_cases h2 : i < ys.length
    · rw [List.getElem?_eq_getElem h1, List.getElem?_eq_getElem h2] at e; cases e
    · exact .inr (by omega)
  · exact .inl (by omega)
theorem zip_some {xs ys : List PyData} {i : Nat} {w : W} (e : (match xs[i]?, ys[i]? with | some x, some y => some (W.dat (.tuple [x, y])) | _, _ => none) = some w) : ∃ x y, xs[i]? = some x ∧ ys[i]? = some y ∧ w = .dat (.tuple [x, y]) := by
  split at e
  · rename_i x y h1 h2; cases e; exact ⟨x, y, h1, h2, rfl⟩
  · cases e
theorem walk_zipT {K : PySem.W.Frag} {M H0 : Hp} {μ : List Addr} {a b : Addr} {xs ys : List PyData} (r : RD K M (.ref a) (.tuple xs)) (r2 : RD K M (.ref b) (.tuple ys)) : Walks K (RZ.ItzT K a b) (itZip xs ys) M μ H0 := by
  intro H st μ' hid s p fz sd i
  cases r.mono s with
  | @tup _ vs _ hq hz hr =>
    cases r2.mono s with
    | @tup _ us _ hq2 hz2 hr2 =>
      have hl := hr.length
      have hl2 := hr2.length
      have hq := sameT mask_le hq
      have hq2 := sameT mask_le hq2
      refine ⟨fun w' e => ?_, fun e => ?_⟩
      · obtain ⟨x, y, h1, h2, rfl⟩ := zip_some (Option.some.inj e)
        obtain ⟨v, h3, h4⟩ := hr.get h1
        obtain ⟨u, h5, h6⟩ := hr2.get h2
        have hi := (List.getElem?_eq_some_iff.mp h1).1
        refine ⟨by omega, ⟨vs, us, v, u, hq, hq2, h3, h5⟩, fun y' H' hy => ?_⟩
        obtain ⟨T, x1, x2, rfl, nT, rfl, f1, f2⟩ := hy
        have e1 := f1 _ hq
        have e2 := f2 _ hq2
        rw [h3] at e1; rw [h5] at e2
        cases e1; cases e2
        exact ⟨Nx.new sd nT, sd.new nT, .dat (RD.tupNew sd nT (by show 2 ≤ sizeLine; decide) (.cons h4 (.cons h6 .nil)))⟩
      · have := zip_none (Option.some.inj e)
        exact ⟨vs, us, hq, hq2, by omega⟩
theorem walk_zipL {K : PySem.W.Frag} {M H0 : Hp} {μ : List Addr} {a b : Addr} {xs ys : List PyData} (r : RD K M (.ref a) (.list xs)) (r2 : RD K M (.ref b) (.list ys)) : Walks K (Itz K a b) (itZip xs ys) M μ H0 := by
  intro H st μ' hid s p fz sd i
  cases r.mono s with
  | @lst _ vs _ hq hz hr =>
    cases r2.mono s with
    | @lst _ us _ hq2 hz2 hr2 =>
      have hl := hr.length
      have hl2 := hr2.length
      have hq := SqL.of (K := K) (mask_le _ _ hq)
      have hq2 := SqL.of (K := K) (mask_le _ _ hq2)
      refine ⟨fun w' e => ?_, fun e => ?_⟩
      · obtain ⟨x, y, h1, h2, rfl⟩ := zip_some (Option.some.inj e)
        obtain ⟨v, h3, h4⟩ := hr.get h1
        obtain ⟨u, h5, h6⟩ := hr2.get h2
        have hi := (List.getElem?_eq_some_iff.mp h1).1
        refine ⟨by omega, ⟨vs, us, v, u, hq, hq2, h3, h5⟩, fun y' H' hy => ?_⟩
        obtain ⟨T, x1, x2, rfl, nT, rfl, f1, f2⟩ := hy
        have e1 := f1 _ hq
        have e2 := f2 _ hq2
        rw [h3] at e1; rw [h5] at e2
        cases e1; cases e2
        exact ⟨Nx.new sd nT, sd.new nT, .dat (RD.tupNew sd nT (by show 2 ≤ sizeLine; decide) (.cons h4 (.cons h6 .nil)))⟩
      · have := zip_none (Option.some.inj e)
        exact ⟨vs, us, hq, hq2, by omega⟩
theorem xi_zip {elts : List Expr} {kk : Nat} {p tpos : Pos} (hg : Gl X "zip") (hm : X.mg "zip" = none) (ha : PE X a (TX X.K f)) (hb : PE X b (TX X.K g))
    (hs : starEach [a, b] X.env = (false, eval a X.env) :: starEach [b] X.env := by rfl) (hs2 : starEach [b] X.env = (false, eval b X.env) :: starEach [] X.env := by rfl) (hpl : (backTo pos (starEach [b] X.env)).any (·.1) = false := by rfl) :
    PI X (.Tuple elts kk tpos) (.Call (.Name "zip" p) [a, b] [] pos) (TIx X.K (iZip f g)) :=
  PI.imp (RZ.pi_zipA hg hm (pa_cons ha (pa_cons hb pa_nil hs2) hs) hs hpl) fun σ H R ⟨env, st, μ, hid, it, st', W0, e, q⟩ => by
    unfold iZip at e
    obtain ⟨⟨w, s1⟩, h1, e⟩ := Option.bind_eq_some_iff.mp e
    obtain ⟨⟨w2, s2⟩, h2, e⟩ := Option.bind_eq_some_iff.mp e
    refine TX.go W0 h1 fun v0 H0 μ0 n0 W0 r0 => TX.go W0 h2 fun v H1 μ1 n1 W1 r => ?_
    have r0 := r0.mono n1.same n1.pre
    dsimp only at e
    split at e
    · cases e
      cases r0 with
      | dat r0 => cases r with
        | dat r =>
          have k0 := r0
          have k1 := r
          cases r0 with
          | tup hq hz hr => cases r with
            | tup hq2 hz2 hr2 => exact ⟨_, _, _, _, rfl, .inr ⟨sameT mask_le hq, sameT mask_le hq2, q _ H1 μ1 (n0.trans n1) W1.sd (walk_zipT k0 k1)⟩⟩
    · cases e
      cases r0 with
      | dat r0 => cases r with
        | dat r =>
          have k0 := r0
          have k1 := r
          cases r0 with
          | lst hq hz hr => cases r with
            | lst hq2 hz2 hr2 => exact ⟨_, _, _, _, rfl, .inl ⟨SqL.of (mask_le _ _ hq), SqL.of (mask_le _ _ hq2), q _ H1 μ1 (n0.trans n1) W1.sd (walk_zipL k0 k1)⟩⟩
    · cases e
/-! ### for -/
def forRun (it : It3) (step : W → E3 → Store → Option (Fl × E3 × Store)) : Nat → Nat → E3 → Store → Option (Fl × E3 × Store)
  | 0, _, _, _ => none
  | k + 1, i, env, st => match it.item st i with
    | none => none
    | some none => some (.nx, env, st)
    | some (some w) => match step w env st with
      | none => none
      | some (.nx, env1, st1) => forRun it step k (i + 1) env1 st1
      | some (.ct, env1, st1) => forRun it step k (i + 1) env1 st1
      | some (.bk, env1, st1) => some (.nx, env1, st1)
      | some (.rt w, env1, st1) => some (.rt w, env1, st1)
def stepOf (g : Eg) (u : Eb) : W → E3 → Store → Option (Fl × E3 × Store) := fun w env st => (g w env st).bind fun r => u r.1 r.2
def bFor (fi : Ei) (g : Eg) (u : Eb) : Eb := fun env st => (fi env st).bind fun r => forRun r.1 (stepOf g u) (r.1.n + 1) 0 env r.2
theorem xs_for {tg iter : Expr} {body : List Stmt} {fi : Ei} {sl : List Nat} {gt : Eg} {u : Eb} (hp : PassesOwn (model X.prog X.w) X.A X.env X.xe) (hc : X.calm = true) (hi : PI X tg iter (TIx X.K fi)) (hg : PG X tg (TGx X.K sl gt)) (hb : PSs X body (TSx X.K u))
    (hs : ∀ x, foldedSetIterable iter X.env x = pure x := by intro _; rfl) : PS X (.For tg iter body [] pos) (TSx X.K (bFor fi gt u)) :=
  PS.imp (ps_for hp hc hi hg hb hs) fun D σ H ⟨env, st, μ, hid, fl, env', st', W0, e, q⟩ => by
    unfold bFor at e
    obtain ⟨⟨it, s1⟩, h1, e⟩ := Option.bind_eq_some_iff.mp e
    refine ⟨env, st, μ, hid, it, s1, W0, h1, fun J H1 μ1 n1 sd1 wk => ?_⟩
    have W1 := W0.next n1 sd1
    refine ⟨fun i m σ2 H2 => ∃ env2 st2 μ2, Nx H1 μ1 H2 μ2 hid ∧ Wd X.K σ2 H2 env2 st2 μ2 hid ∧ forRun it (stepOf gt u) m i env2 st2 = some (fl, env', st'), ⟨it.n + 1, env, s1, μ1, Nx.refl, W1, e⟩, ?_⟩
    rintro i m σ2 H2 ⟨env2, st2, μ2, n2, W2, e2⟩
    obtain ⟨hgo, hstop⟩ := wk H2 st2 μ2 hid n2.same n2.pre n2.frz W2.sd i
    cases m with
    | zero => cases e2
    | succ k =>
      unfold forRun at e2
      split at e2
      · cases e2
      · rename_i hit
        cases e2
        exact .inl ⟨hstop hit, q σ2 H2 μ2 (n1.trans n2) W2⟩
      · rename_i w hit
        obtain ⟨_, go, yl⟩ := hgo w hit
        refine .inr ⟨go, fun σ' H' => ∃ env3 st3 μ3, Nx H1 μ1 H' μ3 hid ∧ Wd X.K σ' H' env3 st3 μ3 hid ∧ forRun it (stepOf gt u) k (i + 1) env3 st3 = some (fl, env', st'), fun σ' H' h => ⟨k, Nat.lt_succ_self _, h⟩, fun x H3 hy => ?_⟩
        obtain ⟨n3, sd3, r3⟩ := yl x H3 hy
        have W3 := W2.next n3 sd3
        cases hst : stepOf gt u w env2 st2 with
        | none => rw [hst] at e2; cases e2
        | some r =>
          rw [hst] at e2
          unfold stepOf at hst
          obtain ⟨⟨env4, st4⟩, h4, h5⟩ := Option.bind_eq_some_iff.mp hst
          refine ⟨env2, st2, μ2, hid, w, env4, st4, W3, r3, h4, fun σ5 H5 μ5 n5 W5 _ => ?_⟩
          obtain ⟨fl6, env6, st6⟩ := r
          refine TSx.go W5 h5 ?_
          have nn := (n2.trans n3).trans n5
          cases fl6 with
          | nx => exact fun σ7 H7 μ7 n7 W7 => ⟨env6, st6, μ7, nn.trans n7, W7, e2⟩
          | ct => exact fun σ7 H7 μ7 n7 W7 => ⟨env6, st6, μ7, nn.trans n7, W7, e2⟩
          | bk => cases e2; exact fun σ7 H7 μ7 n7 W7 => q σ7 H7 μ7 (n1.trans (nn.trans n7)) W7
          | rt w' => cases e2; exact fun v H7 μ7 n7 s r => q v H7 μ7 (n1.trans (nn.trans n7)) s r
/-! ### while -/
def whileRun (t : Et) (u : Eb) : Nat → E3 → Store → Option (Fl × E3 × Store)
  | 0, _, _ => none
  | k + 1, env, st => match t env st with
    | none => none
    | some (false, st1) => some (.nx, env, st1)
    | some (true, st1) => match u env st1 with
      | none => none
      | some (.nx, env2, st2) => whileRun t u k env2 st2
      | some (.ct, env2, st2) => whileRun t u k env2 st2
      | some (.bk, env2, st2) => some (.nx, env2, st2)
      | some (.rt w, env2, st2) => some (.rt w, env2, st2)
def bWhile (m : Nat) (t : Et) (u : Eb) : Eb := fun env st => whileRun t u m env st
theorem xs_while {body : List Stmt} {t : Et} {u : Eb} {m : Nat} (hp : PassesOwn (model X.prog X.w) X.A X.env X.xe) (hc : PT X c (TTx X.K t)) (hb : PSs X body (TSx X.K u)) : PS X (.While c body [] pos) (TSx X.K (bWhile m t u)) :=
  PS.imp (ps_while hp hc hb) fun D σ H ⟨env, st, μ, hid, fl, env', st', W0, e, q⟩ => by
    unfold bWhile at e
    refine ⟨fun k σ2 H2 => ∃ env2 st2 μ2, Nx H μ H2 μ2 hid ∧ Wd X.K σ2 H2 env2 st2 μ2 hid ∧ whileRun t u k env2 st2 = some (fl, env', st'), ⟨m, env, st, μ, Nx.refl, W0, e⟩, ?_⟩
    rintro k σ2 H2 ⟨env2, st2, μ2, n2, W2, e2⟩
    cases k with
    | zero => cases e2
    | succ k =>
      unfold whileRun at e2
      split at e2
      · cases e2
      · rename_i s1 h1
        cases e2
        refine TTx.go W2 h1 fun H3 μ3 n3 W3 => ?_
        simp only [Bool.false_eq_true, if_false]
        exact q σ2 H3 μ3 (n2.trans n3) W3
      · rename_i s1 h1
        refine TTx.go W2 h1 fun H3 μ3 n3 W3 => ?_
        rw [if_pos rfl]
        refine ⟨fun σ' H' => ∃ env3 st3 μ3, Nx H μ H' μ3 hid ∧ Wd X.K σ' H' env3 st3 μ3 hid ∧ whileRun t u k env3 st3 = some (fl, env', st'), fun σ' H' h => ⟨k, Nat.lt_succ_self _, h⟩, ?_⟩
        cases hu : u env2 s1 with
        | none => rw [hu] at e2; cases e2
        | some r =>
          rw [hu] at e2
          obtain ⟨fl6, env6, st6⟩ := r
          refine TSx.go W3 hu ?_
          have nn := n2.trans n3
          cases fl6 with
          | nx => exact fun σ7 H7 μ7 n7 W7 => ⟨env6, st6, μ7, nn.trans n7, W7, e2⟩
          | ct => exact fun σ7 H7 μ7 n7 W7 => ⟨env6, st6, μ7, nn.trans n7, W7, e2⟩
          | bk => cases e2; exact fun σ7 H7 μ7 n7 W7 => q σ7 H7 μ7 (nn.trans n7) W7
          | rt w' => cases e2; exact fun v H7 μ7 n7 s r => q v H7 μ7 (nn.trans n7) s r
end
end L3
set_option Elab.async false
set_option linter.all false
set_option maxRecDepth 100000
set_option maxHeartbeats 4000000
set_option autoImplicit false
/-! L3: enumerate of a tuple; comprehensions. -/
namespace L3
open PySem PySem.Spec PyProof.Rows L2
section
set_option maxHeartbeats 1000000 in
theorem newEnum {v : Value} {o : Obj} {H : Heap → Prop} (B : Begins v o H) :
    Meets (Builtin.«enumerate.__new__» ⟨[.type "enumerate", v], []⟩) (fun _ R s => H s.heap ∧
      R (.ok (.ret (.ref (s.heap.push o).objs.size))) { s with heap := (s.heap.push o).push { cls := .type "enumerate", data := .fields #[.none, .bool false, .ref s.heap.objs.size, rawInt 0, .none, .none] } }) :=
  .of_wp fun prog w A R s h => by
    obtain ⟨hp, g, d, tk, os⟩ := s
    obtain ⟨h1, h⟩ := h
    have hsub := sub_enumerate
    have step : ∀ {A' : Around} {E : Value → Shared → Prop} {Q : Value → Shared → Prop}, Q (.ref hp.objs.size) ⟨hp.push o, g, d, tk, os⟩ → wpAny (model prog w) A' (pyIter v) Q E ⟨hp, g, d, tk, os⟩ :=
      fun q => B.iter prog w _ _ ⟨hp, g, d, tk, os⟩ _ h1 q
    wp_walk using step
    refine wpAny_stack_any fun st => wpAny_pure ?_
    split
    · rename_i c _ _ _ _ _
      cases (c == Value.type "enumerate") <;> (wp_walk using step; exact ⟨_, rfl, h⟩)
    · wp_walk using step
      exact ⟨_, rfl, h⟩
variable {prog : Program} {w : World} {A : Around} {E : Value → Shared → Prop} {s : Shared}
theorem call_enum {v : Value} {o : Obj} {H : Heap → Prop} {Q : Value → Shared → Prop} (B : Begins v o H) (h1 : H s.heap)
    (h : ∀ h', IsEnum h' (s.heap.objs.size + 1) s.heap.objs.size 0 .none → h'.get? s.heap.objs.size = some o → h'.objs.size = s.heap.objs.size + 2 → (∀ b u, s.heap.get? b = some u → h'.get? b = some u) → Q (.ref (s.heap.objs.size + 1)) { s with heap := h' }) :
    wpAny (model prog w) A (call (.type "enumerate") [v]) Q E s := by
  refine callType_new F.called_enumerate (by decide) (F.typeCall_enumerate_1 _) (F.newCall_enumerate_1 _) (fun obj => F.args_object_init_2 obj _) F.entry_enumerate_new (newEnum B) ⟨h1, ?_⟩
  have hz : (s.heap.push o).objs.size = s.heap.objs.size + 1 := Heap.size_push ..
  show _ ∧ _
  rw [hz]
  have he : IsEnum ((s.heap.push o).push { cls := .type "enumerate", data := .fields #[.none, .bool false, .ref s.heap.objs.size, rawInt 0, .none, .none] }) (s.heap.objs.size + 1) s.heap.objs.size 0 .none := by
    have q := Heap.get?_push_size (s.heap.push o) (o := { cls := .type "enumerate", data := .fields #[.none, .bool false, .ref s.heap.objs.size, rawInt 0, .none, .none] }) rfl
    rw [hz] at q
    exact q
  exact ⟨⟨_, he, rfl⟩, h _ he (Heap.get?_push_of_some _ (Heap.get?_push_size _ B.free)) (by rw [Heap.size_push, hz]) fun b u x => Heap.get?_push_of_some _ (Heap.get?_push_of_some _ x)⟩
end
theorem enum_endT {prog : Program} {w : World} {A : Around} {E : Value → Shared → Prop} {s : Shared} {e it l : Addr} {i : Nat} {items : Array Value} {old : Value} {Q : Option Value → Shared → Prop} (hh : A.handled = none)
    (he : IsEnum s.heap e it i old) (hit : s.heap.IsTupleIter it l i) (hl : s.heap.IsTuple l items) (hx : items[i]? = none)
    (k : ∀ h', Heap.ExtBut it s.heap h' → Q none { s with heap := h' }) : wpAny (model prog w) A (pyNext (.ref e)) Q E s := by
  have ty : s.TypeIs (.ref e) "enumerate" := ⟨_, he, rfl⟩
  unfold pyNext
  refine wpAny_bind (wpAny_attempt (wpAny_callSpecial?_slot (name := Str.ofString "__next__") ty F.slot_enumerate_next (wpAny_call_entry F.slot_enumerate_next ty F.entry_enumerate_next ?_ (F.args_enumerate_next_1 _))))
  show wpAny _ _ (field (.ref e) 2 >>= _) _ _ _
  refine wpAny_bind (wpAny_field he rfl (x := .ref it) rfl (wpAny_bind (wpAny_nextOf_tuple_end hh hit hl hx fun h' x e' ⟨o, ho, hc⟩ => ?_)))
  exact wpAny_bind (wpAny_isInstance (T := "StopIteration") (b := true) ⟨o, ho, hc⟩ isSubtype_stop (wpAny_pure (k _ e')))
/-- the tuple at a, each item in a new pair with its number -/
def IteT (K : PySem.W.Frag) (a : Addr) : It :=
  ⟨fun i H => ∃ (xs : List V) (x : V), SqT K H a xs ∧ xs[i]? = some x, fun i H v H' => ∃ T x, v = .ref T ∧ H T = none ∧ H' = upd H T (.tup [.int (i : Nat), x]) ∧ ∀ xs, SqT K H a xs → xs[i]? = some x, fun i H => ∃ xs : List V, SqT K H a xs ∧ xs.length ≤ i⟩
theorem tup_ne {h : Heap} {a it : Addr} {items : Array Value} {i : Nat} (p : IsTup h a items) (q : h.IsTupleIter it a i) : a ≠ it := by
  rintro rfl
  obtain ⟨o, h1, h2, _⟩ := p
  obtain ⟨o', h3, h4, _⟩ := q
  rw [h1] at h3; cases h3
  rw [h2] at h4
  exact absurd h4 (by decide)
theorem turn_enumT {P : Program} {w : World} {K : PySem.W.Frag} {elts : List Expr} {kk : Nat} {tpos : Pos} (a e it : Addr) :
    Turn P w K (.Tuple elts kk tpos) (IteT K a) [e, it] e (fun i h => (∃ old, IsEnum h e it ((i : Nat) : Int) old) ∧ h.IsTupleIter it a i ∧ e ≠ it) where
  mem := by simp
  obj := fun i h st b hb => by
    obtain ⟨⟨old, he⟩, ⟨o, ho, hc, hd⟩, _⟩ := st
    rcases (show b = e ∨ b = it by simpa using hb) with z | z
    · subst z; exact ⟨_, he, fun v q => nomatch q⟩
    · subst z; exact ⟨o, ho, fun v q => by rw [hd] at q; cases q⟩
  keep := fun i h h' st k => let ⟨⟨old, he⟩, hi, hne⟩ := st; ⟨⟨old, k e (by simp) _ he⟩, hi.at fun o q => k it (by simp) o q, hne⟩
  item := by
    intro X hP hw hK hc i pins s σ H E I hf st hg
    subst hP hw hK
    obtain ⟨⟨old, he⟩, hit, hne⟩ := st
    obtain ⟨xs, x, hq, hx⟩ := hg
    obtain ⟨its, rv, p, hz⟩ := I.tuple hq
    obtain ⟨u, hu, ru⟩ := rv.get hx
    have hu' : its.toArray[i]? = some u := by simpa using hu
    have hel : e < s.heap.objs.size := Heap.lt_size he
    have hil : it < s.heap.objs.size := by obtain ⟨_, q, _⟩ := hit; exact Heap.lt_size q
    have hai := tup_ne p hit
    have hea : e ≠ a := by
      rintro rfl
      obtain ⟨o, h1, h2, _⟩ := p
      rw [he] at h1; cases h1
      exact absurd (Value.type.inj h2) (by decide)
    have D := Draws.tuple (prog := X.prog) (w := X.w) (A := X.A.in1) (I.ok.hd hc) it a hai its.toArray
    have hlt : i < its.toArray.size := (Array.getElem?_eq_some_iff.mp hu').1
    refine wpAny_pyNext_enum_itemD D he ⟨hit, p⟩ hlt hne (by simp [hne, hea]) fun y h' tk hy ho hst hT hsz hk => ?_
    have : y = u := Option.some.inj ((show its.toArray[i]? = some y from hy).symm.trans hu')
    subst this
    refine ⟨_, rfl, wpAny_letOwnedTupleGo_enum (s := { s with heap := h', toks := tk + 1 }) ho fun h'' he' sb => ?_⟩
    have hT2 : h''.get? s.heap.objs.size = some { cls := .type "tuple", data := .seq #[.int i tk, y] } := (sb.2 _ (Nat.ne_of_gt hel)).trans hT
    have new : ObjOk X.prog X.w (upd H s.heap.objs.size (.tup [.int (i : Nat), x])) h'' s.heap.objs.size (.tup [.int (i : Nat), x]) :=
      ⟨by show 2 ≤ sizeLine; decide, [.int i tk, y], .cons ⟨_, rfl⟩ (.cons ru .nil), ⟨_, hT2, rfl, _, rfl⟩⟩
    have I1 : Inv X pins σ (upd H s.heap.objs.size (.tup [.int (i : Nat), x])) { s with heap := h'', toks := tk + 1 } :=
      I.turnedNew (ch := [e, it]) (fun b ob hb q => (sb.2 b (fun z => hb (by simp [z]))).trans (hk b ob (fun z => hb (by simp [z])) (fun z => hb (by simp [z])) q)) hf (Nat.le_refl _) new
    refine ⟨.ref s.heap.objs.size, _, I1, rfl, ⟨_, x, rfl, I.hok.fresh (Nat.le_refl _), rfl, fun ys hy => by rw [I.tuple_inj hy hq]; exact hx⟩, ⟨⟨y, ?_⟩, hst.1.at fun o q => (sb.2 it (Ne.symm hne)).trans q, hne⟩, fun b hb => ?_⟩
    · rw [show ((i + 1 : Nat) : Int) = (i : Int) + 1 by omega]; exact he'
    · have hb' : b < s.heap.objs.size := by
        rcases (show b = e ∨ b = it by simpa using hb) with z | z
        · subst z; exact hel
        · subst z; exact hil
      rw [upd_ne (Nat.ne_of_lt hb')]
      exact (hf b hb).1
  done := by
    intro X hP hw hK hc i pins s σ H E I hf st hg
    subst hP hw hK
    obtain ⟨⟨old, he⟩, hit, hne⟩ := st
    obtain ⟨xs, hq, hx⟩ := hg
    obtain ⟨its, rv, p, hz⟩ := I.tuple hq
    obtain ⟨f0, f1, f2, f3, f4, f5⟩ := hf it (by simp)
    have hl := rv.length
    have hai := tup_ne p hit
    refine enum_endT (I.ok.hd hc) he hit p (by simp; omega) fun h' eb => ⟨rfl, I.turned (t' := s.toks) (fun b o hb q => eb b o hb q) f0 f1 f3 f4 f5⟩
  self := fun A i s Q E st h => let ⟨⟨_, he⟩, _⟩ := st; wpAny_pyIter_enum he h
section
variable {X : Cx} {a b c : Expr} {pos : Pos} {f g : Ev}
def iEnumT (K : PySem.W.Frag) (ta : TA) : TI := fun σ H R => ta σ H fun vs H1 => ∃ a xs, vs = [.ref a] ∧ SqT K H1 a xs ∧ R (IteT K a) H1
theorem pi_enumT {e : Expr} {ta : TA} {p tpos : Pos} {elts : List Expr} {kk : Nat} (hg : Gl X "enumerate") (hm : X.mg "enumerate" = none) (ha : PA X [e] ta) (hs : starEach [e] X.env = [(false, eval e X.env)] := by rfl) :
    PI X (.Tuple elts kk tpos) (.Call (.Name "enumerate" p) [e] [] pos) (iEnumT X.K ta) := by
  refine ⟨fun pins s σ H R I h => ?_⟩
  refine Call_ (ld_blt I hg hm boot_enumerate (PyProof.Rows.callWith_type1 (thn (ha.run pos pins s σ H _ I h) fun us s1 ⟨vs, H1, I1, r1, q1⟩ => ?_) hs rfl))
  obtain ⟨a, xs, ex, hq, q⟩ := q1
  subst ex
  cases r1 with
  | cons r rr =>
    cases rr
    cases r
    obtain ⟨its, rv, pt, hz⟩ := I1.tuple hq
    refine call_enum (begins_tuple a its.toArray) pt fun h' he hit hsz hk => wpAny_pyIter_enum he ?_
    have I2 : Inv X pins σ H1 { s1 with heap := h' } := I1.kept (t' := s1.toks) hk
    refine ⟨s1.heap.objs.size + 1, [s1.heap.objs.size + 1, s1.heap.objs.size], _, _, H1, rfl, I2, turn_enumT a (s1.heap.objs.size + 1) s1.heap.objs.size, ⟨⟨.none, he⟩, ⟨_, hit, rfl, rfl⟩, Nat.succ_ne_self _⟩, fun b hb => ?_, q⟩
    have hle : s1.heap.objs.size ≤ b := by
      rcases (show b = s1.heap.objs.size + 1 ∨ b = s1.heap.objs.size by simpa using hb) with z | z
      · subst z; exact Nat.le_succ _
      · subst z; exact Nat.le_refl _
    exact I1.fpOk hle (I1.hok.fresh hle)
/-! ### enumerate -/
def itEnum (w : W) (n : Nat) : It3 := ⟨n, fun st i => match seqOf st w with
  | some us => match us[i]? with
    | some (.dat d) => some (some (.dat (.tuple [.int i, d])))
    | some _ => none
    | none => some none
  | none => none⟩
def iEnu (f : Ev) : Ei := fun env st => (f env st).bind fun r => (seqOf r.2 r.1).map fun ws => (itEnum r.1 ws.length, r.2)
theorem walk_enum {K : PySem.W.Frag} {M H0 : Hp} {μ : List Addr} {x : V} {w : W} {n : Nat} {a : Addr} (r : RW K M μ x w) (ea : x = .ref a) (hl : ∀ ds, w ≠ .dat (.tuple ds)) : Walks K (Ite K a) (itEnum w n) M μ H0 := by
  intro H st μ' hid s p fz sd i
  have r' := r.mono s p
  subst ea
  refine ⟨fun w' e => ?_, fun e => ?_⟩
  · simp only [itEnum] at e
    split at e
    · rename_i us hu
      obtain ⟨hz, b, xs, eb, hq, hr⟩ := seqL_of sd r' hu hl
      cases eb
      split at e
      · rename_i d hd
        cases e
        obtain ⟨v, h1, h2⟩ := hr.get hd
        have hi := (List.getElem?_eq_some_iff.mp hd).1
        refine ⟨by omega, ⟨xs, v, hq, h1⟩, fun y H' hy => ?_⟩
        obtain ⟨T, x1, rfl, nT, rfl, f1⟩ := hy
        have := f1 xs hq
        rw [h1] at this; cases this
        cases h2 with
        | dat h2 => exact ⟨Nx.new sd nT, sd.new nT, .dat (RD.tupNew sd nT (by show 2 ≤ sizeLine; decide) (.cons (.int _) (.cons h2 .nil)))⟩
      · cases e
      · cases e
    · cases e
  · simp only [itEnum] at e
    split at e
    · rename_i us hu
      obtain ⟨hz, b, xs, eb, hq, hr⟩ := seqL_of sd r' hu hl
      cases eb
      split at e
      · cases e
      · cases e
      · rename_i hn
        have hlen : _ = _ := Paired.length hr
        exact ⟨xs, hq, by have := List.getElem?_eq_none_iff.mp hn; omega⟩
    · cases e
theorem walk_enumT {K : PySem.W.Frag} {M H0 : Hp} {μ : List Addr} {x : V} {ds : List PyData} {n : Nat} {a : Addr} (r : RW K M μ x (.dat (.tuple ds))) (ea : x = .ref a) : Walks K (IteT K a) (itEnum (.dat (.tuple ds)) n) M μ H0 := by
  intro H st μ' hid s p fz sd i
  have r' := r.mono s p
  subst ea
  cases r' with
  | dat r' =>
    cases r' with
    | tup hq hz hr =>
      have hq := sameT mask_le hq
      have hlen := hr.length
      refine ⟨fun w' e => ?_, fun e => ?_⟩
      · simp only [itEnum, seqOf, List.getElem?_map] at e
        cases hd : ds[i]? with
        | none => rw [hd] at e; cases e
        | some d =>
          rw [hd] at e
          cases e
          obtain ⟨v, h1, h2⟩ := hr.get hd
          have hi := (List.getElem?_eq_some_iff.mp hd).1
          refine ⟨by omega, ⟨_, v, hq, h1⟩, fun y H' hy => ?_⟩
          obtain ⟨T, x1, rfl, nT, rfl, f1⟩ := hy
          have := f1 _ hq
          rw [h1] at this; cases this
          exact ⟨Nx.new sd nT, sd.new nT, .dat (RD.tupNew sd nT (by show 2 ≤ sizeLine; decide) (.cons (.int _) (.cons h2 .nil)))⟩
      · simp only [itEnum, seqOf, List.getElem?_map] at e
        cases hd : ds[i]? with
        | none => exact ⟨_, hq, by have := List.getElem?_eq_none_iff.mp hd; omega⟩
        | some d => rw [hd] at e; cases e
theorem xi_enum {elts : List Expr} {kk : Nat} {p tpos : Pos} (hg : Gl X "enumerate") (hm : X.mg "enumerate" = none) (ha : PE X a (TX X.K f)) (hs : starEach [a] X.env = [(false, eval a X.env)] := by rfl) :
    PI X (.Tuple elts kk tpos) (.Call (.Name "enumerate" p) [a] [] pos) (TIx X.K (iEnu f)) :=
  PI.imp (PI.or (pi_enum hg hm (pa_cons ha pa_nil hs) hs) (pi_enumT hg hm (pa_cons ha pa_nil hs) hs)) fun σ H R ⟨env, st, μ, hid, it, st', W0, e, q⟩ => by
    unfold iEnu at e
    obtain ⟨⟨w, s1⟩, h1, e⟩ := Option.bind_eq_some_iff.mp e
    obtain ⟨ws, h2, h3⟩ := Option.map_eq_some_iff.mp e
    cases h3
    by_cases ht : ∃ ds, w = .dat (.tuple ds)
    · obtain ⟨ds, rfl⟩ := ht
      refine .inr (TX.go W0 h1 fun v H1 μ1 n1 W1 r => ?_)
      have r0 := r
      cases r with
      | dat r => cases r with
        | tup hq hz hr => exact ⟨_, _, rfl, sameT mask_le hq, q _ H1 μ1 n1 W1.sd (walk_enumT r0 rfl)⟩
    · refine .inl (TX.go W0 h1 fun v H1 μ1 n1 W1 r => ?_)
      have hn : ∀ ds, w ≠ .dat (.tuple ds) := fun ds h => ht ⟨ds, h⟩
      obtain ⟨_, a, xs, rfl, hq, hr⟩ := seqL_of W1.sd r h2 hn
      exact ⟨a, xs, rfl, hq, q _ H1 μ1 n1 W1.sd (walk_enum r rfl hn)⟩
/-! ### comprehensions -/
def wipe3 (env : E3) : List Nat → E3
  | [] => env
  | v :: vs => (wipe3 env vs).set v none
theorem wipe3_len (env : E3) : ∀ vs, (wipe3 env vs).length = env.length
  | [] => rfl
  | v :: vs => by unfold wipe3; rw [List.length_set, wipe3_len env vs]
theorem RE.wipe {K : PySem.W.Frag} {M : Hp} {μ : List Addr} {σ : L2.St} {env : E3} (r : RE K M μ σ env) : ∀ vs, RE K M μ (L2.wipe σ vs) (wipe3 env vs)
  | [] => r
  | v :: vs => by
    have ih := RE.wipe r vs
    refine ⟨by rw [wipe_length, wipe3_len]; exact r.1, fun i w e => ?_⟩
    unfold wipe3 at e
    unfold L2.wipe
    by_cases h : v = i
    · subst h
      by_cases hl : v < (wipe3 env vs).length
      · rw [List.getElem?_set_self hl] at e; cases e
      · rw [List.getElem?_eq_none (by rw [List.length_set]; omega)] at e; cases e
    · rw [List.getElem?_set_ne h] at e ⊢
      exact ih.2 i w e
theorem wipe_in {σ : L2.St} {j : Nat} : ∀ {vs : List Nat}, j ∈ vs → j < σ.length → (L2.wipe σ vs)[j]? = some none
  | v :: vs, h, hl => by
    unfold L2.wipe
    by_cases e : v = j
    · subst e; exact List.getElem?_set_self (by rw [wipe_length]; exact hl)
    · rw [List.getElem?_set_ne e]
      rcases List.mem_cons.mp h with h | h
      · exact absurd h.symm e
      · exact wipe_in h hl
theorem wipe_after {σ σ2 : L2.St} {vs sl : List Nat} (h : After (L2.wipe σ vs) σ2 sl) (hs : ∀ j ∈ sl, j ∈ vs) : L2.wipe σ2 vs = L2.wipe σ vs := by
  have hl : σ2.length = σ.length := h.1.trans (wipe_length σ vs)
  refine List.ext_getElem? fun j => ?_
  by_cases hj : j ∈ vs
  · by_cases hlt : j < σ.length
    · rw [wipe_in hj hlt, wipe_in hj (by omega)]
    · rw [List.getElem?_eq_none (by rw [wipe_length]; omega), List.getElem?_eq_none (by rw [wipe_length]; omega)]
  · rw [wipe_out hj, h.2 j fun q => hj (hs j q)]
def compRun (it : It3) (gt : Eg) (t : Et) (el : Ev) (env0 : E3) : Nat → Nat → Store → List W → Option (List W × Store)
  | 0, _, _, _ => none
  | k + 1, i, st, acc => match it.item st i with
    | none => none
    | some none => some (acc, st)
    | some (some w) => match gt w env0 st with
      | none => none
      | some (env1, st1) => match t env1 st1 with
        | none => none
        | some (false, st2) => compRun it gt t el env0 k (i + 1) st2 acc
        | some (true, st2) => match el env1 st2 with
          | none => none
          | some (y, st3) => compRun it gt t el env0 k (i + 1) st3 (acc ++ [y])
def compAll (fi : Ei) (gt : Eg) (t : Et) (el : Ev) (vs : List Nat) : E3 → Store → Option (List W × Store) := fun env st => (fi env st).bind fun r => compRun r.1 gt t el (wipe3 env vs) (r.1.n + 1) 0 r.2 []
def bComp (fi : Ei) (gt : Eg) (t : Et) (el : Ev) (vs : List Nat) : Ev := fun env st => (compAll fi gt t el vs env st).bind fun z => (z.1.mapM datOf).map fun ds => (.dat (.list ds), z.2)
def bCompNew (fi : Ei) (gt : Eg) (t : Et) (el : Ev) (vs : List Nat) : Ev := fun env st => (compAll fi gt t el vs env st).map fun z => (.loc z.2.length, z.2 ++ [.list z.1])
def tAll : Et := fun _ st => some (true, st)
theorem xts_nil : PTs X [] (TTx X.K tAll) := ⟨fun pins s σ H Q I ⟨env, st, μ, hid, w, st', W0, e, q⟩ => by cases e; exact pts_nil.run pins s σ H Q I (q H μ Nx.refl W0.sd)⟩
theorem mask_congr {H : Hp} {l l' : List Addr} (h : ∀ a, a ∈ l ↔ a ∈ l') : mask H l = mask H l' := by
  funext b
  unfold mask
  by_cases hb : b ∈ l
  · rw [if_pos hb, if_pos ((h b).mp hb)]
  · rw [if_neg hb, if_neg (fun q => hb ((h b).mpr q))]
/-- what a comprehension leaves: its list at D -/
structure LcEnd (K : PySem.W.Frag) (H1 : Hp) (μ1 hid : List Addr) (D : Addr) (acc : List W) (st : Store) (H : Hp) (μ : List Addr) : Prop where
  sd : Sd K H st μ (hid ++ [D])
  same : Same (mask H1 (μ1 ++ hid)) (mask H (μ ++ (hid ++ [D])))
  pre : μ1 <+: μ
  keep : ∀ a ∈ hid, H a = H1 a
  frz : ∀ a o u, H1 a = some (.frz o u) → H a = some (.frz o u)
  at_ : ∃ vs, H D = some (.lst vs) ∧ RWs K (mask H (μ ++ (hid ++ [D]))) μ vs acc
  len : acc.length ≤ sizeLine
theorem lc_sem {wi : Ei} {gt : Eg} {t : Et} {el : Ev} {sl vs : List Nat} {K : PySem.W.Frag} (hsl : ∀ j ∈ sl, j ∈ vs) {σ : L2.St} {H : Hp} {Q : VK} {env : E3} {st st' : Store} {μ hid : List Addr} {acc : List W} (W0 : Wd K σ H env st μ hid) (e : compAll wi gt t el vs env st = some (acc, st'))
    (q : ∀ H' μ' D, Nx H μ H μ hid → (∃ H1 μ1, Nx H μ H1 μ1 hid ∧ H1 D = none ∧ LcEnd K H1 μ1 hid D acc st' H' μ') → Q (.ref D) H') : tLc (TIx K wi) (TGx K sl gt) (TTx K t) (TX K el) vs σ H Q := by
  unfold compAll at e
  obtain ⟨⟨it, s1⟩, h1, e⟩ := Option.bind_eq_some_iff.mp e
  refine ⟨env, st, μ, hid, it, s1, W0, h1, fun J H1 μ1 n1 sd1 wk D hD => ?_⟩
  have W1 := W0.next n1 sd1
  have hDm : D ∉ μ1 ++ hid := fun z => sd1.there D z hD
  -- the start
  have em : ∀ (o : HO) (μ : List Addr), mask (upd H1 D o) (μ ++ (hid ++ [D])) = mask H1 (μ ++ hid) := fun o μ => by
    funext b
    unfold mask upd
    simp only [List.mem_append, List.mem_singleton]
    by_cases hb : b = D
    · subst hb; by_cases h1 : b ∈ μ <;> by_cases h2 : b ∈ hid <;> simp [h1, h2, hD]
    · by_cases h1 : b ∈ μ <;> by_cases h2 : b ∈ hid <;> simp [h1, h2, hb]
  have start : LcEnd K H1 μ1 hid D [] s1 (upd H1 D (.lst [])) μ1 := by
    refine ⟨⟨sd1.len, fun n c a hc ha => ?_, fun a ha => ?_, ?_⟩, fun b o z => by rw [em]; exact z, List.prefix_refl _, fun a ha => upd_ne fun (z : a = D) => hDm (by rw [← z]; exact List.mem_append_right _ ha), frz_new hD, ⟨[], upd_same, .nil⟩, Nat.zero_le _⟩
    · rw [em]
      exact (sd1.cell n c a hc ha).mono (fun _ _ z => z) (List.prefix_refl _) (upd_ne fun (z : a = D) => hDm (by rw [← z]; exact List.mem_append_left _ (List.mem_of_getElem? ha)))
    · by_cases z : a = D
      · subst z; rw [upd_same]; simp
      · rw [upd_ne z]
        rcases List.mem_append.mp ha with ha | ha
        · exact sd1.hds a ha
        · exact absurd (by simpa using ha) z
    · rw [← List.append_assoc, List.nodup_append]
      exact ⟨sd1.nd, by simp, fun a ha b hb z => by subst z; simp at hb; subst hb; exact hDm ha⟩
  refine ⟨fun i m H2 => ∃ st2 μ2 acc2, LcEnd K H1 μ1 hid D acc2 st2 H2 μ2 ∧ acc2.length ≤ i ∧ compRun it gt t el (wipe3 env vs) m i st2 acc2 = some (acc, st'), ⟨it.n + 1, s1, μ1, [], start, Nat.le_refl _, e⟩, ?_⟩
  rintro i m H2 ⟨st2, μ2, acc2, L2', hlen, e2⟩
  have wk2 := wk H2 st2 μ2 (hid ++ [D]) L2'.same L2'.pre L2'.frz L2'.sd i
  cases m with
  | zero => cases e2
  | succ k =>
    unfold compRun at e2
    split at e2
    · cases e2
    · rename_i hit
      cases e2
      exact .inl ⟨wk2.2 hit, q H2 μ2 D Nx.refl ⟨H1, μ1, n1, hD, L2'⟩⟩
    · rename_i w hit
      obtain ⟨hi, go, yl⟩ := wk2.1 w hit
      refine .inr ⟨go, fun H' => ∃ st3 μ3 acc3, LcEnd K H1 μ1 hid D acc3 st3 H' μ3 ∧ acc3.length ≤ i + 1 ∧ compRun it gt t el (wipe3 env vs) k (i + 1) st3 acc3 = some (acc, st'), fun H' h => ⟨k, Nat.lt_succ_self _, h⟩, fun x H3 hy => ?_⟩
      obtain ⟨n3, sd3, r3⟩ := yl x H3 hy
      -- carried on
      have carry : ∀ {H5 : Hp} {st5 : Store} {μ5 : List Addr}, Nx H2 μ2 H5 μ5 (hid ++ [D]) → Sd K H5 st5 μ5 (hid ++ [D]) → LcEnd K H1 μ1 hid D acc2 st5 H5 μ5 := fun {H5 st5 μ5} n s => by
        obtain ⟨us, hu, ru⟩ := L2'.at_
        exact ⟨s, fun b o z => n.same b o (L2'.same b o z), L2'.pre.trans n.pre, fun a ha => (n.keep a (List.mem_append_left _ ha)).trans (L2'.keep a ha), fun b o u e => n.frz b o u (L2'.frz b o u e), ⟨us, (n.keep D (by simp)).trans hu, RWs.mono n.same n.pre ru⟩, L2'.len⟩
      have W3 : Wd K (L2.wipe σ vs) H3 (wipe3 env vs) st2 μ2 (hid ++ [D]) := ⟨((W1.ev.wipe vs).mono (fun b o z => n3.same b o (L2'.same b o z)) (L2'.pre.trans n3.pre)), sd3⟩
      split at e2
      · cases e2
      · rename_i env4 st4 h4
        refine ⟨wipe3 env vs, st2, μ2, hid ++ [D], w, env4, st4, W3, r3, h4, fun σ5 H5 μ5 n5 W5 af => ⟨wipe_after af hsl, ?_⟩⟩
        have n35 := n3.trans n5
        split at e2
        · cases e2
        · rename_i st6 h6
          refine TTx.go W5 h6 fun H6 μ6 n6 W6 => ?_
          simp only [Bool.false_eq_true, if_false]
          exact ⟨st6, μ6, acc2, carry (n35.trans n6) W6.sd, by omega, e2⟩
        · rename_i st6 h6
          refine TTx.go W5 h6 fun H6 μ6 n6 W6 => ?_
          rw [if_pos rfl]
          split at e2
          · cases e2
          · rename_i y st7 h7
            refine TX.go W6 h7 fun v H7 μ7 n7 W7 r7 => ?_
            have c7 := carry ((n35.trans n6).trans n7) W7.sd
            obtain ⟨us, hu, ru⟩ := c7.at_
            have hul : _ = _ := Paired.length ru
            refine ⟨us, hu, by omega, st7, μ7, acc2 ++ [y], ?_, by rw [List.length_append, List.length_singleton]; omega, e2⟩
            have hin : D ∈ μ7 ++ (hid ++ [D]) := by simp
            have em7 : ∀ o, mask (upd H7 D o) (μ7 ++ (hid ++ [D])) = mask H7 (μ7 ++ (hid ++ [D])) := fun o => mask_upd_in hin
            have nd7 := c7.sd.nd
            have hDμ : D ∉ μ7 ∧ D ∉ hid := by
              rw [← List.append_assoc, List.nodup_append] at nd7
              exact ⟨fun z => nd7.2.2 D (List.mem_append_left _ z) D (by simp) rfl, fun z => nd7.2.2 D (List.mem_append_right _ z) D (by simp) rfl⟩
            refine ⟨⟨c7.sd.len, fun n c a hc ha => ?_, fun a ha => ?_, c7.sd.nd⟩, fun b o z => by rw [em7]; exact c7.same b o z, c7.pre, fun a ha => (upd_ne fun (z : a = D) => hDμ.2 (by rw [← z]; exact ha)).trans (c7.keep a ha), fun b o u e => frz_put (nfL hu) b o u (c7.frz b o u e), ⟨us ++ [v], upd_same, ?_⟩, by rw [List.length_append, List.length_singleton]; omega⟩
            · rw [em7]
              exact (c7.sd.cell n c a hc ha).mono (fun _ _ z => z) (List.prefix_refl _) (upd_ne fun (z : a = D) => hDμ.1 (by rw [← z]; exact List.mem_of_getElem? ha))
            · by_cases z : a = D
              · subst z; rw [upd_same]; simp
              · rw [upd_ne z]; exact c7.sd.hds a ha
            · rw [em7]
              have app : ∀ {us : List V} {ws : List W}, RWs K (mask H7 (μ7 ++ (hid ++ [D]))) μ7 us ws → RWs K (mask H7 (μ7 ++ (hid ++ [D]))) μ7 (us ++ [v]) (ws ++ [y]) := by
                intro us ws h
                induction h with
                | nil => exact .cons r7 .nil
                | cons a b ih => exact .cons a ih
              exact app ru
end
end L3
set_option Elab.async false
set_option linter.all false
set_option maxRecDepth 100000
set_option maxHeartbeats 4000000
set_option autoImplicit false
/-! L3: comprehensions as expressions, methods, defs. -/
namespace L3
open PySem PySem.Spec PyProof.Rows L2
section
variable {K : PySem.W.Frag} {H1 H : Hp} {μ1 μ hid : List Addr} {D : Addr} {acc : List W} {st : Store}
theorem LcEnd.notin (l : LcEnd K H1 μ1 hid D acc st H μ) : D ∉ μ ∧ D ∉ hid := by
  have nd := l.sd.nd
  rw [← List.append_assoc, List.nodup_append] at nd
  exact ⟨fun z => nd.2.2 D (List.mem_append_left _ z) D (by simp) rfl, fun z => nd.2.2 D (List.mem_append_right _ z) D (by simp) rfl⟩
theorem mask_less {l l' : List Addr} (h : ∀ a ∈ l', a ∈ l) : Same (mask H l) (mask H l') := fun b o e => by
  rw [mask_some] at e ⊢
  exact ⟨fun z => e.1 (h _ z), e.2⟩
theorem LcEnd.less (l : LcEnd K H1 μ1 hid D acc st H μ) : Same (mask H (μ ++ (hid ++ [D]))) (mask H (μ ++ hid)) := mask_less fun a ha => by
  rcases List.mem_append.mp ha with ha | ha
  · exact List.mem_append_left _ ha
  · exact List.mem_append_right _ (List.mem_append_left _ ha)
theorem LcEnd.sd0 (l : LcEnd K H1 μ1 hid D acc st H μ) : Sd K H st μ hid where
  len := l.sd.len
  cell := fun n c a h1 h2 => (l.sd.cell n c a h1 h2).mono l.less (List.prefix_refl _) rfl
  hds := fun a ha => l.sd.hds a (List.mem_append_left _ ha)
  nd := by
    have nd := l.sd.nd
    rw [← List.append_assoc] at nd
    exact (List.nodup_append.mp nd).1
theorem LcEnd.nx (l : LcEnd K H1 μ1 hid D acc st H μ) : Nx H1 μ1 H μ hid := ⟨fun b o e => l.less b o (l.same b o e), l.pre, l.keep, l.frz⟩
theorem LcEnd.mask2 (l : LcEnd K H1 μ1 hid D acc st H μ) : mask H ((μ ++ [D]) ++ hid) = mask H (μ ++ (hid ++ [D])) := mask_congr fun a => by
  simp only [List.mem_append, List.mem_singleton]
  constructor
  · rintro ((h | h) | h) <;> simp [h]
  · rintro (h | h | h) <;> simp [h]
theorem LcEnd.nx2 (l : LcEnd K H1 μ1 hid D acc st H μ) : Nx H1 μ1 H (μ ++ [D]) hid :=
  ⟨fun b o e => by rw [l.mask2]; exact l.same b o e, l.pre.trans (List.prefix_append _ _), l.keep, l.frz⟩
theorem LcEnd.sd2 (l : LcEnd K H1 μ1 hid D acc st H μ) : Sd K H (st ++ [.list acc]) (μ ++ [D]) hid where
  len := by simp [l.sd.len]
  cell := fun n c a h1 h2 => by
    rw [l.mask2]
    by_cases hn : n < st.length
    · rw [List.getElem?_append_left hn] at h1
      rw [List.getElem?_append_left (by rw [l.sd.len]; exact hn)] at h2
      exact (l.sd.cell n c a h1 h2).mono (fun _ _ e => e) (List.prefix_append _ _) rfl
    · have hn' : n = st.length := by
        have := (List.getElem?_eq_some_iff.mp h1).1
        rw [List.length_append, List.length_singleton] at this
        omega
      subst hn'
      rw [List.getElem?_append_right (Nat.le_refl _), Nat.sub_self] at h1
      rw [List.getElem?_append_right (by rw [l.sd.len]; exact Nat.le_refl _), l.sd.len, Nat.sub_self] at h2
      simp at h1 h2
      subst h1 h2
      obtain ⟨vs, h3, h4⟩ := l.at_
      exact .list h3 l.len (RWs.mono (fun _ _ e => e) (List.prefix_append _ _) h4)
  hds := fun a ha => l.sd.hds a (List.mem_append_left _ ha)
  nd := by
    have nd := l.sd.nd
    have hn := l.notin
    rw [List.nodup_append] at nd ⊢
    rw [List.nodup_append] at nd
    refine ⟨?_, nd.2.1.1, fun a ha b hb e => ?_⟩
    · rw [List.nodup_append]
      exact ⟨nd.1, by simp, fun a ha b hb e => by simp at hb; subst hb; subst e; exact hn.1 ha⟩
    · rcases List.mem_append.mp ha with ha | ha
      · exact nd.2.2 a ha b (List.mem_append_left _ hb) e
      · simp at ha; subst ha; subst e; exact hn.2 hb
end
section
variable {X : Cx} {a b c : Expr} {pos : Pos} {f g : Ev}
theorem TX.comp {wi : Ei} {gt : Eg} {t : Et} {el : Ev} {sl vs : List Nat} {K : PySem.W.Frag} (hsl : ∀ j ∈ sl, j ∈ vs) {σ : L2.St} {H : Hp} {Q : VK} (h : TX K (bComp wi gt t el vs) σ H Q) : tLc (TIx K wi) (TGx K sl gt) (TTx K t) (TX K el) vs σ H Q := by
  obtain ⟨env, st, μ, hid, w, st', W0, e, q⟩ := h
  unfold bComp at e
  obtain ⟨⟨acc, s1⟩, h1, e⟩ := Option.bind_eq_some_iff.mp e
  obtain ⟨ds, h2, h3⟩ := Option.map_eq_some_iff.mp e
  cases h3
  refine lc_sem hsl W0 h1 fun H' μ' D _ ⟨H1, μ1, n1, hD, l⟩ => ?_
  obtain ⟨vs', h4, h5⟩ := l.at_
  have hn := l.notin
  refine q _ H' μ' (n1.trans l.nx) l.sd0 (.dat (.lst (mask_some.mpr ⟨fun z => ?_, h4⟩) (by rw [mapM_len h2]; exact l.len) ((h5.dat h2).mono l.less)))
  rcases List.mem_append.mp z with z | z
  · exact hn.1 z
  · exact hn.2 z
theorem TX.compNew {wi : Ei} {gt : Eg} {t : Et} {el : Ev} {sl vs : List Nat} {K : PySem.W.Frag} (hsl : ∀ j ∈ sl, j ∈ vs) {σ : L2.St} {H : Hp} {Q : VK} (h : TX K (bCompNew wi gt t el vs) σ H Q) : tLc (TIx K wi) (TGx K sl gt) (TTx K t) (TX K el) vs σ H Q := by
  obtain ⟨env, st, μ, hid, w, st', W0, e, q⟩ := h
  unfold bCompNew at e
  obtain ⟨⟨acc, s1⟩, h1, h3⟩ := Option.map_eq_some_iff.mp e
  cases h3
  refine lc_sem hsl W0 h1 fun H' μ' D _ ⟨H1, μ1, n1, hD, l⟩ => ?_
  exact q _ H' (μ' ++ [D]) (n1.trans l.nx2) l.sd2 (.loc (by rw [← l.sd.len, List.getElem?_append_right (Nat.le_refl _), Nat.sub_self]; rfl))
section
variable {elt tg iter : Expr} {ifs : List Expr} {scope : Scope} {own : List (Str × Nat)} {fi : Ei} {gt : Eg} {t : Et} {el : Ev} {sl : List Nat}
theorem x_comp (hc : X.calm = true) (hN : X.N.Nodup) (hi : PI X tg iter (TIx X.K fi)) (ok : BlkOk X.N X.env.scope scope own)
    (hg : ∀ (s : Shared) (H : Hp) (C : Addr) (cl : List (Str × Addr)) (fp : List Addr), PG (X.blk s H scope (compEnvC scope cl C X.env) fp) tg (TGx X.K sl gt)) (ht : ∀ (s : Shared) (H : Hp) (C : Addr) (cl : List (Str × Addr)) (fp : List Addr), PTs (X.blk s H scope (compEnvC scope cl C X.env) fp) ifs (TTx X.K t))
    (he : ∀ (s : Shared) (H : Hp) (C : Addr) (cl : List (Str × Addr)) (fp : List Addr), PE (X.blk s H scope (compEnvC scope cl C X.env) fp) elt (TX X.K el)) (hsl : ∀ j ∈ sl, j ∈ own.map (·.2)) (hs : ∀ x, foldedSetIterable iter X.env x = pure x := by intro _; rfl) :
    PE X (.ListComp elt [⟨tg, iter, ifs, 0⟩] scope pos) (TX X.K (bComp fi gt t el (own.map (·.2)))) := PE.imp (pe_lc hc hN hi ok hg ht he hs) fun σ H Q h => h.comp hsl
theorem x_compNew (hc : X.calm = true) (hN : X.N.Nodup) (hi : PI X tg iter (TIx X.K fi)) (ok : BlkOk X.N X.env.scope scope own)
    (hg : ∀ (s : Shared) (H : Hp) (C : Addr) (cl : List (Str × Addr)) (fp : List Addr), PG (X.blk s H scope (compEnvC scope cl C X.env) fp) tg (TGx X.K sl gt)) (ht : ∀ (s : Shared) (H : Hp) (C : Addr) (cl : List (Str × Addr)) (fp : List Addr), PTs (X.blk s H scope (compEnvC scope cl C X.env) fp) ifs (TTx X.K t))
    (he : ∀ (s : Shared) (H : Hp) (C : Addr) (cl : List (Str × Addr)) (fp : List Addr), PE (X.blk s H scope (compEnvC scope cl C X.env) fp) elt (TX X.K el)) (hsl : ∀ j ∈ sl, j ∈ own.map (·.2)) (hs : ∀ x, foldedSetIterable iter X.env x = pure x := by intro _; rfl) :
    PE X (.ListComp elt [⟨tg, iter, ifs, 0⟩] scope pos) (TX X.K (bCompNew fi gt t el (own.map (·.2)))) := PE.imp (pe_lc hc hN hi ok hg ht he hs) fun σ H Q h => h.compNew hsl
theorem xs_setComp {i : Nat} {y : Str} {py spos : Pos} {new : Bool} (hc : X.calm = true) (hN : X.N.Nodup) (hy : X.N[i]? = some y) (hyl : X.env.scope.names.lookup y = some .local)
    (hsw : swapsWith (.ListComp elt [⟨tg, iter, ifs, 0⟩] scope pos) (some (.Name y py)) spos.line X.env = pure true) (hi : PI X tg iter (TIx X.K fi)) (ok : BlkOk X.N X.env.scope scope own)
    (hg : ∀ (s : Shared) (H : Hp) (C : Addr) (cl : List (Str × Addr)) (fp : List Addr), PG (X.blk s H scope (compEnvC scope cl C X.env) fp) tg (TGx X.K sl gt)) (ht : ∀ (s : Shared) (H : Hp) (C : Addr) (cl : List (Str × Addr)) (fp : List Addr), PTs (X.blk s H scope (compEnvC scope cl C X.env) fp) ifs (TTx X.K t))
    (he : ∀ (s : Shared) (H : Hp) (C : Addr) (cl : List (Str × Addr)) (fp : List Addr), PE (X.blk s H scope (compEnvC scope cl C X.env) fp) elt (TX X.K el)) (hsl : ∀ j ∈ sl, j ∈ own.map (·.2)) (hs : ∀ x, foldedSetIterable iter X.env x = pure x := by intro _; rfl) :
    PS X (.Assign [.Name y py] (.ListComp elt [⟨tg, iter, ifs, 0⟩] scope pos) spos) (TSx X.K (bAsg (bif new then bCompNew fi gt t el (own.map (·.2)) else bComp fi gt t el (own.map (·.2))) (gNm i))) :=
  PS.imp (ps_setLc hc hN hy hyl hsw hi ok hg ht he hs) fun D σ H h => by
    have h2 : TX X.K (bif new then bCompNew fi gt t el (own.map (·.2)) else bComp fi gt t el (own.map (·.2))) σ H fun x H1 => gName i x σ H1 D.nx := by
      obtain ⟨env, st, μ, hid, fl, env', st', W0, e, q⟩ := h
      unfold bAsg at e
      obtain ⟨⟨w, s1⟩, h1, e⟩ := Option.bind_eq_some_iff.mp e
      cases e
      exact TX.go W0 h1 fun v H1 μ1 n1 W1 r => q _ H1 μ1 n1 ⟨W1.ev.set r, W1.sd⟩
    cases new with
    | true => exact TX.compNew hsl h2
    | false => exact TX.comp hsl h2
end
theorem xts_one {t : Et} (h : PT X c (TTx X.K t)) : PTs X [c] (TTx X.K t) := pts_one h
/-! ### methods of lists -/
def isL (st : Store) : W → Bool
  | .loc n => match st[n]? with
    | some (.list _) => true
    | _ => false
  | _ => false
def bMeth (o : W → OpN) (f : Ev) (g : Ea) : Ev := fun env st => (f env st).bind fun r => if isL r.2 r.1 = true then (g env r.2).bind fun t => o r.1 t.1 t.2 else none
def TM (K : PySem.W.Frag) (o : W → OpN) : V → List V → Hp → VK → Prop := fun x xs H Q => ∃ st μ hid wx ws w st', Sd K H st μ hid ∧ RW K (mask H (μ ++ hid)) μ x wx ∧ RWs K (mask H (μ ++ hid)) μ xs ws ∧ o wx ws st = some (w, st') ∧ Out K H μ hid w st' Q
def opAppend : W → OpN
  | .loc n, [w], st => match st[n]? with
    | some (.list ws) => if ws.length < sizeLine then some (.dat .none, st.set n (.list (ws ++ [w]))) else none
    | _ => none
  | _, _, _ => none
def opExtend : W → OpN
  | .loc n, [.dat (.list ds)], st => match st[n]? with
    | some (.list ws) => if ws.length + ds.length ≤ sizeLine then some (.dat .none, st.set n (.list (ws ++ ds.map .dat))) else none
    | _ => none
  | _, _, _ => none
theorem RWs.append {K : PySem.W.Frag} {M : Hp} {μ : List Addr} : ∀ {vs us : List V} {ws xs : List W}, RWs K M μ vs ws → RWs K M μ us xs → RWs K M μ (vs ++ us) (ws ++ xs)
  | _, _, _, _, .nil, s => s
  | _, _, _, _, .cons a b, s => .cons a (RWs.append b s)
theorem m_append : MtR X "list.append" (TM X.K opAppend) := by
  intro pins s σ H x xs v us Q I rx rxs ⟨st, μ, hid, wx, ws, w, st', sd, hx, hxs, e, q⟩
  unfold opAppend at e
  split at e
  · rename_i n w
    split at e
    · rename_i us' hw
      split at e
      · rename_i hz
        cases e
        obtain ⟨y, rfl, ry⟩ := rw1 hxs
        cases hx with
        | loc ha =>
          cases sd.at hw ha with
          | @list vs _ h2 h3 h4 =>
            have hl : _ = _ := Paired.length h4
            refine mt_append pins s σ H _ _ v us Q I rx rxs ⟨_, _, _, rfl, rfl, h2, by omega, ?_⟩
            exact q _ _ μ (Nx.put ha sd.nd (nfL h2)) (sd.put ha (.list upd_same (by rw [List.length_append, List.length_singleton]; omega) (h4.append (.cons ry .nil)))) (.dat .non)
      · cases e
    · cases e
  · cases e
theorem m_extend : MtR X "list.extend" (TM X.K opExtend) := by
  intro pins s σ H x xs v us Q I rx rxs ⟨st, μ, hid, wx, ws, w, st', sd, hx, hxs, e, q⟩
  unfold opExtend at e
  split at e
  · rename_i n ds
    split at e
    · rename_i us' hw
      split at e
      · rename_i hz
        cases e
        obtain ⟨y, rfl, ry⟩ := rw1 hxs
        cases hx with
        | loc ha =>
          cases ry with
          | dat ry =>
            cases ry with
            | @lst b zs _ hb hzb hr =>
              cases sd.at hw ha with
              | @list vs _ h2 h3 h4 =>
                have hl : _ = _ := Paired.length h4
                have hl2 := hr.length
                refine mt_extend pins s σ H _ _ v us Q I rx rxs ⟨_, _, _, _, rfl, rfl, h2, mask_le _ _ hb, by omega, ?_⟩
                exact q _ _ μ (Nx.put ha sd.nd (nfL h2)) (sd.put ha (.list upd_same (by rw [List.length_append, List.length_map]; omega) (h4.append hr.ws))) (.dat .non)
      · cases e
    · cases e
  · cases e
theorem lm_sem {o : W → OpN} {t : Ea} {K : PySem.W.Frag} {σ : L2.St} {H : Hp} {Q : VK} (h : TX K (bMeth o f t) σ H Q) : tBM K "list" (TM K o) (TX K f) (TAx K t) σ H Q := by
  obtain ⟨env, st, μ, hid, w, st', W0, e, q⟩ := h
  unfold bMeth at e
  obtain ⟨⟨wx, s1⟩, h1, e⟩ := Option.bind_eq_some_iff.mp e
  split at e
  · rename_i hl
    obtain ⟨⟨ws, s2⟩, h2, e⟩ := Option.bind_eq_some_iff.mp e
    refine TX.go W0 h1 fun vx H1 μ1 n1 W1 rx => ?_
    have rx0 := rx
    have ty : tyV K "list" vx H1 := by
      unfold isL at hl
      dsimp only at hl
      split at hl
      · split at hl
        · rename_i hw
          cases rx with
          | loc ha => cases W1.sd.at hw ha with | list h3 _ _ => exact .inl ⟨rfl, _, SqL.of h3⟩
        · cases hl
      · cases hl
    exact ⟨ty, TAx.go W1 h2 fun vs H2 μ2 n2 W2 rs => ⟨s2, μ2, hid, wx, ws, w, st', W2.sd, rx0.mono n2.same n2.pre, rs, e, fun v H' μ' n s r => q v H' μ' ((n1.trans n2).trans n) s r⟩⟩
  · cases e
theorem x_append {o e : Expr} {apos cpos : Pos} {es : List Expr} {t : Ea} (ho : PE X o (TX X.K f)) (ha : PA X (e :: es) (TAx X.K t))
    (hbase : attributeBase o "append" X.env (eval o X.env) = eval o X.env := by rfl)
    (hfew : ((backTo cpos (starEach (e :: es) X.env)).all (fun x => !x.1) && (backToKw cpos (keywordEach [] X.env)).all (fun x => x.1.isSome) && decide ((e :: es).length + ([] : List Keyword).length + (if ([] : List Keyword).isEmpty then 0 else 1) < 30)) = true := by rfl)
    (hline : (apos.endLine == cpos.line) = true := by rfl) (hs : starEach (e :: es) X.env = (false, eval e X.env) :: starEach es X.env := by rfl) (hplain : (backTo cpos (starEach es X.env)).any (·.1) = false := by rfl) :
    PE X (.Call (.Attribute o "append" apos) (e :: es) [] cpos) (TX X.K (bMeth opAppend f t)) :=
  PE.imp (pe_bm PySem.F.plainAttrs_list PySem.F.slot_list_append PySem.F.type_list_append m_append ho ha hbase hfew hline hs hplain) fun σ H Q h => lm_sem h
theorem x_extend {o e : Expr} {apos cpos : Pos} {es : List Expr} {t : Ea} (ho : PE X o (TX X.K f)) (ha : PA X (e :: es) (TAx X.K t))
    (hbase : attributeBase o "extend" X.env (eval o X.env) = eval o X.env := by rfl)
    (hfew : ((backTo cpos (starEach (e :: es) X.env)).all (fun x => !x.1) && (backToKw cpos (keywordEach [] X.env)).all (fun x => x.1.isSome) && decide ((e :: es).length + ([] : List Keyword).length + (if ([] : List Keyword).isEmpty then 0 else 1) < 30)) = true := by rfl)
    (hline : (apos.endLine == cpos.line) = true := by rfl) (hs : starEach (e :: es) X.env = (false, eval e X.env) :: starEach es X.env := by rfl) (hplain : (backTo cpos (starEach es X.env)).any (·.1) = false := by rfl) :
    PE X (.Call (.Attribute o "extend" apos) (e :: es) [] cpos) (TX X.K (bMeth opExtend f t)) :=
  PE.imp (pe_bm PySem.F.plainAttrs_list PySem.F.slot_list_extend PySem.F.type_list_extend m_extend ho ha hbase hfew hline hs hplain) fun σ H Q h => lm_sem h
end
end L3
set_option Elab.async false
set_option linter.all false
set_option maxRecDepth 100000
set_option maxHeartbeats 4000000
set_option autoImplicit false
/-! L3: defs, calls. -/
namespace L3
open PySem PySem.Spec PyProof.Rows L2

/-! ### what a def hands back -/
def WBelow (n : Nat) : W → Prop
  | .loc m => m < n
  | _ => True
def CBelow (n : Nat) : Cell → Prop
  | .list ws => ∀ w ∈ ws, WBelow n w
  | .dict kvs => ∀ p ∈ kvs, WBelow n p.2
  | .froz kvs => ∀ p ∈ kvs, WBelow n p.2
/-- the caller's cells, as they are or with what the caller knows -/
def Shut (st0 st' : Store) : Prop := st0.length ≤ st'.length ∧ ∀ (i : Nat) (c : Cell), i < st0.length → st'[i]? = some c → st0[i]? = some c ∨ CBelow st0.length c
open Classical in
noncomputable def shut (fz : Bool) (st0 : Store) (w : W) (st' : Store) : Option (W × Store) :=
  if Shut st0 st' then (match w with
    | .loc m => if m < st0.length then some (.loc m, st'.take st0.length) else if fz = true then (match st'[m]? with
        | some (.list ws) => (match ws.mapM datOf with
          | some ds => some (.dat (.list ds), st'.take st0.length)
          | none => some (.loc m, st'))
        | _ => some (.loc m, st')) else some (.loc m, st')
    | w => some (w, st'.take st0.length))
  else none
def start3 (n : Nat) (ws : List W) : E3 := ws.map some ++ List.replicate (n - ws.length) none
/-- a def of m parameters and n names, by its body -/
noncomputable def runB (fz : Bool) (n m : Nat) (b : Eb) : OpN := fun ws st => if ws.length = m then (b (start3 n ws) st).bind fun r => match r.1 with
  | .nx => shut fz st (.dat .none) r.2.2
  | .rt w => shut fz st w r.2.2
  | _ => none else none
theorem below_of {K : PySem.W.Frag} {M : Hp} {μ : List Addr} {v : V} {w : W} (r : RW K M μ v w) : WBelow μ.length w := by
  cases r with
  | loc h => exact (List.getElem?_eq_some_iff.mp h).1
  | _ => trivial
theorem belows_of {K : PySem.W.Frag} {M : Hp} {μ : List Addr} {v : List V} {w : List W} (r : RWs K M μ v w) : ∀ x ∈ w, WBelow μ.length x := by
  induction r with
  | nil => intro x hx; cases hx
  | cons a b ih =>
    intro x hx
    rcases List.mem_cons.mp hx with e | hx
    · subst e; exact below_of a
    · exact ih x hx
theorem cbelow_of {K : PySem.W.Frag} {M : Hp} {μ : List Addr} {H : Hp} {a : Addr} {c : Cell} (r : COk K M μ H a c) : CBelow μ.length c := by
  cases r with
  | list _ _ r => exact belows_of r
  | dict h1 h2 r =>
    clear h1 h2
    intro p hp
    induction r with
    | nil => cases hp
    | cons a b ih =>
      rcases List.mem_cons.mp hp with e | hp
      · subst e; exact below_of a.2
      · exact ih hp
  | froz h1 h2 r =>
    clear h1 h2
    intro p hp
    induction r with
    | nil => cases hp
    | cons a b ih =>
      rcases List.mem_cons.mp hp with e | hp
      · subst e; exact below_of a.2
      · exact ih hp
theorem RW.take {K : PySem.W.Frag} {M M' : Hp} {μ : List Addr} {n : Nat} (s : Same M M') {v : V} {w : W} (hb : WBelow n w) (r : RW K M μ v w) : RW K M' (μ.take n) v w := by
  cases r with
  | dat h => exact .dat (h.mono s)
  | loc h1 => exact .loc (by rw [List.getElem?_take_of_lt hb]; exact h1)
  | iset h n => exact .iset (s _ _ h) n
  | frz h z r => exact .frz (Same.sqL s h) z (r.mono s)
  | ty n => exact .ty n
  | tys h => exact .tys (s _ _ h)
theorem RWs.takeN {K : PySem.W.Frag} {M M' : Hp} {μ : List Addr} {n : Nat} (s : Same M M') {v : List V} {w : List W} (h : ∀ x ∈ w, WBelow n x) (r : RWs K M μ v w) : RWs K M' (μ.take n) v w := by
  induction r with
  | nil => exact .nil
  | cons a b ih => exact .cons (a.take s (h _ List.mem_cons_self)) (ih fun x hx => h x (List.mem_cons_of_mem _ hx))
theorem COk.take {K : PySem.W.Frag} {M M' : Hp} {μ : List Addr} {n : Nat} {H : Hp} {a : Addr} (s : Same M M') {c : Cell} (h : CBelow n c) (r : COk K M μ H a c) : COk K M' (μ.take n) H a c := by
  cases r with
  | list h1 h2 r => exact .list h1 h2 (RWs.takeN s h r)
  | dict h1 h2 r =>
    refine .dict h1 h2 ?_
    rename_i vs ws
    have key : ∀ {vs : List (Key × V)} {ws : List (Key × W)}, (∀ p : Key × W, p ∈ ws → WBelow n p.2) → Paired (fun (p : Key × V) (q : Key × W) => p.1 = q.1 ∧ RW K M μ p.2 q.2) vs ws → Paired (fun (p : Key × V) (q : Key × W) => p.1 = q.1 ∧ RW K M' (μ.take n) p.2 q.2) vs ws := by
      intro vs ws h r
      induction r with
      | nil => exact .nil
      | cons a b ih => exact .cons ⟨a.1, a.2.take s (h _ List.mem_cons_self)⟩ (ih fun x hx => h x (List.mem_cons_of_mem _ hx))
    exact key h r
  | froz h1 h2 r =>
    refine .froz h1 h2 ?_
    rename_i vs ws
    have key : ∀ {vs : List (Key × V)} {ws : List (Key × W)}, (∀ p : Key × W, p ∈ ws → WBelow n p.2) → Paired (fun (p : Key × V) (q : Key × W) => p.1 = q.1 ∧ RW K M μ p.2 q.2) vs ws → Paired (fun (p : Key × V) (q : Key × W) => p.1 = q.1 ∧ RW K M' (μ.take n) p.2 q.2) vs ws := by
      intro vs ws h r
      induction r with
      | nil => exact .nil
      | cons a b ih => exact .cons ⟨a.1, a.2.take s (h _ List.mem_cons_self)⟩ (ih fun x hx => h x (List.mem_cons_of_mem _ hx))
    exact key h r
theorem shut_ok {K : PySem.W.Frag} {H H' : Hp} {st st' st2 : Store} {μ μ' hid : List Addr} {w w2 : W} {v : V} {fz : Bool} (sd : Sd K H st μ hid) (n : Nx H μ H' μ' hid) (sd' : Sd K H' st' μ' hid) (r : RW K (mask H' (μ' ++ hid)) μ' v w) (e : shut fz st w st' = some (w2, st2)) :
    ∃ μ2, Nx H μ H' μ2 hid ∧ Sd K H' st2 μ2 hid ∧ RW K (mask H' (μ2 ++ hid)) μ2 v w2 := by
  unfold shut at e
  split at e
  · rename_i hs
    obtain ⟨hlen, hs⟩ := hs
    -- the cells cut off
    have hμ : μ'.take st.length = μ := by
      obtain ⟨t, rfl⟩ := n.pre
      rw [← sd.len, List.take_left']
      rfl
    have sub : Same (mask H' (μ' ++ hid)) (mask H' (μ ++ hid)) := mask_less fun a ha => by
      rcases List.mem_append.mp ha with ha | ha
      · exact List.mem_append_left _ (n.pre.subset ha)
      · exact List.mem_append_right _ ha
    have n2 : Nx H μ H' μ hid := ⟨fun b o q => sub b o (n.same b o q), List.prefix_refl _, n.keep, n.frz⟩
    have s2 : Sd K H' (st'.take st.length) μ hid := by
      refine ⟨by rw [List.length_take, sd.len]; omega, fun i c a hc ha => ?_, sd'.hds, ?_⟩
      · have hi : i < st.length := by have := (List.getElem?_eq_some_iff.mp ha).1; rw [sd.len] at this; exact this
        rw [List.getElem?_take_of_lt hi] at hc
        have ha' : μ'[i]? = some a := by
          rw [← hμ, List.getElem?_take_of_lt hi] at ha
          exact ha
        have ok := sd'.cell i c a hc ha'
        have cb : CBelow st.length c := by
          rcases hs i c hi hc with h | h
          · have := cbelow_of (sd.cell i c a h ha); rw [sd.len] at this; exact this
          · exact h
        have := ok.take sub cb
        rw [hμ] at this
        exact this
      · exact sd.nd
    have cutR : WBelow st.length w → ∃ μ2, Nx H μ H' μ2 hid ∧ Sd K H' (st'.take st.length) μ2 hid ∧ RW K (mask H' (μ2 ++ hid)) μ2 v w := fun hw => by
      refine ⟨μ, n2, s2, ?_⟩
      have := r.take sub hw
      rw [hμ] at this
      exact this
    split at e
    · rename_i m
      split at e
      · rename_i hm
        cases e
        exact cutR hm
      · split at e
        · split at e
          · rename_i ws hw
            split at e
            · rename_i ds hd
              cases e
              cases r with
              | loc ha =>
                cases sd'.at hw ha with
                | list h2 h3 h4 =>
                  rename_i hm _ a vs
                  refine ⟨μ, n2, s2, .dat (.lst (mask_some.mpr ⟨fun z => ?_, h2⟩) (by rw [mapM_len hd]; exact h3) ((h4.dat hd).mono sub))⟩
                  have nd := sd'.nd
                  rw [List.nodup_append] at nd
                  rcases List.mem_append.mp z with z | z
                  · obtain ⟨j, hj, ej⟩ := List.getElem_of_mem z
                    have hj' : μ'[j]? = some a := by
                      obtain ⟨t, rfl⟩ := n.pre
                      rw [List.getElem?_append_left hj, List.getElem?_eq_getElem hj, ej]
                    obtain ⟨l1, e1⟩ := List.getElem?_eq_some_iff.mp hj'
                    obtain ⟨l2, e2⟩ := List.getElem?_eq_some_iff.mp ha
                    have := (List.getElem_inj nd.1).mp (e1.trans e2.symm)
                    rw [sd.len] at hj
                    omega
                  · exact nd.2.2 a (List.mem_of_getElem? ha) a z rfl
            · cases e; exact ⟨μ', n, sd', r⟩
          · cases e; exact ⟨μ', n, sd', r⟩
        · cases e; exact ⟨μ', n, sd', r⟩
    · rename_i hn
      cases e
      refine cutR ?_
      cases w with
      | loc m => exact absurd rfl (hn m)
      | _ => trivial
  · cases e

/-- a def keeps the reading F, called where nothing is being shown -/
structure FnG (P : Program) (w : World) (K : PySem.W.Frag) (mg : Str → Option Value) (base : Heap) (k : Nat) (f : Addr) (fd : FuncData) (ps : List Str) (F : OpN) : Prop where
  len : ∀ ws st r, F ws st = some r → ws.length = ps.length
  run : ∀ (A : Around) (outer : List Env) (s : Shared) (H : Hp) (args : Args) (us : List Value) (vs : List V) (Q : VK), Room k A → A.guards = some [] → Env0 P w K mg base A outer s H → BindsTo s fd args (ps.zip us) → Vals vs us → TN K F vs H Q →
    codeAny (model P w) A (.call (.ref f) args) (CR CX0 outer P w H s Q E0) s
section
variable {P : Program} {w : World} {K : PySem.W.Frag} {mg : Str → Option Value} {base : Heap}
theorem FnG.mono {j k : Nat} {f : Addr} {fd : FuncData} {ps : List Str} {F : OpN} (G : FnG P w K mg base j f fd ps F) (h : j ≤ k) : FnG P w K mg base k f fd ps F :=
  ⟨G.len, fun A outer s H args us vs Q hr => G.run A outer s H args us vs Q (hr.mono h)⟩
/-- what it is worth in other words -/
theorem FnG.imp {k : Nat} {f : Addr} {fd : FuncData} {ps : List Str} {F F' : OpN} (G : FnG P w K mg base k f fd ps F) (h : ∀ ws st r, F' ws st = some r → F ws st = some r) : FnG P w K mg base k f fd ps F' :=
  ⟨fun ws st r e => G.len ws st r (h _ _ _ e), fun A outer s H args us vs Q hr hg he hb hv ⟨st, μ, hid, ws, w, st', sd, rx, e, q⟩ => G.run A outer s H args us vs Q hr hg he hb hv ⟨st, μ, hid, ws, w, st', sd, rx, h _ _ _ e, q⟩⟩
theorem RE.start {M : Hp} {μ : List Addr} {vs : List V} {ws : List W} {N : List Str} (r : RWs K M μ vs ws) : RE K M μ (L2.start N vs) (start3 N.length ws) := by
  have hl : vs.length = ws.length := Paired.length r
  refine ⟨by unfold L2.start start3; simp [hl], fun i x e => ?_⟩
  unfold start3 at e
  unfold L2.start
  by_cases hi : i < ws.length
  · rw [List.getElem?_append_left (by simpa using hi), List.getElem?_map] at e
    rw [List.getElem?_append_left (by rw [List.length_map, hl]; exact hi), List.getElem?_map]
    cases h : ws[i]? with
    | none => rw [h] at e; cases e
    | some y =>
      rw [h] at e
      have e := Option.some.inj (Option.some.inj e)
      subst e
      obtain ⟨v, h1, h2⟩ := RWs.get r h
      exact ⟨v, by rw [h1]; rfl, h2⟩
  · rw [List.getElem?_append_right (by simpa using hi), List.getElem?_replicate] at e
    split at e <;> cases e
/-- THE RULE: a def by its body's reading -/
theorem FunD.okG {x qual : Str} {params : Arguments} {body : List Stmt} {scope : Scope} {dvs : List V} {kws : List (Str × V)} {f : Addr} {fd : FuncData} {N ps : List Str} {k : Nat} {fz : Bool} {b : Eb} (F : FunD K x qual params body scope dvs kws f fd) (S : FnScope N ps scope)
    (hbody : ∀ (cdv : Value) (A : Around) (outer : List Env) (s : Shared) (H : Hp) (E : XK), Room k (A.deeper (envOfC qual scope s.heap.objs.size f cdv)) → A.guards = some [] → PSs (cxOf CX0 P w K mg base N qual scope f cdv A outer s H E) body (TSx K b)) :
    FnG P w K mg base (k + 1) f fd ps (runB fz N.length ps.length b) := by
  obtain ⟨oc, od, dV, kV, doc, pm, an, cdv, ct, osl, rfl, lk, hcd, _, _⟩ := F.ex
  have hlen : ∀ ws st r, runB fz N.length ps.length b ws st = some r → ws.length = ps.length := fun ws st r e => by
    unfold runB at e
    split at e
    · rename_i h; exact h
    · cases e
  refine ⟨hlen, fun A outer s H args us vs Q hr hgd e0 hb r hsp => ?_⟩
  have hl : vs.length = ps.length := by
    obtain ⟨st, μ, hid, ws, w, st', sd, rx, e, q⟩ := hsp
    have := hlen _ _ _ e
    have h2 : _ = _ := Paired.length rx
    omega
  have KX : K.In s.heap := e0.mod.kin.keeps fun b o e => (e0.bs b o e).1
  have lim : s.heap.NoLimit := e0.mod.nolimit.keeps fun b o e => (e0.bs b o e).1
  have hkind : ∀ y ∈ ps.zip us, scope.names.lookup y.1 = some .local ∨ (scope.names.lookup y.1 = some .cell ∧ ((cellsFrom (s.heap.objs.size + 1) scope.names []).lookup y.1).isSome = true) := fun ⟨n, v⟩ hy => by
    rcases S.par n (List.of_mem_zip hy).1 with q | q
    · exact .inl q
    · exact .inr ⟨q, PySem.W.cellsFrom_some _ _ _ (.inl q)⟩
  refine codeAny_call_function hr.depth (KX _ _ lk) rfl S.co S.gen rfl (PySem.W.codeRec_of KX hcd) (hb _ _ _ _ (wpAny_newFunctionEnv_cells S.kind hkind fun env he s1 x => ?_))
  subst he
  refine ⟨lim.keeps x.toInCall.keep, codeAny_func ?_⟩
  have ht := hbody cdv A outer s H E0 (hr.deeper _) hgd
  have I : Inv (cxOf CX0 P w K mg base N qual scope f cdv A outer s H E0) [] (L2.start N vs) H s1 := inv_start S hr.hd e0 hl r x
  obtain ⟨st, μ, hid, ws, wr, st', sd, rx, e, q⟩ := hsp
  have W0 : Wd K (L2.start N vs) H (start3 N.length ws) st μ hid := ⟨RE.start rx, sd⟩
  unfold runB at e
  split at e
  · rename_i hwl
    obtain ⟨⟨fl, env', st2⟩, h1, e⟩ := Option.bind_eq_some_iff.mp e
    have fin : ∀ {v : V} {H' : Hp} {μ' : List Addr} {w0 : W}, Nx H μ H' μ' hid → Sd K H' st2 μ' hid → RW K (mask H' (μ' ++ hid)) μ' v w0 → shut fz st w0 st2 = some (wr, st') → Q v H' := fun {v H' μ' w0} n s r e => by
      obtain ⟨μ2, n2, s2, r2⟩ := shut_ok sd n s r e
      exact q v H' μ2 n2 s2 r2
    have TT : TSx K b { nx := fun _ H' => Q .non H', rt := Q } (L2.start N vs) H := by
      refine TSx.go W0 h1 ?_
      cases fl with
      | nx => exact fun σ' H' μ' n w' => fin n w'.sd (.dat .non) e
      | rt w0 => exact fun v H' μ' n s r => fin n s r e
      | bk => cases e
      | ct => cases e
    refine wpAny_mono (ht.run [] s1 (L2.start N vs) H _ I TT) (fun fl s' hs => ?_) fun e s' hs => hs
    have done : ∀ {σ' : L2.St} {H' : Hp} {v : V} {u : Value}, Inv (cxOf CX0 P w K mg base N qual scope f cdv A outer s H E0) [] σ' H' s' → RelV v u → Q v H' → CE outer P w H s Q u s' :=
      fun {σ' H' v u} J rv q => ⟨v, H', J.os, J.bare, J.base, J.hok, rv, q⟩
    cases fl with
    | ret u =>
      obtain ⟨v, σ', H', J, rv, q⟩ := hs
      exact done J rv q
    | next =>
      obtain ⟨σ', H', J, q⟩ := hs
      exact done (v := V.non) (u := Value.none) J rfl q
    | brk => obtain ⟨_, _, _, q⟩ := hs; exact q.elim
    | cont => obtain ⟨_, _, _, q⟩ := hs; exact q.elim
  · cases e
end

/-! ### calls -/
section
variable {X : Cx} {a b c : Expr} {pos : Pos} {f g : Ev} {k : Nat} {fa : Addr} {fd : FuncData} {ps : List Str} {F : OpN} {x : Str} {p : Pos}
theorem run_fnG {pins : List (Addr × Obj)} {σ : L2.St} {H : Hp} {s : Shared} {Q : VK} {us : List Value} {kw : List (Str × Value)} {vs' : List V} {us' : List Value} (G : FnG X.prog X.w X.K X.mg X.base k fa fd ps F) (hr : Room k X.A) (hgd : X.A.guards = some [])
    (I : Inv X pins σ H s) (hb : BindsTo s fd ⟨us, kw⟩ (ps.zip us')) (r : Vals vs' us') (h : TN X.K F vs' H Q) : wpAny (model X.prog X.w) X.A (call (.ref fa) us kw) (EP X pins σ Q) X.xe s := by
  refine wpAny_call (codeAny_mono (G.run X.A X.stack s H ⟨us, kw⟩ us' vs' Q hr hgd I.env0 hb r h) fun r s' hq => ?_)
  cases r with
  | error e => exact hq.elim
  | ok fl =>
    cases fl with
    | ret u => exact I.after hq
    | _ => exact hq.elim
theorem x_call {e : Expr} {es : List Expr} {t : Ea} (G : FnG X.prog X.w X.K X.mg X.base k fa fd ps F) (hb : Binds X.K fd ps []) (hk : PySem.W.keepIn X.K (.ref fa) = true) (hr : Room k X.A) (hgd : X.A.guards = some []) (hg : Gl X x) (hm : X.mg x = some (.ref fa))
    (ha : PA X (e :: es) (TAx X.K t)) (hdb : (x == ("__debug__" : Str)) = false := by decide) (he : starEach (e :: es) X.env = (false, eval e X.env) :: starEach es X.env := by rfl) (hpl : (backTo pos (starEach es X.env)).any (·.1) = false := by rfl) :
    PE X (.Call (.Name x p) (e :: es) [] pos) (TX X.K (bN F t)) := by
  refine ⟨fun pins s σ H Q I h => ?_⟩
  refine wpAny_Call_Name_kw (ld_glob I hg hm ?_ hdb)
  refine PySem.W.callWith_K (h₀ := X.base) I.ok.mod.kin hk (thn (ha.run pos pins s σ H _ I (TX.args h)) fun us s1 ⟨vs, H1, I1, r, q⟩ => ⟨I1.kIn, ?_⟩) he hpl
  have hl : us.length = ps.length := by
    obtain ⟨st, μ, hid, ws, w, st', sd, rx, e, q⟩ := q
    have h1 := G.len _ _ _ e
    have h2 : _ = _ := Paired.length rx
    have h3 := r.length
    omega
  have bb := hb s1 us I1.kIn (by rw [List.append_nil]; exact hl)
  rw [List.append_nil] at bb
  exact run_fnG G hr hgd I1 bb r q
/-- no arguments -/
theorem x_call0 (G : FnG X.prog X.w X.K X.mg X.base k fa fd ps F) (hb : Binds X.K fd ps []) (hk : PySem.W.keepIn X.K (.ref fa) = true) (hr : Room k X.A) (hgd : X.A.guards = some []) (hg : Gl X x) (hm : X.mg x = some (.ref fa)) (hdb : (x == ("__debug__" : Str)) = false := by decide) :
    PE X (.Call (.Name x p) [] [] pos) (TX X.K (bN F aNil)) := by
  refine ⟨fun pins s σ H Q I h => ?_⟩
  refine wpAny_Call_Name_kw (ld_glob I hg hm ?_ hdb)
  have q := TX.args h
  have q : TN X.K F [] H Q := by
    obtain ⟨env, st, μ, hid, ws, st', W0, e, q⟩ := q
    cases e
    exact q [] H μ Nx.refl W0.sd .nil
  refine PySem.W.callWith_K0 I.kIn hk ?_
  have hl : ps.length = 0 := by
    obtain ⟨st, μ, hid, ws, w, st', sd, rx, e, q⟩ := q
    have h1 := G.len _ _ _ e
    have h2 : _ = _ := Paired.length rx
    simp at h2
    omega
  have bb := hb s [] I.kIn (by simp [hl])
  exact run_fnG G hr hgd I bb .nil q
/-! ### by names -/
def pk {α : Type} (idx : List Nat) (xs : List α) : List α := idx.filterMap fun i => xs[i]?
theorem pk_rel {α β : Type} {R : α → β → Prop} {xs : List α} {ys : List β} (r : Paired R xs ys) : ∀ idx : List Nat, Paired R (pk idx xs) (pk idx ys)
  | [] => .nil
  | i :: idx => by
    have key : ∀ {xs : List α} {ys : List β} {i : Nat}, Paired R xs ys → (xs[i]? = none ∧ ys[i]? = none) ∨ ∃ x y, xs[i]? = some x ∧ ys[i]? = some y ∧ R x y := by
      intro xs ys i r
      induction r generalizing i with
      | nil => exact .inl ⟨rfl, rfl⟩
      | cons a b ih =>
        cases i with
        | zero => exact .inr ⟨_, _, rfl, rfl, a⟩
        | succ i => simpa using ih (i := i)
    unfold pk
    rw [List.filterMap_cons, List.filterMap_cons]
    rcases key (i := i) r with ⟨h1, h2⟩ | ⟨x, y, h1, h2, h3⟩
    · rw [h1, h2]; exact pk_rel r idx
    · rw [h1, h2]; exact .cons h3 (pk_rel r idx)
/-- the keywords' values -/
theorem xk_nil : PK X [] (TAx X.K aNil) := ⟨fun pos pins s σ H Q I h => pk_nil.run pos pins s σ H Q I (by obtain ⟨env, st, μ, hid, ws, st', W0, e, q⟩ := h; cases e; exact q [] H μ Nx.refl W0.sd .nil)⟩
theorem xk_cons {kws : List Keyword} {nm : Option Str} {kpos : Pos} {t : Ea} (ha : PE X a (TX X.K f)) (hr : PK X kws (TAx X.K t)) : PK X (⟨nm, a, kpos⟩ :: kws) (TAx X.K (aCons f t)) :=
  ⟨fun pos pins s σ H Q I h => (pk_cons ha hr).run pos pins s σ H Q I (by
    obtain ⟨env, st, μ, hid, ws, st', W0, e, q⟩ := h
    unfold aCons at e
    obtain ⟨⟨x, s1⟩, h1, e⟩ := Option.bind_eq_some_iff.mp e
    obtain ⟨⟨y, s2⟩, h2, e⟩ := Option.bind_eq_some_iff.mp e
    cases e
    exact TX.go W0 h1 fun vx H1 μ1 n1 W1 rx => TAx.go W1 h2 fun vy H2 μ2 n2 W2 ry => q _ _ μ2 (n1.trans n2) W2.sd (.cons (rx.mono n2.same n2.pre) ry))⟩
/-- f(k = v, ..): the values in the parameters' order by idx -/
theorem x_callKw {kws : List Keyword} {t : Ea} {ks : List Str} (idx : List Nat) (G : FnG X.prog X.w X.K X.mg X.base k fa fd ps F) (hb : ∀ (ws : List Value), ws.length = ks.length → bindArgs fd ⟨[], ks.zip ws⟩ = pure (ps.zip (pk idx ws))) (hk : PySem.W.keepIn X.K (.ref fa) = true) (hr : Room k X.A) (hgd : X.A.guards = some []) (hg : Gl X x) (hm : X.mg x = some (.ref fa))
    (ha : PK X kws (TAx X.K t)) (hall : (backToKw pos (keywordEach kws X.env)).all (·.1.isSome) = true := by rfl) (hks : (backToKw pos (keywordEach kws X.env)).filterMap (·.1) = ks := by rfl) (hdb : (x == ("__debug__" : Str)) = false := by decide)
    (hpl : ((backTo pos (starEach [] X.env)).any (·.1) || (backToKw pos (keywordEach kws X.env)).any (·.1.isNone)) = false := by rfl) :
    PE X (.Call (.Name x p) [] kws pos) (TX X.K (bN (fun ws st => if ws.length = ks.length then F (pk idx ws) st else none) t)) := by
  refine ⟨fun pins s σ H Q I h => ?_⟩
  refine wpAny_Call_Name_kw (ld_glob I hg hm ?_ hdb)
  refine PySem.W.callWith_KW0 (h₀ := X.base) I.ok.mod.kin hk hall (thn (ha.run pos pins s σ H _ I (TX.args h)) fun us s1 ⟨vs, H1, I1, r, q⟩ => ⟨I1.kIn, ?_⟩) hpl
  rw [hks]
  obtain ⟨st, μ, hid, ws, w, st', sd, rx, e, q⟩ := q
  dsimp only at e
  split at e
  · rename_i hl
    have h2 : _ = _ := Paired.length rx
    have h3 := r.length
    exact run_fnG G hr hgd I1 (.of_eq (hb us (by omega))) (pk_rel r idx) ⟨st, μ, hid, pk idx ws, w, st', sd, pk_rel rx idx, e, q⟩
  · cases e
end
end L3
set_option Elab.async false
set_option linter.all false
set_option maxRecDepth 100000
set_option maxHeartbeats 4000000
set_option autoImplicit false
/-! L3: dicts as cells: {}, comprehensions, update. -/
namespace L3
open PySem PySem.Spec PyProof.Rows L2
section
variable {X : Cx} {a b c : Expr} {pos : Pos} {f g : Ev}
/-- as putK, upon any values -/
def putG {α : Type} (kvs : List (Key × α)) (k : Key) (v : α) : List (Key × α) :=
  if (kvs.any fun kv => decide (kv.1 = k)) = true then kvs.map (fun kv => if kv.1 = k then (kv.1, v) else kv) else kvs ++ [(k, v)]
theorem putG_V (kvs : List (Key × V)) (k : Key) (v : V) : putG kvs k v = putK kvs k v := rfl
theorem putG_len {α : Type} (kvs : List (Key × α)) (k : Key) (v : α) : (putG kvs k v).length ≤ kvs.length + 1 := by
  unfold putG
  split
  · rw [List.length_map]; omega
  · rw [List.length_append, List.length_cons, List.length_nil]; omega
def mergeG {α : Type} (kvs more : List (Key × α)) : List (Key × α) := more.foldl (fun acc kv => putG acc kv.1 kv.2) kvs
abbrev RKs (K : PySem.W.Frag) (M : Hp) (μ : List Addr) : List (Key × V) → List (Key × W) → Prop := Paired (fun (p : Key × V) (q : Key × W) => p.1 = q.1 ∧ RW K M μ p.2 q.2)
theorem RKs.put {K : PySem.W.Frag} {M : Hp} {μ : List Addr} {vs : List (Key × V)} {ws : List (Key × W)} {k : Key} {v : V} {w : W} (r : RKs K M μ vs ws) (rv : RW K M μ v w) : RKs K M μ (putG vs k v) (putG ws k w) := by
  have e : (vs.any fun kv => decide (kv.1 = k)) = (ws.any fun kv => decide (kv.1 = k)) := by
    induction r with
    | nil => rfl
    | cons a b ih => simp only [List.any_cons, a.1, ih]
  unfold putG
  rw [e]
  split
  · rename_i h9
    clear e h9
    induction r with
    | nil => exact .nil
    | cons a b ih =>
      simp only [List.map_cons]
      refine .cons ?_ ih
      rw [a.1]
      split
      · exact ⟨rfl, rv⟩
      · exact a
  · have app : ∀ {vs : List (Key × V)} {ws : List (Key × W)}, RKs K M μ vs ws → RKs K M μ (vs ++ [(k, v)]) (ws ++ [(k, w)]) := by
      intro vs ws h
      induction h with
      | nil => exact .cons ⟨rfl, rv⟩ .nil
      | cons a b ih => exact .cons a ih
    exact app r
theorem RKs.merge {K : PySem.W.Frag} {M : Hp} {μ : List Addr} {more : List (Key × V)} {more' : List (Key × W)} (r' : RKs K M μ more more') : ∀ {vs : List (Key × V)} {ws : List (Key × W)}, RKs K M μ vs ws → RKs K M μ (mergeG vs more) (mergeG ws more') := by
  induction r' with
  | nil => intro vs ws r; exact r
  | cons a b ih =>
    intro vs ws r
    unfold mergeG
    rw [List.foldl_cons, List.foldl_cons, a.1]
    exact ih (r.put a.2)
theorem mergeG_len {α : Type} : ∀ (more kvs : List (Key × α)), (mergeG kvs more).length ≤ kvs.length + more.length
  | [], kvs => Nat.le_refl _
  | p :: more, kvs => by
    have h1 := mergeG_len more (putG kvs p.1 p.2)
    have h2 := putG_len kvs p.1 p.2
    unfold mergeG at h1 ⊢
    rw [List.foldl_cons, List.length_cons]
    omega
theorem KV.mergeG {vs : List (Key × Value)} {more : List (Key × V)} {more' : List (Key × Value)} (r' : KV more more') : ∀ {kvs : List (Key × V)} {vs : List (Key × Value)}, KV kvs vs → KV (mergeG kvs more) (merged vs more') := by
  induction r' with
  | nil => intro kvs vs r; exact r
  | cons a b ih =>
    rename_i p q _ _
    intro kvs vs r
    show KV (List.foldl _ (putG kvs p.1 p.2) _) (List.foldl _ (stored vs q.1 q.2) _)
    rw [a.1]
    exact ih (r.put q.1 a.2)
/-- {} -/
def bDictNew : Ev := fun _ st => some (.loc st.length, st ++ [.dict []])
theorem x_dictNew : PE X (.Dict [] [] pos) (TX X.K bDictNew) := by
  refine PE.imp pe_dnewK fun σ H Q ⟨env, st, μ, hid, w, st', W0, e, q⟩ => ?_
  cases e
  intro d hd
  exact q _ _ (μ ++ [d]) (Nx.cell W0.sd hd) (W0.sd.newCell hd (.dict upd_same (Nat.zero_le _) .nil)) (.loc (by rw [← W0.sd.len, List.getElem?_append_right (Nat.le_refl _), Nat.sub_self]; rfl))
/-! ### dict comprehensions -/
def dcRun (it : It3) (gt : Eg) (t : Et) (kx vx : Ev) (env0 : E3) : Nat → Nat → Store → List (Key × W) → Option (List (Key × W) × Store)
  | 0, _, _, _ => none
  | k + 1, i, st, acc => match it.item st i with
    | none => none
    | some none => some (acc, st)
    | some (some w) => match gt w env0 st with
      | none => none
      | some (env1, st1) => match t env1 st1 with
        | none => none
        | some (false, st2) => dcRun it gt t kx vx env0 k (i + 1) st2 acc
        | some (true, st2) => match kx env1 st2 with
          | none => none
          | some (y, st3) => match vx env1 st3 with
            | none => none
            | some (z, st4) => match keyOf y with
              | none => none
              | some ky => dcRun it gt t kx vx env0 k (i + 1) st4 (putG acc ky z)
def dcAll (fi : Ei) (gt : Eg) (t : Et) (kx vx : Ev) (vs : List Nat) : E3 → Store → Option (List (Key × W) × Store) := fun env st => (fi env st).bind fun r => dcRun r.1 gt t kx vx (wipe3 env vs) (r.1.n + 1) 0 r.2 []
structure DcEnd (K : PySem.W.Frag) (H1 : Hp) (μ1 hid : List Addr) (D : Addr) (acc : List (Key × W)) (st : Store) (H : Hp) (μ : List Addr) : Prop where
  sd : Sd K H st μ (hid ++ [D])
  same : Same (mask H1 (μ1 ++ hid)) (mask H (μ ++ (hid ++ [D])))
  pre : μ1 <+: μ
  keep : ∀ a ∈ hid, H a = H1 a
  frz : ∀ a o u, H1 a = some (.frz o u) → H a = some (.frz o u)
  at_ : ∃ vs, H D = some (.dK vs) ∧ RKs K (mask H (μ ++ (hid ++ [D]))) μ vs acc
  len : acc.length ≤ sizeLine
theorem RKs.mono {K : PySem.W.Frag} {M M' : Hp} {μ μ' : List Addr} {vs : List (Key × V)} {ws : List (Key × W)} (s : Same M M') (p : μ <+: μ') (r : RKs K M μ vs ws) : RKs K M' μ' vs ws := Paired.mapP r fun _ _ q => ⟨q.1, q.2.mono s p⟩
theorem dc_sem {wi : Ei} {gt : Eg} {t : Et} {kx vx : Ev} {sl vs : List Nat} {K : PySem.W.Frag} (hsl : ∀ j ∈ sl, j ∈ vs) {σ : L2.St} {H : Hp} {Q : VK} {env : E3} {st st' : Store} {μ hid : List Addr} {acc : List (Key × W)} (W0 : Wd K σ H env st μ hid) (e : dcAll wi gt t kx vx vs env st = some (acc, st'))
    (q : ∀ H' μ' D, (∃ H1 μ1, Nx H μ H1 μ1 hid ∧ H1 D = none ∧ DcEnd K H1 μ1 hid D acc st' H' μ') → Q (.ref D) H') : tDc (TIx K wi) (TGx K sl gt) (TTx K t) (TX K kx) (TX K vx) vs σ H Q := by
  unfold dcAll at e
  obtain ⟨⟨it, s1⟩, h1, e⟩ := Option.bind_eq_some_iff.mp e
  refine ⟨env, st, μ, hid, it, s1, W0, h1, fun J H1 μ1 n1 sd1 wk D hD => ?_⟩
  have W1 := W0.next n1 sd1
  have hDm : D ∉ μ1 ++ hid := fun z => sd1.there D z hD
  have em : ∀ (o : HO) (μ : List Addr), mask (upd H1 D o) (μ ++ (hid ++ [D])) = mask H1 (μ ++ hid) := fun o μ => by
    funext b
    unfold mask upd
    simp only [List.mem_append, List.mem_singleton]
    by_cases hb : b = D
    · subst hb; by_cases h1 : b ∈ μ <;> by_cases h2 : b ∈ hid <;> simp [h1, h2, hD]
    · by_cases h1 : b ∈ μ <;> by_cases h2 : b ∈ hid <;> simp [h1, h2, hb]
  have start : DcEnd K H1 μ1 hid D [] s1 (upd H1 D (.dK [])) μ1 := by
    refine ⟨⟨sd1.len, fun n c a hc ha => ?_, fun a ha => ?_, ?_⟩, fun b o z => by rw [em]; exact z, List.prefix_refl _, fun a ha => upd_ne fun (z : a = D) => hDm (by rw [← z]; exact List.mem_append_right _ ha), frz_new hD, ⟨[], upd_same, .nil⟩, Nat.zero_le _⟩
    · rw [em]
      exact (sd1.cell n c a hc ha).mono (fun _ _ z => z) (List.prefix_refl _) (upd_ne fun (z : a = D) => hDm (by rw [← z]; exact List.mem_append_left _ (List.mem_of_getElem? ha)))
    · by_cases z : a = D
      · subst z; rw [upd_same]; simp
      · rw [upd_ne z]
        rcases List.mem_append.mp ha with ha | ha
        · exact sd1.hds a ha
        · exact absurd (by simpa using ha) z
    · rw [← List.append_assoc, List.nodup_append]
      exact ⟨sd1.nd, by simp, fun a ha b hb z => by subst z; simp at hb; subst hb; exact hDm ha⟩
  refine ⟨fun i m H2 => ∃ st2 μ2 acc2, DcEnd K H1 μ1 hid D acc2 st2 H2 μ2 ∧ acc2.length ≤ i ∧ dcRun it gt t kx vx (wipe3 env vs) m i st2 acc2 = some (acc, st'), ⟨it.n + 1, s1, μ1, [], start, Nat.le_refl _, e⟩, ?_⟩
  rintro i m H2 ⟨st2, μ2, acc2, L2', hlen, e2⟩
  have wk2 := wk H2 st2 μ2 (hid ++ [D]) L2'.same L2'.pre L2'.frz L2'.sd i
  cases m with
  | zero => cases e2
  | succ k =>
    unfold dcRun at e2
    split at e2
    · cases e2
    · rename_i hit
      cases e2
      exact .inl ⟨wk2.2 hit, q H2 μ2 D ⟨H1, μ1, n1, hD, L2'⟩⟩
    · rename_i w hit
      obtain ⟨hi, go, yl⟩ := wk2.1 w hit
      refine .inr ⟨go, fun H' => ∃ st3 μ3 acc3, DcEnd K H1 μ1 hid D acc3 st3 H' μ3 ∧ acc3.length ≤ i + 1 ∧ dcRun it gt t kx vx (wipe3 env vs) k (i + 1) st3 acc3 = some (acc, st'), fun H' h => ⟨k, Nat.lt_succ_self _, h⟩, fun x H3 hy => ?_⟩
      obtain ⟨n3, sd3, r3⟩ := yl x H3 hy
      have carry : ∀ {H5 : Hp} {st5 : Store} {μ5 : List Addr}, Nx H2 μ2 H5 μ5 (hid ++ [D]) → Sd K H5 st5 μ5 (hid ++ [D]) → DcEnd K H1 μ1 hid D acc2 st5 H5 μ5 := fun {H5 st5 μ5} n s => by
        obtain ⟨us, hu, ru⟩ := L2'.at_
        exact ⟨s, fun b o z => n.same b o (L2'.same b o z), L2'.pre.trans n.pre, fun a ha => (n.keep a (List.mem_append_left _ ha)).trans (L2'.keep a ha), fun b o u e => n.frz b o u (L2'.frz b o u e), ⟨us, (n.keep D (by simp)).trans hu, ru.mono n.same n.pre⟩, L2'.len⟩
      have W3 : Wd K (L2.wipe σ vs) H3 (wipe3 env vs) st2 μ2 (hid ++ [D]) := ⟨((W1.ev.wipe vs).mono (fun b o z => n3.same b o (L2'.same b o z)) (L2'.pre.trans n3.pre)), sd3⟩
      split at e2
      · cases e2
      · rename_i env4 st4 h4
        refine ⟨wipe3 env vs, st2, μ2, hid ++ [D], w, env4, st4, W3, r3, h4, fun σ5 H5 μ5 n5 W5 af => ⟨wipe_after af hsl, ?_⟩⟩
        have n35 := n3.trans n5
        split at e2
        · cases e2
        · rename_i st6 h6
          refine TTx.go W5 h6 fun H6 μ6 n6 W6 => ?_
          simp only [Bool.false_eq_true, if_false]
          exact ⟨st6, μ6, acc2, carry (n35.trans n6) W6.sd, by omega, e2⟩
        · rename_i st6 h6
          refine TTx.go W5 h6 fun H6 μ6 n6 W6 => ?_
          rw [if_pos rfl]
          split at e2
          · cases e2
          · rename_i y st7 h7
            split at e2
            · cases e2
            · rename_i z st8 h8
              split at e2
              · cases e2
              · rename_i ky hky
                refine TX.go W6 h7 fun v H7 μ7 n7 W7 r7 => TX.go W7 h8 fun vz H8 μ8 n8 W8 r8 => ?_
                have c7 := carry (((n35.trans n6).trans n7).trans n8) W8.sd
                obtain ⟨us, hu, ru⟩ := c7.at_
                have hul : _ = _ := Paired.length ru
                refine ⟨us, ky, keyOf_rel r7 hky, hu, by omega, st8, μ8, putG acc2 ky z, ?_, by have := putG_len acc2 ky z; omega, e2⟩
                have hin : D ∈ μ8 ++ (hid ++ [D]) := by simp
                have em7 : ∀ o, mask (upd H8 D o) (μ8 ++ (hid ++ [D])) = mask H8 (μ8 ++ (hid ++ [D])) := fun o => mask_upd_in hin
                have nd7 := c7.sd.nd
                have hDμ : D ∉ μ8 ∧ D ∉ hid := by
                  rw [← List.append_assoc, List.nodup_append] at nd7
                  exact ⟨fun z => nd7.2.2 D (List.mem_append_left _ z) D (by simp) rfl, fun z => nd7.2.2 D (List.mem_append_right _ z) D (by simp) rfl⟩
                refine ⟨⟨c7.sd.len, fun n c a hc ha => ?_, fun a ha => ?_, c7.sd.nd⟩, fun b o z => by rw [em7]; exact c7.same b o z, c7.pre, fun a ha => (upd_ne fun (z : a = D) => hDμ.2 (by rw [← z]; exact ha)).trans (c7.keep a ha), fun b o u e => frz_put (nfD hu) b o u (c7.frz b o u e), ⟨putG us ky vz, upd_same, ?_⟩, by have := putG_len acc2 ky z; omega⟩
                · rw [em7]
                  exact (c7.sd.cell n c a hc ha).mono (fun _ _ z => z) (List.prefix_refl _) (upd_ne fun (z : a = D) => hDμ.1 (by rw [← z]; exact List.mem_of_getElem? ha))
                · by_cases z : a = D
                  · subst z; rw [upd_same]; simp
                  · rw [upd_ne z]; exact c7.sd.hds a ha
                · rw [em7]
                  exact ru.put r8
/-- d.update({k: v for ..}): the dict of the comprehension is gone behind it -/
def isD (st : Store) : W → Bool
  | .loc n => match st[n]? with
    | some (.dict _) => true
    | _ => false
  | _ => false
def bUpdC (f : Ev) (fi : Ei) (gt : Eg) (t : Et) (kx vx : Ev) (vs : List Nat) : Ev := fun env st => (f env st).bind fun r => if isD r.2 r.1 = true then (dcAll fi gt t kx vx vs env r.2).bind fun z => match r.1 with
  | .loc n => match z.2[n]? with
    | some (.dict kvs) => if kvs.length + z.1.length ≤ sizeLine then some (.dat .none, z.2.set n (.dict (mergeG kvs z.1))) else none
    | _ => none
  | _ => none else none
def rUpd : V → List V → Hp → VK → Prop := fun x xs H Q => ∃ a d kvs ds, x = .ref a ∧ xs = [.ref d] ∧ a ≠ d ∧ H a = some (.dK kvs) ∧ H d = some (.dK ds) ∧ kvs.length + ds.length ≤ sizeLine ∧ Q .non (upd H a (.dK (mergeG kvs ds)))
theorem mt_upd : MtR X "dict.update" rUpd := by
  intro pins s σ H x xs v us Q I rx rxs ⟨a, d, kvs, ds, ex, exs, hne, ha, hd, hz, q⟩
  subst ex exs
  obtain ⟨u, rfl, ru⟩ := vals1 rxs
  cases rx
  cases ru
  obtain ⟨z1, y1, v1, r1, d1⟩ := dk_of I.hok ha
  obtain ⟨z2, y2, v2, r2, d2⟩ := dk_of I.hok hd
  have l1 : _ = _ := Paired.length r1
  have l2 : _ = _ := Paired.length r2
  refine call_meetsIn PySem.F.slot_dict_update d1.typeIs PySem.F.entry_dict_update (PySem.F.args_dict_update_2 _ _) (meets_dict_update (mixKind X.prog X.w) a d hne y2) ⟨v1, v2, d1, d2, by omega, fun h' e1 e2 sb => ?_⟩
  have he : ∃ o, h'.get? a = some o := let ⟨o, _, _, ho, _⟩ := e1; ⟨o, ho⟩
  refine ⟨.non, _, d_write (t' := s.toks) I (by rw [ha]; trivial) sb he (dk_new (kvs := mergeG kvs ds) (by have := mergeG_len ds kvs; omega) y1 (KV.mergeG (vs := v1) r2 r1) e1), rfl, q⟩
theorem x_updC {o kx vx tg iter : Expr} {ifs : List Expr} {scope : Scope} {own : List (Str × Nat)} {apos cpos : Pos} {fi : Ei} {gt : Eg} {t : Et} {ek ev : Ev} {sl : List Nat} (ho : PE X o (TX X.K f)) (hc : X.calm = true) (hN : X.N.Nodup) (hi : PI X tg iter (TIx X.K fi)) (ok : BlkOk X.N X.env.scope scope own)
    (hg : ∀ (s : Shared) (H : Hp) (C : Addr) (cl : List (Str × Addr)) (fp : List Addr), PG (X.blk s H scope (compEnvC scope cl C X.env) fp) tg (TGx X.K sl gt)) (ht : ∀ (s : Shared) (H : Hp) (C : Addr) (cl : List (Str × Addr)) (fp : List Addr), PTs (X.blk s H scope (compEnvC scope cl C X.env) fp) ifs (TTx X.K t))
    (hk : ∀ (s : Shared) (H : Hp) (C : Addr) (cl : List (Str × Addr)) (fp : List Addr), PE (X.blk s H scope (compEnvC scope cl C X.env) fp) kx (TX X.K ek)) (he : ∀ (s : Shared) (H : Hp) (C : Addr) (cl : List (Str × Addr)) (fp : List Addr), PE (X.blk s H scope (compEnvC scope cl C X.env) fp) vx (TX X.K ev))
    (hsl : ∀ j ∈ sl, j ∈ own.map (·.2)) (hs : ∀ x, foldedSetIterable iter X.env x = pure x := by intro _; rfl)
    (hs1 : starEach [Expr.DictComp kx vx [⟨tg, iter, ifs, 0⟩] scope pos] X.env = (false, eval (Expr.DictComp kx vx [⟨tg, iter, ifs, 0⟩] scope pos) X.env) :: starEach [] X.env := by rfl)
    (hbase : attributeBase o "update" X.env (eval o X.env) = eval o X.env := by rfl)
    (hfew : ((backTo cpos (starEach [Expr.DictComp kx vx [⟨tg, iter, ifs, 0⟩] scope pos] X.env)).all (fun x => !x.1) && (backToKw cpos (keywordEach [] X.env)).all (fun x => x.1.isSome) && decide (([Expr.DictComp kx vx [⟨tg, iter, ifs, 0⟩] scope pos]).length + ([] : List Keyword).length + (if ([] : List Keyword).isEmpty then 0 else 1) < 30)) = true := by rfl)
    (hline : (apos.endLine == cpos.line) = true := by rfl) (hplain : (backTo cpos (starEach [] X.env)).any (·.1) = false := by rfl) :
    PE X (.Call (.Attribute o "update" apos) [.DictComp kx vx [⟨tg, iter, ifs, 0⟩] scope pos] [] cpos) (TX X.K (bUpdC f fi gt t ek ev (own.map (·.2)))) := by
  refine PE.imp (pe_bm PySem.F.plainAttrs_dict PySem.F.slot_dict_update PySem.F.type_dict_update mt_upd ho (pa_cons (pe_dc hc hN hi ok hg ht hk he hs) pa_nil hs1) hbase hfew hline hs1 hplain) fun σ H Q ⟨env, st, μ, hid, w, st', W0, e, q⟩ => ?_
  unfold bUpdC at e
  obtain ⟨⟨wx, s1⟩, h1, e⟩ := Option.bind_eq_some_iff.mp e
  split at e
  · rename_i hD
    obtain ⟨⟨acc, s2⟩, h2, e⟩ := Option.bind_eq_some_iff.mp e
    refine TX.go W0 h1 fun vx H1 μ1 n1 W1 rx => ?_
    dsimp only at e hD
    cases wx with
    | loc n =>
      dsimp only at e
      split at e
      · rename_i kvs hw
        split at e
        · rename_i hz
          cases e
          cases rx with
          | @loc a _ ha =>
            refine ⟨?_, ?_⟩
            · simp only [isD] at hD
              split at hD
              · rename_i hw'
                cases W1.sd.at hw' ha with
                | dict h3 _ _ => exact .inr (.inr (.inl ⟨rfl, .inl ⟨_, h3⟩⟩))
              · cases hD
            · refine dc_sem hsl W1 h2 fun H' μ' D ⟨H2, μ2, n2, hDn, l⟩ => ?_
              -- behind the comprehension
              obtain ⟨ds, h4, h5⟩ := l.at_
              have nd := l.sd.nd
              rw [← List.append_assoc, List.nodup_append] at nd
              have hDm : D ∉ μ' ++ hid := fun z => nd.2.2 D z D (by simp) rfl
              have less : Same (mask H' (μ' ++ (hid ++ [D]))) (mask H' (μ' ++ hid)) := mask_less fun b hb => by
                rcases List.mem_append.mp hb with hb | hb
                · exact List.mem_append_left _ hb
                · exact List.mem_append_right _ (List.mem_append_left _ hb)
              have sd : Sd X.K H' s2 μ' hid := ⟨l.sd.len, fun n c a x y => (l.sd.cell n c a x y).mono less (List.prefix_refl _) rfl, fun b hb => l.sd.hds b (List.mem_append_left _ hb), nd.1⟩
              have nx : Nx H2 μ2 H' μ' hid := ⟨fun b o z => less b o (l.same b o z), l.pre, l.keep, l.frz⟩
              have ha' : μ'[n]? = some a := by
                obtain ⟨t, rfl⟩ := (n2.pre.trans l.pre)
                rw [List.getElem?_append_left (List.getElem?_eq_some_iff.mp ha).1]; exact ha
              cases sd.at hw ha' with
              | @dict us _ h6 h7 h8 =>
                have hl1 : _ = _ := Paired.length h8
                have hl2 : _ = _ := Paired.length h5
                refine ⟨a, D, us, ds, rfl, rfl, fun z => hDm (z ▸ List.mem_append_left _ (List.mem_of_getElem? ha')), h6, h4, by omega, ?_⟩
                exact q _ _ μ' (((n1.trans n2).trans nx).trans (Nx.put ha' sd.nd (nfD h6))) (sd.put ha' (.dict upd_same (by have := mergeG_len acc kvs; omega) ((h5.mono less (List.prefix_refl _)).merge h8))) (.dat .non)
        · cases e
      · cases e
    | _ => cases e
  · cases e
end
end L3
set_option Elab.async false
set_option linter.all false
set_option maxRecDepth 100000
set_option maxHeartbeats 4000000
set_option autoImplicit false
/-! L3: the end of a law. -/
namespace L3
open PySem PySem.Spec PyProof.Rows L2
/-- the script as this layer reads it -/
def wscr (ns : List Int) : W := .frz (ns.map PyData.int)
/-- the heap that is seen where the law begins: the script alone, where no row of the written part holds it -/
noncomputable def only (K : PySem.W.Frag) (a : Addr) (o : Obj) (xs : List V) : Hp := fun b => open Classical in if b = a ∧ K.lookup a = none then some (.frz o (.lst xs)) else none
theorem law_G {P : Program} {w : World} {K : PySem.W.Frag} {mg mb : Str → Option Value} {k : Nat} {fa a : Addr} {fd : FuncData} {x : Str} {F : OpN} {s : Shared} {vs : List Value} {ns : List Int}
    (hK : K.In s.heap) (hns : s.heap.Ns mainGlobals mg) (hb : s.heap.Ns builtinsNs mb) (hbb : ∀ x : Str, x ≠ "__name__" → mb x = bootBuiltins x) (hlim : s.heap.NoLimit) (hg : s.gens = #[])
    (ha : s.heap.get? a = some { cls := .type "list", data := .seq vs.toArray }) (hi : IntsAre vs ns) (hl : ns.length ≤ sizeLine) (hr : Room k callerA)
    (G : ∀ base : Heap, K.In base → base.Ns mainGlobals mg → FnG P w K mg base k fa fd [x] F) (hbind : ∀ (s : Shared) (u : Value), BindsTo s fd ⟨[u], []⟩ [(x, u)])
    (hF : ∃ st', F [wscr ns] [] = some (.dat (.bool true), st')) :
    codeAny (model P w) callerA (.call (.ref fa) ⟨[.ref a], []⟩) (fun r s' => r = .ok (.ret (.bool true)) ∧ OldK s.heap s'.heap ∧ s'.os = s.os ∧ AllBare s'.gens) s := by
  have lenV := hi.length
  obtain ⟨H, eH⟩ : ∃ H, H = only K a { cls := .type "list", data := .seq vs.toArray } (ns.map V.int) := ⟨_, rfl⟩
  have hH : ∀ b u, H b = some u → b = a ∧ K.lookup a = none ∧ u = .frz { cls := .type "list", data := .seq vs.toArray } (.lst (ns.map V.int)) := fun b u e => by
    rw [eH] at e
    unfold only at e
    split at e
    · rename_i q; cases e; exact ⟨q.1, q.2, rfl⟩
    · cases e
  have hS : SqL K H a (ns.map V.int) := by
    cases hk : K.lookup a with
    | none => exact .inl (.inr ⟨_, by rw [eH]; exact if_pos ⟨rfl, hk⟩⟩)
    | some o =>
      have e := hK a o hk
      rw [ha] at e
      cases e
      exact .inr ⟨_, vs.toArray, _, hk, rfl, rfl, rfl, by rw [List.size_toArray, lenV]; exact hl, by simpa using vals_ints hi⟩
  have hok : HOk P w H s.heap := fun b u e => by
    obtain ⟨h1, h2, h3⟩ := hH b u e
    subst h1 h3
    exact ⟨ha, by rw [List.length_map]; exact hl, vs, _, vals_ints hi, ha⟩
  have seen : ∀ {b : Addr} {o : Obj}, s.heap.get? b = some o → (b = a → K.lookup a = none → False) → (hidT s.heap H).get? b = some o := fun {b o} e n => hidT_get e (by
    cases q : H b with
    | none => rfl
    | some u => exact (n (hH b u q).1 (hH b u q).2.1).elim)
  have ns' : ∀ {b : Addr} {m : Str → Option Value}, s.heap.Ns b m → (hidT s.heap H).Ns b m := fun {b m} ⟨o, es, ep, e, d, r⟩ => ⟨o, es, ep, seen e (fun z _ => by
    subst z
    rw [ha] at e
    cases e
    have d : Data.seq vs.toArray _ = Data.dict es ep := d
    cases d), d, r⟩
  have hKb : K.In (hidT s.heap H) := fun b o e => seen (hK b o e) fun z n => by subst z; rw [n] at e; cases e
  have hM : Mod K mg (hidT s.heap H) := ⟨hKb, ns' hns, ⟨mb, ns' hb, hbb⟩, let ⟨mc, h1, h2⟩ := hlim; ⟨mc, ns' h1, h2⟩⟩
  have e0 : Env0 P w K mg (hidT s.heap H) callerA [] s H := ⟨rfl, hM, fun b o e => of_hidT e, Nat.le_of_eq (hidT_size _ _), trivial, fun b hb => absurd (show b ∈ ([] : List Addr) from hb) (by simp), hok, .of_eq hg⟩
  obtain ⟨st', hF⟩ := hF
  have hm : mask H ([] ++ []) = H := by
    funext b
    show (if b ∈ ([] : List Addr) then none else H b) = H b
    simp
  have tn : TN K F [.ref a] H fun v _ => v = .bl true :=
    ⟨[], [], [], [wscr ns], .dat (.bool true), st', ⟨rfl, (fun n c a h => by cases h), (fun a h => by cases h), List.nodup_nil⟩, .cons (.frz (by rw [hm]; exact hS) (by rw [List.length_map]; exact hl) (rds_ints ns)) .nil, hF, fun v H' μ' n sd r => by
      cases r with
      | dat h => cases h; rfl⟩
  refine codeAny_mono ((G _ hKb (ns' hns)).run callerA [] s H ⟨[.ref a], []⟩ [.ref a] [.ref a] _ hr rfl e0 (hbind s (.ref a)) (.cons rfl .nil) tn) fun r s' h => ?_
  cases r with
  | error e => exact h.elim
  | ok fl =>
    cases fl with
    | next => exact False.elim h
    | brk => exact False.elim h
    | cont => exact False.elim h
    | ret u =>
      obtain ⟨v, H', os, bare, un, hok', r', q⟩ := h
      have q : v = .bl true := q
      subst q
      obtain rfl : u = Value.bool true := r'
      refine ⟨rfl, OldK.of_keep fun b o e => ?_, os, bare⟩
      cases q : H b with
      | none => exact un.keep b o e q (by intro z; exact absurd (show b ∈ ([] : List Addr) from z) (by simp)) (by simp)
      | some u =>
        obtain ⟨_, _, z⟩ := hH b u q
        subst z
        have z2 := un.frzs b _ _ q
        obtain ⟨e1, _⟩ := hok b _ q
        obtain ⟨e2, _⟩ := hok' b _ z2
        rw [e] at e1; cases e1
        exact e2
/-- a law by its reading -/
theorem walk_G {l : PySem.W.OpenLaw} {n k : Nat} {q : Program} {loose : List Str} {XP : (Str → Option Value) → Heap → Prop} {fas : List He.Fa} {fn : List He.DefD} {hn0 : Nat} {d : DefRec} {x : Str} {F : OpN}
    (hn : l.most = some n) (hn2 : n ≤ sizeLine) (hdf : d.params.defaults = []) (hr : Room k callerA)
    (hw : ∀ (w : World) (mg : Str → Option Value) (K : PySem.W.Frag) (h : Heap) (fa : Addr), K.In h → h.Ns mainGlobals mg → He.SaysD fas fn K → mg d.name = some (.ref fa) →
      ∃ fd : FuncData, (∀ (s : Shared) (u : Value), BindsTo s fd ⟨[u], []⟩ [(x, u)]) ∧ ∀ base : Heap, K.In base → base.Ns mainGlobals mg → FnG l.prog w K mg base k fa fd [x] F)
    (hF : ∀ ns : List Int, ns.length ≤ n → ∃ st', F [wscr ns] [] = some (.dat (.bool true), st')) :
    PySem.W.WalkO q loose XP (He.hookD hn0 fas fn).says l.row.toRowW d [] (fun f vs => PySem.call f vs) := by
  refine Att.attach_call hn hdf fun w s₀ s₁ mg mb fa o pm cd doc a vs ns G Y ho hd hcd hmg hobj hints hlen hg => ?_
  obtain ⟨K, KX, c⟩ := Y
  obtain ⟨fd, hb, hG⟩ := hw w mg K _ fa KX G.T.g c hmg
  exact law_G KX G.T.g G.T.b G.T.builtins G.T.nolimit hg hobj hints (Nat.le_trans hlen hn2) hr hG hb (hF ns hlen)
end L3
set_option Elab.async false
set_option linter.all false
set_option maxRecDepth 100000
set_option maxHeartbeats 4000000
set_option autoImplicit false
/-! L3: stores from the right. -/
namespace L3
open PySem PySem.Spec PyProof.Rows L2
section
variable {X : Cx} {a b c : Expr} {pos : Pos}
def bPar2 (i j : Nat) (t : Ea) : Eb := fun env st => (t env st).bind fun r => match r.1 with
  | [v, w] => some (.nx, (env.set i (some v)).set j (some w), r.2)
  | _ => none
def bPar3 (i j l : Nat) (t : Ea) : Eb := fun env st => (t env st).bind fun r => match r.1 with
  | [u, v, w] => some (.nx, ((env.set i (some u)).set j (some v)).set l (some w), r.2)
  | _ => none
theorem xs_par2 {i j : Nat} {x y : Str} {t : Ea} {px py pt : Pos} {kt k2 pt2} (hc : X.calm = true) (hN : X.N.Nodup) (hi : X.N[i]? = some x) (hj : X.N[j]? = some y) (hij : i ≠ j)
    (hx : X.env.scope.names.lookup x = some .local) (hy : X.env.scope.names.lookup y = some .local) (ha : PA X [a, b] (TAx X.K t))
    (hw : swappedStores [.Tuple [.Name x px, .Name y py] kt pt] (.Tuple [a, b] k2 pt2) X.env = pure (some [x, y]) := by rfl)
    (hs : swapsWithSole [.Tuple [.Name x px, .Name y py] kt pt] (.Tuple [a, b] k2 pt2) pos.line X.env = pure false := by rfl) :
    PS X (.Assign [.Tuple [.Name x px, .Name y py] kt pt] (.Tuple [a, b] k2 pt2) pos) (TSx X.K (bPar2 i j t)) :=
  PS.imp (ps_par hc hN hi hj hij hx hy ha hw hs) fun D σ H ⟨env, st, μ, hid, fl, env', st', W0, e, q⟩ => by
    unfold bPar2 at e
    obtain ⟨⟨ws, s1⟩, h1, e⟩ := Option.bind_eq_some_iff.mp e
    dsimp only at e
    split at e
    · cases e
      refine TAx.go W0 h1 fun vs H1 μ1 n1 W1 r => ?_
      obtain ⟨x, y, rfl, rx, ry⟩ := rw2 r
      exact ⟨x, y, rfl, q _ H1 μ1 n1 ⟨(W1.ev.set rx).set ry, W1.sd⟩⟩
    · cases e
theorem xs_par3 {i j l : Nat} {x y z : Str} {t : Ea} {px py pz pt : Pos} {kt k2 pt2} (hc : X.calm = true) (hN : X.N.Nodup) (hi : X.N[i]? = some x) (hj : X.N[j]? = some y) (hl : X.N[l]? = some z) (hij : i ≠ j) (hil : i ≠ l) (hjl : j ≠ l)
    (hx : X.env.scope.names.lookup x = some .local) (hy : X.env.scope.names.lookup y = some .local) (hz : X.env.scope.names.lookup z = some .local) (ha : PA X [a, b, c] (TAx X.K t))
    (hw : swappedStores [.Tuple [.Name x px, .Name y py, .Name z pz] kt pt] (.Tuple [a, b, c] k2 pt2) X.env = pure (some [x, y, z]) := by rfl)
    (hs : swapsWithSole [.Tuple [.Name x px, .Name y py, .Name z pz] kt pt] (.Tuple [a, b, c] k2 pt2) pos.line X.env = pure false := by rfl) :
    PS X (.Assign [.Tuple [.Name x px, .Name y py, .Name z pz] kt pt] (.Tuple [a, b, c] k2 pt2) pos) (TSx X.K (bPar3 i j l t)) :=
  PS.imp (ps_par3 hc hN hi hj hl hij hil hjl hx hy hz ha hw hs) fun D σ H ⟨env, st, μ, hid, fl, env', st', W0, e, q⟩ => by
    unfold bPar3 at e
    obtain ⟨⟨ws, s1⟩, h1, e⟩ := Option.bind_eq_some_iff.mp e
    dsimp only at e
    split at e
    · cases e
      refine TAx.go W0 h1 fun vs H1 μ1 n1 W1 r => ?_
      cases r with
      | cons ra r => cases r with
        | cons rb r => cases r with
          | cons rc r => cases r; exact ⟨_, _, _, rfl, q _ H1 μ1 n1 ⟨((W1.ev.set ra).set rb).set rc, W1.sd⟩⟩
    · cases e
end
/-! ### small parts of derivations -/
theorem kwb_of {K : PySem.W.Frag} {x qual : Str} {params : Arguments} {body : List Stmt} {scope : Scope} {kws : List (Str × V)} {f : Addr} {fd : FuncData} {ks ps : List Str} {idx : List Nat} (F : FunD K x qual params body scope [] kws f fd)
    (h : ∀ (kV doc pm : Value) (an : Option Addr) (cdv ct : Value) (ws : List Value), ws.length = ks.length → bindArgs (PySem.W.fnOf x qual params body scope .none kV doc pm an cdv ct) ⟨[], ks.zip ws⟩ = pure (ps.zip (pk idx ws))) :
    ∀ ws : List Value, ws.length = ks.length → bindArgs fd ⟨[], ks.zip ws⟩ = pure (ps.zip (pk idx ws)) := by
  obtain ⟨oc, od, dV, kV, doc, pm, an, cdv, ct, osl, rfl, lk, hcd, hD, hK⟩ := F.ex
  rcases hD with ⟨_, rfl⟩ | ⟨e, _⟩
  · exact fun ws hl => h kV doc pm an cdv ct ws hl
  · exact absurd rfl e
theorem fd_one {K : PySem.W.Frag} {x qual : Str} {params : Arguments} {body : List Stmt} {scope : Scope} {dvs : List V} {kws : List (Str × V)} {f : Addr} {fd fd2 : FuncData} (F : FunD K x qual params body scope dvs kws f fd) (F2 : FunD K x qual params body scope dvs kws f fd2) : fd = fd2 := by
  obtain ⟨_, _, _, _, _, _, _, _, _, _, _, lk, _⟩ := F.ex
  obtain ⟨_, _, _, _, _, _, _, _, _, _, _, lk2, _⟩ := F2.ex
  rw [lk] at lk2
  cases lk2
  rfl
section
variable {k : Nat} {A : Around} (r : Room k A)
include r
theorem r0 : A.units < cLine := by have := r.un; omega
theorem r1 : A.units + 1 < cLine := by have := r.un; omega
theorem r64 : A.units + 64 < cLine := by have := r.un; omega
theorem r65 : A.units + 65 < cLine := by have := r.un; omega
theorem r100 : A.units + 100 < cLine := by have := r.un; omega
end
end L3
set_option Elab.async false
set_option linter.all false
set_option maxRecDepth 100000
set_option maxHeartbeats 4000000
set_option autoImplicit false
/-! L3: dict cells read and written by key; in-place operators; pops. -/
namespace L3
open PySem PySem.Spec PyProof.Rows L2
section
variable {X : Cx} {a b c o i value : Expr} {pos pos' apos cpos tpos : Pos} {f g h : Ev}
def kvsOf (st : Store) : W → Option (List (Key × W))
  | .loc n => match st[n]? with
    | some (.dict kvs) => some kvs
    | some (.froz kvs) => some kvs
    | _ => none
  | _ => none
theorem rd_of {K : PySem.W.Frag} {H : Hp} {st : Store} {μ hid : List Addr} (sd : Sd K H st μ hid) {v : V} {w : W} {kvs : List (Key × W)} (r : RW K (mask H (μ ++ hid)) μ v w) (e : kvsOf st w = some kvs) : ∃ a vs, v = .ref a ∧ Rd H a (.dK vs) ∧ RKs K (mask H (μ ++ hid)) μ vs kvs ∧ kvs.length ≤ sizeLine := by
  cases r with
  | loc ha =>
    simp only [kvsOf] at e
    split at e
    · rename_i hw
      cases e
      cases sd.at hw ha with
      | dict h1 h2 h3 => exact ⟨_, _, rfl, .inl h1, h3, h2⟩
    · rename_i hw
      cases e
      cases sd.at hw ha with
      | froz h1 h2 h3 => exact ⟨_, _, rfl, .inr ⟨_, h1⟩, h3, h2⟩
    · cases e
  | _ => cases e
/-! ### k in d -/
def opDIn (neg : Bool) : Op2 := fun y x st => match kvsOf st x, keyOf y with
  | some kvs, some k => some (.dat (.bool (neg ^^ (valW kvs k).isSome)), st)
  | _, _ => none
theorem o_dIn {neg : Bool} {x y : V} {H : Hp} {Q : VK} (h : T2 X.K (opDIn neg) y x H Q) : ∃ a o, x = .ref a ∧ DGet H a y o ∧ Q (.bl (neg ^^ o.isSome)) H := by
  obtain ⟨st, μ, hid, wy, wx, w, st', sd, hy, hx, e, q⟩ := h
  unfold opDIn at e
  split at e
  · rename_i kvs k h1 h2
    cases e
    obtain ⟨a, vs, rfl, rd, rk, hz⟩ := rd_of sd hx h1
    have := keyOf_rel hy h2
    subst this
    refine ⟨a, valV vs k, rfl, .inl ⟨vs, k, rd, rfl, rfl⟩, ?_⟩
    have es : (valW kvs k).isSome = (valV vs k).isSome := by
      rcases valV_of (k := k) rk with ⟨h5, h6⟩ | ⟨v', w'', h5, h6, h7⟩ <;> rw [h5, h6] <;> rfl
    rw [← es]
    exact q.here sd (.dat (.bl _))
  · cases e
theorem x_dIn (hu : X.A.units + 1 < cLine) (ha : PE X a (TX X.K f)) (hb : PE X b (TX X.K g)) (hm : behindInMarks .In b = false) : PE X (.Compare a [.In] [b] pos) (TX X.K (b2 (opDIn false) f g)) :=
  PE.imp (pe_cmp (pc_din hu ha hb) hm) fun σ H Q h => TX.mono (TX.two h) fun x H1 h1 => TX.mono h1 fun y H2 h2 => by
    obtain ⟨a, o, e, d, q⟩ := o_dIn h2
    rw [Bool.false_xor] at q
    exact ⟨a, o, e, d, q⟩
theorem x_dNotIn (hu : X.A.units + 1 < cLine) (ha : PE X a (TX X.K f)) (hb : PE X b (TX X.K g)) (hm : behindInMarks .NotIn b = false) : PE X (.Compare a [.NotIn] [b] pos) (TX X.K (b2 (opDIn true) f g)) :=
  PE.imp (pe_cmp (pc_dnotin hu ha hb) hm) fun σ H Q h => TX.mono (TX.two h) fun x H1 h1 => TX.mono h1 fun y H2 h2 => by
    obtain ⟨a, o, e, d, q⟩ := o_dIn h2
    rw [Bool.true_xor] at q
    exact ⟨a, o, e, d, q⟩
theorem TX.two' {o : Op2} {K : PySem.W.Frag} {σ : L2.St} {H : Hp} {Q : Bool → Hp → Prop} (h : TTx K (tBl (b2 o f g)) σ H Q) : tTest (tOp (T2 K o) (TX K f) (TX K g)) σ H Q := TX.two h.bl
theorem xt_dIn (hu : X.A.units + 1 < cLine) (ha : PE X a (TX X.K f)) (hb : PE X b (TX X.K g)) (hm : behindInMarks .In b = false) : PT X (.Compare a [.In] [b] pos) (TTx X.K (tBl (b2 (opDIn false) f g))) :=
  PT.imp (pt_cmp (pc_din hu ha hb) hm) fun σ H Q h => TX.mono (TX.two' h) fun x H1 h1 => TX.mono h1 fun y H2 h2 => by
    obtain ⟨a, o, e, d, q⟩ := o_dIn h2
    rw [Bool.false_xor] at q
    exact ⟨a, o, e, d, q⟩
theorem xt_dNotIn (hu : X.A.units + 1 < cLine) (ha : PE X a (TX X.K f)) (hb : PE X b (TX X.K g)) (hm : behindInMarks .NotIn b = false) : PT X (.Compare a [.NotIn] [b] pos) (TTx X.K (tBl (b2 (opDIn true) f g))) :=
  PT.imp (pt_cmp (pc_dnotin hu ha hb) hm) fun σ H Q h => TX.mono (TX.two' h) fun x H1 h1 => TX.mono h1 fun y H2 h2 => by
    obtain ⟨a, o, e, d, q⟩ := o_dIn h2
    rw [Bool.true_xor] at q
    exact ⟨a, o, e, d, q⟩
/-! ### d[k] = v -/
def opDPut : W → W → W → Store → Option Store := fun x y w st => match x with
  | .loc n => match st[n]?, keyOf y with
    | some (.dict kvs), some k => if kvs.length < sizeLine then some (st.set n (.dict (putG kvs k w))) else none
    | _, _ => none
  | _ => none
theorem put_ok {K : PySem.W.Frag} {H : Hp} {st st' : Store} {μ hid : List Addr} {wx wy w : W} {x y v : V} (sd : Sd K H st μ hid) (hx : RW K (mask H (μ ++ hid)) μ x wx) (hy : RW K (mask H (μ ++ hid)) μ y wy) (hv : RW K (mask H (μ ++ hid)) μ v w) (e : opDPut wx wy w st = some st') :
    ∃ a H4, x = .ref a ∧ DPut H a y v H4 ∧ Nx H μ H4 μ hid ∧ Sd K H4 st' μ hid := by
  unfold opDPut at e
  split at e
  · split at e
    · rename_i kvs k hw hk
      split at e
      · rename_i hz
        cases e
        have := keyOf_rel hy hk
        subst this
        cases hx with
        | loc ha =>
          cases sd.at hw ha with
          | dict h1 h2 h3 =>
            have hl : _ = _ := Paired.length h3
            exact ⟨_, _, rfl, DPut.k h1 (by rw [hl]; exact hz), Nx.put ha sd.nd (nfD h1), sd.put ha (.dict upd_same (by have := putG_len kvs k w; omega) (RKs.put h3 hv))⟩
      · cases e
    · cases e
  · cases e
def bDPut (v f i : Ev) : Eb := fun env st => (v env st).bind fun r => (f env r.2).bind fun t => (i env t.2).bind fun u => (opDPut t.1 u.1 r.1 u.2).map fun s => (.nx, env, s)
theorem xs_dPut (hu : X.A.units + 1 < cLine) (hv : PE X value (TX X.K h)) (ho : PE X o (TX X.K f)) (hi : PE X i (TX X.K g)) (hs : swapsWith value (some (.Subscript o i pos')) pos.line X.env = pure false := by rfl) : PS X (.Assign [.Subscript o i pos'] value pos) (TSx X.K (bDPut h f g)) :=
  PS.imp (ps_dput hu ho hi hv hs) fun D σ H ⟨env, st, μ, hid, fl, env', st', W0, e, q⟩ => by
    unfold bDPut at e
    obtain ⟨⟨w, s1⟩, h1, e⟩ := Option.bind_eq_some_iff.mp e
    obtain ⟨⟨wx, s2⟩, h2, e⟩ := Option.bind_eq_some_iff.mp e
    obtain ⟨⟨wy, s3⟩, h3, e⟩ := Option.bind_eq_some_iff.mp e
    obtain ⟨s4, h4, e⟩ := Option.map_eq_some_iff.mp e
    cases e
    refine TX.go W0 h1 fun v H1 μ1 n1 W1 rv => TX.go W1 h2 fun x H2 μ2 n2 W2 rx => TX.go W2 h3 fun y H3 μ3 n3 W3 ry => ?_
    obtain ⟨a, H4, e1, dp, n4, sd4⟩ := put_ok W3.sd (rx.mono n3.same n3.pre) ry (rv.mono (n2.trans n3).same (n2.trans n3).pre) h4
    exact ⟨a, H4, e1, dp, q _ H4 μ3 (((n1.trans n2).trans n3).trans n4) (W3.next n4 sd4)⟩
/-! ### in place -/
def opIAdd : Op2 := opI (fun _ _ => true) fun i j => i + j
def opISub : Op2 := opI (fun _ _ => true) fun i j => i - j
theorem oi_add : OpR X (inplaceOp .Add) (T2 X.K opIAdd) := o_I (D := fun _ _ => True) (fun pins s σ H x y v u Q I rx ry ⟨i, j, h1, h2, _, h4⟩ => ip_add pins s σ H x y v u Q I rx ry ⟨i, j, h1, h2, h4⟩) fun _ _ _ => trivial
theorem oi_sub : OpR X (inplaceOp .Sub) (T2 X.K opISub) := o_I (D := fun _ _ => True) (fun pins s σ H x y v u Q I rx ry ⟨i, j, h1, h2, _, h4⟩ => ip_sub pins s σ H x y v u Q I rx ry ⟨i, j, h1, h2, h4⟩) fun _ _ _ => trivial
/-- d[k] op= e -/
def bDAug (f i : Ev) (o : Op2) (v : Ev) : Eb := fun env st => (f env st).bind fun r => (i env r.2).bind fun t => (opGetD r.1 t.1 t.2).bind fun old => (v env old.2).bind fun z => (o old.1 z.1 z.2).bind fun nw => (opDPut r.1 t.1 nw.1 nw.2).map fun s => (.nx, env, s)
theorem get_of {K : PySem.W.Frag} {H : Hp} {st st' : Store} {μ hid : List Addr} {wx wy w : W} {x y : V} (sd : Sd K H st μ hid) (hx : RW K (mask H (μ ++ hid)) μ x wx) (hy : RW K (mask H (μ ++ hid)) μ y wy) (e : opGetD wx wy st = some (w, st')) : st' = st ∧ ∃ a v, x = .ref a ∧ DGet H a y (some v) ∧ RW K (mask H (μ ++ hid)) μ v w := by
  have e1 : st' = st := by
    unfold opGetD at e
    split at e
    · split at e
      · obtain ⟨_, _, q⟩ := Option.map_eq_some_iff.mp e; cases q; rfl
      · obtain ⟨_, _, q⟩ := Option.map_eq_some_iff.mp e; cases q; rfl
      · cases e
    · cases e
  subst e1
  have e2 : ∃ kvs k, kvsOf st' wx = some kvs ∧ keyOf wy = some k ∧ valW kvs k = some w := by
    unfold opGetD at e
    split at e
    · rename_i n k hk
      split at e
      · rename_i kvs hw
        obtain ⟨w', h1, q⟩ := Option.map_eq_some_iff.mp e; cases q
        exact ⟨kvs, k, by simp only [kvsOf, hw], hk, h1⟩
      · rename_i kvs hw
        obtain ⟨w', h1, q⟩ := Option.map_eq_some_iff.mp e; cases q
        exact ⟨kvs, k, by simp only [kvsOf, hw], hk, h1⟩
      · cases e
    · cases e
  obtain ⟨kvs, k, h1, h2, h3⟩ := e2
  obtain ⟨a, vs, rfl, rd, rk, hz⟩ := rd_of sd hx h1
  have := keyOf_rel hy h2
  subst this
  rcases valV_of (k := k) rk with ⟨h5, _⟩ | ⟨v', w'', h5, h6, h7⟩
  · rw [h5] at h3; cases h3
  · rw [h5] at h3; cases h3
    exact ⟨rfl, a, v', rfl, .inl ⟨vs, k, rd, rfl, h6.symm⟩, h7⟩
theorem xs_dAug {op : Operator} {p : Op2} (hu : X.A.units + 1 < cLine) (ho : PE X o (TX X.K f)) (hi : PE X i (TX X.K g)) (hv : PE X value (TX X.K h)) (hop : OpR X (inplaceOp op) (T2 X.K p))
    (ha : ∀ ov iv new, augStore i ov iv new = (do holding [new, ov, iv] (setItem ov iv new); release [new, ov, iv] []; pure .next) := by intros; rfl) : PS X (.AugAssign (.Subscript o i tpos) op value pos) (TSx X.K (bDAug f g p h)) :=
  PS.imp (ps_daug hu ho hi hv (fun pins s σ H x y u v Q I rx ry q => hop pins s σ H x y u v Q I rx ry q) ha) fun D σ H ⟨env, st, μ, hid, fl, env', st', W0, e, q⟩ => by
    unfold bDAug at e
    obtain ⟨⟨wx, s1⟩, h1, e⟩ := Option.bind_eq_some_iff.mp e
    obtain ⟨⟨wy, s2⟩, h2, e⟩ := Option.bind_eq_some_iff.mp e
    obtain ⟨⟨wo, s3⟩, h3, e⟩ := Option.bind_eq_some_iff.mp e
    obtain ⟨⟨wz, s4⟩, h4, e⟩ := Option.bind_eq_some_iff.mp e
    obtain ⟨⟨wn, s5⟩, h5, e⟩ := Option.bind_eq_some_iff.mp e
    obtain ⟨s6, h6, e⟩ := Option.map_eq_some_iff.mp e
    cases e
    refine TX.go W0 h1 fun x H1 μ1 n1 W1 rx => TX.go W1 h2 fun y H2 μ2 n2 W2 ry => ?_
    have rx := rx.mono n2.same n2.pre
    obtain ⟨es, a, v, e1, dg, rv⟩ := get_of W2.sd rx ry h3
    dsimp only at es h4
    subst es
    refine ⟨a, v, e1, dg, TX.go W2 h4 fun z H3 μ3 n3 W3 rz => ⟨s4, μ3, hid, wo, wz, wn, s5, W3.sd, rv.mono n3.same n3.pre, rz, h5, fun u H4 μ4 n4 sd4 ru => ?_⟩⟩
    have n34 := n3.trans n4
    obtain ⟨a', H5, e2, dp, n5, sd5⟩ := put_ok sd4 (rx.mono n34.same n34.pre) (ry.mono n34.same n34.pre) ru h6
    rw [e1] at e2
    cases e2
    exact ⟨H5, dp, q _ H5 μ4 (((n1.trans n2).trans n34).trans n5) (((W2.next n34 sd4)).next n5 sd5)⟩
/-- xs[i] op= e, a list -/
theorem get_list : PGet X (rIxL X.K) := by
  intro pins s σ H o i ov iv Q I ro ri h
  obtain ⟨p, xs, k, z, rfl, rfl, hq, he, q⟩ := h
  cases ro
  obtain ⟨t, rfl⟩ := ri
  obtain ⟨its, r, pl, hz⟩ := I.list hq
  obtain ⟨j, h1, h2, h3, h4, h5⟩ := atI_get he
  obtain ⟨w, ew, rw'⟩ := r.get h2
  have hl := r.length
  have hn := line63
  by_cases h0 : 0 ≤ k
  · have hj : k.toNat = j := by
      rw [seqIndex_of h0 h5] at h1
      exact Option.some.inj h1
    exact wpAny_getItem_list pl.isList h0 (by omega) (by rw [hj]; simpa using ew) ⟨z, H, I, rw', q⟩
  · have hj : (k + (its.toArray.size : Int)).toNat = j := by
      rw [seqIndex_neg (by omega) h4] at h1
      rw [List.size_toArray, ← hl]
      exact Option.some.inj h1
    exact wpAny_getItem_list_neg pl.isList (by omega) (by rw [List.size_toArray] <;> omega) (by omega) (by rw [hj]; simpa using ew) ⟨z, H, I, rw', q⟩
def bLAug (f i : Ev) (o : Op2) (v : Ev) : Eb := fun env st => (f env st).bind fun r => (i env r.2).bind fun t => match r.1 with
  | .loc _ => (opIdx r.1 t.1 t.2).bind fun old => (v env old.2).bind fun z => (o old.1 z.1 z.2).bind fun nw => (opSet r.1 t.1 nw.1 nw.2).map fun s => (.nx, env, s)
  | _ => none
end
end L3
set_option Elab.async false
set_option linter.all false
set_option maxRecDepth 100000
set_option maxHeartbeats 4000000
set_option autoImplicit false
/-! L3: more of lists and dicts. -/
namespace L3
open PySem PySem.Spec PyProof.Rows L2
section
variable {X : Cx} {a b c o i value : Expr} {pos pos' apos cpos tpos : Pos} {f g h : Ev}
/-- what stands at a list's place, at any end -/
theorem idx_of {K : PySem.W.Frag} {H : Hp} {st st' : Store} {μ hid : List Addr} {n : Nat} {wy w : W} {x y : V} (sd : Sd K H st μ hid) (hx : RW K (mask H (μ ++ hid)) μ x (.loc n)) (hy : RW K (mask H (μ ++ hid)) μ y wy) (e : opIdx (.loc n) wy st = some (w, st')) :
    st' = st ∧ ∃ p xs k v, x = .ref p ∧ y = .int k ∧ SqL K H p xs ∧ atI xs k = some v ∧ RW K (mask H (μ ++ hid)) μ v w := by
  unfold opIdx at e
  split at e
  · rename_i q1 q2; cases q2
  · split at e
    · rename_i ws hw
      obtain ⟨c, h1, h2⟩ := Option.map_eq_some_iff.mp e
      cases h2
      obtain ⟨hz, a, vs, rfl, hq, hr⟩ := seqL_of sd hx hw (fun ds z => by cases z)
      obtain ⟨v', h3, h4⟩ := hr.at h1
      cases hy with
      | dat hy => cases hy; exact ⟨rfl, a, vs, _, v', rfl, rfl, hq, h3, h4⟩
    · cases e
  · cases e
theorem set_ok {K : PySem.W.Frag} {H : Hp} {st st' : Store} {μ hid : List Addr} {wo wi w : W} {x y v : V} (sd : Sd K H st μ hid) (hx : RW K (mask H (μ ++ hid)) μ x wo) (hy : RW K (mask H (μ ++ hid)) μ y wi) (hv : RW K (mask H (μ ++ hid)) μ v w) (e : opSet wo wi w st = some st') :
    ∃ p xs k j, x = .ref p ∧ y = .int k ∧ H p = some (.lst xs) ∧ ixN xs.length k = some j ∧ Nx H μ (upd H p (.lst (xs.set j v))) μ hid ∧ Sd K (upd H p (.lst (xs.set j v))) st' μ hid := by
  unfold opSet at e
  split at e
  · split at e
    · rename_i ws hw
      split at e
      · split at e
        · rename_i j hj
          cases e
          cases hx with
          | loc ha =>
            cases sd.at hw ha with
            | list h1 h2 h3 =>
              have hl : _ = _ := Paired.length h3
              cases hy with
              | dat hy =>
                cases hy
                exact ⟨_, _, _, j, rfl, rfl, h1, by rw [hl]; exact hj, Nx.put ha sd.nd (nfL h1), sd.put ha (.list upd_same (by rw [List.length_set]; exact h2) (RWs.set hv j h3))⟩
        · cases e
      · cases e
    · cases e
  · cases e
theorem xs_lAug {op : Operator} {p : Op2} (ho : PE X o (TX X.K f)) (hi : PE X i (TX X.K g)) (hv : PE X value (TX X.K h)) (hop : OpR X (inplaceOp op) (T2 X.K p))
    (ha : ∀ ov iv new, augStore i ov iv new = (do holding [new, ov, iv] (setItem ov iv new); release [new, ov, iv] []; pure .next) := by intros; rfl) : PS X (.AugAssign (.Subscript o i tpos) op value pos) (TSx X.K (bLAug f g p h)) :=
  PS.imp (ps_augS (tip := T2 X.K p) ho hi get_list hv (fun pins s σ H x y v u Q I rx ry q => hop pins s σ H x y v u Q I rx ry q) set_list ha) fun D σ H ⟨env, st, μ, hid, fl, env', st', W0, e, q⟩ => by
    unfold bLAug at e
    obtain ⟨⟨wx, s1⟩, h1, e⟩ := Option.bind_eq_some_iff.mp e
    obtain ⟨⟨wy, s2⟩, h2, e⟩ := Option.bind_eq_some_iff.mp e
    dsimp only at e
    split at e
    · obtain ⟨⟨wo, s3⟩, h3, e⟩ := Option.bind_eq_some_iff.mp e
      obtain ⟨⟨wz, s4⟩, h4, e⟩ := Option.bind_eq_some_iff.mp e
      obtain ⟨⟨wn, s5⟩, h5, e⟩ := Option.bind_eq_some_iff.mp e
      obtain ⟨s6, h6, e⟩ := Option.map_eq_some_iff.mp e
      cases e
      refine TX.go W0 h1 fun x H1 μ1 n1 W1 rx => TX.go W1 h2 fun y H2 μ2 n2 W2 ry => ?_
      have rx := rx.mono n2.same n2.pre
      obtain ⟨es, pp, xs, k, v, e1, e2, hq, hat, rv⟩ := idx_of W2.sd rx ry h3
      dsimp only at es h4
      subst es
      refine ⟨pp, xs, k, v, e1, e2, hq, hat, TX.go W2 h4 fun z H3 μ3 n3 W3 rz => ⟨s4, μ3, hid, wo, wz, wn, s5, W3.sd, rv.mono n3.same n3.pre, rz, h5, fun u H4 μ4 n4 sd4 ru => ?_⟩⟩
      have n34 := n3.trans n4
      obtain ⟨p', xs', k', j, e3, e4, hp, hj, n5, sd5⟩ := set_ok sd4 (rx.mono n34.same n34.pre) (ry.mono n34.same n34.pre) ru h6
      exact ⟨p', xs', k', j, e3, e4, hp, hj, q _ _ μ4 (((n1.trans n2).trans n34).trans n5) ((W2.next n34 sd4).next n5 sd5)⟩
    · cases e
/-! ### d[k] as a target -/
theorem set_dict (hu : X.A.units + 1 < cLine) : PSet X fun o i v H Q => ∃ a H4, o = .ref a ∧ DPut H a i v H4 ∧ Q H4 := by
  intro pins s σ H o i v ov iv u Q I ro ri rv h
  obtain ⟨a, H4, rfl, dp, q⟩ := h
  cases ro
  exact d_setItem hu I dp ri rv fun s' I' => ⟨H4, I', q⟩
def gSbD (f i : Ev) : Eg := fun w env st => (f env st).bind fun r => (i env r.2).bind fun t => (opDPut r.1 t.1 w t.2).map (env, ·)
theorem xg_subD {o i : Expr} (hu : X.A.units + 1 < cLine) (ho : PE X o (TX X.K f)) (hi : PE X i (TX X.K g))
    (ha : ∀ v, assign (.Subscript o i pos) X.env v = (do
      let ov ← holding [v] (eval o X.env)
      let iv ← holding [v, ov] (eval i X.env)
      standAt pos
      holding [v, ov, iv] (setItem ov iv v)
      release [v, ov, iv] []) := by intro _; rfl) : PG X (.Subscript o i pos) (TGx X.K [] (gSbD f g)) :=
  PG.imp (pg_sub ho hi (set_dict hu) ha) fun v σ H Q ⟨env, st, μ, hid, w, env', st', W0, r, e, q⟩ => by
    unfold gSbD at e
    obtain ⟨⟨wo, s1⟩, h1, e⟩ := Option.bind_eq_some_iff.mp e
    obtain ⟨⟨wi, s2⟩, h2, e⟩ := Option.bind_eq_some_iff.mp e
    obtain ⟨s3, h3, h4⟩ := Option.map_eq_some_iff.mp e
    cases h4
    refine TX.go W0 h1 fun vo H1 μ1 n1 W1 ro => TX.go W1 h2 fun vi H2 μ2 n2 W2 ri => ?_
    obtain ⟨a, H4, e1, dp, n4, sd4⟩ := put_ok W2.sd (ro.mono n2.same n2.pre) ri ((r.mono n1.same n1.pre).mono n2.same n2.pre) h3
    exact ⟨a, H4, e1, dp, q _ H4 μ2 ((n1.trans n2).trans n4) (W2.next n4 sd4) ⟨rfl, fun _ _ => rfl⟩⟩
/-! ### new dicts by comprehension -/
theorem DcEnd.mask2 {K : PySem.W.Frag} {H1 H : Hp} {μ1 μ hid : List Addr} {D : Addr} {acc : List (Key × W)} {st : Store} (l : DcEnd K H1 μ1 hid D acc st H μ) : mask H ((μ ++ [D]) ++ hid) = mask H (μ ++ (hid ++ [D])) := mask_congr fun a => by
  simp only [List.mem_append, List.mem_singleton]
  constructor
  · rintro ((h | h) | h) <;> simp [h]
  · rintro (h | h | h) <;> simp [h]
theorem DcEnd.fin {K : PySem.W.Frag} {H1 H : Hp} {μ1 μ hid : List Addr} {D : Addr} {acc : List (Key × W)} {st : Store} (l : DcEnd K H1 μ1 hid D acc st H μ) : Nx H1 μ1 H (μ ++ [D]) hid ∧ Sd K H (st ++ [.dict acc]) (μ ++ [D]) hid := by
  refine ⟨⟨fun b o e => by rw [l.mask2]; exact l.same b o e, l.pre.trans (List.prefix_append _ _), l.keep, l.frz⟩, ⟨by simp [l.sd.len], fun n c a h1 h2 => ?_, fun a ha => l.sd.hds a (List.mem_append_left _ ha), ?_⟩⟩
  · rw [l.mask2]
    by_cases hn : n < st.length
    · rw [List.getElem?_append_left hn] at h1
      rw [List.getElem?_append_left (by rw [l.sd.len]; exact hn)] at h2
      exact (l.sd.cell n c a h1 h2).mono (fun _ _ e => e) (List.prefix_append _ _) rfl
    · have hn' : n = st.length := by
        have := (List.getElem?_eq_some_iff.mp h1).1
        rw [List.length_append, List.length_singleton] at this
        omega
      subst hn'
      rw [List.getElem?_append_right (Nat.le_refl _), Nat.sub_self] at h1
      rw [List.getElem?_append_right (by rw [l.sd.len]; exact Nat.le_refl _), l.sd.len, Nat.sub_self] at h2
      simp at h1 h2
      subst h1 h2
      obtain ⟨vs, h3, h4⟩ := l.at_
      exact .dict h3 l.len (h4.mono (fun _ _ e => e) (List.prefix_append _ _))
  · have nd := l.sd.nd
    rw [← List.append_assoc, List.nodup_append] at nd
    obtain ⟨n1, n2, n3⟩ := nd
    rw [List.nodup_append] at n1
    rw [List.nodup_append]
    refine ⟨?_, n1.2.1, fun a ha b hb e => ?_⟩
    · rw [List.nodup_append]
      exact ⟨n1.1, by simp, fun a ha b hb e => n3 a (List.mem_append_left _ ha) b hb e⟩
    · rcases List.mem_append.mp ha with ha | ha
      · exact n1.2.2 a ha b hb e
      · exact n3 b (List.mem_append_right _ hb) a ha e.symm
def bDcNew (fi : Ei) (gt : Eg) (t : Et) (kx vx : Ev) (vs : List Nat) : Ev := fun env st => (dcAll fi gt t kx vx vs env st).map fun z => (.loc z.2.length, z.2 ++ [.dict z.1])
theorem x_dcNew {kx vx tg iter : Expr} {ifs : List Expr} {scope : Scope} {own : List (Str × Nat)} {fi : Ei} {gt : Eg} {t : Et} {ek ev : Ev} {sl : List Nat} (hc : X.calm = true) (hN : X.N.Nodup) (hi : PI X tg iter (TIx X.K fi)) (ok : BlkOk X.N X.env.scope scope own)
    (hg : ∀ (s : Shared) (H : Hp) (C : Addr) (cl : List (Str × Addr)) (fp : List Addr), PG (X.blk s H scope (compEnvC scope cl C X.env) fp) tg (TGx X.K sl gt)) (ht : ∀ (s : Shared) (H : Hp) (C : Addr) (cl : List (Str × Addr)) (fp : List Addr), PTs (X.blk s H scope (compEnvC scope cl C X.env) fp) ifs (TTx X.K t))
    (hk : ∀ (s : Shared) (H : Hp) (C : Addr) (cl : List (Str × Addr)) (fp : List Addr), PE (X.blk s H scope (compEnvC scope cl C X.env) fp) kx (TX X.K ek)) (he : ∀ (s : Shared) (H : Hp) (C : Addr) (cl : List (Str × Addr)) (fp : List Addr), PE (X.blk s H scope (compEnvC scope cl C X.env) fp) vx (TX X.K ev))
    (hsl : ∀ j ∈ sl, j ∈ own.map (·.2)) (hs : ∀ x, foldedSetIterable iter X.env x = pure x := by intro _; rfl) :
    PE X (.DictComp kx vx [⟨tg, iter, ifs, 0⟩] scope pos) (TX X.K (bDcNew fi gt t ek ev (own.map (·.2)))) :=
  PE.imp (pe_dc hc hN hi ok hg ht hk he hs) fun σ H Q ⟨env, st, μ, hid, w, st', W0, e, q⟩ => by
    unfold bDcNew at e
    obtain ⟨⟨acc, s1⟩, h1, h3⟩ := Option.map_eq_some_iff.mp e
    cases h3
    refine dc_sem hsl W0 h1 fun H' μ' D ⟨H1, μ1, n1, hD, l⟩ => ?_
    obtain ⟨n2, sd2⟩ := l.fin
    exact q _ H' (μ' ++ [D]) (n1.trans n2) sd2 (.loc (by rw [← l.sd.len, List.getElem?_append_right (Nat.le_refl _), Nat.sub_self]; rfl))
end
end L3
set_option Elab.async false
set_option linter.all false
set_option maxRecDepth 100000
set_option maxHeartbeats 4000000
set_option autoImplicit false
/-! L3: walks over dicts, the dict being locked meanwhile. -/
namespace L3
open PySem PySem.Spec PyProof.Rows L2
section
variable {X : Cx} {a b c o i value : Expr} {pos pos' apos cpos tpos : Pos} {f g h : Ev}
def thaw (n : Nat) (st : Store) : Option Store := match st[n]? with
  | some (.froz kvs) => some (st.set n (.dict kvs))
  | _ => none
def varLoc (env : E3) (i : Nat) : Option Nat := match env[i]? with
  | some (some (.loc n)) => some n
  | _ => none
def dictAt (st : Store) (n : Nat) : Option (List (Key × W)) := match st[n]? with
  | some (.dict kvs) => some kvs
  | _ => none
def frozAt (st : Store) (n : Nat) : Option (List (Key × W)) := match st[n]? with
  | some (.froz kvs) => some kvs
  | _ => none
theorem dictAt_some {st : Store} {n : Nat} {kvs : List (Key × W)} (h : dictAt st n = some kvs) : st[n]? = some (.dict kvs) := by
  unfold dictAt at h
  split at h
  · cases h; assumption
  · cases h
theorem frozAt_some {st : Store} {n : Nat} {kvs : List (Key × W)} (h : frozAt st n = some kvs) : st[n]? = some (.froz kvs) := by
  unfold frozAt at h
  split at h
  · cases h; assumption
  · cases h
def bLockS (i : Nat) (u : Eb) : Eb := fun env st => (varLoc env i).bind fun n => (dictAt st n).bind fun kvs => (u env (st.set n (.froz kvs))).bind fun r => (thaw n r.2.2).map fun s => (r.1, r.2.1, s)
def bLockE (i : Nat) (u : Ev) : Ev := fun env st => (varLoc env i).bind fun n => (dictAt st n).bind fun kvs => (u env (st.set n (.froz kvs))).bind fun r => (thaw n r.2).map fun s => (r.1, s)
/-- the state under the lock -/
theorem lock_in {K : PySem.W.Frag} {σ : L2.St} {H : Hp} {env : E3} {st : Store} {μ hid : List Addr} {n : Nat} {kvs : List (Key × W)} (W0 : Wd K σ H env st μ hid) (hw : st[n]? = some (.dict kvs)) : ∃ a vs, μ[n]? = some a ∧ H a = some (.dK vs) ∧
    ∀ od, Nx H μ (upd H a (.frz od (.dK vs))) μ hid ∧ Wd K σ (upd H a (.frz od (.dK vs))) env (st.set n (.froz kvs)) μ hid := by
  have hn : n < μ.length := by rw [W0.sd.len]; exact (List.getElem?_eq_some_iff.mp hw).1
  obtain ⟨a, ha⟩ : ∃ a, μ[n]? = some a := ⟨_, List.getElem?_eq_getElem hn⟩
  cases W0.sd.at hw ha with
  | @dict vs _ h1 h2 h3 =>
    refine ⟨a, vs, ha, h1, fun od => ?_⟩
    have n1 : Nx H μ (upd H a (.frz od (.dK vs))) μ hid := Nx.put ha W0.sd.nd (nfD h1)
    exact ⟨n1, W0.next n1 (W0.sd.put ha (.froz upd_same h2 h3))⟩
/-- behind it -/
theorem lock_out {K : PySem.W.Frag} {H H' : Hp} {st' s : Store} {μ μ' hid : List Addr} {n : Nat} {a : Addr} {vs : List (Key × V)} {od : Obj} (ha : μ[n]? = some a) (h1 : H a = some (.dK vs)) (nx : Nx (upd H a (.frz od (.dK vs))) μ H' μ' hid) (sd : Sd K H' st' μ' hid) (nd : (μ ++ hid).Nodup) (e : thaw n st' = some s) :
    H' a = some (.frz od (.dK vs)) ∧ Nx H μ (upd H' a (.dK vs)) μ' hid ∧ Sd K (upd H' a (.dK vs)) s μ' hid ∧ mask (upd H' a (.dK vs)) (μ' ++ hid) = mask H' (μ' ++ hid) := by
  have hz : H' a = some (.frz od (.dK vs)) := nx.frz a od (.dK vs) upd_same
  have ha' : μ'[n]? = some a := by
    obtain ⟨t, rfl⟩ := nx.pre
    rw [List.getElem?_append_left (List.getElem?_eq_some_iff.mp ha).1]; exact ha
  have hm' : a ∈ μ' ++ hid := List.mem_append_left _ (List.mem_of_getElem? ha')
  have hm : a ∈ μ ++ hid := List.mem_append_left _ (List.mem_of_getElem? ha)
  have em : mask (upd H' a (.dK vs)) (μ' ++ hid) = mask H' (μ' ++ hid) := mask_upd_in hm'
  refine ⟨hz, ⟨fun b o z => ?_, nx.pre, fun b hb => ?_, fun b o u z => ?_⟩, ?_, em⟩
  · rw [em]
    refine nx.same b o ?_
    rw [mask_upd_in hm]; exact z
  · have hb2 : b ≠ a := fun z => by
      subst z
      rw [List.nodup_append] at nd
      exact nd.2.2 b (List.mem_of_getElem? ha) b hb rfl
    rw [upd_ne hb2, nx.keep b hb, upd_ne hb2]
  · have hb2 : b ≠ a := fun q => by subst q; rw [h1] at z; cases z
    rw [upd_ne hb2]
    exact nx.frz b o u (by rw [upd_ne hb2]; exact z)
  · unfold thaw at e
    split at e
    · rename_i kvs hw
      cases e
      cases sd.at hw ha' with
      | froz h2 h3 h4 =>
        rw [hz] at h2
        cases h2
        exact sd.put ha' (.dict upd_same h3 h4)
    · cases e
theorem lockS_sem {K : PySem.W.Frag} {u : Eb} {i : Nat} {D : Ends} {σ : L2.St} {H : Hp} (h : TSx K (bLockS i u) D σ H) : tLock (TSx K u) D σ H := by
  obtain ⟨env, st, μ, hid, fl, env', st', W0, e, q⟩ := h
  unfold bLockS at e
  obtain ⟨n, h1, e⟩ := Option.bind_eq_some_iff.mp e
  obtain ⟨kvs, h2, e⟩ := Option.bind_eq_some_iff.mp e
  obtain ⟨⟨fl1, env1, s1⟩, h3, e⟩ := Option.bind_eq_some_iff.mp e
  obtain ⟨s, h4, e⟩ := Option.map_eq_some_iff.mp e
  cases e
  dsimp only at q h4
  obtain ⟨a, vs, ha, hd, inn⟩ := lock_in W0 (dictAt_some h2)
  refine ⟨a, .dK vs, hd, trivial, fun od => ?_⟩
  obtain ⟨n1, W1⟩ := inn od
  refine ⟨env, _, μ, hid, fl1, env1, s1, W1, h3, ?_⟩
  have go : ∀ {σ' H' μ'}, Nx (upd H a (.frz od (.dK vs))) μ H' μ' hid → Wd K σ' H' env1 s1 μ' hid → H' a = some (.frz od (.dK vs)) ∧ Nx H μ (upd H' a (.dK vs)) μ' hid ∧ Wd K σ' (upd H' a (.dK vs)) env1 st' μ' hid := fun {σ' H' μ'} n w => by
    obtain ⟨k1, k2, k3, k4⟩ := lock_out ha hd n w.sd W0.sd.nd h4
    refine ⟨k1, k2, ⟨?_, k3⟩⟩
    have := w.ev
    rw [← k4] at this
    exact this
  cases fl1 with
  | nx => exact fun σ' H' μ' n w => let ⟨k1, k2, k3⟩ := go n w; ⟨k1, q σ' _ μ' k2 k3⟩
  | bk => exact fun σ' H' μ' n w => let ⟨k1, k2, k3⟩ := go n w; ⟨k1, q σ' _ μ' k2 k3⟩
  | ct => exact fun σ' H' μ' n w => let ⟨k1, k2, k3⟩ := go n w; ⟨k1, q σ' _ μ' k2 k3⟩
  | rt w0 =>
    intro v H' μ' n s r
    obtain ⟨k1, k2, k3, k4⟩ := lock_out ha hd n s W0.sd.nd h4
    exact ⟨k1, q v _ μ' k2 k3 (by rw [k4]; exact r)⟩
theorem lockE_sem {K : PySem.W.Frag} {u : Ev} {i : Nat} {Q : VK} {σ : L2.St} {H : Hp} (h : TX K (bLockE i u) σ H Q) : tLockE (TX K u) σ H Q := by
  obtain ⟨env, st, μ, hid, w, st', W0, e, q⟩ := h
  unfold bLockE at e
  obtain ⟨n, h1, e⟩ := Option.bind_eq_some_iff.mp e
  obtain ⟨kvs, h2, e⟩ := Option.bind_eq_some_iff.mp e
  obtain ⟨⟨w1, s1⟩, h3, e⟩ := Option.bind_eq_some_iff.mp e
  obtain ⟨s, h4, e⟩ := Option.map_eq_some_iff.mp e
  cases e
  dsimp only at q h4
  obtain ⟨a, vs, ha, hd, inn⟩ := lock_in W0 (dictAt_some h2)
  refine ⟨a, .dK vs, hd, trivial, fun od => ?_⟩
  obtain ⟨n1, W1⟩ := inn od
  refine ⟨env, _, μ, hid, w1, s1, W1, h3, fun v H' μ' n s r => ?_⟩
  obtain ⟨k1, k2, k3, k4⟩ := lock_out ha hd n s W0.sd.nd h4
  exact ⟨k1, q v _ μ' k2 k3 (by rw [k4]; exact r)⟩
theorem xs_lock {s : Stmt} {u : Eb} (i : Nat) (h : PS X s (TSx X.K u)) : PS X s (TSx X.K (bLockS i u)) := PS.imp (ps_lock h) fun D σ H q => lockS_sem q
theorem x_lock {e : Expr} {u : Ev} (i : Nat) (h : PE X e (TX X.K u)) : PE X e (TX X.K (bLockE i u)) := PE.imp (pe_lock h) fun σ H Q q => lockE_sem q
/-! ### the walks -/
def keyD : Key → PyData
  | .inl i => .int i
  | .inr x => .str x
def itKeys (kvs : List (Key × W)) : It3 := ⟨kvs.length, fun _ j => some ((kvs[j]?).map fun p => .dat (keyD p.1))⟩
def itVals (kvs : List (Key × W)) : It3 := ⟨kvs.length, fun _ j => some ((kvs[j]?).map fun p => p.2)⟩
def iKeyF (i : Nat) : Ei := fun env st => (varLoc env i).bind fun n => (frozAt st n).map fun kvs => (itKeys kvs, st)
def iValF (i : Nat) : Ei := fun env st => (varLoc env i).bind fun n => (frozAt st n).map fun kvs => (itVals kvs, st)
theorem var_loc {K : PySem.W.Frag} {env : E3} {i n : Nat} {st : Store} (h : varLoc env i = some n) : bVar i env st = some (.loc n, st) := by
  unfold varLoc at h
  unfold bVar
  split at h
  · rename_i m he; cases h; rw [he]
  · cases h
theorem froz_of {K : PySem.W.Frag} {H : Hp} {st : Store} {μ hid : List Addr} (sd : Sd K H st μ hid) {n : Nat} {v : V} {kvs : List (Key × W)} (r : RW K (mask H (μ ++ hid)) μ v (.loc n)) (hw : st[n]? = some (.froz kvs)) : ∃ a o vs, v = .ref a ∧ H a = some (.frz o (.dK vs)) ∧ RKs K (mask H (μ ++ hid)) μ vs kvs ∧ kvs.length ≤ sizeLine := by
  cases r with
  | loc ha =>
    cases sd.at hw ha with
    | froz h1 h2 h3 => exact ⟨_, _, _, rfl, h1, h3, h2⟩
theorem RKs.get {K : PySem.W.Frag} {M : Hp} {μ : List Addr} : ∀ {vs : List (Key × V)} {ws : List (Key × W)} {j : Nat} {p : Key × W}, RKs K M μ vs ws → ws[j]? = some p → ∃ v, vs[j]? = some (p.1, v) ∧ RW K M μ v p.2
  | _, _, _, _, .nil, e => by simp at e
  | _, _, 0, _, .cons (a := q) a _, e => by
    simp at e; subst e
    exact ⟨q.2, by show some q = _; rw [← a.1], a.2⟩
  | _, _, j + 1, _, .cons _ b, e => by
    obtain ⟨v, h1, h2⟩ := RKs.get (j := j) b (by simpa using e)
    exact ⟨v, by simpa using h1, h2⟩
theorem xi_keys {tg : Expr} {i : Nat} (ha : PE X a (TX X.K (bVar i))) : PI X tg a (TIx X.K (iKeyF i)) :=
  PI.imp (pi_keys ha) fun σ H R ⟨env, st, μ, hid, it, st', W0, e, q⟩ => by
    unfold iKeyF at e
    obtain ⟨n, h1, e⟩ := Option.bind_eq_some_iff.mp e
    obtain ⟨kvs, h2, e⟩ := Option.map_eq_some_iff.mp e
    cases e
    refine TX.go W0 (var_loc (K := X.K) h1) fun v H1 μ1 n1 W1 r => ?_
    obtain ⟨d, od, vs, rfl, hd, rk, hz⟩ := froz_of W1.sd r (frozAt_some h2)
    have hl : vs.length = kvs.length := Paired.length rk
    refine ⟨d, od, rfl, .inl ⟨vs, hd, q _ H1 μ1 n1 W1.sd fun H2 st2 μ2 hid2 s p fz sd j => ?_⟩⟩
    have hd2 := fz d od _ hd
    refine ⟨fun w e => ?_, fun e => ?_⟩
    · have e : (kvs[j]?).map (fun p => W.dat (keyD p.1)) = some w := Option.some.inj e
      obtain ⟨p, hp, rfl⟩ := Option.map_eq_some_iff.mp e
      have hj := (List.getElem?_eq_some_iff.mp hp).1
      refine ⟨by omega, ⟨hd2, by omega⟩, fun x H' hy => ?_⟩
      obtain ⟨rfl, k, v, h3, rfl⟩ := hy
      obtain ⟨v', h4, _⟩ := rk.get hp
      rw [h4] at h3
      cases h3
      refine ⟨Nx.refl, sd, .dat ?_⟩
      cases p.1 with
      | inl z => exact .int z
      | inr z => exact .str z
    · have e : (kvs[j]?).map (fun p => W.dat (keyD p.1)) = none := Option.some.inj e
      rw [Option.map_eq_none_iff, List.getElem?_eq_none_iff] at e
      exact ⟨hd2, by omega⟩
theorem xi_vals {tg : Expr} {i : Nat} (ha : PE X a (TX X.K (bVar i))) (hbase : attributeBase a "values" X.env (eval a X.env) = eval a X.env := by rfl) (hline : (apos.endLine == cpos.line) = true := by rfl) :
    PI X tg (.Call (.Attribute a "values" apos) [] [] cpos) (TIx X.K (iValF i)) :=
  PI.imp (pi_values ha hbase hline) fun σ H R ⟨env, st, μ, hid, it, st', W0, e, q⟩ => by
    unfold iValF at e
    obtain ⟨n, h1, e⟩ := Option.bind_eq_some_iff.mp e
    obtain ⟨kvs, h2, e⟩ := Option.map_eq_some_iff.mp e
    cases e
    refine TX.go W0 (var_loc (K := X.K) h1) fun v H1 μ1 n1 W1 r => ?_
    obtain ⟨d, od, vs, rfl, hd, rk, hz⟩ := froz_of W1.sd r (frozAt_some h2)
    have hl : vs.length = kvs.length := Paired.length rk
    refine ⟨d, od, vs, rfl, hd, q _ H1 μ1 n1 W1.sd fun H2 st2 μ2 hid2 s p fz sd j => ?_⟩
    have hd2 := fz d od _ hd
    refine ⟨fun w e => ?_, fun e => ?_⟩
    · have e : (kvs[j]?).map (fun p => p.2) = some w := Option.some.inj e
      obtain ⟨p', hp, rfl⟩ := Option.map_eq_some_iff.mp e
      have hj := (List.getElem?_eq_some_iff.mp hp).1
      refine ⟨by omega, ⟨hd2, by omega⟩, fun x H' hy => ?_⟩
      obtain ⟨rfl, k, h3⟩ := hy
      obtain ⟨v', h4, rv⟩ := rk.get hp
      rw [h4] at h3
      cases h3
      exact ⟨Nx.refl, sd, rv.mono s p⟩
    · have e : (kvs[j]?).map (fun p => p.2) = none := Option.some.inj e
      rw [Option.map_eq_none_iff, List.getElem?_eq_none_iff] at e
      exact ⟨hd2, by omega⟩
end
end L3
set_option Elab.async false
set_option linter.all false
set_option maxRecDepth 100000
set_option maxHeartbeats 400000
set_option autoImplicit false
/-! L3: repeats, sorted(d), pops, setdefault, get. -/
namespace L3
open PySem PySem.Spec PyProof.Rows L2
section
variable {X : Cx} {a b c o i value e e2 : Expr} {pos pos' apos cpos tpos : Pos} {f g h : Ev}
/-! ### xs * k -/
def repl {α : Type} (k : Nat) (xs : List α) : List α := (List.replicate k xs).flatten
theorem repl_len {α : Type} (k : Nat) (xs : List α) : (repl k xs).length = xs.length * k := by
  unfold repl
  induction k with
  | zero => simp
  | succ k ih => rw [List.replicate_succ, List.flatten_cons, List.length_append, ih, Nat.mul_succ]; omega
theorem RDs.app {K : PySem.W.Frag} {M : Hp} : ∀ {vs us : List V} {ds es : List PyData}, RDs K M vs ds → RDs K M us es → RDs K M (vs ++ us) (ds ++ es)
  | _, _, _, _, .nil, s => s
  | _, _, _, _, .cons a b, s => .cons a (RDs.app b s)
theorem RDs.repl {K : PySem.W.Frag} {M : Hp} {vs : List V} {ds : List PyData} (r : RDs K M vs ds) : ∀ k : Nat, RDs K M (List.replicate k vs).flatten (L3.repl k ds)
  | 0 => .nil
  | k + 1 => by
    unfold L3.repl
    rw [List.replicate_succ, List.replicate_succ, List.flatten_cons, List.flatten_cons]
    exact RDs.app r (RDs.repl r k)
def opRep (new : Bool) : Op2
  | .dat (.list ds), .dat (.int k), st => if -(2 ^ 63) ≤ k ∧ k < 2 ^ 63 ∧ ds.length * k.toNat ≤ sizeLine then (if new then some (.loc st.length, st ++ [.list ((repl k.toNat ds).map .dat)]) else some (.dat (.list (repl k.toNat ds)), st)) else none
  | _, _, _ => none
theorem o_rep {new : Bool} : OpR X (binaryOp .Mult) (T2 X.K (opRep new)) := by
  intro pins s σ H x y v u Q I rx ry ⟨st, μ, hid, wx, wy, w, st', sd, hx, hy, e, q⟩
  unfold opRep at e
  split at e
  · split at e
    · rename_i hk
      obtain ⟨k1, k2, k3⟩ := hk
      cases hx with
      | dat hx =>
        cases hx with
        | lst hl hz hr =>
          cases hy with
          | dat hy =>
            cases hy
            have hlen := hr.length
            refine op_rep pins s σ H _ _ v u Q I rx ry ⟨_, _, _, rfl, rfl, mask_le _ _ hl, k1, k2, by rw [hlen]; exact k3, fun p hp => ?_⟩
            have hz2 : (repl _ _).length ≤ sizeLine := Nat.le_trans (Nat.le_of_eq (repl_len _ _)) k3
            cases new with
            | false => cases e; exact q.new sd hp (.dat (RD.lstNew sd hp hz2 (RDs.repl hr _)))
            | true => cases e; exact q.cell sd hp (.list upd_same (by rw [List.length_map]; exact hz2) (((RDs.repl hr _).ws)))
    · cases e
  · cases e
/-! ### sorted(d), whole keys -/
def intKey : Key → Option Int
  | .inl i => some i
  | _ => none
theorem intKeys {kvs : List (Key × W)} : ∀ {ks : List Int}, kvs.mapM (fun p => intKey p.1) = some ks → kvs.map (·.1) = ks.map Sum.inl := by
  induction kvs with
  | nil => intro ks e; have e : some ([] : List Int) = some ks := e; cases e; rfl
  | cons p kvs ih =>
    intro ks e
    rw [List.mapM_cons] at e
    obtain ⟨i, h1, e⟩ := Option.bind_eq_some_iff.mp e
    obtain ⟨r, h2, e⟩ := Option.bind_eq_some_iff.mp e
    cases e
    rw [List.map_cons, List.map_cons, ih h2]
    congr 1
    unfold intKey at h1
    split at h1
    · rename_i hp; cases h1; exact hp
    · cases h1
def sortI (l : List Int) : List Int := l.mergeSort fun a b => decide (a ≤ b)
theorem sortI_eq {l m : List Int} (h : m.Perm l) (hm : m.Pairwise (· ≤ ·)) : sortI l = m := by
  have h1 : (sortI l).Pairwise (fun a b => decide (a ≤ b) = true) := List.pairwise_mergeSort (fun a b c h1 h2 => by rw [decide_eq_true_eq] at *; omega) (fun a b => by rw [Bool.or_eq_true, decide_eq_true_eq, decide_eq_true_eq]; omega) l
  exact ((List.mergeSort_perm l _).trans h.symm).eq_of_pairwise (fun a b _ _ h1 h2 => by omega) (h1.imp fun h => of_decide_eq_true h) hm
def opSortedD : OpN
  | [w], st => match kvsOf st w with
    | some kvs => match kvs.mapM (fun p => intKey p.1) with
      | some ks => if ks.length < 64 then some (.dat (.list ((sortI ks).map .int)), st) else none
      | none => none
    | none => none
  | _, _ => none
theorem o_sortedD (hc : X.calm = true) : CallR X (.builtin "sorted") (TN X.K opSortedD) := by
  intro pins s σ H xs us Q I r ⟨st, μ, hid, ws, w, st', sd, hx, e, q⟩
  unfold opSortedD at e
  split at e
  · obtain ⟨x, rfl, rx⟩ := rw1 hx
    split at e
    · rename_i kvs hk
      split at e
      · rename_i ks hks
        split at e
        · rename_i h64
          cases e
          obtain ⟨a, vs, rfl, rd, rk, hz⟩ := rd_of sd rx hk
          have hkeys : vs.map (·.1) = kvs.map (·.1) := by
            clear hk hks hz rd
            induction rk with
            | nil => rfl
            | cons a b ih => rw [List.map_cons, List.map_cons, a.1, ih]
          refine call_sortedDI hc pins s σ H _ us Q I r ⟨a, vs, ks, rfl, rd, hkeys.trans (intKeys hks), h64, fun ys p hp hs hn => ?_⟩
          have e1 : sortI ks = ys := sortI_eq hp hs
          rw [← e1]
          have hz2 : ((sortI ks).map PyData.int).length ≤ sizeLine := by
            rw [List.length_map]; unfold sortI; rw [List.length_mergeSort]
            exact sz1000 (by omega)
          exact q.new sd hn (.dat (RD.lstNew sd hn hz2 (rds_ints _)))
        · cases e
      · cases e
    · cases e
  · cases e
/-! ### pops -/
def opPop : W → OpN
  | .loc n, [], st => match st[n]? with
    | some (.list ws) => (ws[ws.length - 1]?).map fun w => (w, st.set n (.list ws.dropLast))
    | _ => none
  | _, _, _ => none
def opPopAt : W → OpN
  | .loc n, [.dat (.int i)], st => match st[n]? with
    | some (.list ws) => if -(2 ^ 63) ≤ i ∧ i < 2 ^ 63 then (seqIndex? i ws.length).bind fun k => (ws[k]?).map fun w => (w, st.set n (.list (ws.eraseIdx k))) else none
    | _ => none
  | _, _, _ => none
theorem RWs.takeL {K : PySem.W.Frag} {M : Hp} {μ : List Addr} : ∀ {vs : List V} {ws : List W} (k : Nat), RWs K M μ vs ws → RWs K M μ (vs.take k) (ws.take k)
  | _, _, 0, _ => .nil
  | _, _, _ + 1, .nil => .nil
  | _, _, k + 1, .cons a b => .cons a (RWs.takeL k b)
theorem RWs.dropLast {K : PySem.W.Frag} {M : Hp} {μ : List Addr} {vs : List V} {ws : List W} (r : RWs K M μ vs ws) : RWs K M μ vs.dropLast ws.dropLast := by
  have hl : vs.length = ws.length := Paired.length r
  rw [List.dropLast_eq_take, List.dropLast_eq_take, hl]
  exact RWs.takeL _ r
theorem RWs.erase {K : PySem.W.Frag} {M : Hp} {μ : List Addr} : ∀ {vs : List V} {ws : List W} (k : Nat), RWs K M μ vs ws → RWs K M μ (vs.eraseIdx k) (ws.eraseIdx k)
  | _, _, _, .nil => .nil
  | _, _, 0, .cons _ b => b
  | _, _, k + 1, .cons a b => .cons a (RWs.erase k b)
theorem m_pop : MtR X "list.pop" (TM X.K opPop) := by
  intro pins s σ H x xs v us Q I rx rxs ⟨st, μ, hid, wx, ws, w, st', sd, hx, hxs, e, q⟩
  unfold opPop at e
  split at e
  · split at e
    · rename_i n us' hw
      obtain ⟨y, h1, h2⟩ := Option.map_eq_some_iff.mp e
      cases h2
      cases hxs
      cases hx with
      | loc ha =>
        cases sd.at hw ha with
        | @list vs _ h2 h3 h4 =>
          have hl : _ = _ := Paired.length h4
          obtain ⟨v', h5, h6⟩ := RWs.get h4 h1
          refine mt_pop pins s σ H _ _ v us Q I rx rxs ⟨_, _, v', rfl, rfl, h2, by rw [hl]; exact h5, ?_⟩
          have n1 : Nx H μ (upd H _ (.lst vs.dropLast)) μ hid := Nx.put ha sd.nd (nfL h2)
          exact q _ _ μ n1 (sd.put ha (.list upd_same (by rw [List.length_dropLast]; omega) (RWs.dropLast h4))) (h6.mono n1.same (List.prefix_refl _))
    · cases e
  · cases e
theorem m_popAt : MtR X "list.pop" (TM X.K opPopAt) := by
  intro pins s σ H x xs v us Q I rx rxs ⟨st, μ, hid, wx, ws, w, st', sd, hx, hxs, e, q⟩
  unfold opPopAt at e
  split at e
  · split at e
    · rename_i n i us' hw
      split at e
      · rename_i hi
        obtain ⟨k, h0, e⟩ := Option.bind_eq_some_iff.mp e
        obtain ⟨y, h1, h2⟩ := Option.map_eq_some_iff.mp e
        cases h2
        obtain ⟨z, rfl, rz⟩ := rw1 hxs
        cases rz with
        | dat rz =>
          cases rz
          cases hx with
          | loc ha =>
            cases sd.at hw ha with
            | @list vs _ h2 h3 h4 =>
              have hl : _ = _ := Paired.length h4
              obtain ⟨v', h5, h6⟩ := RWs.get h4 h1
              refine mt_popAt pins s σ H _ _ v us Q I rx rxs ⟨_, _, _, k, v', rfl, rfl, h2, hi.1, hi.2, by rw [hl]; exact h0, h5, ?_⟩
              have n1 : Nx H μ (upd H _ (.lst (vs.eraseIdx k))) μ hid := Nx.put ha sd.nd (nfL h2)
              exact q _ _ μ n1 (sd.put ha (.list upd_same (Nat.le_trans (List.length_eraseIdx_le _ _) h3) (RWs.erase k h4))) (h6.mono n1.same (List.prefix_refl _))
      · cases e
    · cases e
  · cases e
theorem x_popAt {es : List Expr} {t : Ea} (ho : PE X o (TX X.K f)) (ha : PA X (e :: es) (TAx X.K t))
    (hbase : attributeBase o "pop" X.env (eval o X.env) = eval o X.env := by rfl)
    (hfew : ((backTo cpos (starEach (e :: es) X.env)).all (fun x => !x.1) && (backToKw cpos (keywordEach [] X.env)).all (fun x => x.1.isSome) && decide ((e :: es).length + ([] : List Keyword).length + (if ([] : List Keyword).isEmpty then 0 else 1) < 30)) = true := by rfl)
    (hline : (apos.endLine == cpos.line) = true := by rfl) (hs : starEach (e :: es) X.env = (false, eval e X.env) :: starEach es X.env := by rfl) (hplain : (backTo cpos (starEach es X.env)).any (·.1) = false := by rfl) :
    PE X (.Call (.Attribute o "pop" apos) (e :: es) [] cpos) (TX X.K (bMeth opPopAt f t)) :=
  PE.imp (pe_bm PySem.F.plainAttrs_list PySem.F.slot_list_pop PySem.F.type_list_pop m_popAt ho ha hbase hfew hline hs hplain) fun σ H Q h => lm_sem h
/-! ### setdefault, get -/
def isKv (st : Store) (w : W) : Bool := (kvsOf st w).isSome
def bSetd (f g h : Ev) : Ev := fun env st => (f env st).bind fun r => if isKv r.2 r.1 = true then (g env r.2).bind fun t => (h env t.2).bind fun z => match r.1 with
  | .loc n => (dictAt z.2 n).bind fun kvs => (keyOf t.1).bind fun k => if kvs.length < sizeLine then (match valW kvs k with
    | some w => some (w, z.2)
    | none => some (z.1, z.2.set n (.dict (putG kvs k z.1)))) else none
  | _ => none else none
theorem isD_of {K : PySem.W.Frag} {H : Hp} {st : Store} {μ hid : List Addr} (sd : Sd K H st μ hid) {v : V} {w : W} (r : RW K (mask H (μ ++ hid)) μ v w) (e : isKv st w = true) : ∃ a, v = .ref a ∧ IsD H a := by
  unfold isKv at e
  obtain ⟨kvs, h⟩ := Option.isSome_iff_exists.mp e
  obtain ⟨a, vs, rfl, rd, _, _⟩ := rd_of sd r h
  exact ⟨a, rfl, .inl ⟨vs, rd⟩⟩
theorem x_setd (ho : PE X o (TX X.K f)) (he : PE X e (TX X.K g)) (hf : PE X e2 (TX X.K h)) (m : M2 X o "setdefault" apos e e2 cpos) : PE X (.Call (.Attribute o "setdefault" apos) [e, e2] [] cpos) (TX X.K (bSetd f g h)) :=
  PE.imp (pe_dsetd ho he hf m) fun σ H Q ⟨env, st, μ, hid, w, st', W0, e, q⟩ => by
    unfold bSetd at e
    obtain ⟨⟨wx, s1⟩, h1, e⟩ := Option.bind_eq_some_iff.mp e
    split at e
    · rename_i hD
      obtain ⟨⟨wk, s2⟩, h2, e⟩ := Option.bind_eq_some_iff.mp e
      obtain ⟨⟨wz, s3⟩, h3, e⟩ := Option.bind_eq_some_iff.mp e
      dsimp only at e hD h2 h3
      cases wx with
      | loc n =>
        dsimp only at e
        obtain ⟨kvs, h4, e⟩ := Option.bind_eq_some_iff.mp e
        obtain ⟨k, h5, e⟩ := Option.bind_eq_some_iff.mp e
        split at e
        · rename_i hz
          refine TX.go W0 h1 fun x H1 μ1 n1 W1 rx => ?_
          obtain ⟨a, rfl, isd⟩ := isD_of W1.sd rx hD
          refine ⟨a, rfl, isd, TX.go W1 h2 fun y H2 μ2 n2 W2 ry => TX.go W2 h3 fun z H3 μ3 n3 W3 rz => ?_⟩
          have ry := ry.mono n3.same n3.pre
          have rx := rx.mono (n2.trans n3).same (n2.trans n3).pre
          have hw := dictAt_some h4
          cases rx with
          | loc ha =>
            cases W3.sd.at hw ha with
            | @dict vs _ k1 k2 k3 =>
              have hl : _ = _ := Paired.length k3
              have := keyOf_rel ry h5
              subst this
              refine ⟨vs, k, k1, rfl, by omega, fun v' hv => ?_, fun hv => ?_⟩
              · rcases valV_of (k := k) k3 with ⟨h6, h7⟩ | ⟨v'', w'', h6, h7, h8⟩
                · rw [h7] at hv; cases hv
                · rw [h7] at hv; cases hv
                  rw [h6] at e
                  cases e
                  exact q _ H3 μ3 ((n1.trans n2).trans n3) W3.sd h8
              · rcases valV_of (k := k) k3 with ⟨h6, h7⟩ | ⟨v'', w'', h6, h7, h8⟩
                · rw [h6] at e
                  cases e
                  have n4 : Nx H3 μ3 (upd H3 a (.dK (putK vs k z))) μ3 hid := Nx.put ha W3.sd.nd (nfD k1)
                  exact q _ _ μ3 (((n1.trans n2).trans n3).trans n4) (W3.sd.put ha (.dict upd_same (by have := putG_len kvs k w; omega) (RKs.put k3 rz))) (rz.mono n4.same (List.prefix_refl _))
                · rw [h7] at hv; cases hv
        · cases e
      | _ => cases e
    · cases e
def bGet (f g h : Ev) : Ev := fun env st => (f env st).bind fun r => if isKv r.2 r.1 = true then (g env r.2).bind fun t => (h env t.2).bind fun z => (kvsOf z.2 r.1).bind fun kvs => (keyOf t.1).map fun k => ((valW kvs k).getD z.1, z.2) else none
theorem get_sem {K : PySem.W.Frag} {H : Hp} {st : Store} {μ hid : List Addr} {wx wy w0 : W} {x y v0 : V} {kvs : List (Key × W)} {k : Key} (sd : Sd K H st μ hid) (hx : RW K (mask H (μ ++ hid)) μ x wx) (hy : RW K (mask H (μ ++ hid)) μ y wy) (h0 : RW K (mask H (μ ++ hid)) μ v0 w0) (h1 : kvsOf st wx = some kvs) (h2 : keyOf wy = some k) :
    ∃ a o, x = .ref a ∧ DGet H a y o ∧ RW K (mask H (μ ++ hid)) μ (o.getD v0) ((valW kvs k).getD w0) := by
  obtain ⟨a, vs, rfl, rd, rk, hz⟩ := rd_of sd hx h1
  have := keyOf_rel hy h2
  subst this
  refine ⟨a, valV vs k, rfl, .inl ⟨vs, k, rd, rfl, rfl⟩, ?_⟩
  rcases valV_of (k := k) rk with ⟨h5, h6⟩ | ⟨v', w'', h5, h6, h7⟩
  · rw [h5, h6]; exact h0
  · rw [h5, h6]; exact h7
theorem x_get2 (hu : X.A.units + 1 < cLine) (ho : PE X o (TX X.K f)) (he : PE X e (TX X.K g)) (hf : PE X e2 (TX X.K h)) (m : M2 X o "get" apos e e2 cpos) : PE X (.Call (.Attribute o "get" apos) [e, e2] [] cpos) (TX X.K (bGet f g h)) :=
  PE.imp (pe_dget2 hu ho he hf m) fun σ H Q ⟨env, st, μ, hid, w, st', W0, e, q⟩ => by
    unfold bGet at e
    obtain ⟨⟨wx, s1⟩, h1, e⟩ := Option.bind_eq_some_iff.mp e
    split at e
    · rename_i hD
      obtain ⟨⟨wk, s2⟩, h2, e⟩ := Option.bind_eq_some_iff.mp e
      obtain ⟨⟨wz, s3⟩, h3, e⟩ := Option.bind_eq_some_iff.mp e
      obtain ⟨kvs, h4, e⟩ := Option.bind_eq_some_iff.mp e
      obtain ⟨k, h5, e⟩ := Option.map_eq_some_iff.mp e
      cases e
      refine TX.go W0 h1 fun x H1 μ1 n1 W1 rx => ?_
      obtain ⟨a, rfl, isd⟩ := isD_of W1.sd rx hD
      refine ⟨a, rfl, isd, TX.go W1 h2 fun y H2 μ2 n2 W2 ry => TX.go W2 h3 fun z H3 μ3 n3 W3 rz => ?_⟩
      obtain ⟨a', o', e1, dg, rv⟩ := get_sem W3.sd (rx.mono (n2.trans n3).same (n2.trans n3).pre) (ry.mono n3.same n3.pre) rz h4 h5
      cases e1
      exact ⟨o', dg, q _ H3 μ3 ((n1.trans n2).trans n3) W3.sd rv⟩
    · cases e
theorem x_get1 (hu : X.A.units + 1 < cLine) (ho : PE X o (TX X.K f)) (he : PE X e (TX X.K g)) (m : M1 X o "get" apos e cpos) : PE X (.Call (.Attribute o "get" apos) [e] [] cpos) (TX X.K (bGet f g (bDat .none))) :=
  PE.imp (pe_dget1 hu ho he m) fun σ H Q ⟨env, st, μ, hid, w, st', W0, e, q⟩ => by
    unfold bGet at e
    obtain ⟨⟨wx, s1⟩, h1, e⟩ := Option.bind_eq_some_iff.mp e
    split at e
    · rename_i hD
      obtain ⟨⟨wk, s2⟩, h2, e⟩ := Option.bind_eq_some_iff.mp e
      obtain ⟨⟨wz, s3⟩, h3, e⟩ := Option.bind_eq_some_iff.mp e
      obtain ⟨kvs, h4, e⟩ := Option.bind_eq_some_iff.mp e
      obtain ⟨k, h5, e⟩ := Option.map_eq_some_iff.mp e
      cases e
      cases h3
      refine TX.go W0 h1 fun x H1 μ1 n1 W1 rx => ?_
      obtain ⟨a, rfl, isd⟩ := isD_of W1.sd rx hD
      refine ⟨a, rfl, isd, TX.go W1 h2 fun y H2 μ2 n2 W2 ry => ?_⟩
      obtain ⟨a', o', e1, dg, rv⟩ := get_sem W2.sd (rx.mono n2.same n2.pre) ry (.dat .non) h4 h5
      cases e1
      exact ⟨o', dg, q _ H2 μ2 (n1.trans n2) W2.sd rv⟩
    · cases e
end
end L3
set_option Elab.async false
set_option linter.all false
set_option maxRecDepth 100000
set_option maxHeartbeats 400000
set_option autoImplicit false
/-! L3: xs[::-1] of lists and tuples. -/
namespace L3
open PySem PySem.Spec PyProof.Rows L2
section
variable {prog : Program} {w : World} {A : Around} {E : Value → Shared → Prop} {s : Shared}
theorem rv_places (n : Nat) : Builtin.Slice.slicePlaces ((n : Int) - 1) (-1) (-1) = n := by
  unfold Builtin.Slice.slicePlaces
  have h1 : ¬ ((-1 : Int) > 0) := by omega
  rw [if_neg h1]
  by_cases h : ((n : Int) - 1) > -1
  · rw [if_pos h, show (- -1 : Int) = 1 by decide, Int.ediv_one]
    omega
  · rw [if_neg h]
    omega
theorem rv_applied {sl : Addr} {t : Tok} {n : Nat} {Q : Int × Int × Nat → Shared → Prop} (hs : s.heap.IsSliceOf sl .none .none (.int (-1) t)) (h : Q ((n : Int) - 1, -1, n) s) :
    wpAny (model prog w) A (Builtin.Slice.sliceApplied (.ref sl) (pure (n : Int))) Q E s := by
  obtain ⟨os, hos, hcs, hds⟩ := id hs
  unfold Builtin.Slice.sliceApplied Builtin.Slice.sliceFields
  refine wpAny_bind (wpAny_bind (wpAny_field hos hds (x := .none) rfl (wpAny_bind (wpAny_field hos hds (x := .none) rfl (wpAny_bind (wpAny_field hos hds (x := .int (-1) t) rfl (wpAny_pure ?_)))))))
  refine wpAny_bind (slicePart_int ?_)
  show wpAny _ _ (if ((-1 : Int) == 0) = true then _ else _) _ _ s
  rw [if_neg (by decide)]
  refine wpAny_bind (slicePart_none (wpAny_bind (slicePart_none (wpAny_bind (wpAny_pure ?_)))))
  show wpAny _ _ (pure ((n : Int) - 1, (-1 : Int), Builtin.Slice.slicePlaces ((n : Int) - 1) (-1) (-1))) _ _ s
  rw [rv_places]
  exact wpAny_pure h
theorem rv_pick (xs : List Value) : ((List.range xs.length).filterMap fun (m : Nat) => xs.toArray[(((xs.length : Int) - 1) + (m : Int) * -1).toNat]?).toArray = xs.reverse.toArray := by
  congr 1
  have e : ∀ k, k ≤ xs.length → ((List.range k).filterMap fun (m : Nat) => xs.toArray[(((xs.length : Int) - 1) + (m : Int) * -1).toNat]?) = xs.reverse.take k := by
    intro k
    induction k with
    | zero => intro _; simp
    | succ k ih =>
      intro hk
      rw [List.range_succ, List.filterMap_append, ih (by omega), List.take_add_one]
      congr 1
      have e1 : (((xs.length : Int) - 1) + (k : Int) * -1).toNat = xs.length - 1 - k := by omega
      rw [List.filterMap_cons, List.filterMap_nil, e1]
      have e2 : xs.toArray[xs.length - 1 - k]? = xs.reverse[k]? := by
        rw [List.getElem?_reverse (by omega)]
        simp
      rw [e2]
      cases xs.reverse[k]? <;> rfl
  rw [e _ (Nat.le_refl _)]
  exact List.take_of_length_le (by simp)
theorem getItem_tuple_rev {t sl : Addr} {u : Tok} {xs : List Value} {Q : Value → Shared → Prop} (ht : IsTup s.heap t xs.toArray) (hs : s.heap.IsSliceOf sl .none .none (.int (-1) u))
    (h : Q (.ref s.heap.objs.size) { s with heap := s.heap.push { cls := .type "tuple", data := .seq xs.reverse.toArray } })
    (hsz : xs.length ≤ sizeLine) : wpAny (model prog w) A (getItem (.ref t) (.ref sl)) Q E s := by
  have htake : sizeOk (.seq xs.reverse.toArray) := by
    show xs.reverse.toArray.size ≤ sizeLine
    rw [List.size_toArray, List.length_reverse]
    exact hsz
  obtain ⟨os, hos, hcs, hds⟩ := id hs
  have hTs : s.TypeIs (.ref sl) "slice" := ⟨os, hos, hcs⟩
  unfold getItem
  try with_reducible refine wpAny_holding ?_
  first | refine wpAny_bind (wpAny_pure ?_) | skip
  refine wpAny_bind (wpAny_sequenceKey ht.typeIs (by decide) ?_)
  refine wpAny_bind (wpAny_callSpecial?_slot (name := Str.ofString "__getitem__") ht.typeIs PyProof.Rows.slot_tuple_getitem
    (wpAny_call_entry PyProof.Rows.slot_tuple_getitem ht.typeIs entry_tuple_getitem ?_ (args_tuple_getitem _ _)))
  show wpAny _ _ (Builtin.Tuple.tupleItemsOf (.ref t) >>= _) _ _ s
  refine wpAny_bind (tupleItemsOf_ ht ?_)
  refine wpAny_bind (wpAny_typeOf hTs ?_)
  rw [if_pos (by decide)]
  refine wpAny_bind (rv_applied (n := xs.toArray.size) hs ?_)
  show wpAny _ _ (if ((((xs.toArray.size : Int) - 1) == 0 && (-1 : Int) == 1 && xs.toArray.size == xs.toArray.size) = true) then _ else _) _ _ s
  rw [if_neg (by simp)]
  simp only [List.size_toArray]
  rw [rv_pick]
  first
    | exact wpAny_bind (m := Builtin.Tuple.tupleExact _) (wpAny_newObj_type (wpAny_pure ⟨_, rfl, wpAny_pure h⟩) htake)
    | exact wpAny_bind (m := Builtin.Tuple.tupleExact _) (wpAny_newObj_type (wpAny_bind (wpAny_pure (wpAny_pure ⟨_, rfl, wpAny_pure h⟩))) htake)
    | exact wpAny_bind (wpAny_bind (m := Builtin.Tuple.tupleExact _) (wpAny_newObj_type (wpAny_pure (wpAny_pure ⟨_, rfl, wpAny_pure h⟩)) htake))
    | exact wpAny_bind (wpAny_bind (m := Builtin.Tuple.tupleExact _) (wpAny_newObj_type (wpAny_pure ⟨_, rfl, wpAny_pure h⟩) htake))
end
section
variable {X : Cx} {a : Expr} {f : Ev}
def tRev (K : PySem.W.Frag) (te : TE) : TE := fun σ H Q => te σ H fun x H1 => (∃ a xs, x = .ref a ∧ SqL K H1 a xs ∧ ∀ p, H1 p = none → Q (.ref p) (upd H1 p (.lst xs.reverse))) ∨
  (∃ a xs, x = .ref a ∧ SqT K H1 a xs ∧ ∀ p, H1 p = none → Q (.ref p) (upd H1 p (.tup xs.reverse)))
theorem pe_rev {e : Expr} {te : TE} {k : Nat} {p1 p2 p3 pos : Pos} (he : PE X e te) : PE X (.Subscript e (.Slice none none (some (.UnaryOp .USub (.Constant (.int 1) k p1) p2)) p3) pos) (tRev X.K te) := by
  refine ⟨fun pins s σ H Q I h => ?_⟩
  refine Subscript_ (thn (he.run pins s σ H _ I h) fun v s1 ⟨x, H1, I1, r1, q1⟩ => ?_)
  have hst : PO X (some (.UnaryOp .USub (.Constant (.int 1) k p1) p2)) (tPart (tUn (rU fun i => .int (-i)) (tC (.int 1)))) := po_some (pe_un un_neg pe_int)
  refine wpAny_Slice (thn (po_none.run pins s1 σ H1 (fun o H2 => o = none ∧ H2 = H1) I1 ⟨rfl, rfl⟩) fun vl s2 ⟨l, H2, I2, pl, el, e2⟩ => ?_)
  subst el e2
  refine thn (po_none.run pins s2 σ H2 (fun o H3 => o = none ∧ H3 = H2) I2 ⟨rfl, rfl⟩) fun vu s3 ⟨u, H3, I3, pu, eu, e3⟩ => ?_
  subst eu e3
  refine thn (hst.run pins s3 σ H3 (fun o H4 => o = some (-1) ∧ H4 = H3) I3 ⟨1, rfl, -1, rfl, rfl, rfl⟩) fun vs s4 ⟨o, H4, I4, ps, eo, e4⟩ => ?_
  subst eo e4
  have I5 : Inv X pins σ H4 { s4 with heap := s4.heap.push { cls := .type "slice", data := .fields #[vl, vu, vs] } } := I4.kept (t' := s4.toks) fun b ob q => Heap.get?_push_of_some _ q
  rcases q1 with ⟨a, xs, ex, hx, q⟩ | ⟨a, xs, ex, hx, q⟩
  · subst ex
    cases r1
    obtain ⟨its, r, ht, hz⟩ := I5.list hx
    have hlen := r.length
    show wpAny (model X.prog X.w) X.A (subscriptTail e (.Slice none none (some (.UnaryOp .USub (.Constant (.int 1) k p1) p2)) p3) (.ref a) (.ref s4.heap.objs.size)) (EP X pins σ Q) X.xe { s4 with heap := s4.heap.push { cls := .type "slice", data := .fields #[vl, vu, vs] } }
    refine tail_any (ops := [.ref a, .ref s4.heap.objs.size]) ht.isList.typeIs (PySem.slot_list_getitem.lookup) ?_ (by with_unfolding_all rfl)
    refine wpAny_getItem_list_slice ht.isList (Heap.IsSliceOf.new _ vl vu vs) pl pu ps (by decide) ?_ (by rw [List.size_toArray]; omega)
    rw [PySem.W.krv_pick]
    refine ⟨.ref _, _, I5.laid (t' := s4.toks) (o := .lst xs.reverse) (fun b ob q => Heap.get?_push_of_some _ q) (Nat.le_refl _) ?_, rfl, q _ (I5.hok.fresh (Nat.le_refl _))⟩
    exact ⟨by rw [List.length_reverse]; exact hz, _, 0, r.reverse, Heap.get?_push_size _ rfl⟩
  · subst ex
    cases r1
    obtain ⟨its, r, ht, hz⟩ := I5.tuple hx
    have hlen := r.length
    cases pl
    cases pu
    cases ps with
    | int i tk =>
    show wpAny (model X.prog X.w) X.A (subscriptTail e (.Slice none none (some (.UnaryOp .USub (.Constant (.int 1) k p1) p2)) p3) (.ref a) (.ref s4.heap.objs.size)) (EP X pins σ Q) X.xe { s4 with heap := s4.heap.push { cls := .type "slice", data := .fields #[.none, .none, .int (-1) tk] } }
    refine tail_any (ops := [.ref a, .ref s4.heap.objs.size]) ht.typeIs (PyProof.Rows.slot_tuple_getitem.lookup) ?_ (by with_unfolding_all rfl)
    refine getItem_tuple_rev ht (Heap.IsSliceOf.new _ _ _ _) ?_ (by omega)
    refine ⟨.ref _, _, I5.laid (t' := s4.toks) (o := .tup xs.reverse) (fun b ob q => Heap.get?_push_of_some _ q) (Nat.le_refl _) ?_, rfl, q _ (I5.hok.fresh (Nat.le_refl _))⟩
    exact ⟨by rw [List.length_reverse]; exact hz, _, r.reverse, IsTup.new _ _⟩
theorem rvAux {K : PySem.W.Frag} {M : Hp} : ∀ {vs va : List V} {ds da : List PyData}, RDs K M vs ds → RDs K M va da → RDs K M (vs.reverseAux va) (ds.reverseAux da)
  | _, _, _, _, .nil, s => s
  | _, _, _, _, .cons a b, s => (rvAux b (.cons a s) :)
theorem RDs.rev {K : PySem.W.Frag} {M : Hp} {vs : List V} {ds : List PyData} (r : RDs K M vs ds) : RDs K M vs.reverse ds.reverse := rvAux r .nil
def opRev : W → Store → Option (W × Store)
  | .dat (.tuple ds), st => some (.dat (.tuple ds.reverse), st)
  | .dat (.list ds), st => some (.dat (.list ds.reverse), st)
  | .loc n, st => match st[n]? with
    | some (.list ws) => match ws.mapM datOf with
      | some ds => some (.dat (.list ds.reverse), st)
      | none => none
    | _ => none
  | _, _ => none
def bRev (f : Ev) : Ev := fun env st => (f env st).bind fun r => opRev r.1 r.2
theorem x_rev {k : Nat} {p1 p2 p3 pos : Pos} (ha : PE X a (TX X.K f)) : PE X (.Subscript a (.Slice none none (some (.UnaryOp .USub (.Constant (.int 1) k p1) p2)) p3) pos) (TX X.K (bRev f)) := by
  refine PE.imp (pe_rev ha) fun σ H Q ⟨env, st, μ, hid, w, st', W0, e, q1⟩ => ?_
  unfold bRev at e
  obtain ⟨⟨wx, s1⟩, h1, e⟩ := Option.bind_eq_some_iff.mp e
  refine TX.go W0 h1 fun vx H1 μ1 n1 W1 rx => ?_
  have sd := W1.sd
  have q : Out X.K H1 μ1 hid w st' Q := fun v H' μ' n s r => q1 v H' μ' (n1.trans n) s r
  dsimp only at e
  unfold opRev at e
  split at e
  · cases e
    cases rx with
    | dat rx => cases rx with
      | tup h z rr => exact .inr ⟨_, _, rfl, sameT mask_le h, fun p hp => q.new sd hp (.dat (RD.tupNew sd hp (by rw [List.length_reverse]; exact z) rr.rev))⟩
  · cases e
    cases rx with
    | dat rx => cases rx with
      | lst h z rr => exact .inl ⟨_, _, rfl, SqL.of (mask_le _ _ h), fun p hp => q.new sd hp (.dat (RD.lstNew sd hp (by rw [List.length_reverse]; exact z) rr.rev))⟩
  · split at e
    · rename_i ws hw
      split at e
      · rename_i ds hd
        cases e
        cases rx with
        | loc ha => cases sd.at hw ha with
          | list h2 h3 h4 =>
            have hn := mapM_len hd
            exact .inl ⟨_, _, rfl, SqL.of h2, fun p hp => q.new sd hp (.dat (RD.lstNew sd hp (by rw [List.length_reverse]; omega) ((h4.dat hd).rev)))⟩
      · cases e
    · cases e
  · cases e
end
end L3
set_option Elab.async false
set_option linter.all false
set_option maxRecDepth 100000
set_option maxHeartbeats 400000
set_option autoImplicit false
/-! L3: dict(a list of pairs), dict(d), d.update(e). -/
namespace L3
open PySem PySem.Spec PyProof.Rows L2
section
variable {X : Cx} {o e : Expr} {f g : Ev} {pos apos cpos : Pos}
def pairOf : PyData → Option (Key × W)
  | .tuple [k, v] => (keyOf (.dat k)).map fun k => (k, .dat v)
  | _ => none
theorem pairs_of {K : PySem.W.Frag} {M : Hp} {μ : List Addr} : ∀ {vs : List V} {ds : List PyData} {kvs : List (Key × W)}, RDs K M vs ds → ds.mapM pairOf = some kvs →
    ∃ (ps : List Addr) (ks : List (Key × V)), vs = ps.map V.ref ∧ Paired (fun p kv => SqT K M p [kV kv.1, kv.2]) ps ks ∧ RKs K M μ ks kvs
  | _, _, _, .nil, e => by cases (show some [] = some _ from e); exact ⟨[], [], rfl, .nil, .nil⟩
  | _, _, _, .cons (d := d) (ds := ds) r t, e => by
    rw [List.mapM_cons] at e
    obtain ⟨p, h1, e⟩ := Option.bind_eq_some_iff.mp e
    obtain ⟨ps', h2, e⟩ := Option.bind_eq_some_iff.mp e
    cases e
    obtain ⟨as, ks, h3, h4, h5⟩ := pairs_of (μ := μ) t h2
    unfold pairOf at h1
    split at h1
    · rename_i k v
      obtain ⟨ky, h6, h7⟩ := Option.map_eq_some_iff.mp h1
      cases h7
      cases r with
      | @tup a xs _ ht hz rr =>
        cases rr with
        | cons r1 r2 => cases r2 with
          | cons r2 r3 => cases r3 with
            | nil =>
              rename_i v1 v2
              have := keyOf_rel (K := K) (M := M) (μ := μ) (.dat r1) h6
              subst this
              exact ⟨a :: as, (ky, v2) :: ks, by rw [h3]; rfl, .cons ht h4, .cons ⟨rfl, .dat r2⟩ h5⟩
    · cases h1
def opDict : OpN
  | [.dat (.list ds)], st => (ds.mapM pairOf).map fun kvs => (.loc st.length, st ++ [.dict (mergeG [] kvs)])
  | [.loc n], st => (kvsOf st (.loc n)).map fun kvs => (.loc st.length, st ++ [.dict kvs])
  | _, _ => none
theorem mapM_length {α β : Type} {f : α → Option β} : ∀ {xs : List α} {ys : List β}, xs.mapM f = some ys → ys.length = xs.length
  | [], _, e => by cases (show some [] = some _ from e); rfl
  | x :: xs, _, e => by
    rw [List.mapM_cons] at e
    obtain ⟨p, h1, e⟩ := Option.bind_eq_some_iff.mp e
    obtain ⟨ps', h2, e⟩ := Option.bind_eq_some_iff.mp e
    cases e
    rw [List.length_cons, List.length_cons, mapM_length h2]
theorem o_dict (hc : X.calm = true) : CallR X (.type "dict") (TN X.K opDict) := by
  intro pins s σ H xs us Q I r ⟨st, μ, hid, ws, w, st', sd, hx, e, q⟩
  unfold opDict at e
  split at e
  · rename_i ds st
    obtain ⟨kvs, h1, h2⟩ := Option.map_eq_some_iff.mp e
    cases h2
    obtain ⟨x, rfl, rx⟩ := rw1 hx
    cases rx with
    | dat rx => cases rx with
      | lst hl hz rr =>
        obtain ⟨ps, ks, h3, h4, h5⟩ := pairs_of (μ := μ) rr h1
        subst h3
        refine call_dictP hc pins s σ H _ us Q I r ⟨_, ps, ks, rfl, SqL.of (mask_le _ _ hl), Paired.mapP h4 fun _ _ z => sameT mask_le z, fun p hp => ?_⟩
        have hn := mapM_length h1
        refine q.cell sd hp (.dict upd_same (by have := mergeG_len kvs []; simp at this; omega) ?_)
        exact RKs.mono (fun _ _ e => e) (List.prefix_append _ _) (RKs.merge h5 .nil)
  · rename_i n st
    obtain ⟨kvs, h1, h2⟩ := Option.map_eq_some_iff.mp e
    cases h2
    obtain ⟨x, rfl, rx⟩ := rw1 hx
    obtain ⟨a, vs, rfl, rd, rk, hz⟩ := rd_of sd rx h1
    refine call_dictD pins s σ H _ us Q I r ⟨a, vs, rfl, rd, fun p hp => ?_⟩
    exact q.cell sd hp (.dict upd_same hz (RKs.mono (fun _ _ e => e) (List.prefix_append _ _) rk))
  · cases e
/-! ### d.update(e) -/
def opUpd : W → OpN
  | .loc n, [.loc m], st => if n = m then none else (dictAt st n).bind fun kvs => (dictAt st m).bind fun ds => if kvs.length + ds.length ≤ sizeLine then some (.dat .none, st.set n (.dict (mergeG kvs ds))) else none
  | _, _, _ => none
theorem m_upd : MtR X "dict.update" (TM X.K opUpd) := by
  intro pins s σ H x xs v us Q I rx rxs ⟨st, μ, hid, wx, ws, w, st', sd, hx, hxs, e, q⟩
  unfold opUpd at e
  split at e
  · rename_i n m st
    split at e
    · cases e
    · rename_i hnm
      obtain ⟨kvs, h1, e⟩ := Option.bind_eq_some_iff.mp e
      obtain ⟨ds, h2, e⟩ := Option.bind_eq_some_iff.mp e
      split at e
      · rename_i hz
        cases e
        obtain ⟨z, rfl, rz⟩ := rw1 hxs
        cases hx with
        | @loc a _ ha =>
        cases rz with
        | @loc d _ hd =>
        cases sd.at (dictAt_some h1) ha with
        | @dict vs _ k1 k2 k3 =>
        cases sd.at (dictAt_some h2) hd with
        | @dict es _ l1 l2 l3 =>
        have n1 : _ = _ := Paired.length k3
        have n2 : _ = _ := Paired.length l3
        have hne : a ≠ d := by
          intro he
          subst he
          have nd := (List.nodup_append.mp sd.nd).1
          exact hnm ((List.getElem?_inj (List.getElem?_eq_some_iff.mp ha).1 nd).mp (ha.trans hd.symm))
        refine mt_upd pins s σ H _ _ v us Q I rx rxs ⟨a, d, vs, es, rfl, rfl, hne, k1, l1, by omega, ?_⟩
        have nx : Nx H μ (upd H a (.dK (mergeG vs es))) μ hid := Nx.put ha sd.nd (nfD k1)
        exact q _ _ μ nx (sd.put ha (.dict upd_same (by have := mergeG_len ds kvs; omega) (RKs.merge l3 k3))) (.dat .non)
      · cases e
  · cases e
def bMethD (o : W → OpN) (f : Ev) (g : Ea) : Ev := fun env st => (f env st).bind fun r => if isD r.2 r.1 = true then (g env r.2).bind fun t => o r.1 t.1 t.2 else none
theorem dm_sem {o : W → OpN} {t : Ea} {K : PySem.W.Frag} {σ : L2.St} {H : Hp} {Q : VK} (h : TX K (bMethD o f t) σ H Q) : tBM K "dict" (TM K o) (TX K f) (TAx K t) σ H Q := by
  obtain ⟨env, st, μ, hid, w, st', W0, e, q⟩ := h
  unfold bMethD at e
  obtain ⟨⟨wx, s1⟩, h1, e⟩ := Option.bind_eq_some_iff.mp e
  split at e
  · rename_i hl
    obtain ⟨⟨ws, s2⟩, h2, e⟩ := Option.bind_eq_some_iff.mp e
    refine TX.go W0 h1 fun vx H1 μ1 n1 W1 rx => ?_
    have rx0 := rx
    have ty : tyV K "dict" vx H1 := by
      unfold isD at hl
      dsimp only at hl
      split at hl
      · split at hl
        · rename_i hw
          cases rx with
          | loc ha => cases W1.sd.at hw ha with | dict h3 _ _ => exact .inr (.inr (.inl ⟨rfl, .inl ⟨_, h3⟩⟩))
        · cases hl
      · cases hl
    exact ⟨ty, TAx.go W1 h2 fun vs H2 μ2 n2 W2 rs => ⟨s2, μ2, hid, wx, ws, w, st', W2.sd, rx0.mono n2.same n2.pre, rs, e, fun v H' μ' n s r => q v H' μ' ((n1.trans n2).trans n) s r⟩⟩
  · cases e
theorem x_upd {es : List Expr} {t : Ea} (ho : PE X o (TX X.K f)) (ha : PA X (e :: es) (TAx X.K t))
    (hbase : attributeBase o "update" X.env (eval o X.env) = eval o X.env := by rfl)
    (hfew : ((backTo cpos (starEach (e :: es) X.env)).all (fun x => !x.1) && (backToKw cpos (keywordEach [] X.env)).all (fun x => x.1.isSome) && decide ((e :: es).length + ([] : List Keyword).length + (if ([] : List Keyword).isEmpty then 0 else 1) < 30)) = true := by rfl)
    (hline : (apos.endLine == cpos.line) = true := by rfl) (hs : starEach (e :: es) X.env = (false, eval e X.env) :: starEach es X.env := by rfl) (hplain : (backTo cpos (starEach es X.env)).any (·.1) = false := by rfl) :
    PE X (.Call (.Attribute o "update" apos) (e :: es) [] cpos) (TX X.K (bMethD opUpd f t)) :=
  PE.imp (pe_bm PySem.F.plainAttrs_dict PySem.F.slot_dict_update PySem.F.type_dict_update m_upd ho ha hbase hfew hline hs hplain) fun σ H Q h => dm_sem h
end
end L3
set_option Elab.async false
set_option linter.all false
set_option maxRecDepth 100000
set_option maxHeartbeats 4000000
set_option autoImplicit false
/-! L3: set(a list of ints). The steps are those of the library's rule for tuples, walked over a list. -/
namespace L3
open PySem PySem.Spec PyProof.Rows L2
section
variable {P : Program} {w : World} {A : Around} {E : Value → Shared → Prop} {s : Shared}
theorem call_set_listI {l : Addr} {items : Array Value} (ns : List Int) {Q : Value → Shared → Prop} (hh : A.handled = none) (hl : s.heap.IsList l items) (hit : IntsAre items.toList ns) (hb : ns.length + 1 < scanBound)
    (h : ∀ (h' : Heap) (tk c : Nat), SetR w h' s.heap.objs.size (fun j => decide (j ∈ ns)) c → c ≤ ns.length → (∀ b o, s.heap.get? b = some o → h'.get? b = some o) → Q (.ref s.heap.objs.size) { s with heap := h', toks := tk }) :
    wpAny (model P w) A (call (.type "set") [.ref l]) Q E s := by
  have hisz : items.size = ns.length := by
    have q := IntsAre.length hit
    rw [Array.length_toList] at q
    exact q
  obtain ⟨c, tl, hmro⟩ := F.called_set.mro
  have hmade := F.called_set.made
  have hsub := F.called_set.sub
  refine wpAny_call (codeAny_of_tree ?_)
  show wpAny _ _ (callAny (.type "set") _) _ _ _
  refine wpAny_pure ⟨Code.quiet_builtin _ (by decide +kernel), codeAny_builtin F.entry_type_call ?_⟩
  rw [Around.under_plain (weight_type_call_type "set" [.ref l] []) rfl]
  have h1 := F.called_set.notType
  have h2 := F.called_set.canCreate
  have hct := F.typeCall_set_1 (.ref l)
  repeat (any_goals (first | assumption | wp_step))

  refine codeAny_mono (code_set_led1 (.ref l) (E := E) (Q₁ := fun obj s₁ => obj = .ref s.heap.objs.size ∧ s₁ = { s with heap := s.heap.push { cls := .type "set", dict := none, data := .set #[] 0 (.fresh 0 0 (!w.params.followText "set-order")) } }) ⟨rfl, rfl⟩) fun r s₁ hr => ?_
  cases r with
  | error e => exact hr
  | ok fl =>
    cases fl with
    | ret obj =>
      obtain ⟨rfl, rfl⟩ := hr
      have hS : (s.heap.push { cls := .type "set", dict := none, data := .set #[] 0 (.fresh 0 0 (!w.params.followText "set-order")) }).get? s.heap.objs.size = some { cls := .type "set", dict := none, data := .set #[] 0 (.fresh 0 0 (!w.params.followText "set-order")) } := Heap.get?_push_size _ rfl
      have hT : Shared.TypeIs { s with heap := s.heap.push { cls := .type "set", dict := none, data := .set #[] 0 (.fresh 0 0 (!w.params.followText "set-order")) } } (.ref s.heap.objs.size) "set" := ⟨_, hS, rfl⟩
      have hli := F.called_set.init.lookup
      have hbi := F.called_set.init.bind (.ref s.heap.objs.size)
      repeat (any_goals (first | assumption | wp_step))

      refine codeAny_mono (codeAny_call_builtin (R := wants (fun r s₂ => r = .none ∧ ∃ h' tk c, s₂ = { s with heap := h', toks := tk } ∧ SetR w h' s.heap.objs.size (fun j => decide (j ∈ ns)) c ∧ c ≤ ns.length ∧
          (∀ b o, s.heap.get? b = some o → h'.get? b = some o)) E) F.called_set.init.plain F.entry_set_init (check_set_init_1 hT ?_)) fun r₂ s₂ hr₂ => ?_
      · obtain ⟨ol, hol, hcl, nl, hdl⟩ := hl
        obtain ⟨ocls, odict, odata, oslots⟩ := ol
        simp only at hcl hdl
        subst hcl; subst hdl
        have hol' : (s.heap.push { cls := .type "set", dict := none, data := .set #[] 0 (.fresh 0 0 (!w.params.followText "set-order")) }).get? l = some { cls := .type "list", dict := odict, data := .seq items nl, slots := oslots } := Heap.get?_push_of_some _ hol
        have hsls := F.sub_list_set
        have hslf := F.sub_list_frozenset
        have hne : (Value.type "list" == Value.type "dict") = false := by decide
        have hl1 : (s.heap.push { cls := .type "set", dict := none, data := .set #[] 0 (.fresh 0 0 (!w.params.followText "set-order")) }).IsList l items := ⟨_, hol', rfl, nl, rfl⟩
        unfold Builtin.«set.__init__» noKeywords Builtin.Frozenset.updateFrom
        generalize hPI : pyIter = PI
        wp_walk
        subst hPI

        refine wpAny_pyIter_list hl1 ?_
        refine wpAny_bind (wpAny_runValue ?_)
        have hlS : l < s.heap.objs.size := Heap.lt_size hol
        have hh3 : A.in1.in1.in1.handled = none := by simp [hh]
        have hz1 : (s.heap.push { cls := .type "set", dict := none, data := .set #[] 0 (.fresh 0 0 (!w.params.followText "set-order")) }).objs.size = s.heap.objs.size + 1 := Heap.size_push ..
        have hneI : l ≠ (s.heap.push { cls := .type "set", dict := none, data := .set #[] 0 (.fresh 0 0 (!w.params.followText "set-order")) }).objs.size := by
          rw [Heap.size_push]; exact Nat.ne_of_lt (Nat.lt_succ_of_lt hlS)
        have hSf : s.heap.objs.size ∉ [(s.heap.push { cls := .type "set", dict := none, data := .set #[] 0 (.fresh 0 0 (!w.params.followText "set-order")) }).objs.size, l] := by
          rw [Heap.size_push]; simp only [List.mem_cons, List.mem_singleton, List.not_mem_nil, or_false, not_or]
          exact ⟨Nat.ne_of_lt (Nat.lt_succ_self _), Nat.ne_of_gt hlS⟩
        have hval : ∀ (i : Nat) (v : Value), items[i]? = some v → ∃ k t, ns[i]? = some k ∧ v = .int k t := fun i v hv => by
          have hi : i < ns.length := by rw [← hisz]; exact (Array.getElem?_eq_some_iff.mp hv).1
          obtain ⟨t, e⟩ := PyProof.Rows.IntsAre.int_at hit i v (by rw [Array.getElem?_toList]; exact hv)
          refine ⟨ns[i], t, List.getElem?_eq_getElem hi, ?_⟩
          rw [e, List.getD_eq_getElem?_getD, List.getElem?_eq_getElem hi] <;> rfl
        refine set_update_ints ((Walks.list hh3 _ l hneI items).toS) s.heap.objs.size
          hSf ns hisz hb hval (items.size - 0) 0 _ (by omega) (Nat.zero_le _)
          ⟨⟨_, Heap.get?_push_size _ rfl, rfl, rfl⟩, (hl1.push _)⟩ ?hS0 ?hR
        case hS0 =>
          have hget : ((s.heap.push { cls := .type "set", dict := none, data := .set #[] 0 (.fresh 0 0 (!w.params.followText "set-order")) }).push { cls := .type "list_iterator", data := .fields #[.ref l, .int 0 0] }).get? s.heap.objs.size
              = some { cls := .type "set", dict := none, data := .set #[] 0 (.fresh 0 0 (!w.params.followText "set-order")) } := Heap.get?_push_of_some _ hS
          exact ⟨0, Nat.le_refl 0, setR_new_at hget⟩
        case hR =>
          intro s' c' hm hc' hS'
          obtain ⟨h', g2, d', tk', os'⟩ := s'
          have eg : g2 = s.gens := hm.gens
          have ed : d' = s.drawn := hm.drawn
          have eo : os' = s.os := hm.os
          subst eg; subst ed; subst eo
          show wpAny _ _ _ _ _ _
          refine wpAny_pure ?_
          show wpAny _ _ (ret Value.none) _ _ _
          rw [hisz] at hc'
          refine wpAny_pure ⟨rfl, h', tk', c', rfl, hS', hc', fun b o e => ?_⟩
          have hb0 : b < s.heap.objs.size := Heap.lt_size e
          have hb1 : b ≠ s.heap.objs.size := Nat.ne_of_lt hb0
          have hb2 : b ≠ (s.heap.push { cls := .type "set", dict := none, data := .set #[] 0 (.fresh 0 0 (!w.params.followText "set-order")) }).objs.size := by
            rw [Heap.size_push]; exact Nat.ne_of_lt (Nat.lt_succ_of_lt hb0)
          exact hm.heap b o (by simp only [List.mem_cons, List.mem_singleton, List.not_mem_nil, or_false, not_or]; exact ⟨hb1, hb2⟩) (Heap.get?_push_of_some _ (Heap.get?_push_of_some _ e))

      · cases r₂ with
        | error e => exact hr₂
        | ok fl₂ =>
          cases fl₂ with
          | ret r =>
            obtain ⟨rfl, h', tk, c', rfl, hS', hc', hk'⟩ := hr₂
            repeat (any_goals (first | assumption | wp_step))
            exact h _ _ _ hS' hc' hk'
          | _ => exact hr₂.elim
    | _ => exact hr.elim

end
end L3
set_option Elab.async false
set_option linter.all false
set_option maxRecDepth 100000
set_option maxHeartbeats 400000
set_option autoImplicit false
/-! L3: sorted(set(list)), list + list with cells, min and max of tuples. -/
namespace L3
open PySem PySem.Spec PyProof.Rows L2
section
variable {X : Cx} {a b : Expr} {pos : Pos} {f g : Ev}
/-- the items of a list of data, a cell or not -/
def lstOf (st : Store) : W → Option (List PyData)
  | .dat (.list ds) => some ds
  | .loc n => match st[n]? with
    | some (.list ws) => ws.mapM datOf
    | _ => none
  | _ => none
theorem lst_of {K : PySem.W.Frag} {H : Hp} {st : Store} {μ hid : List Addr} (sd : Sd K H st μ hid) {v : V} {w : W} {ds : List PyData} (r : RW K (mask H (μ ++ hid)) μ v w) (e : lstOf st w = some ds) :
    ds.length ≤ sizeLine ∧ ∃ a xs, v = .ref a ∧ H a = some (.lst xs) ∧ RDs K (mask H (μ ++ hid)) xs ds := by
  unfold lstOf at e
  split at e
  · cases e
    cases r with
    | dat r => cases r with
      | lst h z rr => exact ⟨z, _, _, rfl, mask_le _ _ h, rr⟩
  · split at e
    · rename_i ws hw
      cases r with
      | loc ha => cases sd.at hw ha with
        | list h2 h3 h4 =>
          have hn := mapM_len e
          exact ⟨by omega, _, _, rfl, h2, h4.dat e⟩
    · cases e
  · cases e
def opAddL : Op2 := fun x y st => (lstOf st x).bind fun ds => (lstOf st y).bind fun es => if ds.length + es.length ≤ sizeLine then some (.dat (.list (ds ++ es)), st) else none
theorem o_addL : OpR X (binaryOp .Add) (T2 X.K opAddL) := by
  intro pins s σ H x y v u Q I rx ry ⟨st, μ, hid, wx, wy, w, st', sd, hx, hy, e, q⟩
  unfold opAddL at e
  obtain ⟨ds, h1, e⟩ := Option.bind_eq_some_iff.mp e
  obtain ⟨es, h2, e⟩ := Option.bind_eq_some_iff.mp e
  split at e
  · rename_i hz
    cases e
    obtain ⟨_, a1, xs, rfl, ax, rxs⟩ := lst_of sd hx h1
    obtain ⟨_, a2, ys, rfl, ay, rys⟩ := lst_of sd hy h2
    have l1 := rxs.length
    have l2 := rys.length
    exact op_cat pins s σ H _ _ v u Q I rx ry ⟨_, _, _, _, rfl, rfl, ax, ay, by omega, fun p hp => q.new sd hp (.dat (RD.lstNew sd hp (by rw [List.length_append]; exact hz) (rxs.append rys)))⟩
  · cases e
def opSortSetL : W → Store → Option (W × Store) := fun w st => (lstOf st w).bind fun ds => (ds.mapM intOf).bind fun ns => if ns.length < 64 then some (.dat (.list ((sset ns).map .int)), st) else none
theorem x_sortSetL {p p2 p3 p4 : Pos} (hc : X.calm = true) (hg : Gl X "sorted") (hm : X.mg "sorted" = none) (hg2 : Gl X "set") (hm2 : X.mg "set" = none) (ha : PE X a (TX X.K f))
    (na : starEach [a] X.env = (false, eval a X.env) :: starEach [] X.env := by rfl) : PE X (.Call (.Name "sorted" p) [.Call (.Name "set" p2) [a] [] p3] [] p4) (TX X.K (b1 opSortSetL f)) := by
  refine ⟨fun pins s σ H Q I h => ?_⟩
  refine Call_ (ld_blt I hg hm PyProof.Rows.boot_sorted ?_)
  refine PyProof.Rows.callWith_builtin1 (PyProof.Rows.args_cons ?_ rfl) rfl rfl
  refine Call_ (ld_blt I hg2 hm2 PyProof.Rows.boot_set ?_)
  refine PyProof.Rows.callWith_type1 (PyProof.Rows.args_cons (thn (ha.run pins s σ H _ I (TX.one h)) fun v s1 ⟨x, H1, I1, r1, q1⟩ => PyProof.Rows.args_nil ?_) na) na rfl
  obtain ⟨st, μ, hid, wx, w, st', sd, rx, e, q⟩ := q1
  unfold opSortSetL at e
  obtain ⟨ds, h1, e⟩ := Option.bind_eq_some_iff.mp e
  obtain ⟨ns, hns, e⟩ := Option.bind_eq_some_iff.mp e
  split at e
  · rename_i hl
    cases e
    obtain ⟨_, a1, xs, rfl, ax, rr⟩ := lst_of sd rx h1
    cases r1
    have := rr.ints hns
    subst this
    obtain ⟨its, rv, pl, hz⟩ := I1.list (SqL.of ax)
    refine call_set_listI ns (I1.ok.hd hc) (show s1.heap.IsList _ its.toArray from pl.isList) (by simpa using rv.ints) (by unfold scanBound; omega) fun h' tk c R hcn hk => ?_
    refine PyProof.Rows.args_nil ?_
    have I2 : Inv X pins σ H1 { s1 with heap := h', toks := tk } := I1.kept hk
    have R2 : SetR X.w ({ s1 with heap := h', toks := tk } : Shared).heap s1.heap.objs.size (fun j => decide (j ∈ ns)) c := R
    generalize ({ s1 with heap := h', toks := tk } : Shared) = s2 at R2 I2 ⊢
    refine sorted_set R2 (I2.ok.hd hc) (by omega) fun s' p out c' ns' k g' o' hp hg' hi hs hm hlen => ?_
    have hn : H1 p = none := I2.hok.fresh hp
    have en : ns' = sset ns := sorted_unique hs (sset_sorted ns) fun z => by rw [hm z, mem_sset]; simp
    subst en
    have hlen2 : ((sset ns).map V.int).length ≤ sizeLine := by rw [List.length_map]; have := sset_len ns; exact sz1000 (by omega)
    have J : Inv X pins σ (upd H1 p (.lst ((sset ns).map V.int))) { s2 with heap := s'.heap, gens := s'.gens, drawn := s'.drawn, toks := s'.toks } :=
      I2.call (ch := []) (Un.laid k hp hn) (I2.hok.laid k hp ⟨hlen2, out.toList, c', vals_of_ints hi, hg'⟩) (by rw [g']; exact I2.bare) (fun _ z => nomatch z)
    have e' : s' = { s2 with heap := s'.heap, gens := s'.gens, drawn := s'.drawn, toks := s'.toks } := by
      cases s'
      cases s2
      cases o'
      rfl
    rw [e']
    exact ⟨.ref p, _, J, rfl, q.new sd hn (.dat (RD.lstNew sd hn (by rw [List.length_map]; have := sset_len ns; exact sz1000 (by omega)) (rds_ints _)))⟩
  · cases e
/-! ### min, max of a tuple of ints -/
theorem reads_ints {h : Heap} : ∀ {us : List Value} {ns : List Int}, IntsAre us ns → ReadsAll h us (ns.map .int) []
  | _, _, .nil => .nil
  | _, _, .cons n t r => ReadsAll.cons (as := []) (bs := []) (.int n t) (reads_ints r)
theorem alike_ints (ns : List Int) : PySem.W.AlikeAll (ns.map PyData.int) := by
  refine ⟨fun x hx y hy => ?_, fun x hx => ?_⟩
  · obtain ⟨i, _, rfl⟩ := List.mem_map.mp hx
    obtain ⟨j, _, rfl⟩ := List.mem_map.mp hy
    rfl
  · obtain ⟨i, _, rfl⟩ := List.mem_map.mp hx
    intro z; cases z
theorem depth_ints : ∀ ns : List Int, PyData.depthAll (ns.map PyData.int) ≤ 1
  | [] => by simp [PyData.depthAll]
  | n :: ns => by
    have := depth_ints ns
    rw [List.map_cons]
    simp only [PyData.depthAll, PyData.depth]
    omega
def opMinT : OpN
  | [.dat (.tuple ds)], st => (ds.mapM intOf).bind fun ns => match ns with
    | [] => none
    | n :: ns => some (.dat (.int (ns.foldl min n)), st)
  | _, _ => none
def opMaxT : OpN
  | [.dat (.tuple ds)], st => (ds.mapM intOf).bind fun ns => match ns with
    | [] => none
    | n :: ns => some (.dat (.int (ns.foldl max n)), st)
  | _, _ => none
theorem o_minT (hc : X.calm = true) (hu : X.A.units + 100 < cLine) : CallR X (.builtin "min") (TN X.K opMinT) := by
  intro pins s σ H xs us Q I r ⟨st, μ, hid, ws, w, st', sd, hx, e, q⟩
  unfold opMinT at e
  split at e
  · obtain ⟨x, rfl, rx⟩ := rw1 hx
    obtain ⟨ns, hns, e⟩ := Option.bind_eq_some_iff.mp e
    split at e
    · cases e
    · rename_i n ns
      cases e
      cases rx with
      | dat rx => cases rx with
        | tup hq _ rr =>
          have := rr.ints hns
          subst this
          obtain ⟨u, rfl, ru⟩ := vals1 r
          cases ru
          obtain ⟨its, rv, pl, hz⟩ := I.tuple (sameT mask_le hq)
          have hd := depth_ints (n :: ns)
          refine PySem.W.min_tuple_data (I.ok.hd hc) (show s.heap.IsTuple _ its.toArray from pl) (x := .int n) (xs := ns.map .int) (as := []) (by simpa using reads_ints rv.ints) (alike_ints (n :: ns)) (by
            have e1 : (PyData.int n :: ns.map PyData.int) = (n :: ns).map PyData.int := rfl
            rw [e1]; omega) fun i v h' tk bs hv hr hk => ?_
          rw [PySem.W.minD_ints] at hr
          cases hr
          exact ⟨.int _, H, I.kept hk, ⟨_, rfl⟩, q.here sd (.dat (.int _))⟩
  · cases e
theorem o_maxT (hc : X.calm = true) (hu : X.A.units + 100 < cLine) : CallR X (.builtin "max") (TN X.K opMaxT) := by
  intro pins s σ H xs us Q I r ⟨st, μ, hid, ws, w, st', sd, hx, e, q⟩
  unfold opMaxT at e
  split at e
  · obtain ⟨x, rfl, rx⟩ := rw1 hx
    obtain ⟨ns, hns, e⟩ := Option.bind_eq_some_iff.mp e
    split at e
    · cases e
    · rename_i n ns
      cases e
      cases rx with
      | dat rx => cases rx with
        | tup hq _ rr =>
          have := rr.ints hns
          subst this
          obtain ⟨u, rfl, ru⟩ := vals1 r
          cases ru
          obtain ⟨its, rv, pl, hz⟩ := I.tuple (sameT mask_le hq)
          have hd := depth_ints (n :: ns)
          refine PySem.W.max_tuple_data (I.ok.hd hc) (show s.heap.IsTuple _ its.toArray from pl) (x := .int n) (xs := ns.map .int) (as := []) (by simpa using reads_ints rv.ints) (alike_ints (n :: ns)) (by
            have e1 : (PyData.int n :: ns.map PyData.int) = (n :: ns).map PyData.int := rfl
            rw [e1]; omega) fun i v h' tk bs hv hr hk => ?_
          rw [PySem.W.maxD_ints] at hr
          cases hr
          exact ⟨.int _, H, I.kept hk, ⟨_, rfl⟩, q.here sd (.dat (.int _))⟩
  · cases e
end
end L3
set_option Elab.async false
set_option linter.all false
set_option maxRecDepth 100000
set_option maxHeartbeats 400000
set_option autoImplicit false
/-! L3: tuple * int. -/
namespace L3
open PySem PySem.Spec PyProof.Rows L2
theorem tuple_mul0 (l : Addr) (items : Array Value) (n : Nat) (dd : Option Addr) (sl : Array (Option Value)) (x : Int) (u : Tok) (c0 : (decide (x < -(2 ^ 63)) || decide (x ≥ 2 ^ 63)) = false) (c1 : (items.isEmpty || x == 1) = false) (c2 : (decide (x ≤ 0) || items.isEmpty) = true) :
    Meets (Builtin.«tuple.__mul__» ⟨[.ref l, .int x u], []⟩) (fun _ R s => s.heap.get? l = some { cls := .type "tuple", dict := dd, data := .seq items n, slots := sl } ∧
      R (.ok (.ret (Value.ref s.heap.objs.size))) { s with heap := s.heap.push { cls := Value.type "tuple", data := Data.seq #[] }, toks := s.toks }) :=
  .of_wp fun prog w A R s h => by
    obtain ⟨hp, g, d, tk, os⟩ := s
    obtain ⟨hl, h⟩ := h
    have f1 := AutoSeq1.idx_int
    wp_walk using wpAny_loadPart' hl
    repeat (first
      | (refine wpAny_ite_false (decide_eq_false (by rw [c0]; exact Bool.false_ne_true)) ?_; wp_walk using wpAny_loadPart' hl)
      | (refine wpAny_ite_false (decide_eq_false (by rw [c1]; exact Bool.false_ne_true)) ?_; wp_walk using wpAny_loadPart' hl)
      | (refine wpAny_ite_true (decide_eq_true (by rw [c2])) ?_; wp_walk using wpAny_loadPart' hl))
    exact ⟨_, rfl, h⟩
theorem tuple_mul1 (l : Addr) (items : Array Value) (n : Nat) (dd : Option Addr) (sl : Array (Option Value)) (u : Tok) :
    Meets (Builtin.«tuple.__mul__» ⟨[.ref l, .int 1 u], []⟩) (fun _ R s => s.heap.get? l = some { cls := .type "tuple", dict := dd, data := .seq items n, slots := sl } ∧
      R (.ok (.ret (Value.ref l))) s) :=
  .of_wp fun prog w A R s h => by
    obtain ⟨hp, g, d, tk, os⟩ := s
    obtain ⟨hl, h⟩ := h
    have f1 := AutoSeq1.idx_int
    have c0 : (decide ((1 : Int) < -(2 ^ 63)) || decide ((1 : Int) ≥ 2 ^ 63)) = false := by decide
    have c1 : (items.isEmpty || (1 : Int) == 1) = true := by simp
    wp_walk using wpAny_loadPart' hl
    repeat (first
      | (refine wpAny_ite_false (decide_eq_false (by rw [c0]; exact Bool.false_ne_true)) ?_; wp_walk using wpAny_loadPart' hl)
      | (refine wpAny_ite_true (decide_eq_true (by rw [c1])) ?_; wp_walk using wpAny_loadPart' hl))
    exact ⟨_, rfl, h⟩
section
variable {X : Cx}
theorem op_rep01 {pins : List (Addr × Obj)} {s : Shared} {σ : L2.St} {H : Hp} {l : Addr} {k : Int} {t : Tok} {xs : List V} {Q : VK} (I : Inv X pins σ H s) (hT : SqT X.K H l xs) (hne : xs ≠ []) (h0 : -(2 ^ 63) ≤ k) (h1 : k ≤ 1)
    (q1 : k = 1 → Q (.ref l) H) (q0 : k ≤ 0 → ∀ p, H p = none → Q (.ref p) (upd H p (.tup []))) : wpAny (model X.prog X.w) X.A (binaryOp .Mult (.ref l) (.int k t)) (EP X pins σ Q) X.xe s := by
  obtain ⟨its, r, ⟨⟨cls, dd, data, sl⟩, ho, hc, n, hd⟩, hs⟩ := I.tuple hT
  simp only at hc hd
  subst hc hd
  have hle : its.length = xs.length := r.length.symm
  have hn : its ≠ [] := fun e => hne (by
    rw [e] at hle
    exact List.eq_nil_of_length_eq_zero hle.symm)
  have hi : its.toArray.isEmpty = false := by
    cases its with
    | nil => exact absurd rfl hn
    | cons a b => rfl
  by_cases hk : k = 1
  · subst hk
    refine wpAny_binaryOp_repeat_ref (T := "tuple") (U := "int") (by decide) ⟨_, ho, rfl⟩ (fun s' => typeIs_int s' 1 t) noFill_tuple_mul F.fills_int_mul F.slot_int_rmul repeat_tuple F.slot_int_index.lookup
      (call_meets F.slot_int_rmul (typeIs_int s 1 t) F.entry_int_rmul (F.args_int_rmul_2 _ _) (int_rmul_tuple 1 t l its.toArray n dd sl)
        ⟨ho, rfl, ⟨_, ho, rfl⟩, call_meets F.slot_tuple_mul ⟨_, ho, rfl⟩ F.entry_tuple_mul (F.args_tuple_mul_2 _ _) (tuple_mul1 l its.toArray n dd sl t) ⟨ho, ?_⟩⟩)
    exact ⟨.ref l, H, I, rfl, q1 rfl⟩
  · have hk0 : k ≤ 0 := by omega
    have c0 : (decide (k < -(2 ^ 63)) || decide (k ≥ 2 ^ 63)) = false := by
      rw [decide_eq_false (by omega), decide_eq_false (by omega)] <;> rfl
    have c1 : (its.toArray.isEmpty || k == 1) = false := by
      rw [hi, Bool.false_or]
      exact beq_eq_false_iff_ne.mpr (by omega)
    have c2 : (decide (k ≤ 0) || its.toArray.isEmpty) = true := by
      rw [decide_eq_true hk0, Bool.true_or]
    refine wpAny_binaryOp_repeat_ref (T := "tuple") (U := "int") (by decide) ⟨_, ho, rfl⟩ (fun s' => typeIs_int s' k t) noFill_tuple_mul F.fills_int_mul F.slot_int_rmul repeat_tuple F.slot_int_index.lookup
      (call_meets F.slot_int_rmul (typeIs_int s k t) F.entry_int_rmul (F.args_int_rmul_2 _ _) (int_rmul_tuple k t l its.toArray n dd sl)
        ⟨ho, rfl, ⟨_, ho, rfl⟩, call_meets F.slot_tuple_mul ⟨_, ho, rfl⟩ F.entry_tuple_mul (F.args_tuple_mul_2 _ _) (tuple_mul0 l its.toArray n dd sl k t c0 c1 c2) ⟨ho, ?_⟩⟩)
    refine ⟨.ref s.heap.objs.size, _, I.laid (t' := s.toks) (o := .tup []) (fun b ob q => Heap.get?_push_of_some _ q) (Nat.le_refl _) ?_, rfl, q0 hk0 _ (I.hok.fresh (Nat.le_refl _))⟩
    exact ⟨Nat.zero_le _, [], .nil, IsTup.new _ _⟩
def opRepT : Op2
  | .dat (.tuple ds), .dat (.int k), st => if ds ≠ [] ∧ -(2 ^ 63) ≤ k ∧ k ≤ 1000 ∧ ds.length ≤ 1000 then some (.dat (.tuple (repl k.toNat ds)), st) else none
  | _, _, _ => none
theorem o_repT : OpR X (binaryOp .Mult) (T2 X.K opRepT) := by
  intro pins s σ H x y v u Q I rx ry ⟨st, μ, hid, wx, wy, w, st', sd, hx, hy, e, q⟩
  unfold opRepT at e
  split at e
  · rename_i st ds k
    split at e
    · rename_i hk
      obtain ⟨k0, k1, k2, k3⟩ := hk
      cases e
      cases hx with
      | dat hx =>
        cases hx with
        | @tup l xs _ hl hz hr =>
          cases hy with
          | dat hy =>
            cases hy
            have hlen := hr.length
            have hne : xs ≠ [] := fun e => k0 (List.eq_nil_of_length_eq_zero (by rw [← hlen, e]; rfl))
            by_cases h2 : 2 ≤ k
            · refine op_repT pins s σ H _ _ v u Q I rx ry ⟨_, _, _, rfl, rfl, sameT mask_le hl, hne, h2, k2, by omega, fun p hp => ?_⟩
              have hz2 : (repl k.toNat ds).length ≤ sizeLine := by
                rw [repl_len, sizeLine_eq]
                have a1 : ds.length * k.toNat ≤ 1000 * 1000 := Nat.mul_le_mul k3 (by omega)
                omega
              exact q.new sd hp (.dat (RD.tupNew sd hp hz2 (RDs.repl hr _)))
            · cases rx
              obtain ⟨t, rfl⟩ := ry
              refine op_rep01 I (sameT mask_le hl) hne k1 (by omega) (fun e => ?_) fun e p hp => ?_
              · subst e
                have e1 : repl (Int.toNat 1) ds = ds := by simp [repl]
                rw [e1] at q
                exact q.here sd (.dat (.tup hl hz hr))
              · have e1 : k.toNat = 0 := by omega
                rw [e1] at q
                exact q.new sd hp (.dat (RD.tupNew sd hp (Nat.zero_le _) .nil))
    · cases e
  · cases e
end
end L3
set_option Elab.async false
set_option linter.all false
set_option maxRecDepth 100000
set_option maxHeartbeats 400000
set_option autoImplicit false
/-! L3: written dicts; len(set(t)). -/
namespace L3
open PySem PySem.Spec PyProof.Rows L2
section
variable {X : Cx} {a b c : Expr} {pos : Pos} {f g : Ev}
def pairsE : List (Ev × Ev) → E3 → Store → Option (List (Key × W) × Store)
  | [], _, st => some ([], st)
  | (k, v) :: r, env, st => (k env st).bind fun a => (v env a.2).bind fun b => (keyOf a.1).bind fun ky => (pairsE r env b.2).map fun t => ((ky, b.1) :: t.1, t.2)
def bDisp (ps : List (Ev × Ev)) : Ev := fun env st => (pairsE ps env st).bind fun z => if z.1.length ≤ 15 then some (.loc z.2.length, z.2 ++ [.dict (mergeG [] z.1)]) else none
def trsOf (K : PySem.W.Frag) (ps : List (Ev × Ev)) : List (TE × TE) := ps.map fun p => (TX K p.1, TX K p.2)
theorem key_kV {K : PySem.W.Frag} {M : Hp} {μ : List Addr} {v : V} {w : W} {k : Key} (r : RW K M μ v w) (e : keyOf w = some k) : v = kV k := by
  unfold keyOf at e
  split at e
  · cases e; cases r with | dat r => cases r; rfl
  · cases e; cases r with | dat r => cases r; rfl
  · cases e
theorem pairs_sem {K : PySem.W.Frag} {σ : L2.St} {env : E3} {hid : List Addr} : ∀ (ps : List (Ev × Ev)) {H : Hp} {st st' : Store} {μ : List Addr} {acc : List (Key × W)} {R : List (V × V) → Hp → Prop}, Wd K σ H env st μ hid → pairsE ps env st = some (acc, st') →
    (∀ (kvs : List (Key × V)) H' μ', Nx H μ H' μ' hid → Sd K H' st' μ' hid → RKs K (mask H' (μ' ++ hid)) μ' kvs acc → R (kvs.map fun kv => (kV kv.1, kv.2)) H') → tPairs (trsOf K ps) σ H R
  | [], H, st, st', μ, acc, R, W0, e, q => by
    cases e
    exact q [] H μ Nx.refl W0.sd .nil
  | (k, v) :: r, H, st, st', μ, acc, R, W0, e, q => by
    unfold pairsE at e
    obtain ⟨⟨wk, s1⟩, h1, e⟩ := Option.bind_eq_some_iff.mp e
    obtain ⟨⟨wv, s2⟩, h2, e⟩ := Option.bind_eq_some_iff.mp e
    obtain ⟨ky, h3, e⟩ := Option.bind_eq_some_iff.mp e
    obtain ⟨⟨t, s3⟩, h4, e⟩ := Option.map_eq_some_iff.mp e
    cases e
    refine TX.go W0 h1 fun x H1 μ1 n1 W1 rx => TX.go W1 h2 fun y H2 μ2 n2 W2 ry => ?_
    refine pairs_sem r W2 h4 fun kvs H3 μ3 n3 sd3 rk => ?_
    have := q ((ky, y) :: kvs) H3 μ3 ((n1.trans n2).trans n3) sd3 (.cons ⟨rfl, ry.mono n3.same n3.pre⟩ rk)
    rw [List.map_cons] at this
    rw [key_kV rx h3]
    exact this
theorem x_disp {keys : List (Option Expr)} {values : List Expr} {ps : List (Ev × Ev)} (h : PPs X pos keys values (trsOf X.K ps)) (hall : keys.all (·.isSome) = true) (hl : keys.length = values.length) (h0 : keys ≠ []) (h15 : keys.length ≤ 15) : PE X (.Dict keys values pos) (TX X.K (bDisp ps)) := by
  refine PE.imp (pe_disp h hall hl h0 h15) fun σ H Q ⟨env, st, μ, hid, w, st', W0, e, q⟩ => ?_
  unfold bDisp at e
  obtain ⟨⟨acc, s1⟩, h1, e⟩ := Option.bind_eq_some_iff.mp e
  dsimp only at e
  split at e
  · rename_i hz
    cases e
    intro D hD
    have hDm : D ∉ μ ++ hid := fun z => W0.sd.there D z hD
    have em : ∀ (o : HO) (μ : List Addr), mask (upd H D o) (μ ++ (hid ++ [D])) = mask H (μ ++ hid) := fun o μ => by
      funext b
      unfold mask upd
      simp only [List.mem_append, List.mem_singleton]
      by_cases hb : b = D
      · subst hb; by_cases h1 : b ∈ μ <;> by_cases h2 : b ∈ hid <;> simp [h1, h2, hD]
      · by_cases h1 : b ∈ μ <;> by_cases h2 : b ∈ hid <;> simp [h1, h2, hb]
    have W1 : Wd X.K σ (upd H D (.dK [])) env st μ (hid ++ [D]) := by
      refine ⟨by rw [em]; exact W0.ev, ⟨W0.sd.len, fun n c a hc ha => ?_, fun a ha => ?_, ?_⟩⟩
      · rw [em]
        exact (W0.sd.cell n c a hc ha).mono (fun _ _ z => z) (List.prefix_refl _) (upd_ne fun (z : a = D) => hDm (by rw [← z]; exact List.mem_append_left _ (List.mem_of_getElem? ha)))
      · by_cases z : a = D
        · subst z; rw [upd_same]; simp
        · rw [upd_ne z]
          rcases List.mem_append.mp ha with ha | ha
          · exact W0.sd.hds a ha
          · exact absurd (by simpa using ha) z
      · rw [← List.append_assoc, List.nodup_append]
        exact ⟨W0.sd.nd, by simp, fun a ha b hb z => by subst z; simp at hb; subst hb; exact hDm ha⟩
    refine pairs_sem ps W1 h1 fun kvs H2 μ2 n2 sd2 rk => ?_
    have hD2 : H2 D = some (.dK []) := (n2.keep D (by simp)).trans upd_same
    have hkl : kvs.length = acc.length := Paired.length rk
    refine ⟨hD2, kvs, rfl, by omega, ?_⟩
    have hin : D ∈ μ2 ++ (hid ++ [D]) := by simp
    have em2 : ∀ o, mask (upd H2 D o) (μ2 ++ (hid ++ [D])) = mask H2 (μ2 ++ (hid ++ [D])) := fun o => mask_upd_in hin
    have nd2 := sd2.nd
    have hDμ : D ∉ μ2 ∧ D ∉ hid := by
      rw [← List.append_assoc, List.nodup_append] at nd2
      exact ⟨fun z => nd2.2.2 D (List.mem_append_left _ z) D (by simp) rfl, fun z => nd2.2.2 D (List.mem_append_right _ z) D (by simp) rfl⟩
    have rm : ∀ {more : List (Key × V)} {more' : List (Key × W)} {k0 : List (Key × V)} {k1 : List (Key × W)}, RKs X.K (mask H2 (μ2 ++ (hid ++ [D]))) μ2 more more' → RKs X.K (mask H2 (μ2 ++ (hid ++ [D]))) μ2 k0 k1 → RKs X.K (mask H2 (μ2 ++ (hid ++ [D]))) μ2 (mergeK k0 more) (mergeG k1 more') := by
      intro more more' k0 k1 r
      induction r generalizing k0 k1 with
      | nil => intro r0; exact r0
      | @cons p q ps qs h t ih =>
        intro r0
        obtain ⟨e1, e2⟩ := h
        obtain ⟨pk, pv⟩ := p
        obtain ⟨qk, qv⟩ := q
        dsimp only at e1 e2
        subst e1
        exact ih (r0.put e2)
    have l : DcEnd X.K H μ hid D (mergeG [] acc) s1 (upd H2 D (.dK (mergeK [] kvs))) μ2 := by
      refine ⟨⟨sd2.len, fun n c a hc ha => ?_, fun a ha => ?_, sd2.nd⟩, fun b o z => ?_, n2.pre, fun a ha => ?_, fun b o u e => ?_, ⟨mergeK [] kvs, upd_same, ?_⟩, ?_⟩
      · rw [em2]
        exact (sd2.cell n c a hc ha).mono (fun _ _ z => z) (List.prefix_refl _) (upd_ne fun (z : a = D) => hDμ.1 (by rw [← z]; exact List.mem_of_getElem? ha))
      · by_cases z : a = D
        · subst z; rw [upd_same]; simp
        · rw [upd_ne z]; exact sd2.hds a ha
      · rw [em2]; exact n2.same b o (by rw [em]; exact z)
      · have hne : a ≠ D := fun z => hDm (by rw [← z]; exact List.mem_append_right _ ha)
        rw [upd_ne hne, n2.keep a (List.mem_append_left _ ha), upd_ne hne]
      · exact frz_put (nfD hD2) b o u (n2.frz b o u (frz_new hD b o u e))
      · rw [em2]; exact rm rk .nil
      · have : (mergeG ([] : List (Key × W)) acc).length ≤ 0 + acc.length := by
          have key : ∀ (more kvs : List (Key × W)), (mergeG kvs more).length ≤ kvs.length + more.length := by
            intro more
            induction more with
            | nil => intro kvs; exact Nat.le_refl _
            | cons p more ih =>
              intro kvs
              have h1 := ih (putG kvs p.1 p.2)
              have h2 := putG_len kvs p.1 p.2
              show (mergeG (putG kvs p.1 p.2) more).length ≤ _
              rw [List.length_cons]; omega
          exact key acc []
        exact sz1000 (by omega)
    obtain ⟨n3, sd3⟩ := l.fin
    exact q _ _ (μ2 ++ [D]) n3 sd3 (.loc (by rw [← sd2.len, List.getElem?_append_right (Nat.le_refl _), Nat.sub_self]; rfl))
  · cases e
theorem xp_nil : PPs X pos [] [] (trsOf X.K []) := pps_nil
theorem xp_cons {k v : Expr} {ks : List (Option Expr)} {vs : List Expr} {ps : List (Ev × Ev)} (hk : PE X k (TX X.K f)) (hv : PE X v (TX X.K g)) (hr : PPs X pos ks vs (trsOf X.K ps)) : PPs X pos (some k :: ks) (v :: vs) (trsOf X.K ((f, g) :: ps)) := pps_cons hk hv hr
/-! ### len(set(t)), t a tuple of ints -/
def opLenSetT : W → Store → Option (W × Store)
  | .dat (.tuple ds), st => match ds.mapM intOf with
    | some ns => if ns.length < 64 then some (.dat (.int (sset ns).length), st) else none
    | none => none
  | _, _ => none
theorem x_lenSetT {p p2 p3 p4 : Pos} (hc : X.calm = true) (hg : Gl X "len") (hm : X.mg "len" = none) (hg2 : Gl X "set") (hm2 : X.mg "set" = none) (ha : PE X a (TX X.K f))
    (na : starEach [a] X.env = (false, eval a X.env) :: starEach [] X.env := by rfl) : PE X (.Call (.Name "len" p) [.Call (.Name "set" p2) [a] [] p3] [] p4) (TX X.K (b1 opLenSetT f)) := by
  refine ⟨fun pins s σ H Q I h => ?_⟩
  refine Call_ (ld_blt I hg hm boot_len ?_)
  refine PyProof.Rows.callWith_builtin1 (PyProof.Rows.args_cons ?_ rfl) rfl rfl
  refine Call_ (ld_blt I hg2 hm2 PyProof.Rows.boot_set ?_)
  refine PyProof.Rows.callWith_type1 (PyProof.Rows.args_cons (thn (ha.run pins s σ H _ I (TX.one h)) fun v s1 ⟨x, H1, I1, r1, q1⟩ => PyProof.Rows.args_nil ?_) na) na rfl
  obtain ⟨st, μ, hid, wx, w, st', sd, rx, e, q⟩ := q1
  unfold opLenSetT at e
  split at e
  · rename_i ds st
    split at e
    · rename_i ns hns
      split at e
      · rename_i hl
        cases e
        cases rx with
        | dat rx =>
          cases rx with
          | tup hq _ rr =>
            cases r1
            have := rr.ints hns
            subst this
            obtain ⟨its, rv, pl, hz⟩ := I1.tuple (sameT mask_le hq)
            refine call_set_tupI ns (I1.ok.hd hc) (show s1.heap.IsTuple _ its.toArray from pl) (by simpa using rv.ints) (by unfold scanBound; omega) fun h' tk c R hcn hk => ?_
            refine PyProof.Rows.args_nil ?_
            have I2 : Inv X pins σ H1 { s1 with heap := h', toks := tk } := I1.kept hk
            obtain ⟨o, es, ep, t, ho, hex, hd, hgood, hnd, hmem, hsz, hf, hn, _⟩ := R
            have hlen : es.size = (sset ns).length := by
              have h1 : (es.toList.map L2.keyOf).Perm (sset ns) := by
                refine (List.perm_ext_iff_of_nodup hnd ((sset_sorted ns).imp fun q => Int.ne_of_lt q)).mpr fun z => ?_
                rw [mem_sset, ← hmem z, decide_eq_true_eq]
              have h2 := h1.length_eq
              rwa [List.length_map, Array.length_toList] at h2
            exact call_len_set ho hex hd hf (by have := sset_len ns; rw [hlen] <;> omega) ⟨.int (sset ns).length, H1, I2.tok _, ⟨_, by rw [hlen]⟩, q.here sd (.dat (.int _))⟩
      · cases e
    · cases e
  · cases e
/-! ### min(xs), xs a list of ints -/
def opMinL : OpN
  | [.dat (.list ds)], st => (ds.mapM intOf).bind fun ns => match ns with
    | [] => none
    | n :: ns => some (.dat (.int (ns.foldl min n)), st)
  | _, _ => none
theorem foldl_min_le : ∀ (ns : List Int) (n : Int), ns.foldl min n ≤ n ∧ ∀ x ∈ ns, ns.foldl min n ≤ x
  | [], n => ⟨Int.le_refl _, fun x h => by cases h⟩
  | m :: ns, n => by
    obtain ⟨h1, h2⟩ := foldl_min_le ns (min n m)
    rw [List.foldl_cons]
    refine ⟨by omega, fun x hx => ?_⟩
    rcases List.mem_cons.mp hx with e | hx
    · subst e; omega
    · exact h2 x hx
theorem foldl_min_mem : ∀ (ns : List Int) (n : Int), ns.foldl min n ∈ n :: ns
  | [], n => by simp
  | m :: ns, n => by
    rw [List.foldl_cons]
    have h := foldl_min_mem ns (min n m)
    rcases List.mem_cons.mp h with e | h
    · rw [e]
      by_cases hm : n ≤ m
      · rw [Int.min_eq_left hm]; simp
      · rw [Int.min_eq_right (by omega)]; simp
    · simp [h]
theorem o_minL (hc : X.calm = true) : CallR X (.builtin "min") (TN X.K opMinL) := by
  intro pins s σ H xs us Q I r ⟨st, μ, hid, ws, w, st', sd, hx, e, q⟩
  unfold opMinL at e
  split at e
  · obtain ⟨x, rfl, rx⟩ := rw1 hx
    obtain ⟨ns, hns, e⟩ := Option.bind_eq_some_iff.mp e
    split at e
    · cases e
    · rename_i n ns
      cases e
      cases rx with
      | dat rx => cases rx with
        | lst h _ rr =>
          have := rr.ints hns
          subst this
          refine cr_min hc pins s σ H _ us Q I r ⟨_, n :: ns, rfl, SqL.of (mask_le _ _ h), by simp, fun m hm hle => ?_⟩
          have e1 := foldl_min_le ns n
          have e2 := foldl_min_mem ns n
          have : m = ns.foldl min n := by
            have a1 := hle _ e2
            rcases List.mem_cons.mp hm with e | hm
            · subst e; omega
            · have := e1.2 m hm; omega
          subst this
          exact q.here sd (.dat (.int _))
  · cases e
end
end L3
set_option Elab.async false
set_option linter.all false
set_option maxRecDepth 100000
set_option maxHeartbeats 4000000
set_option autoImplicit false
/-! L4: evaluating readings. -/
namespace L3
open PySem PySem.Spec PyProof.Rows L2

/-! ### the end of a def -/
theorem shut_eq {fz : Bool} {st0 st1 ext : Store} {d : PyData} (hl : st1.length = st0.length) (h : ∀ (i : Nat) (c : Cell), i < st0.length → st1[i]? = some c → st0[i]? = some c ∨ CBelow st0.length c) : shut fz st0 (.dat d) (st1 ++ ext) = some (.dat d, st1) := by
  unfold shut
  rw [if_pos]
  · rw [List.take_append_of_le_length (by omega), List.take_of_length_le (by omega)]
  · refine ⟨by rw [List.length_append]; omega, fun i c hi e => h i c hi ?_⟩
    rwa [List.getElem?_append_left (by omega)] at e
theorem shut_same {fz : Bool} {st ext : Store} {d : PyData} : shut fz st (.dat d) (st ++ ext) = some (.dat d, st) := shut_eq rfl fun i c _ e => .inl e
theorem shut_self {fz : Bool} {st : Store} {d : PyData} : shut fz st (.dat d) st = some (.dat d, st) := by
  have := shut_same (fz := fz) (st := st) (ext := []) (d := d)
  rwa [List.append_nil] at this
/-- a def that returns data; the store is ext longer at its end -/
theorem run_ret {fz : Bool} {n m : Nat} {b : Eb} {ws : List W} {st ext : Store} {env' : E3} {d : PyData} (hl : ws.length = m) (h : b (start3 n ws) st = some (.rt (.dat d), env', st ++ ext)) : runB fz n m b ws st = some (.dat d, st) := by
  unfold runB
  rw [if_pos hl, h]
  exact shut_same (fz := fz)
theorem run_ret0 {fz : Bool} {n m : Nat} {b : Eb} {ws : List W} {st : Store} {env' : E3} {d : PyData} (hl : ws.length = m) (h : b (start3 n ws) st = some (.rt (.dat d), env', st)) : runB fz n m b ws st = some (.dat d, st) :=
  run_ret (ext := []) hl (by rw [List.append_nil]; exact h)
theorem run_nx0 {fz : Bool} {n m : Nat} {b : Eb} {ws : List W} {st : Store} {env' : E3} (hl : ws.length = m) (h : b (start3 n ws) st = some (.nx, env', st)) : runB fz n m b ws st = some (.dat .none, st) := by
  unfold runB
  rw [if_pos hl, h]
  exact shut_self (fz := fz)
theorem run_of {fz : Bool} {n m : Nat} {b : Eb} {ws : List W} {st st1 ext : Store} {env' : E3} {d : PyData} (hl : ws.length = m) (h : b (start3 n ws) st = some (.rt (.dat d), env', st1 ++ ext)) (h1 : st1.length = st.length) (h2 : ∀ (i : Nat) (c : Cell), i < st.length → st1[i]? = some c → st[i]? = some c ∨ CBelow st.length c) : runB fz n m b ws st = some (.dat d, st1) := by
  unfold runB
  rw [if_pos hl, h]
  exact shut_eq (fz := fz) h1 h2

/-- a def that returns a cell of its own -/
theorem run_loc {n m k : Nat} {b : Eb} {ws : List W} {st ext : Store} {env' : E3} (hl : ws.length = m) (h : b (start3 n ws) st = some (.rt (.loc k), env', st ++ ext)) (hk : st.length ≤ k) : runB false n m b ws st = some (.loc k, st ++ ext) := by
  unfold runB
  rw [if_pos hl, h]
  show shut false st (.loc k) (st ++ ext) = _
  unfold shut
  rw [if_pos ⟨by rw [List.length_append]; omega, fun i c hi e => .inl (by rwa [List.getElem?_append_left hi] at e)⟩]
  simp only
  rw [if_neg (by omega)]
  simp
/-! ### walks -/
/-- xs is what the walk gives, the store being one of S -/
def Gives (it : It3) (S : Store → Prop) (ws : List W) : Prop := it.n = ws.length ∧ ∀ st, S st → ∀ i, it.item st i = some ws[i]?
theorem gives_seq {w : W} {ws : List W} {S : Store → Prop} (h : ∀ st, S st → seqOf st w = some ws) : Gives (liveSeq w ws) S ws := ⟨rfl, fun st hs i => by simp only [liveSeq, h st hs]⟩
theorem gives_tup {S : Store → Prop} {ds : List PyData} : Gives (liveSeq (.dat (.tuple ds)) (ds.map .dat)) S (ds.map .dat) := gives_seq fun _ _ => rfl
theorem gives_lst {S : Store → Prop} {ds : List PyData} : Gives (liveSeq (.dat (.list ds)) (ds.map .dat)) S (ds.map .dat) := gives_seq fun _ _ => rfl
theorem gives_range {a b : Int} {S : Store → Prop} : Gives (itRange a b) S ((List.range (b - a).toNat).map fun (i : Nat) => .dat (.int (a + i))) := by
  refine ⟨by simp [itRange], fun st _ i => ?_⟩
  simp only [itRange, List.getElem?_map]
  by_cases h : i < (b - a).toNat
  · rw [if_pos h, List.getElem?_range h]; rfl
  · rw [if_neg h, List.getElem?_eq_none (by simpa using Nat.le_of_not_lt h)]; rfl
theorem gives_zip {xs ys : List PyData} {S : Store → Prop} : Gives (itZip xs ys) S ((xs.zip ys).map fun p => .dat (.tuple [p.1, p.2])) := by
  refine ⟨by simp [itZip], fun st _ i => ?_⟩
  simp only [itZip, List.getElem?_map]
  cases h : xs[i]? with
  | none =>
    have h3 : (xs.zip ys)[i]? = none := List.getElem?_eq_none (by rw [List.length_zip]; have := List.getElem?_eq_none_iff.mp h; omega)
    rw [h3]; rfl
  | some x =>
    cases h2 : ys[i]? with
    | none =>
      have h3 : (xs.zip ys)[i]? = none := List.getElem?_eq_none (by rw [List.length_zip]; have := List.getElem?_eq_none_iff.mp h2; omega)
      rw [h3]; rfl
    | some y =>
      have h3 : (xs.zip ys)[i]? = some (x, y) := List.getElem?_zip_eq_some.mpr ⟨h, h2⟩
      rw [h3]; rfl
theorem gives_enum {w : W} {ds : List PyData} {S : Store → Prop} (h : ∀ st, S st → seqOf st w = some (ds.map .dat)) : Gives (itEnum w (ds.map W.dat).length) S (ds.zipIdx.map fun p => .dat (.tuple [.int p.2, p.1])) := by
  refine ⟨by simp [itEnum], fun st hs i => ?_⟩
  simp only [itEnum, h st hs, List.getElem?_map, List.getElem?_zipIdx]
  cases ds[i]? with
  | none => rfl
  | some d => simp

/-! ### for -/
theorem forRun_inv {it : It3} {step : W → E3 → Store → Option (Fl × E3 × Store)} {ws : List W} {S : Store → Prop} (hg : Gives it S ws) (P : Nat → E3 → Store → Prop) (hS : ∀ i env st, P i env st → S st)
    (hs : ∀ i w env st, ws[i]? = some w → P i env st → ∃ env1 st1, (step w env st = some (.nx, env1, st1) ∨ step w env st = some (.ct, env1, st1)) ∧ P (i + 1) env1 st1) :
    ∀ (k i : Nat) env st, i + k = ws.length → P i env st → ∃ env1 st1, forRun it step (k + 1) i env st = some (.nx, env1, st1) ∧ P ws.length env1 st1
  | 0, i, env, st, hk, hp => by
    refine ⟨env, st, ?_, by rw [← hk]; exact hp⟩
    unfold forRun
    rw [hg.2 st (hS _ _ _ hp), List.getElem?_eq_none (by omega)]
  | k + 1, i, env, st, hk, hp => by
    have hi : i < ws.length := by omega
    obtain ⟨env1, st1, h1, h2⟩ := hs i ws[i] env st (List.getElem?_eq_getElem hi) hp
    obtain ⟨env2, st2, h3, h4⟩ := forRun_inv hg P hS hs k (i + 1) env1 st1 (by omega) h2
    refine ⟨env2, st2, ?_, h4⟩
    unfold forRun
    rw [hg.2 st (hS _ _ _ hp), List.getElem?_eq_getElem hi]
    rcases h1 with h1 | h1 <;> simp only [h1] <;> exact h3
theorem bFor_inv {fi : Ei} {g : Eg} {u : Eb} {env : E3} {st st0 : Store} {it : It3} {ws : List W} {S : Store → Prop} (hi : fi env st = some (it, st0)) (hg : Gives it S ws) (P : Nat → E3 → Store → Prop) (hS : ∀ i env st, P i env st → S st) (h0 : P 0 env st0)
    (hs : ∀ i w env st, ws[i]? = some w → P i env st → ∃ env1 st1, (stepOf g u w env st = some (.nx, env1, st1) ∨ stepOf g u w env st = some (.ct, env1, st1)) ∧ P (i + 1) env1 st1) : ∃ env1 st1, bFor fi g u env st = some (.nx, env1, st1) ∧ P ws.length env1 st1 := by
  unfold bFor
  rw [hi, Option.bind_some]
  simp only
  rw [hg.1]
  exact forRun_inv hg P hS hs ws.length 0 env st0 (by omega) h0

/-! ### comprehensions -/
theorem compRun_inv {it : It3} {gt : Eg} {t : Et} {el : Ev} {env0 : E3} {ws : List W} {S : Store → Prop} (hg : Gives it S ws) (P : Nat → Store → List W → Prop) (hS : ∀ i st acc, P i st acc → S st)
    (hs : ∀ i w st acc, ws[i]? = some w → P i st acc → ∃ env1 st1 b st2, gt w env0 st = some (env1, st1) ∧ t env1 st1 = some (b, st2) ∧ (b = false → P (i + 1) st2 acc) ∧ (b = true → ∃ y st3, el env1 st2 = some (y, st3) ∧ P (i + 1) st3 (acc ++ [y]))) :
    ∀ (k i : Nat) st acc, i + k = ws.length → P i st acc → ∃ acc1 st1, compRun it gt t el env0 (k + 1) i st acc = some (acc1, st1) ∧ P ws.length st1 acc1
  | 0, i, st, acc, hk, hp => by
    refine ⟨acc, st, ?_, by rw [← hk]; exact hp⟩
    unfold compRun
    rw [hg.2 st (hS _ _ _ hp), List.getElem?_eq_none (by omega)]
  | k + 1, i, st, acc, hk, hp => by
    have hi : i < ws.length := by omega
    obtain ⟨env1, st1, b, st2, h1, h2, h3, h4⟩ := hs i ws[i] st acc (List.getElem?_eq_getElem hi) hp
    unfold compRun
    rw [hg.2 st (hS _ _ _ hp), List.getElem?_eq_getElem hi]
    simp only [h1, h2]
    cases b with
    | false => exact compRun_inv hg P hS hs k (i + 1) st2 acc (by omega) (h3 rfl)
    | true =>
      obtain ⟨y, st3, h5, h6⟩ := h4 rfl
      simp only [h5]
      exact compRun_inv hg P hS hs k (i + 1) st3 _ (by omega) h6
theorem compAll_inv {fi : Ei} {gt : Eg} {t : Et} {el : Ev} {vs : List Nat} {env : E3} {st st0 : Store} {it : It3} {ws : List W} {S : Store → Prop} (hi : fi env st = some (it, st0)) (hg : Gives it S ws) (P : Nat → Store → List W → Prop) (hS : ∀ i st acc, P i st acc → S st) (h0 : P 0 st0 [])
    (hs : ∀ i w st acc, ws[i]? = some w → P i st acc → ∃ env1 st1 b st2, gt w (wipe3 env vs) st = some (env1, st1) ∧ t env1 st1 = some (b, st2) ∧ (b = false → P (i + 1) st2 acc) ∧ (b = true → ∃ y st3, el env1 st2 = some (y, st3) ∧ P (i + 1) st3 (acc ++ [y]))) :
    ∃ acc1 st1, compAll fi gt t el vs env st = some (acc1, st1) ∧ P ws.length st1 acc1 := by
  unfold compAll
  rw [hi, Option.bind_some]
  simp only
  rw [hg.1]
  exact compRun_inv hg P hS hs ws.length 0 st0 [] (by omega) h0
/-- nothing is changed by it -/
theorem compAll_pure {α : Type} {fi : Ei} {gt : Eg} {t : Et} {el : Ev} {vs : List Nat} {env : E3} {st : Store} {it : It3} {xs : List α} {e : α → W} (hi : fi env st = some (it, st)) (hg : Gives it (· = st) (xs.map e)) (p : α → Bool) (f : α → W)
    (h : ∀ x ∈ xs, ∃ env1, gt (e x) (wipe3 env vs) st = some (env1, st) ∧ t env1 st = some (p x, st) ∧ (p x = true → el env1 st = some (f x, st))) : compAll fi gt t el vs env st = some ((xs.filter p).map f, st) := by
  obtain ⟨acc1, st1, h1, h2, h3⟩ := compAll_inv (P := fun i s acc => s = st ∧ acc = ((xs.take i).filter p).map f) hi hg (fun i s acc q => q.1) ⟨rfl, rfl⟩ (fun i w s acc hw ⟨hs, ha⟩ => by
    subst hs
    rw [List.getElem?_map] at hw
    obtain ⟨x, hx, rfl⟩ := Option.map_eq_some_iff.mp hw
    obtain ⟨env1, k1, k2, k3⟩ := h x (List.mem_of_getElem? hx)
    have ht : xs.take (i + 1) = xs.take i ++ [x] := by
      obtain ⟨hi', rfl⟩ := List.getElem?_eq_some_iff.mp hx
      rw [List.take_succ_eq_append_getElem hi']
    refine ⟨env1, s, p x, s, k1, k2, fun hb => ⟨rfl, ?_⟩, fun hb => ⟨f x, s, k3 hb, rfl, ?_⟩⟩
    · rw [ha, ht, List.filter_append, List.filter_cons_of_neg (by simp [hb]), List.filter_nil, List.append_nil]
    · rw [ha, ht, List.filter_append, List.filter_cons_of_pos hb, List.filter_nil, List.map_append]; rfl)
  subst h2
  rw [h1, h3, List.length_map, List.take_length]
theorem mapM_dat : ∀ ds : List PyData, (ds.map W.dat).mapM datOf = some ds
  | [] => rfl
  | d :: ds => by rw [List.map_cons, List.mapM_cons, mapM_dat ds]; rfl
theorem bComp_pure {α : Type} {fi : Ei} {gt : Eg} {t : Et} {el : Ev} {vs : List Nat} {env : E3} {st : Store} {it : It3} {xs : List α} {e : α → W} (hi : fi env st = some (it, st)) (hg : Gives it (· = st) (xs.map e)) (p : α → Bool) (f : α → PyData)
    (h : ∀ x ∈ xs, ∃ env1, gt (e x) (wipe3 env vs) st = some (env1, st) ∧ t env1 st = some (p x, st) ∧ (p x = true → el env1 st = some (.dat (f x), st))) : bComp fi gt t el vs env st = some (.dat (.list ((xs.filter p).map f)), st) := by
  unfold bComp
  rw [compAll_pure hi hg p (fun x => W.dat (f x)) h, Option.bind_some]
  have : (xs.filter p).map (fun x => W.dat (f x)) = ((xs.filter p).map f).map W.dat := by rw [List.map_map]; rfl
  simp only [this, mapM_dat]
  rfl
/-- over a sequence of data -/
theorem comp_seq {α : Type} {f : Ev} {gt : Eg} {t : Et} {el : Ev} {vs : List Nat} {env : E3} {st : Store} {w : W} {xs : List α} {e : α → PyData} (hf : f env st = some (w, st)) (hw : seqOf st w = some ((xs.map e).map .dat)) (p : α → Bool) (g : α → PyData)
    (h : ∀ x ∈ xs, ∃ env1, gt (.dat (e x)) (wipe3 env vs) st = some (env1, st) ∧ t env1 st = some (p x, st) ∧ (p x = true → el env1 st = some (.dat (g x), st))) : bComp (iSeq f) gt t el vs env st = some (.dat (.list ((xs.filter p).map g)), st) := by
  refine bComp_pure (xs := xs) (e := fun x => W.dat (e x)) (it := liveSeq w ((xs.map e).map .dat)) (by unfold iSeq; rw [hf, Option.bind_some]; simp only [hw]; rfl) ?_ p g h
  have : xs.map (fun x => W.dat (e x)) = (xs.map e).map W.dat := by rw [List.map_map]; rfl
  rw [this]
  exact gives_seq fun s hs => by subst hs; exact hw
theorem comp_zip {α β : Type} {f f' : Ev} {gt : Eg} {t : Et} {el : Ev} {vs : List Nat} {env : E3} {st : Store} {xs : List α} {ys : List β} {e : α → PyData} {e' : β → PyData} (hf : f env st = some (.dat (.tuple (xs.map e)), st)) (hf' : f' env st = some (.dat (.tuple (ys.map e')), st)) (p : α × β → Bool) (g : α × β → PyData)
    (h : ∀ x ∈ xs.zip ys, ∃ env1, gt (.dat (.tuple [e x.1, e' x.2])) (wipe3 env vs) st = some (env1, st) ∧ t env1 st = some (p x, st) ∧ (p x = true → el env1 st = some (.dat (g x), st))) : bComp (iZip f f') gt t el vs env st = some (.dat (.list (((xs.zip ys).filter p).map g)), st) := by
  refine bComp_pure (xs := xs.zip ys) (e := fun x => W.dat (.tuple [e x.1, e' x.2])) (it := itZip (xs.map e) (ys.map e')) (by unfold iZip; rw [hf, Option.bind_some]; simp only [hf', Option.bind_some]) ?_ p g h
  have := gives_zip (xs := xs.map e) (ys := ys.map e') (S := (· = st))
  rw [List.zip_map, List.map_map] at this
  exact this
theorem comp_enum {α : Type} {f : Ev} {gt : Eg} {t : Et} {el : Ev} {vs : List Nat} {env : E3} {st : Store} {w : W} {xs : List α} {e : α → PyData} (hf : f env st = some (w, st)) (hw : seqOf st w = some ((xs.map e).map .dat)) (p : α × Nat → Bool) (g : α × Nat → PyData)
    (h : ∀ x ∈ xs.zipIdx, ∃ env1, gt (.dat (.tuple [.int x.2, e x.1])) (wipe3 env vs) st = some (env1, st) ∧ t env1 st = some (p x, st) ∧ (p x = true → el env1 st = some (.dat (g x), st))) : bComp (iEnu f) gt t el vs env st = some (.dat (.list ((xs.zipIdx.filter p).map g)), st) := by
  refine bComp_pure (xs := xs.zipIdx) (e := fun x => W.dat (.tuple [.int x.2, e x.1])) (it := itEnum w ((xs.map e).map W.dat).length) (by unfold iEnu; rw [hf, Option.bind_some]; simp only [hw]; rfl) ?_ p g h
  have := gives_enum (S := (· = st)) (w := w) (ds := xs.map e) fun s hs => by subst hs; exact hw
  rw [List.zipIdx_map] at this
  rw [List.map_map (l := xs.zipIdx)] at this
  exact this
end L3
set_option Elab.async false
set_option linter.all false
set_option maxRecDepth 100000
set_option maxHeartbeats 4000000
set_option autoImplicit false
/-! L4: data with types: ints, tuples of ints, tuples of such. -/
namespace L3
open PySem PySem.Spec PyProof.Rows L2

def ti (l : List Int) : PyData := .tuple (l.map .int)
def li (l : List Int) : PyData := .list (l.map .int)
def tp (P : List (List Int)) : PyData := .tuple (P.map ti)
def lp (P : List (List Int)) : PyData := .list (P.map ti)
theorem ints_of : ∀ l : List Int, (l.map PyData.int).mapM intOf = some l
  | [] => rfl
  | x :: l => by rw [List.map_cons, List.mapM_cons, ints_of l]; rfl
theorem bools_of : ∀ l : List Bool, (l.map PyData.bool).mapM boolOf = some l
  | [] => rfl
  | x :: l => by rw [List.map_cons, List.mapM_cons, bools_of l]; rfl
theorem eqv_int (a b : Int) : PyData.eqv (.int a) (.int b) = decide (a = b) := PySem.W.Datum.eqv a b
theorem eqv_ti (a b : List Int) : PyData.eqv (ti a) (ti b) = decide (a = b) :=
  (PySem.W.Datum.eqv (PySem.W.Tup.mk a) (PySem.W.Tup.mk b)).trans (decide_eq_decide.mpr ⟨fun e => PySem.W.Tup.mk.inj e, fun e => by rw [e]⟩)
theorem eqv_li (a b : List Int) : PyData.eqv (li a) (li b) = decide (a = b) := PySem.W.Datum.eqv a b
theorem any_map {α : Type} [DecidableEq α] {e : α → PyData} (h : ∀ a b, PyData.eqv (e a) (e b) = decide (a = b)) (xs : List α) (x : α) : ((xs.map e).any fun z => PyData.eqv z (e x)) = decide (x ∈ xs) := by
  rw [Bool.eq_iff_iff, List.any_eq_true, decide_eq_true_eq]
  constructor
  · rintro ⟨z, hz, q⟩
    obtain ⟨y, hy, rfl⟩ := List.mem_map.mp hz
    rw [h, decide_eq_true_eq] at q
    subst q; exact hy
  · intro hx
    exact ⟨e x, List.mem_map_of_mem hx, by rw [h, decide_eq_true_eq]⟩
theorem eqvAll_map' {α : Type} [DecidableEq α] {e : α → PyData} (h : ∀ a b, PyData.eqv (e a) (e b) = decide (a = b)) : ∀ xs ys : List α, PyData.eqvAll (xs.map e) (ys.map e) = decide (xs = ys)
  | [], [] => by simp only [List.map_nil, PyData.eqvAll, decide_true]
  | [], _ :: _ => by simp [PyData.eqvAll]
  | _ :: _, [] => by simp [PyData.eqvAll]
  | x :: xs, y :: ys => by
    rw [List.map_cons, List.map_cons, PyData.eqvAll, h x y, eqvAll_map' h xs ys, ← Bool.decide_and]
    exact decide_eq_decide.mpr (by rw [List.cons.injEq])
theorem eqv_list {α : Type} [DecidableEq α] {e : α → PyData} (h : ∀ a b, PyData.eqv (e a) (e b) = decide (a = b)) (xs ys : List α) : PyData.eqv (.list (xs.map e)) (.list (ys.map e)) = decide (xs = ys) := by
  simp only [PyData.eqv]; exact eqvAll_map' h xs ys
theorem eqv_tuple {α : Type} [DecidableEq α] {e : α → PyData} (h : ∀ a b, PyData.eqv (e a) (e b) = decide (a = b)) (xs ys : List α) : PyData.eqv (.tuple (xs.map e)) (.tuple (ys.map e)) = decide (xs = ys) := by
  simp only [PyData.eqv]; exact eqvAll_map' h xs ys

/-! ### shapes that can be compared, shown -/
structure Lay (k : Nat) (d : PyData) : Prop where
  c : d.canLay0 = true
  d : d.depth ≤ k
theorem layAll : ∀ {ds : List PyData}, (∀ d ∈ ds, d.canLay0 = true) → PyData.canLayAll0 ds = true
  | [], _ => by simp only [PyData.canLayAll0]
  | d :: ds, h => by simp only [PyData.canLayAll0, Bool.and_eq_true]; exact ⟨h d List.mem_cons_self, layAll fun x hx => h x (List.mem_cons_of_mem _ hx)⟩
theorem depAll {k : Nat} : ∀ {ds : List PyData}, (∀ d ∈ ds, d.depth ≤ k) → PyData.depthAll ds ≤ k
  | [], _ => by simp only [PyData.depthAll]; omega
  | d :: ds, h => by simp only [PyData.depthAll]; exact Nat.max_le.mpr ⟨h d List.mem_cons_self, depAll fun x hx => h x (List.mem_cons_of_mem _ hx)⟩
theorem Lay.int {k : Nat} (n : Int) : Lay k (.int n) := ⟨by simp only [PyData.canLay0], by simp only [PyData.depth]; omega⟩
theorem Lay.bool {k : Nat} (n : Bool) : Lay k (.bool n) := ⟨by simp only [PyData.canLay0], by simp only [PyData.depth]; omega⟩
theorem Lay.none {k : Nat} : Lay k .none := ⟨by simp only [PyData.canLay0], by simp only [PyData.depth]; omega⟩
theorem Lay.str {k : Nat} {x : Str} (h : PyData.strOk x = true) : Lay k (.str x) := ⟨by simp only [PyData.canLay0]; exact h, by simp only [PyData.depth]; omega⟩
theorem Lay.tup {k : Nat} {ds : List PyData} (h : ∀ d ∈ ds, Lay k d) : Lay (k + 1) (.tuple ds) := ⟨by simp only [PyData.canLay0]; exact layAll fun d hd => (h d hd).c, by simp only [PyData.depth]; have := depAll fun d hd => (h d hd).d; omega⟩
theorem Lay.lst {k : Nat} {ds : List PyData} (h : ∀ d ∈ ds, Lay k d) : Lay (k + 1) (.list ds) := ⟨by simp only [PyData.canLay0]; exact layAll fun d hd => (h d hd).c, by simp only [PyData.depth]; have := depAll fun d hd => (h d hd).d; omega⟩
theorem Lay.mono {j k : Nat} {d : PyData} (h : Lay j d) (l : j ≤ k) : Lay k d := ⟨h.c, Nat.le_trans h.d l⟩
theorem Lay.map {α : Type} {k : Nat} {e : α → PyData} {xs : List α} (h : ∀ x, Lay k (e x)) : ∀ d ∈ xs.map e, Lay k d := fun d hd => by obtain ⟨x, _, rfl⟩ := List.mem_map.mp hd; exact h x
theorem Lay.ti {k : Nat} (l : List Int) : Lay (k + 1) (ti l) := .tup (Lay.map fun x => .int x)
theorem Lay.li {k : Nat} (l : List Int) : Lay (k + 1) (li l) := .lst (Lay.map fun x => .int x)
theorem Lay.tp {k : Nat} (l : List (List Int)) : Lay (k + 2) (tp l) := .tup (Lay.map fun x => .ti x)
theorem Lay.lp {k : Nat} (l : List (List Int)) : Lay (k + 2) (lp l) := .lst (Lay.map fun x => .ti x)
theorem Lay.sh {k : Nat} {d : PyData} (h : Lay k d) (hk : k ≤ 64 := by decide) : SeqAt.shaped d = true := by
  unfold SeqAt.shaped
  rw [h.c, Bool.true_and, decide_eq_true_eq]
  exact Nat.le_trans h.d hk
theorem opEq_dat {j k : Nat} {st : Store} {d e : PyData} (h1 : Lay j d) (h2 : Lay k e) (hj : j ≤ 64 := by decide) (hk : k ≤ 64 := by decide) : opEq (.dat d) (.dat e) st = some (.dat (.bool (PyData.eqv d e)), st) := by
  unfold opEq
  split
  · rename_i b hb
    obtain ⟨a, c, e1, e2, rfl⟩ := txts_some hb
    cases e1; cases e2
    rw [show PyData.eqv (.str a) (.str c) = decide (a = c) from PySem.W.Datum.eqv a c]
  · simp only [dataOf, h1.sh hj, h2.sh hk, Bool.and_self, if_true]
theorem opNe_dat {j k : Nat} {st : Store} {d e : PyData} (h1 : Lay j d) (h2 : Lay k e) (hj : j ≤ 64 := by decide) (hk : k ≤ 64 := by decide) : opNe (.dat d) (.dat e) st = some (.dat (.bool (!PyData.eqv d e)), st) := by
  unfold opNe
  split
  · rename_i b hb
    obtain ⟨a, c, e1, e2, rfl⟩ := txts_some hb
    cases e1; cases e2
    rw [show PyData.eqv (.str a) (.str c) = decide (a = c) from PySem.W.Datum.eqv a c]
  · simp only [dataOf, h1.sh hj, h2.sh hk, Bool.and_self, if_true]
theorem opIn_tup {neg : Bool} {j k : Nat} {st : Store} {d : PyData} {ds : List PyData} (h1 : Lay j d) (h2 : Lay k (.tuple ds)) (hj : j ≤ 64 := by decide) (hk : k ≤ 64 := by decide) : opIn neg (.dat d) (.dat (.tuple ds)) st = some (.dat (.bool (neg ^^ ds.any fun z => PyData.eqv z d)), st) := by
  unfold opIn
  simp only [dataOf, h1.sh hj, h2.sh hk, Bool.and_self, if_true]
theorem opEq_int {st : Store} (a b : Int) : opEq (.dat (.int a)) (.dat (.int b)) st = some (.dat (.bool (decide (a = b))), st) := by rw [opEq_dat (.int a (k := 0)) (.int b (k := 0)), eqv_int]
theorem opNe_int {st : Store} (a b : Int) : opNe (.dat (.int a)) (.dat (.int b)) st = some (.dat (.bool (!decide (a = b))), st) := by rw [opNe_dat (.int a (k := 0)) (.int b (k := 0)), eqv_int]
theorem opEq_ti {st : Store} (a b : List Int) : opEq (.dat (ti a)) (.dat (ti b)) st = some (.dat (.bool (decide (a = b))), st) := by rw [opEq_dat (.ti a (k := 0)) (.ti b (k := 0)), eqv_ti]
theorem opNe_ti {st : Store} (a b : List Int) : opNe (.dat (ti a)) (.dat (ti b)) st = some (.dat (.bool (!decide (a = b))), st) := by rw [opNe_dat (.ti a (k := 0)) (.ti b (k := 0)), eqv_ti]
theorem opEq_li {st : Store} (a b : List Int) : opEq (.dat (li a)) (.dat (li b)) st = some (.dat (.bool (decide (a = b))), st) := by rw [opEq_dat (.li a (k := 0)) (.li b (k := 0)), eqv_li]
theorem opNe_li {st : Store} (a b : List Int) : opNe (.dat (li a)) (.dat (li b)) st = some (.dat (.bool (!decide (a = b))), st) := by rw [opNe_dat (.li a (k := 0)) (.li b (k := 0)), eqv_li]
theorem opIn_ti {neg : Bool} {st : Store} (x : Int) (l : List Int) : opIn neg (.dat (.int x)) (.dat (ti l)) st = some (.dat (.bool (neg ^^ decide (x ∈ l))), st) := by
  unfold ti; rw [opIn_tup (.int x (k := 0)) (.ti l (k := 0)), any_map eqv_int]
theorem opIn_tp {neg : Bool} {st : Store} (x : List Int) (l : List (List Int)) : opIn neg (.dat (ti x)) (.dat (tp l)) st = some (.dat (.bool (neg ^^ decide (x ∈ l))), st) := by
  unfold tp; rw [opIn_tup (.ti x (k := 0)) (.tp l (k := 0))]
  exact congrArg (fun b => some (W.dat (.bool (neg ^^ b)), st)) ((any_map eqv_ti l x).trans (decide_eq_decide.mpr Iff.rfl))
theorem opLt_ti {st : Store} (a b : List Int) : opLt (.dat (ti a)) (.dat (ti b)) st = some (.dat (.bool (HT.lexLt a b)), st) := by
  unfold ti; simp only [opLt, ints_of]
theorem opLe_ti {st : Store} (a b : List Int) : opLe (.dat (ti a)) (.dat (ti b)) st = some (.dat (.bool (!HT.lexLt b a)), st) := by
  unfold ti; simp only [opLe, ints_of]
theorem opAll_map {α : Type} {st : Store} (xs : List α) (p : α → Bool) : opAll [.dat (.list (xs.map fun x => .bool (p x)))] st = some (.dat (.bool (xs.all p)), st) := by
  have : xs.map (fun x => PyData.bool (p x)) = (xs.map p).map .bool := by rw [List.map_map]; rfl
  unfold opAll
  simp only [this, bools_of, List.all_map]
  rfl
theorem opAny_map {α : Type} {st : Store} (xs : List α) (p : α → Bool) : opAny [.dat (.list (xs.map fun x => .bool (p x)))] st = some (.dat (.bool (xs.any p)), st) := by
  have : xs.map (fun x => PyData.bool (p x)) = (xs.map p).map .bool := by rw [List.map_map]; rfl
  unfold opAny
  simp only [this, bools_of, List.any_map]
  rfl
theorem opTuple_lst {st : Store} (ds : List PyData) : opTuple [.dat (.list ds)] st = some (.dat (.tuple ds), st) := by
  unfold opTuple
  simp only [tupOf, seqOf, mapM_dat]
theorem opList_tup {st : Store} (ds : List PyData) : opList [.dat (.tuple ds)] st = some (.dat (.list ds), st) := by
  unfold opList
  simp only [seqOf, mapM_dat]
theorem opTup_dat {st : Store} (ds : List PyData) (h : ds.length ≤ sizeLine) : opTup (ds.map .dat) st = some (.dat (.tuple ds), st) := by
  unfold opTup
  rw [mapM_dat]
  simp only [if_pos h]
theorem opLst_dat {st : Store} (ds : List PyData) (h : ds.length ≤ sizeLine) : opLst (ds.map .dat) st = some (.dat (.list ds), st) := by
  unfold opLst
  rw [mapM_dat]
  simp only [if_pos h]
theorem cut1 {α : Type} (xs : List α) : cut xs (some 1) none = xs.tail := by
  unfold cut HT.sIx
  simp only
  cases xs with
  | nil => rfl
  | cons x xs =>
    have h1 : ¬ ((1 : Int) < 0) := by decide
    rw [if_neg h1]
    have : min (1 : Int).toNat (x :: xs).length = 1 := by simp
    rw [this]
    simp

theorem log2_small {n k : Nat} (h : n < 2 ^ k) (hk : 0 < k) : n.log2 < k := by
  by_cases h0 : n = 0
  · subst h0; simpa using hk
  · exact (Nat.log2_lt h0).mpr h
theorem opMul_s {st : Store} (a b : Int) (ha : a.natAbs < 2 ^ 1000) (hb : b.natAbs < 2 ^ 1000) : opMul (.dat (.int a)) (.dat (.int b)) st = some (.dat (.int (a * b)), st) := by
  have h1 := log2_small ha (by decide)
  have h2 := log2_small hb (by decide)
  show (if bits a + bits b < 1000000 then _ else none) = _
  exact if_pos (by unfold bits; omega)
theorem natAbs_s {a : Int} (h1 : -18446744073709551616 < a) (h2 : a < 18446744073709551616) : a.natAbs < 2 ^ 1000 := Nat.lt_of_lt_of_le (show a.natAbs < 2 ^ 64 by omega) (Nat.pow_le_pow_right (by decide) (by decide))
theorem opAdd_int {st : Store} (a b : Int) : opAdd (.dat (.int a)) (.dat (.int b)) st = some (.dat (.int (a + b)), st) := rfl
theorem opSub_int {st : Store} (a b : Int) : opSub (.dat (.int a)) (.dat (.int b)) st = some (.dat (.int (a - b)), st) := rfl
theorem opGt_int {st : Store} (a b : Int) : opGt (.dat (.int a)) (.dat (.int b)) st = some (.dat (.bool (decide (b < a))), st) := rfl
theorem opLt_int {st : Store} (a b : Int) : opLt (.dat (.int a)) (.dat (.int b)) st = some (.dat (.bool (decide (a < b))), st) := rfl
theorem opGe_int {st : Store} (a b : Int) : opGe (.dat (.int a)) (.dat (.int b)) st = some (.dat (.bool (decide (b ≤ a))), st) := rfl
theorem opLe_int {st : Store} (a b : Int) : opLe (.dat (.int a)) (.dat (.int b)) st = some (.dat (.bool (decide (a ≤ b))), st) := rfl
theorem opInt_int {st : Store} (a : Int) : opInt [.dat (.int a)] st = some (.dat (.int a), st) := rfl
/-! ### sorted -/
theorem listLt_lex : ∀ a b : List Int, PySem.W.listLt a b = HT.lexLt a b
  | [], [] => rfl
  | [], _ :: _ => rfl
  | _ :: _, [] => rfl
  | x :: xs, y :: ys => by
    show (if x = y then PySem.W.listLt xs ys else decide (x < y)) = if x = y then HT.lexLt xs ys else decide (x < y)
    rw [listLt_lex xs ys]
theorem dataLt_ti (a b : List Int) : PySem.W.dataLt (ti a) (ti b) = HT.lexLt a b := (PySem.W.DatumOrd.lt_eq (PySem.W.Tup.mk a) (PySem.W.Tup.mk b)).trans (listLt_lex a b)
def leI (a b : Int) : Bool := decide (a ≤ b)
def leT (a b : List Int) : Bool := !HT.lexLt b a
theorem srt_map {α : Type} {e : α → PyData} {le : α → α → Bool} (h : ∀ a b, (!PySem.W.dataLt (e b) (e a)) = le a b) (xs : List α) : srt (xs.map e) = (xs.mergeSort le).map e := by
  unfold srt
  refine (List.map_mergeSort fun a _ b _ => ?_).symm
  rw [PySem.W.dataLe_eq]
  exact (h a b).symm
theorem leI_dat (a b : Int) : (!PySem.W.dataLt (.int b) (.int a)) = leI a b := by
  rw [PySem.W.dataLt_int]
  unfold leI
  rw [← decide_not]
  exact decide_eq_decide.mpr Int.not_lt
theorem srt_ints (l : List Int) : srt (l.map .int) = (l.mergeSort leI).map .int := srt_map leI_dat l
theorem srt_tis (l : List (List Int)) : srt (l.map ti) = (l.mergeSort leT).map ti := srt_map (fun a b => by rw [dataLt_ti]; rfl) l
theorem lex_irr : ∀ a : List Int, HT.lexLt a a = false
  | [] => rfl
  | x :: xs => by rw [HT.lexLt_cons, if_pos rfl]; exact lex_irr xs
theorem lex_asy : ∀ xs ys : List Int, HT.lexLt xs ys = true → HT.lexLt ys xs = false
  | [], [], _ => rfl
  | [], _ :: _, _ => rfl
  | _ :: _, [], h => by cases h
  | x :: xs, y :: ys, h => by
    rw [HT.lexLt_cons] at h ⊢
    by_cases e : x = y
    · rw [if_pos e] at h; rw [if_pos e.symm]; exact lex_asy xs ys h
    · rw [if_neg e, decide_eq_true_eq] at h
      rw [if_neg (Ne.symm e), decide_eq_false_iff_not]; omega
theorem lex_trn : ∀ xs ys zs : List Int, HT.lexLt ys xs = false → HT.lexLt zs ys = false → HT.lexLt zs xs = false
  | [], _, [], _, _ => rfl
  | _ :: _, ys, [], h1, h2 => by
    cases ys with
    | nil => cases h1
    | cons y ys => cases h2
  | [], ys, z :: zs, h1, h2 => rfl
  | x :: xs, [], z :: zs, h1, h2 => by cases h1
  | x :: xs, y :: ys, z :: zs, h1, h2 => by
    rw [HT.lexLt_cons] at h1 h2 ⊢
    by_cases e1 : y = x
    · by_cases e2 : z = y
      · rw [if_pos e1] at h1; rw [if_pos e2] at h2; rw [if_pos (e2.trans e1)]; exact lex_trn xs ys zs h1 h2
      · rw [if_neg e2, decide_eq_false_iff_not] at h2
        rw [if_neg (by omega), decide_eq_false_iff_not]; omega
    · rw [if_neg e1, decide_eq_false_iff_not] at h1
      by_cases e2 : z = y
      · rw [if_neg (by omega), decide_eq_false_iff_not]; omega
      · rw [if_neg e2, decide_eq_false_iff_not] at h2
        rw [if_neg (by omega), decide_eq_false_iff_not]; omega
theorem lex_ant : ∀ xs ys : List Int, HT.lexLt xs ys = false → HT.lexLt ys xs = false → xs = ys
  | [], [], _, _ => rfl
  | [], _ :: _, h, _ => by cases h
  | _ :: _, [], _, h => by cases h
  | x :: xs, y :: ys, h1, h2 => by
    rw [HT.lexLt_cons] at h1 h2
    by_cases e : x = y
    · rw [if_pos e] at h1; rw [if_pos e.symm] at h2; rw [e, lex_ant xs ys h1 h2]
    · rw [if_neg e, decide_eq_false_iff_not] at h1
      rw [if_neg (Ne.symm e), decide_eq_false_iff_not] at h2
      omega
theorem leI_tr (a b c : Int) (h1 : leI a b = true) (h2 : leI b c = true) : leI a c = true := by unfold leI at *; rw [decide_eq_true_eq] at *; omega
theorem leI_to (a b : Int) : (leI a b || leI b a) = true := by unfold leI; rw [Bool.or_eq_true, decide_eq_true_eq, decide_eq_true_eq]; omega
theorem leT_tr (a b c : List Int) (h1 : leT a b = true) (h2 : leT b c = true) : leT a c = true := by
  unfold leT at *
  rw [Bool.not_eq_true'] at *
  exact lex_trn a b c h1 h2
theorem leT_to (a b : List Int) : (leT a b || leT b a) = true := by
  unfold leT
  cases h : HT.lexLt b a with
  | false => rfl
  | true => rw [lex_asy _ _ h]; rfl
theorem leT_an {a b : List Int} (h1 : leT a b = true) (h2 : leT b a = true) : a = b := by
  unfold leT at *
  rw [Bool.not_eq_true'] at *
  exact lex_ant a b h2 h1
def sI (l : List Int) : List Int := l.mergeSort leI
def sT (l : List (List Int)) : List (List Int) := l.mergeSort leT
theorem sI_perm (l : List Int) : (sI l).Perm l := List.mergeSort_perm _ _
theorem sT_perm (l : List (List Int)) : (sT l).Perm l := List.mergeSort_perm _ _
theorem sI_sorted (l : List Int) : (sI l).Pairwise (· ≤ ·) := (List.pairwise_mergeSort leI_tr leI_to l).imp fun h => by unfold leI at h; exact of_decide_eq_true h
theorem sT_sorted (l : List (List Int)) : (sT l).Pairwise (fun a b => leT a b = true) := List.pairwise_mergeSort leT_tr leT_to l
theorem sI_eq {l m : List Int} (h : l.Perm m) (hm : m.Pairwise (· ≤ ·)) : sI l = m :=
  ((sI_perm l).trans h).eq_of_pairwise (fun a b _ _ h1 h2 => by omega) (sI_sorted l) hm
theorem sT_eq {l m : List (List Int)} (h : l.Perm m) : sT l = sT m :=
  (((sT_perm l).trans h).trans (sT_perm m).symm).eq_of_pairwise (fun a b _ _ h1 h2 => leT_an h1 h2) (sT_sorted l) (sT_sorted m)
/-- sorted and of no two alike -/
theorem sT_strict {l : List (List Int)} (h : l.Nodup) : (sT l).Pairwise (fun a b => HT.lexLt a b = true) := by
  have nd : (sT l).Nodup := (sT_perm l).symm.nodup h
  have := List.Pairwise.and (sT_sorted l) nd
  refine this.imp fun {a b} q => ?_
  cases e : HT.lexLt a b with
  | true => rfl
  | false =>
    have q1 := q.1
    unfold leT at q1
    rw [Bool.not_eq_true'] at q1
    exact absurd (lex_ant a b e q1) q.2
theorem opSorted_of {st : Store} {w : W} {ds : List PyData} (hw : seqOf st w = some (ds.map .dat)) (h1 : allAlike ds = true) (h2 : sortable ds = true) (h3 : ∀ d ∈ ds, d.depth ≤ 64) : opSorted [w] st = some (.dat (.list (srt ds)), st) := by
  unfold opSorted
  simp only [hw, mapM_dat]
  rw [if_pos ⟨h1, h2, by rw [List.all_eq_true]; exact fun d hd => decide_eq_true (h3 d hd)⟩]
theorem alike_map {α : Type} {e : α → PyData} (h : ∀ a b, PySem.W.alike (e a) (e b) = true) (xs : List α) : allAlike (xs.map e) = true := by
  unfold allAlike
  rw [List.all_eq_true]
  intro d hd
  obtain ⟨a, _, rfl⟩ := List.mem_map.mp hd
  rw [List.all_eq_true]
  intro d' hd'
  obtain ⟨b, _, rfl⟩ := List.mem_map.mp hd'
  exact h a b
theorem opSorted_ints {st : Store} {w : W} {l : List Int} (hw : seqOf st w = some ((l.map .int).map .dat)) : opSorted [w] st = some (.dat (li (sI l)), st) := by
  rw [opSorted_of hw (alike_map (fun a b => PySem.W.DatumOrd.alike a b) l) (by
    unfold sortable
    rw [Bool.or_eq_true]
    refine .inr ?_
    rw [List.all_map, List.all_eq_true]
    exact fun _ _ => rfl) (fun d hd => Nat.le_trans ((Lay.map fun x => Lay.int x (k := 0)) d hd).d (by decide)), srt_ints]
  rfl
theorem opSorted_tis {st : Store} {w : W} {l : List (List Int)} (hw : seqOf st w = some ((l.map ti).map .dat)) (hn : ∀ x ∈ l, x ≠ []) : opSorted [w] st = some (.dat (lp (sT l)), st) := by
  rw [opSorted_of hw (alike_map (fun a b => PySem.W.DatumOrd.alike (PySem.W.Tup.mk a) (PySem.W.Tup.mk b)) l) (by
    unfold sortable
    rw [Bool.or_eq_true]
    refine .inl ?_
    rw [List.all_map, List.all_eq_true]
    intro x hx
    cases x with
    | nil => exact absurd rfl (hn _ hx)
    | cons a b => rfl) (fun d hd => Nat.le_trans ((Lay.map fun x => Lay.ti x (k := 0)) d hd).d (by decide)), srt_tis]
  rfl
end L3
set_option Elab.async false
set_option linter.all false
set_option maxRecDepth 100000
set_option maxHeartbeats 4000000
set_option autoImplicit false
/-! L4: loops that make a list. -/
namespace L3
open PySem PySem.Spec PyProof.Rows L2
theorem get_last {st : Store} {c : Cell} : (st ++ [c])[st.length]? = some c := by rw [List.getElem?_append_right (Nat.le_refl _), Nat.sub_self]; rfl
theorem set_last {st : Store} {c c' : Cell} : (st ++ [c]).set st.length c' = st ++ [c'] := by rw [List.set_append, if_neg (Nat.lt_irrefl _), Nat.sub_self]; rfl
theorem small (k : Nat) (h : k ≤ 16777216) : k ≤ sizeLine := Nat.le_trans h (Nat.le_of_eq sizeLine_eq.symm)
theorem ft {α : Type} (l : List α) : l.filter (fun _ => true) = l := List.filter_eq_self.mpr fun _ _ => rfl
theorem take_next {α : Type} {xs : List α} {i : Nat} {x : α} (h : xs[i]? = some x) : xs.take (i + 1) = xs.take i ++ [x] := by
  obtain ⟨hi, rfl⟩ := List.getElem?_eq_some_iff.mp h
  rw [List.take_succ_eq_append_getElem hi]
theorem flatMap_le {α β : Type} (xs : List α) (f : α → List β) (i : Nat) : ((xs.take i).flatMap f).length ≤ (xs.flatMap f).length := by
  have e := congrArg (fun l => (l.flatMap f).length) (List.take_append_drop i xs)
  simp only [List.flatMap_append, List.length_append] at e
  omega
theorem bFor_ext {α : Type} {fi : Ei} {g : Eg} {u : Eb} {env : E3} {st : Store} {it : It3} {acc0 : List PyData} (xs : List α) (e : α → W) (hi : fi env (st ++ [.list (acc0.map .dat)]) = some (it, st ++ [.list (acc0.map .dat)])) (hg : Gives it (fun s => ∃ acc, s = st ++ [.list acc]) (xs.map e)) (f : α → List PyData) (E : E3 → Prop) (h0 : E env)
    (hlen : acc0.length + (xs.flatMap f).length ≤ 16777216) (hs : ∀ x ∈ xs, ∀ (env : E3) (acc : List PyData), E env → (acc.map W.dat).length + (f x).length ≤ sizeLine → ∃ env1, stepOf g u (e x) env (st ++ [.list (acc.map .dat)]) = some (.nx, env1, st ++ [.list ((acc ++ f x).map .dat)]) ∧ E env1) :
    ∃ env1, bFor fi g u env (st ++ [.list (acc0.map .dat)]) = some (.nx, env1, st ++ [.list ((acc0 ++ xs.flatMap f).map .dat)]) ∧ E env1 := by
  obtain ⟨env1, st1, h1, h2, h3⟩ := bFor_inv hi hg (fun i env s => s = st ++ [.list ((acc0 ++ (xs.take i).flatMap f).map .dat)] ∧ E env) (fun i env s q => ⟨_, q.1⟩) ⟨by simp, h0⟩ (fun i w env s hw ⟨q1, q2⟩ => by
    subst q1
    rw [List.getElem?_map] at hw
    obtain ⟨x, hx, rfl⟩ := Option.map_eq_some_iff.mp hw
    obtain ⟨env1, k1, k2⟩ := hs x (List.mem_of_getElem? hx) env (acc0 ++ (xs.take i).flatMap f) q2 (by
      have := flatMap_le xs f (i + 1)
      rw [take_next hx, List.flatMap_append, List.length_append] at this
      simp only [List.flatMap_cons, List.flatMap_nil, List.append_nil] at this
      rw [List.length_map, List.length_append]
      exact small _ (by omega))
    refine ⟨env1, _, .inl k1, ?_, k2⟩
    rw [take_next hx, List.flatMap_append, List.flatMap_cons, List.flatMap_nil, List.append_nil, List.append_assoc])
  subst h2
  rw [List.length_map, List.take_length] at h1
  exact ⟨env1, h1, h3⟩
theorem gives_tupm {α : Type} {S : Store → Prop} (xs : List α) (e : α → PyData) : Gives (liveSeq (.dat (.tuple (xs.map e))) ((xs.map e).map .dat)) S (xs.map fun x => .dat (e x)) := by
  have e1 : xs.map (fun x => W.dat (e x)) = (xs.map e).map W.dat := by rw [List.map_map]; rfl
  rw [e1]
  exact gives_tup
theorem gives_enum_tupm {α : Type} {S : Store → Prop} (xs : List α) (e : α → PyData) : Gives (itEnum (.dat (.tuple (xs.map e))) ((xs.map e).map W.dat).length) S (xs.zipIdx.map fun x => .dat (.tuple [.int x.2, e x.1])) := by
  have h := gives_enum (S := S) (w := .dat (.tuple (xs.map e))) (ds := xs.map e) fun _ _ => rfl
  rw [List.zipIdx_map] at h
  rw [List.map_map (l := xs.zipIdx)] at h
  exact h
/-- found.extend(e) at the last cell -/
theorem ext_last {st : Store} {acc ds : List PyData} {f : Ev} {g : Ea} {env : E3} (hf : f env (st ++ [.list (acc.map .dat)]) = some (.loc st.length, st ++ [.list (acc.map .dat)])) (hg : g env (st ++ [.list (acc.map .dat)]) = some ([.dat (.list ds)], st ++ [.list (acc.map .dat)])) (hz : (acc.map W.dat).length + ds.length ≤ sizeLine) :
    bMeth opExtend f g env (st ++ [.list (acc.map .dat)]) = some (.dat .none, st ++ [.list ((acc ++ ds).map .dat)]) := by
  unfold bMeth
  rw [hf, Option.bind_some]
  simp only [isL, get_last, if_true, hg, Option.bind_some, opExtend, hz, set_last, List.map_append]
theorem app_last {st : Store} {acc : List PyData} {d : PyData} {f : Ev} {g : Ea} {env : E3} (hf : f env (st ++ [.list (acc.map .dat)]) = some (.loc st.length, st ++ [.list (acc.map .dat)])) (hg : g env (st ++ [.list (acc.map .dat)]) = some ([.dat d], st ++ [.list (acc.map .dat)])) (hz : (acc.map W.dat).length < sizeLine) :
    bMeth opAppend f g env (st ++ [.list (acc.map .dat)]) = some (.dat .none, st ++ [.list ((acc ++ [d]).map .dat)]) := by
  unfold bMeth
  rw [hf, Option.bind_some]
  simp only [isL, get_last, if_true, hg, Option.bind_some, opAppend, hz, set_last, List.map_append, List.map_cons, List.map_nil]
theorem new_list {st : Store} : opLstNew [] st = some (.loc st.length, st ++ [.list ([].map .dat)]) := by unfold opLstNew; exact if_pos (Nat.zero_le _)
/-- tuple([x for x in p if x in q]) -/
theorem keepIn_ti {f : Ev} {i j : Nat} {vs : List Nat} {env env1 : E3} {st : Store} (p q : List Int) (hf : f env st = some (.dat (ti p), st)) (hw : ∀ x : Int, gNm i (.dat (.int x)) (wipe3 env vs) st = some ((wipe3 env vs).set i (some (.dat (.int x))), st))
    (hi : ∀ x : Int, ((wipe3 env vs).set i (some (.dat (.int x))))[i]? = some (some (.dat (.int x)))) (hj : ∀ x : Int, ((wipe3 env vs).set i (some (.dat (.int x))))[j]? = some (some (.dat (ti q)))) (neg : Bool) :
    bComp (iSeq f) (gNm i) (tBl (b2 (opIn neg) (bVar i) (bVar j))) (bVar i) vs env st = some (.dat (li (p.filter fun x => neg ^^ decide (x ∈ q))), st) := by
  refine comp_seq (xs := p) (e := .int) hf rfl (fun x => neg ^^ decide (x ∈ q)) .int fun x hx => ⟨_, hw x, ?_, fun _ => ?_⟩
  · simp only [tBl, b2, bVar, hi, hj, Option.bind_some, opIn_ti]
  · simp only [bVar, hi]
end L3
set_option Elab.async false
set_option linter.all false
set_option maxRecDepth 100000
set_option maxHeartbeats 4000000
set_option autoImplicit false
/-! L4: dicts. -/
namespace L3
open PySem PySem.Spec PyProof.Rows L2
theorem valW_cons (p : Key × W) (kvs : List (Key × W)) (k : Key) : valW (p :: kvs) k = if p.1 = k then some p.2 else valW kvs k := by
  unfold valW
  rw [List.find?_cons]
  by_cases h : p.1 = k <;> simp [h]
theorem valW_append (a b : List (Key × W)) (k : Key) : valW (a ++ b) k = match valW a k with | some v => some v | none => valW b k := by
  induction a with
  | nil => rfl
  | cons p a ih => rw [List.cons_append, valW_cons, valW_cons]; split <;> simp_all
theorem valW_map (kvs : List (Key × W)) (k k' : Key) (v : W) : valW (kvs.map fun kv => if kv.1 = k then (kv.1, v) else kv) k' = if k = k' then (valW kvs k').map (fun _ => v) else valW kvs k' := by
  induction kvs with
  | nil => simp [valW]
  | cons p a ih =>
    rw [List.map_cons, valW_cons, ih, valW_cons]
    by_cases h : p.1 = k
    · by_cases h2 : k = k'
      · simp [h, h2]
      · simp [h, h2]
    · by_cases h2 : k = k'
      · simp [h, h2, show ¬ p.1 = k' from fun q => h (q.trans h2.symm)]
      · simp [h, h2]
theorem valW_any (kvs : List (Key × W)) (k : Key) : (kvs.any fun kv => decide (kv.1 = k)) = (valW kvs k).isSome := by
  induction kvs with
  | nil => rfl
  | cons p a ih => rw [List.any_cons, ih, valW_cons]; by_cases h : p.1 = k <;> simp [h]
theorem valW_put (kvs : List (Key × W)) (k k' : Key) (v : W) : valW (putG kvs k v) k' = if k = k' then some v else valW kvs k' := by
  unfold putG
  rw [valW_any]
  split
  · rename_i h
    rw [valW_map]
    by_cases h2 : k = k'
    · subst h2
      obtain ⟨w, hw⟩ := Option.isSome_iff_exists.mp h
      simp [hw]
    · simp [h2]
  · rename_i h
    rw [valW_append, valW_cons]
    by_cases h2 : k = k'
    · subst h2
      have : valW kvs k = none := by simpa using h
      simp [this]
    · have : valW [] k' = none := rfl
      simp only [h2, if_false, this]
      cases valW kvs k' <;> rfl
theorem keys_put {α : Type} (kvs : List (Key × α)) (k : Key) (v : α) : ∀ x, x ∈ (putG kvs k v).map (·.1) ↔ x = k ∨ x ∈ kvs.map (·.1) := by
  intro x
  unfold putG
  split
  · rename_i h
    rw [List.any_eq_true] at h
    obtain ⟨p, hp, e⟩ := h
    rw [decide_eq_true_eq] at e
    rw [List.map_map]
    have : (kvs.map ((fun z : Key × α => z.1) ∘ fun kv => if kv.1 = k then (kv.1, v) else kv)) = kvs.map (·.1) := List.map_congr_left fun q _ => by show (if q.1 = k then (q.1, v) else q).1 = q.1; split <;> rfl
    rw [this]
    constructor
    · exact .inr
    · rintro (e2 | h)
      · subst e2; exact List.mem_map.mpr ⟨p, hp, e⟩
      · exact h
  · rw [List.map_append, List.mem_append]; simp [or_comm]
theorem vals_put {α : Type} (kvs : List (Key × α)) (k : Key) (v : α) : ∀ e ∈ putG kvs k v, e.2 = v ∨ e ∈ kvs := by
  intro e he
  unfold putG at he
  split at he
  · obtain ⟨q, hq, rfl⟩ := List.mem_map.mp he
    split
    · exact .inl rfl
    · exact .inr hq
  · rcases List.mem_append.mp he with h | h
    · exact .inr h
    · simp at h; subst h; exact .inl rfl
/-- one value at many keys -/
def putAll {α : Type} (xs : List α) (key : α → Key) (v : α → W) : List (Key × W) := xs.foldl (fun acc x => putG acc (key x) (v x)) []
theorem foldl_put {α : Type} (key : α → Key) (v : W) : ∀ (xs : List α) (acc : List (Key × W)), (∀ e ∈ acc, e.2 = v) → (∀ e ∈ xs.foldl (fun acc x => putG acc (key x) v) acc, e.2 = v) ∧ (∀ k, k ∈ (xs.foldl (fun acc x => putG acc (key x) v) acc).map (·.1) ↔ k ∈ xs.map key ∨ k ∈ acc.map (·.1)) ∧ (xs.foldl (fun acc x => putG acc (key x) v) acc).length ≤ acc.length + xs.length
  | [], acc, h => ⟨h, fun k => by simp, Nat.le_refl _⟩
  | x :: xs, acc, h => by
    obtain ⟨h1, h2, h3⟩ := foldl_put key v xs (putG acc (key x) v) fun e he => (vals_put acc (key x) v e he).elim id (h e)
    refine ⟨h1, fun k => ?_, ?_⟩
    · rw [List.foldl_cons, h2 k, keys_put, List.map_cons, List.mem_cons, or_left_comm, or_assoc]
    · rw [List.foldl_cons, List.length_cons]; have := putG_len acc (key x) v; omega
open Classical in
theorem valW_merge (v : W) : ∀ (more kvs : List (Key × W)), (∀ e ∈ more, e.2 = v) → ∀ k, valW (mergeG kvs more) k = if k ∈ more.map (fun p : Key × W => p.1) then some v else valW kvs k
  | [], kvs, _, k => by simp [mergeG]
  | p :: more, kvs, h, k => by
    have ih := valW_merge v more (putG kvs p.1 p.2) (fun e he => h e (List.mem_cons_of_mem _ he)) k
    have e : mergeG kvs (p :: more) = mergeG (putG kvs p.1 p.2) more := rfl
    rw [e, ih, valW_put, h p List.mem_cons_self, List.map_cons]
    by_cases h1 : k ∈ more.map (·.1)
    · simp [h1]
    · by_cases h2 : p.1 = k
      · subst h2; simp
      · simp [h1, h2, Ne.symm h2]
theorem dcRun_pure {α : Type} {it : It3} {gt : Eg} {t : Et} {kx vx : Ev} {env0 : E3} {st : Store} {xs : List α} {e : α → W} (hg : Gives it (· = st) (xs.map e)) (kw : α → W) (key : α → Key) (v : α → W)
    (h : ∀ x ∈ xs, ∃ env1, gt (e x) env0 st = some (env1, st) ∧ t env1 st = some (true, st) ∧ kx env1 st = some (kw x, st) ∧ vx env1 st = some (v x, st) ∧ keyOf (kw x) = some (key x)) :
    ∀ (k i : Nat) acc, i + k = xs.length → dcRun it gt t kx vx env0 (k + 1) i st acc = some ((xs.drop i).foldl (fun acc x => putG acc (key x) (v x)) acc, st)
  | 0, i, acc, hk => by
    unfold dcRun
    rw [hg.2 st rfl, List.getElem?_eq_none (by rw [List.length_map]; omega), List.drop_eq_nil_of_le (by omega)]
    rfl
  | k + 1, i, acc, hk => by
    have hi : i < xs.length := by omega
    obtain ⟨env1, h1, h2, h3, h4, h5⟩ := h xs[i] (List.getElem_mem hi)
    unfold dcRun
    rw [hg.2 st rfl, List.getElem?_map, List.getElem?_eq_getElem hi]
    simp only [Option.map_some, h1, h2, h3, h4, h5]
    rw [dcRun_pure hg kw key v h k (i + 1) _ (by omega), List.drop_eq_getElem_cons hi]
    rfl
theorem dcAll_pure {α : Type} {fi : Ei} {gt : Eg} {t : Et} {kx vx : Ev} {vs : List Nat} {env : E3} {it : It3} {st : Store} {xs : List α} {e : α → W} (hi : fi env st = some (it, st)) (hg : Gives it (· = st) (xs.map e)) (kw : α → W) (key : α → Key) (v : α → W)
    (h : ∀ x ∈ xs, ∃ env1, gt (e x) (wipe3 env vs) st = some (env1, st) ∧ t env1 st = some (true, st) ∧ kx env1 st = some (kw x, st) ∧ vx env1 st = some (v x, st) ∧ keyOf (kw x) = some (key x)) : dcAll fi gt t kx vx vs env st = some (putAll xs key v, st) := by
  unfold dcAll
  rw [hi, Option.bind_some]
  simp only
  rw [hg.1, List.length_map]
  exact dcRun_pure hg kw key v h xs.length 0 [] (by omega)
end L3
set_option Elab.async false
set_option linter.all false
set_option maxRecDepth 100000
set_option maxHeartbeats 4000000
set_option autoImplicit false
/-! L4: repr. -/
namespace L3
open PySem PySem.Spec PyProof.Rows L2
structure Shw (k w : Nat) (d : PyData) : Prop where
  lay : Lay k d
  wt : d.weight ≤ w
  sh : d.intsShort 13 = true
  ok : d.showable = true
theorem shortAll {ds : List PyData} (h : ∀ d ∈ ds, d.intsShort 13 = true) : PyData.intsShortAll 13 ds = true := by
  induction ds with
  | nil => simp only [PyData.intsShortAll]
  | cons d ds ih => simp only [PyData.intsShortAll, Bool.and_eq_true]; exact ⟨h d List.mem_cons_self, ih fun x hx => h x (List.mem_cons_of_mem _ hx)⟩
theorem showAll {ds : List PyData} (h : ∀ d ∈ ds, d.showable = true) : PyData.showableAll ds = true := by
  induction ds with
  | nil => simp only [PyData.showableAll]
  | cons d ds ih => simp only [PyData.showableAll, Bool.and_eq_true]; exact ⟨h d List.mem_cons_self, ih fun x hx => h x (List.mem_cons_of_mem _ hx)⟩
theorem weightAll_le {w : Nat} {ds : List PyData} (h : ∀ d ∈ ds, d.weight ≤ w) : PyData.weightAll ds ≤ ds.length * (w + 1) := by
  induction ds with
  | nil => simp [PyData.weightAll]
  | cons d ds ih =>
    have h1 := ih fun x hx => h x (List.mem_cons_of_mem _ hx)
    have h2 := h d List.mem_cons_self
    simp only [PyData.weightAll, List.length_cons, Nat.succ_mul]
    omega
theorem Shw.mono {j k v w : Nat} {d : PyData} (h : Shw j v d) (l : j ≤ k := by decide) (m : v ≤ w := by decide) : Shw k w d := ⟨h.lay.mono l, Nat.le_trans h.wt m, h.sh, h.ok⟩
theorem Shw.bool (b : Bool) : Shw 0 0 (.bool b) := ⟨.bool b, by simp only [PyData.weight]; omega, by simp only [PyData.intsShort], by simp only [PyData.showable]⟩
theorem Shw.none : Shw 0 0 .none := ⟨.none, by simp only [PyData.weight]; omega, by simp only [PyData.intsShort], by simp only [PyData.showable]⟩
theorem Shw.int {n : Int} (h1 : -999999999999 < n) (h2 : n < 999999999999) : Shw 0 41 (.int n) := by
  have hl : n.natAbs.log2 < 40 := log2_small (show n.natAbs < 2 ^ 40 by omega) (by decide)
  refine ⟨.int n, ?_, intsShort_of_noneOrIn (lo := -999999999999) (hi := 999999999999) (by decide) (by decide) _ (by simp only [noneOrIn, Bool.and_eq_true, decide_eq_true_eq]; exact ⟨h1, h2⟩), ?_⟩
  · simp only [PyData.weight]; split <;> omega
  · simp only [PyData.showable, decide_eq_true_eq]; omega
theorem Shw.tup {k w : Nat} {ds : List PyData} (h : ∀ d ∈ ds, Shw k w d) : Shw (k + 1) (ds.length * (w + 1)) (.tuple ds) :=
  ⟨.tup fun d hd => (h d hd).lay, by simp only [PyData.weight]; exact weightAll_le fun d hd => (h d hd).wt, by simp only [PyData.intsShort]; exact shortAll fun d hd => (h d hd).sh, by simp only [PyData.showable]; exact showAll fun d hd => (h d hd).ok⟩
theorem Shw.lst {k w : Nat} {ds : List PyData} (h : ∀ d ∈ ds, Shw k w d) : Shw (k + 1) (ds.length * (w + 1)) (.list ds) :=
  ⟨.lst fun d hd => (h d hd).lay, by simp only [PyData.weight]; exact weightAll_le fun d hd => (h d hd).wt, by simp only [PyData.intsShort]; exact shortAll fun d hd => (h d hd).sh, by simp only [PyData.showable]; exact showAll fun d hd => (h d hd).ok⟩
theorem Shw.repr {k w : Nat} {d : PyData} {st : Store} (h : Shw k w d) (hk : k ≤ 64) (hw : w ≤ 1048576) : opRepr [.dat d] st = some (.dat (.str d.shown), st) := by
  unfold opRepr
  simp only [deepOf, dataOf]
  have hw2 : d.weight ≤ 2 ^ 20 := by have := h.wt; omega
  have hd : d.depth ≤ 64 := Nat.le_trans h.lay.d hk
  have hl : d.layable0 = true := by
    unfold PyData.layable0
    rw [h.lay.c, decide_eq_true hd, decide_eq_true hw2]
    rfl
  have := shown_le13 hl h.sh
  exact if_pos ⟨h.ok, PyData.hasDict_of_canLay d h.lay.c, hd, small _ (by omega)⟩
theorem Shw.ti {l : List Int} {n : Nat} (hl : l.length ≤ n) (h : ∀ x ∈ l, 0 ≤ x ∧ x < 999999999999) : Shw 1 (n * 42) (ti l) := by
  refine (Shw.tup (k := 0) (w := 41) (ds := l.map .int) fun d hd => ?_).mono (Nat.le_refl _) (by rw [List.length_map]; exact Nat.mul_le_mul_right _ hl)
  obtain ⟨x, hx, rfl⟩ := List.mem_map.mp hd
  exact .int (by have := (h x hx).1; omega) (h x hx).2
theorem Shw.tp {P : List (List Int)} {n k : Nat} (hP : P.length ≤ k) (hl : ∀ l ∈ P, l.length ≤ n) (h : ∀ l ∈ P, ∀ x ∈ l, 0 ≤ x ∧ x < 999999999999) : Shw 2 (k * (n * 42 + 1)) (tp P) := by
  refine (Shw.tup (k := 1) (w := n * 42) (ds := P.map L3.ti) fun d hd => ?_).mono (Nat.le_refl _) (by rw [List.length_map]; exact Nat.mul_le_mul_right _ hP)
  obtain ⟨l, hl', rfl⟩ := List.mem_map.mp hd
  exact Shw.ti (hl l hl') (h l hl')
theorem opNe_str {st : Store} (a b : Str) : opNe (.dat (.str a)) (.dat (.str b)) st = some (.dat (.bool (!decide (a = b))), st) := rfl
theorem opEq_str {st : Store} (a b : Str) : opEq (.dat (.str a)) (.dat (.str b)) st = some (.dat (.bool (decide (a = b))), st) := rfl
end L3
set_option Elab.async false
set_option linter.all false
set_option maxRecDepth 100000
set_option maxHeartbeats 400000
set_option autoImplicit false
/-! L4: in of lists. -/
namespace L3
open PySem PySem.Spec PyProof.Rows L2
theorem any_ints (x : Int) (l : List Int) : ((l.map PyData.int).any fun z => PyData.eqv z (.int x)) = decide (x ∈ l) := by
  have h := opIn_ti (neg := false) (st := []) x l
  rw [ti, opIn_tup (.int x (k := 0)) (.ti l (k := 0))] at h
  simpa using h
theorem opIn_li {neg : Bool} {st : Store} (x : Int) (l : List Int) : opIn neg (.dat (.int x)) (.dat (li l)) st = some (.dat (.bool (neg ^^ decide (x ∈ l))), st) := by
  have h1 := (Lay.int x (k := 0)).sh
  have h2 := (Lay.li l (k := 0)).sh
  unfold li at h2 ⊢
  simp only [opIn, dataOf, h1, h2, Bool.and_self, if_true, any_ints]
theorem mapM_dats (ds : List PyData) : (ds.map W.dat).mapM datOf = some ds := by
  induction ds with
  | nil => rfl
  | cons d ds ih => rw [List.map_cons, List.mapM_cons, ih]; rfl
theorem opIn_cell {neg : Bool} {st : Store} {n : Nat} (x : Int) (l : List Int) (h : st[n]? = some (.list ((l.map .int).map .dat))) : opIn neg (.dat (.int x)) (.loc n) st = some (.dat (.bool (neg ^^ decide (x ∈ l))), st) := by
  have h1 := (Lay.int x (k := 0)).sh
  have h2 := (Lay.li l (k := 0)).sh
  unfold li at h2
  simp only [opIn, dataOf, h, mapM_dats, Option.map_some, h1, h2, Bool.and_self, if_true, any_ints]
end L3
set_option Elab.async false
set_option linter.all false
set_option maxRecDepth 100000
set_option maxHeartbeats 400000
set_option autoImplicit false
/-! Plain laws of webs: what hangs together. No program in sight. -/
namespace L3
inductive Conn (ts : List (Int × Int)) : Int → Int → Prop
  | refl (x : Int) : Conn ts x x
  | step {x y z : Int} : Conn ts x y → ((y, z) ∈ ts ∨ (z, y) ∈ ts) → Conn ts x z
theorem Conn.trans {ts : List (Int × Int)} {x y z : Int} (h : Conn ts x y) (h' : Conn ts y z) : Conn ts x z := by
  induction h' with
  | refl => exact h
  | step _ e ih => exact .step ih e
theorem Conn.one {ts : List (Int × Int)} {x y : Int} (e : (x, y) ∈ ts ∨ (y, x) ∈ ts) : Conn ts x y := .step (.refl x) e
theorem Conn.symm {ts : List (Int × Int)} {x y : Int} (h : Conn ts x y) : Conn ts y x := by
  induction h with
  | refl => exact .refl _
  | step _ e ih => exact (Conn.one e.symm).trans ih
theorem Conn.mono {ts us : List (Int × Int)} (s : ∀ t ∈ ts, t ∈ us) {x y : Int} (h : Conn ts x y) : Conn us x y := by
  induction h with
  | refl => exact .refl _
  | step _ e ih => exact .step ih (e.imp (s _) (s _))
theorem Conn.snoc {ts : List (Int × Int)} {a b x y : Int} : Conn (ts ++ [(a, b)]) x y ↔ Conn ts x y ∨ (Conn ts x a ∧ Conn ts b y) ∨ (Conn ts x b ∧ Conn ts a y) := by
  constructor
  · intro h
    induction h with
    | refl => exact .inl (.refl _)
    | @step y z _ e ih =>
      have e' : ((y, z) ∈ ts ∨ (z, y) ∈ ts) ∨ (y = a ∧ z = b) ∨ (z = a ∧ y = b) := by
        simp only [List.mem_append, List.mem_singleton, Prod.mk.injEq] at e
        rcases e with (e | e) | (e | e)
        · exact .inl (.inl e)
        · exact .inr (.inl e)
        · exact .inl (.inr e)
        · exact .inr (.inr e)
      rcases e' with e' | ⟨rfl, rfl⟩ | ⟨rfl, rfl⟩
      · rcases ih with h | ⟨h1, h2⟩ | ⟨h1, h2⟩
        · exact .inl (.step h e')
        · exact .inr (.inl ⟨h1, .step h2 e'⟩)
        · exact .inr (.inr ⟨h1, .step h2 e'⟩)
      · rcases ih with h | ⟨h1, h2⟩ | ⟨h1, h2⟩
        · exact .inr (.inl ⟨h, .refl _⟩)
        · exact .inr (.inl ⟨h1, .refl _⟩)
        · exact .inl h1
      · rcases ih with h | ⟨h1, h2⟩ | ⟨h1, h2⟩
        · exact .inr (.inr ⟨h, .refl _⟩)
        · exact .inl h1
        · exact .inr (.inr ⟨h1, .refl _⟩)
  · have m : ∀ t ∈ ts, t ∈ ts ++ [(a, b)] := fun t h => List.mem_append_left _ h
    have ab : Conn (ts ++ [(a, b)]) a b := Conn.one (.inl (by simp))
    rintro (h | ⟨h1, h2⟩ | ⟨h1, h2⟩)
    · exact h.mono m
    · exact (h1.mono m).trans (ab.trans (h2.mono m))
    · exact (h1.mono m).trans (ab.symm.trans (h2.mono m))
/-- labels that tell what hangs together -/
def relab (a b : Int) (f : Int → Int) (x : Int) : Int := if f x = f a ∨ f x = f b then (if f b < f a then f b else f a) else f x
theorem relab_iff {ts : List (Int × Int)} {f : Int → Int} {a b : Int} {D : Int → Prop} (ha : D a) (hb : D b) (h : ∀ x y, D x → D y → (f x = f y ↔ Conn ts x y)) : ∀ x y, D x → D y → (relab a b f x = relab a b f y ↔ Conn (ts ++ [(a, b)]) x y) := by
  intro x y hx hy
  rw [Conn.snoc, ← h x y hx hy, ← h x a hx ha, ← h b y hb hy, ← h x b hx hb, ← h a y ha hy]
  unfold relab
  constructor
  · intro e
    by_cases h1 : f x = f a ∨ f x = f b
    · by_cases h2 : f y = f a ∨ f y = f b
      · omega
      · rw [if_pos h1, if_neg h2] at e
        split at e <;> omega
    · by_cases h2 : f y = f a ∨ f y = f b
      · rw [if_neg h1, if_pos h2] at e
        split at e <;> omega
      · rw [if_neg h1, if_neg h2] at e
        exact .inl e
  · intro e
    by_cases h1 : f x = f a ∨ f x = f b
    · have h2 : f y = f a ∨ f y = f b := by omega
      rw [if_pos h1, if_pos h2]
    · rw [if_neg h1, if_neg (by omega)]
      omega
end L3
set_option Elab.async false
set_option linter.all false
set_option maxRecDepth 100000
set_option maxHeartbeats 400000
set_option autoImplicit false
/-! Plain laws of webs: what is reached in so many rounds. -/
namespace L3
theorem nd_le {p : List Int} : ∀ {q : List Int}, p.Nodup → (∀ x ∈ p, x ∈ q) → p.length ≤ q.length := by
  induction p with
  | nil => intro q _ _; exact Nat.zero_le _
  | cons x p ih =>
    intro q nd s
    rw [List.nodup_cons] at nd
    have hx := s x (by simp)
    have h := ih (q := q.erase x) nd.2 fun y hy => (List.mem_erase_of_ne (fun e : y = x => nd.1 (by rw [← e]; exact hy))).mpr (s y (by simp [hy]))
    rw [List.length_erase_of_mem hx] at h
    have := List.length_pos_of_mem hx
    rw [List.length_cons]
    omega
theorem nd_lt {p q : List Int} {y : Int} (nd : p.Nodup) (s : ∀ x ∈ p, x ∈ q) (h1 : y ∈ q) (h2 : y ∉ p) : p.length < q.length := by
  have := nd_le (p := y :: p) (q := q) (List.nodup_cons.mpr ⟨h2, nd⟩) (fun x hx => by
    rcases List.mem_cons.mp hx with rfl | hx
    · exact h1
    · exact s x hx)
  rw [List.length_cons] at this
  omega
/-- one round: who is tied to the part, too -/
def near (ts : List (Int × Int)) (p : List Int) : List Int := ts.flatMap fun t => (if t.1 ∈ p then [t.2] else []) ++ (if t.2 ∈ p then [t.1] else [])
def grow (ts : List (Int × Int)) (p : List Int) : List Int := sset (p ++ near ts p)
theorem mem_near {ts : List (Int × Int)} {p : List Int} {x : Int} : x ∈ near ts p ↔ ∃ y ∈ p, (y, x) ∈ ts ∨ (x, y) ∈ ts := by
  unfold near
  rw [List.mem_flatMap]
  constructor
  · rintro ⟨t, ht, h⟩
    rcases List.mem_append.mp h with h | h
    · split at h
      · rename_i h1; rw [List.mem_singleton.mp h]; exact ⟨t.1, h1, .inl ht⟩
      · cases h
    · split at h
      · rename_i h1; rw [List.mem_singleton.mp h]; exact ⟨t.2, h1, .inr ht⟩
      · cases h
  · rintro ⟨y, hy, h | h⟩
    · exact ⟨_, h, List.mem_append_left _ (by simp [hy])⟩
    · exact ⟨_, h, List.mem_append_right _ (by simp [hy])⟩
theorem mem_grow {ts : List (Int × Int)} {p : List Int} {x : Int} : x ∈ grow ts p ↔ x ∈ p ∨ ∃ y ∈ p, (y, x) ∈ ts ∨ (x, y) ∈ ts := by
  unfold grow
  rw [mem_sset, List.mem_append, mem_near]
def growN (ts : List (Int × Int)) (s : Int) : Nat → List Int
  | 0 => [s]
  | k + 1 => grow ts (growN ts s k)
theorem growN_nd (ts : List (Int × Int)) (s : Int) : ∀ k, (growN ts s k).Pairwise (· < ·)
  | 0 => by simp [growN]
  | k + 1 => sset_sorted _
theorem growN_conn {ts : List (Int × Int)} {s x : Int} : ∀ {k : Nat}, x ∈ growN ts s k → Conn ts s x
  | 0, h => by rw [List.mem_singleton.mp h]; exact .refl _
  | k + 1, h => by
    rcases mem_grow.mp h with h | ⟨y, hy, e⟩
    · exact growN_conn h
    · exact .step (growN_conn hy) e
theorem growN_start (ts : List (Int × Int)) (s : Int) : ∀ k, s ∈ growN ts s k
  | 0 => by simp [growN]
  | k + 1 => mem_grow.mpr (.inl (growN_start ts s k))
theorem growN_fix {ts : List (Int × Int)} {s : Int} : ∀ k, (∀ x, x ∈ grow ts (growN ts s k) → x ∈ growN ts s k) ∨ k + 1 ≤ (growN ts s k).length
  | 0 => .inr (by simp [growN])
  | k + 1 => by
    rcases growN_fix (ts := ts) (s := s) k with h | h
    · refine .inl fun x hx => ?_
      rcases mem_grow.mp hx with hx | ⟨y, hy, e⟩
      · exact hx
      · exact mem_grow.mpr (.inl (h x (mem_grow.mpr (.inr ⟨y, h y hy, e⟩))))
    · by_cases hc : ∀ x, x ∈ grow ts (growN ts s k) → x ∈ growN ts s k
      · refine .inl fun x hx => ?_
        rcases mem_grow.mp hx with hx | ⟨y, hy, e⟩
        · exact hx
        · exact mem_grow.mpr (.inr ⟨y, hc y hy, e⟩)
      · refine .inr ?_
        obtain ⟨x, hx⟩ := Classical.not_forall.mp hc
        obtain ⟨h1, h2⟩ := Classical.not_imp.mp hx
        have := nd_lt (q := growN ts s (k + 1)) ((growN_nd ts s k).imp fun h => by omega) (fun z hz => mem_grow.mpr (.inl hz)) h1 h2
        omega
theorem growN_all {ts : List (Int × Int)} {s : Int} {n : Nat} (hs : 0 ≤ s ∧ s < n) (ht : ∀ t ∈ ts, (0 ≤ t.1 ∧ t.1 < n) ∧ 0 ≤ t.2 ∧ t.2 < n) {x : Int} : x ∈ growN ts s n ↔ Conn ts s x := by
  have rng : ∀ k, ∀ x ∈ growN ts s k, 0 ≤ x ∧ x < n := by
    intro k
    induction k with
    | zero => intro x h; rw [List.mem_singleton.mp h]; exact hs
    | succ k ih =>
      intro x h
      rcases mem_grow.mp h with h | ⟨y, hy, e | e⟩
      · exact ih x h
      · exact (ht _ e).2
      · exact (ht _ e).1
  have fix : ∀ x, x ∈ grow ts (growN ts s n) → x ∈ growN ts s n := by
    rcases growN_fix (ts := ts) (s := s) n with h | h
    · exact h
    · have := nd_le (q := (List.range n).map fun i : Nat => (i : Int)) ((growN_nd ts s n).imp fun h => by omega) fun x hx => by
        have := rng n x hx
        exact List.mem_map.mpr ⟨x.toNat, List.mem_range.mpr (by omega), by omega⟩
      rw [List.length_map, List.length_range] at this
      omega
  refine ⟨growN_conn, fun h => ?_⟩
  induction h with
  | refl => exact growN_start ts s n
  | step _ e ih => exact fix _ (mem_grow.mpr (.inr ⟨_, ih, e⟩))
end L3
set_option Elab.async false
set_option linter.all false
set_option maxRecDepth 100000
set_option maxHeartbeats 400000
set_option autoImplicit false
/-! Plain laws of webs: the sorted list of the parts is one alone. -/
namespace L3
open PySem PySem.Spec PyProof.Rows L2
theorem strict_unique {α : Type} {R : α → α → Prop} (irr : ∀ a, ¬ R a a) (asy : ∀ a b, R a b → ¬ R b a) : ∀ {l m : List α}, l.Pairwise R → m.Pairwise R → (∀ x, x ∈ l ↔ x ∈ m) → l = m
  | [], [], _, _, _ => rfl
  | [], y :: m, _, _, h => absurd ((h y).mpr List.mem_cons_self) (by simp)
  | x :: l, [], _, _, h => absurd ((h x).mp List.mem_cons_self) (by simp)
  | a :: l, b :: m, h1, h2, h => by
    rw [List.pairwise_cons] at h1 h2
    have e : a = b := by
      rcases List.mem_cons.mp ((h a).mp List.mem_cons_self) with e | e
      · exact e
      · rcases List.mem_cons.mp ((h b).mpr List.mem_cons_self) with e' | e'
        · exact e'.symm
        · exact absurd (h1.1 b e') (asy b a (h2.1 a e))
    subst e
    congr 1
    refine strict_unique irr asy h1.2 h2.2 fun x => ⟨fun hx => ?_, fun hx => ?_⟩
    · rcases List.mem_cons.mp ((h x).mp (List.mem_cons_of_mem _ hx)) with e | e
      · subst e; exact absurd (h1.1 x hx) (irr x)
      · exact e
    · rcases List.mem_cons.mp ((h x).mpr (List.mem_cons_of_mem _ hx)) with e | e
      · subst e; exact absurd (h2.1 x hx) (irr x)
      · exact e
/-- P is the sorted list of the rising lists of what hangs together by ts, of the places 0 .. n - 1 -/
structure Parts (n : Int) (ts : List (Int × Int)) (P : List (List Int)) : Prop where
  sorted : P.Pairwise fun a b => HT.lexLt a b = true
  some : ∀ p ∈ P, p ≠ []
  inc : ∀ p ∈ P, p.Pairwise (· < ·)
  cov : ∀ x, 0 ≤ x → x < n → ∃ p ∈ P, x ∈ p
  cls : ∀ p ∈ P, ∀ x ∈ p, ∀ y, y ∈ p ↔ (0 ≤ y ∧ y < n) ∧ Conn ts x y
theorem Parts.rng {n : Int} {ts : List (Int × Int)} {P : List (List Int)} (h : Parts n ts P) {p : List Int} (hp : p ∈ P) {x : Int} (hx : x ∈ p) : 0 ≤ x ∧ x < n := ((h.cls p hp x hx x).mp hx).1
theorem Parts.unique {n : Int} {ts us : List (Int × Int)} {P Q : List (List Int)} (h : Parts n ts P) (h' : Parts n us Q) (e : ∀ x y, Conn ts x y ↔ Conn us x y) : P = Q := by
  have sub : ∀ {ts us : List (Int × Int)} {P Q : List (List Int)}, Parts n ts P → Parts n us Q → (∀ x y, Conn ts x y ↔ Conn us x y) → ∀ p ∈ P, p ∈ Q := by
    intro ts us P Q h h' e p hp
    obtain ⟨x, hx⟩ := List.exists_mem_of_ne_nil p (h.some p hp)
    have hr := h.rng hp hx
    obtain ⟨q, hq, hxq⟩ := h'.cov x hr.1 hr.2
    have : p = q := strict_unique (R := fun a b : Int => a < b) (fun a => Int.lt_irrefl a) (fun a b h => by omega) (h.inc p hp) (h'.inc q hq) fun y => by
      rw [h.cls p hp x hx y, h'.cls q hq x hxq y, e x y]
    rw [this]
    exact hq
  refine strict_unique (R := fun a b : List Int => HT.lexLt a b = true) (fun a h => by rw [lex_irr] at h; cases h) (fun a b h => by rw [lex_asy _ _ h]; exact Bool.false_ne_true) h.sorted h'.sorted fun p => ⟨sub h h' e p, sub h' h (fun x y => (e x y).symm) p⟩
/-- the parts lie apart -/
theorem Parts.one {n : Int} {ts : List (Int × Int)} {P : List (List Int)} (h : Parts n ts P) {p q : List Int} (hp : p ∈ P) (hq : q ∈ P) {x : Int} (h1 : x ∈ p) (h2 : x ∈ q) : p = q :=
  strict_unique (R := fun a b : Int => a < b) (fun a => Int.lt_irrefl a) (fun a b h => by omega) (h.inc p hp) (h.inc q hq) fun y => by rw [h.cls p hp x h1 y, h.cls q hq x h2 y]
end L3
set_option Elab.async false
set_option linter.all false
set_option maxRecDepth 100000
set_option maxHeartbeats 400000
set_option autoImplicit false
/-! Plain laws of webs: parts found place by place. -/
namespace L3
open PySem PySem.Spec PyProof.Rows L2
theorem lex_head {a b : Int} {p q : List Int} (h : a < b) : HT.lexLt (a :: p) (b :: q) = true := by
  unfold HT.lexLt
  simp [h, Int.ne_of_lt h]
/-- the parts behind the first k places -/
def lawP (ts : List (Int × Int)) (n : Nat) : Nat → List (List Int)
  | 0 => []
  | k + 1 => if (k : Int) ∈ (lawP ts n k).flatten then lawP ts n k else lawP ts n k ++ [growN ts k n]
structure LawInv (ts : List (Int × Int)) (n k : Nat) (P : List (List Int)) : Prop where
  sorted : P.Pairwise fun a b => HT.lexLt a b = true
  inc : ∀ p ∈ P, p.Pairwise (· < ·)
  cov : ∀ x : Int, 0 ≤ x → x < k → ∃ p ∈ P, x ∈ p
  cls : ∀ p ∈ P, ∀ x ∈ p, ∀ y, y ∈ p ↔ (0 ≤ y ∧ y < n) ∧ Conn ts x y
  head : ∀ p ∈ P, ∃ y ∈ p, y < k
theorem lawP_inv {ts : List (Int × Int)} {n : Nat} (ht : ∀ t ∈ ts, (0 ≤ t.1 ∧ t.1 < n) ∧ 0 ≤ t.2 ∧ t.2 < n) : ∀ k : Nat, k ≤ n → LawInv ts n k (lawP ts n k)
  | 0, _ => ⟨.nil, fun p h => (by cases h), fun x h1 h2 => (by omega), fun p h => (by cases h), fun p h => (by cases h)⟩
  | k + 1, hk => by
    have I := lawP_inv ht k (by omega)
    unfold lawP
    split
    · rename_i hin
      obtain ⟨p0, hp0, hk0⟩ := List.mem_flatten.mp hin
      refine ⟨I.sorted, I.inc, fun x h1 h2 => ?_, I.cls, fun p hp => ?_⟩
      · by_cases hx : x < k
        · exact I.cov x h1 hx
        · have : x = k := by omega
          exact ⟨p0, hp0, by rw [this]; exact hk0⟩
      · obtain ⟨y, h1, h2⟩ := I.head p hp
        exact ⟨y, h1, by omega⟩
    · rename_i hin
      have rngC : ∀ {x y : Int}, Conn ts x y → 0 ≤ x ∧ x < n → 0 ≤ y ∧ y < n := by
        intro x y h hx
        induction h with
        | refl => exact hx
        | step _ e _ => rcases e with e | e
                        · exact (ht _ e).2
                        · exact (ht _ e).1
      have hkr : (0 : Int) ≤ (k : Int) ∧ (k : Int) < n := by omega
      have all : ∀ x, x ∈ growN ts k n ↔ Conn ts k x := fun x => growN_all hkr ht
      have ge : ∀ x ∈ growN ts k n, (k : Int) ≤ x := fun x hx => by
        have hc := (all x).mp hx
        have hr := rngC hc hkr
        by_cases hlt : x < k
        · obtain ⟨p, hp, hxp⟩ := I.cov x hr.1 hlt
          exact absurd (List.mem_flatten.mpr ⟨p, hp, (I.cls p hp x hxp k).mpr ⟨hkr, hc.symm⟩⟩) hin
        · omega
      refine ⟨?_, fun p hp => ?_, fun x h1 h2 => ?_, fun p hp => ?_, fun p hp => ?_⟩
      · refine List.pairwise_append.mpr ⟨I.sorted, List.pairwise_singleton _ _, fun p hp q hq => ?_⟩
        rw [List.mem_singleton.mp hq]
        obtain ⟨y, h1, h2⟩ := I.head p hp
        have hinc := I.inc p hp
        cases p with
        | nil => cases h1
        | cons a p' =>
          have ha : a < k := by
            rcases List.mem_cons.mp h1 with e | e
            · omega
            · have := (List.pairwise_cons.mp hinc).1 y e; omega
          have hs := growN_start ts k n
          have hg := ge
          cases hq' : growN ts k n with
          | nil => rw [hq'] at hs; cases hs
          | cons b q' =>
            rw [hq'] at hg
            exact lex_head (by have := hg b (by simp); omega)
      · rcases List.mem_append.mp hp with hp | hp
        · exact I.inc p hp
        · rw [List.mem_singleton.mp hp]; exact growN_nd ts k n
      · by_cases hx : x < k
        · obtain ⟨p, hp, hxp⟩ := I.cov x h1 hx
          exact ⟨p, List.mem_append_left _ hp, hxp⟩
        · have : x = k := by omega
          exact ⟨_, List.mem_append_right _ (List.mem_singleton.mpr rfl), by rw [this]; exact growN_start ts k n⟩
      · rcases List.mem_append.mp hp with hp | hp
        · exact I.cls p hp
        · rw [List.mem_singleton.mp hp]
          intro x hx y
          have hc := (all x).mp hx
          rw [all]
          exact ⟨fun h => ⟨rngC h hkr, hc.symm.trans h⟩, fun h => hc.trans h.2⟩
      · rcases List.mem_append.mp hp with hp | hp
        · obtain ⟨y, h1, h2⟩ := I.head p hp
          exact ⟨y, h1, by omega⟩
        · rw [List.mem_singleton.mp hp]; exact ⟨k, growN_start ts k n, by omega⟩
theorem lawP_parts {ts : List (Int × Int)} {n : Nat} (ht : ∀ t ∈ ts, (0 ≤ t.1 ∧ t.1 < n) ∧ 0 ≤ t.2 ∧ t.2 < n) : Parts n ts (lawP ts n n) := by
  have I := lawP_inv ht n (Nat.le_refl _)
  exact ⟨I.sorted, fun p hp e => (by obtain ⟨y, h, _⟩ := I.head p hp; rw [e] at h; exact nomatch h), I.inc, I.cov, I.cls⟩
end L3
set_option Elab.async false
set_option linter.all false
set_option maxRecDepth 100000
set_option maxHeartbeats 400000
set_option autoImplicit false
/-! Plain laws of webs: parts by labels. -/
namespace L3
open PySem PySem.Spec PyProof.Rows L2
theorem lex_of {p q : List Int} {i j : Int} (hi : i ∈ p) (hp : p.Pairwise (· < ·)) (hq : q ≠ []) (h : ∀ y ∈ q, j ≤ y) (hij : i < j) : HT.lexLt p q = true := by
  cases p with
  | nil => cases hi
  | cons a p' => cases q with
    | nil => exact absurd rfl hq
    | cons b q' =>
      have ha : a ≤ i := by
        rcases List.mem_cons.mp hi with e | e
        · omega
        · have := (List.pairwise_cons.mp hp).1 i e; omega
      have hb := h b (by simp)
      exact lex_head (by omega)
def rgN (n : Nat) : List Int := (List.range n).map fun i : Nat => (i : Int)
theorem mem_rgN {n : Nat} {x : Int} : x ∈ rgN n ↔ 0 ≤ x ∧ x < n := by
  unfold rgN
  rw [List.mem_map]
  constructor
  · rintro ⟨i, h, rfl⟩; have := List.mem_range.mp h; omega
  · intro h; exact ⟨x.toNat, List.mem_range.mpr (by omega), by omega⟩
theorem rgN_inc (n : Nat) : (rgN n).Pairwise (· < ·) := by
  unfold rgN
  rw [List.pairwise_map]
  exact List.pairwise_lt_range.imp fun h => by omega
/-- i is the first place with its label -/
def firstB (f : Int → Int) (i : Int) : Bool := (rgN i.toNat).all fun j => !decide (f j = f i)
theorem firstB_iff {f : Int → Int} {i : Int} : firstB f i = true ↔ ∀ j, 0 ≤ j → j < i → f j ≠ f i := by
  unfold firstB
  rw [List.all_eq_true]
  constructor
  · intro h j h1 h2 e
    have := h j (mem_rgN.mpr (by omega))
    simp [e] at this
  · intro h j hj
    have hj := mem_rgN.mp hj
    have := h j (by omega) (by omega)
    simp [this]
def group (f : Int → Int) (n : Nat) (i : Int) : List Int := (rgN n).filter fun j => decide (f j = f i)
def groups (f : Int → Int) (n : Nat) : List (List Int) := ((rgN n).filter (firstB f)).map (group f n)
theorem mem_group {f : Int → Int} {n : Nat} {i x : Int} : x ∈ group f n i ↔ (0 ≤ x ∧ x < n) ∧ f x = f i := by
  unfold group
  rw [List.mem_filter, mem_rgN, decide_eq_true_eq]
theorem first_of (f : Int → Int) : ∀ (k : Nat) (x : Int), 0 ≤ x → x.toNat ≤ k → ∃ i, 0 ≤ i ∧ i ≤ x ∧ f i = f x ∧ firstB f i = true
  | k, x, h0, hk => by
    by_cases h : firstB f x = true
    · exact ⟨x, h0, Int.le_refl _, rfl, h⟩
    · have : ∃ j, 0 ≤ j ∧ j < x ∧ f j = f x := by
        apply Classical.byContradiction
        intro hn
        exact h (firstB_iff.mpr fun j h1 h2 e => hn ⟨j, h1, h2, e⟩)
      obtain ⟨j, j1, j2, j3⟩ := this
      cases k with
      | zero => omega
      | succ k =>
        obtain ⟨i, i1, i2, i3, i4⟩ := first_of f k j j1 (by omega)
        exact ⟨i, i1, by omega, i3.trans j3, i4⟩
theorem groups_parts {ts : List (Int × Int)} {n : Nat} {f : Int → Int} (h : ∀ x y : Int, (0 ≤ x ∧ x < n) → (0 ≤ y ∧ y < n) → (f x = f y ↔ Conn ts x y)) (ht : ∀ t ∈ ts, (0 ≤ t.1 ∧ t.1 < n) ∧ 0 ≤ t.2 ∧ t.2 < n) : Parts n ts (groups f n) := by
  have rngC : ∀ {x y : Int}, Conn ts x y → 0 ≤ x ∧ x < n → 0 ≤ y ∧ y < n := by
    intro x y h hx
    induction h with
    | refl => exact hx
    | step _ e _ => rcases e with e | e
                    · exact (ht _ e).2
                    · exact (ht _ e).1
  have inc : ∀ i, (group f n i).Pairwise (· < ·) := fun i => (rgN_inc n).sublist List.filter_sublist
  refine ⟨?_, fun p hp => ?_, fun p hp => ?_, fun x h1 h2 => ?_, fun p hp x hx y => ?_⟩
  · unfold groups
    rw [List.pairwise_map]
    have hs : ((rgN n).filter (firstB f)).Pairwise (· < ·) := (rgN_inc n).sublist List.filter_sublist
    refine hs.imp_of_mem fun {i j} hi hj hij => ?_
    obtain ⟨hi1, hi2⟩ := List.mem_filter.mp hi
    obtain ⟨hj1, hj2⟩ := List.mem_filter.mp hj
    have hi1 := mem_rgN.mp hi1
    have hj1 := mem_rgN.mp hj1
    have self : ∀ {k : Int}, 0 ≤ k ∧ k < n → k ∈ group f n k := fun hk => mem_group.mpr ⟨hk, rfl⟩
    refine lex_of (self hi1) (inc i) (fun e => by have := self hj1; rw [e] at this; cases this) (fun y hy => ?_) hij
    obtain ⟨hy1, hy2⟩ := mem_group.mp hy
    by_cases hlt : y < j
    · exact absurd hy2 (firstB_iff.mp hj2 y hy1.1 hlt)
    · omega
  · obtain ⟨i, hi, rfl⟩ := List.mem_map.mp hp
    intro e
    have : i ∈ group f n i := mem_group.mpr ⟨mem_rgN.mp (List.mem_filter.mp hi).1, rfl⟩
    rw [e] at this
    cases this
  · obtain ⟨i, hi, rfl⟩ := List.mem_map.mp hp
    exact inc i
  · obtain ⟨i, i1, i2, i3, i4⟩ := first_of f x.toNat x h1 (Nat.le_refl _)
    exact ⟨group f n i, List.mem_map.mpr ⟨i, List.mem_filter.mpr ⟨mem_rgN.mpr (by omega), i4⟩, rfl⟩, mem_group.mpr ⟨⟨h1, h2⟩, i3.symm⟩⟩
  · obtain ⟨i, hi, rfl⟩ := List.mem_map.mp hp
    obtain ⟨hx1, hx2⟩ := mem_group.mp hx
    rw [mem_group, ← hx2]
    constructor
    · rintro ⟨h1, h2⟩; exact ⟨h1, (h x y hx1 h1).mp h2.symm⟩
    · rintro ⟨h1, h2⟩; exact ⟨h1, ((h x y hx1 h1).mpr h2).symm⟩
end L3
set_option Elab.async false
set_option linter.all false
set_option maxRecDepth 100000
set_option maxHeartbeats 400000
set_option autoImplicit false
/-! Plain laws of webs: the labels tie by tie. -/
namespace L3
open PySem PySem.Spec PyProof.Rows L2
def labF (us : List (Int × Int)) : Int → Int := us.foldl (fun f t => relab t.1 t.2 f) id
theorem labF_go {n : Nat} : ∀ (us vs : List (Int × Int)) (f : Int → Int), (∀ t ∈ us, (0 ≤ t.1 ∧ t.1 < n) ∧ 0 ≤ t.2 ∧ t.2 < n) → (∀ x y : Int, (0 ≤ x ∧ x < n) → (0 ≤ y ∧ y < n) → (f x = f y ↔ Conn vs x y)) →
    ∀ x y : Int, (0 ≤ x ∧ x < n) → (0 ≤ y ∧ y < n) → (us.foldl (fun f t => relab t.1 t.2 f) f x = us.foldl (fun f t => relab t.1 t.2 f) f y ↔ Conn (vs ++ us) x y)
  | [], vs, f, _, h => by rw [List.append_nil]; exact h
  | t :: us, vs, f, ht, h => by
    have e : vs ++ t :: us = (vs ++ [t]) ++ us := by simp
    rw [e]
    have h1 := ht t (by simp)
    exact labF_go us (vs ++ [t]) (relab t.1 t.2 f) (fun u hu => ht u (by simp [hu])) (relab_iff (D := fun x => 0 ≤ x ∧ x < (n : Int)) h1.1 h1.2 h)
theorem labF_iff {n : Nat} {us : List (Int × Int)} (ht : ∀ t ∈ us, (0 ≤ t.1 ∧ t.1 < n) ∧ 0 ≤ t.2 ∧ t.2 < n) : ∀ x y : Int, (0 ≤ x ∧ x < n) → (0 ≤ y ∧ y < n) → (labF us x = labF us y ↔ Conn us x y) :=
  labF_go us [] id ht fun x y _ _ => ⟨fun e => by have e : x = y := e; rw [e]; exact .refl _, fun h => by
    cases h with
    | refl => rfl
    | step _ e => rcases e with e | e <;> cases e⟩
/-- parts_of and _law_parts tell the same -/
theorem parts_same {n : Nat} {us : List (Int × Int)} (ht : ∀ t ∈ us, (0 ≤ t.1 ∧ t.1 < n) ∧ 0 ≤ t.2 ∧ t.2 < n) : groups (labF us) n = lawP us n n :=
  (groups_parts (labF_iff ht) ht).unique (lawP_parts ht) fun _ _ => Iff.rfl
end L3
set_option Elab.async false
set_option linter.all false
set_option maxRecDepth 100000
set_option maxHeartbeats 400000
set_option autoImplicit false
/-! L5: evaluating a reading step by step, the results found by unification. -/
namespace L3
open PySem PySem.Spec PyProof.Rows L2
section
variable {env env1 env2 env3 : E3} {st s1 s2 s3 : Store} {f g h : Ev} {t u : Et} {a b c : Eb} {w x y z : W} {ws : List W} {r : Option (W × Store)} {rb : Option (Fl × E3 × Store)}
/-! ### values -/
theorem r_var {i : Nat} (h : env[i]? = some (some w)) : bVar i env st = some (w, st) := by unfold bVar; rw [h]
theorem r_dat {d : PyData} : bDat d env st = some (.dat d, st) := rfl
theorem r_ty {d : String} : bTy d env st = some (.ty d, st) := rfl
theorem r_b2 {o : Op2} (h1 : f env st = some (x, s1)) (h2 : g env s1 = some (y, s2)) (h3 : o x y s2 = r) : b2 o f g env st = r := by
  unfold b2; rw [h1, Option.bind_some]; simp only [h2, Option.bind_some, h3]
theorem r_b1 {o : W → Store → Option (W × Store)} (h1 : f env st = some (x, s1)) (h3 : o x s1 = r) : b1 o f env st = r := by
  unfold b1; rw [h1, Option.bind_some]; exact h3
theorem r_bN {o : OpN} {e : Ea} (h1 : e env st = some (ws, s1)) (h2 : o ws s1 = r) : bN o e env st = r := by
  unfold bN; rw [h1, Option.bind_some]; exact h2
theorem r_aNil : aNil env st = some ([], st) := rfl
theorem r_aCons {e : Ea} (h1 : f env st = some (x, s1)) (h2 : e env s1 = some (ws, s2)) : aCons f e env st = some (x :: ws, s2) := by
  unfold aCons; rw [h1, Option.bind_some]; simp only [h2, Option.bind_some]
theorem r_pSome {i : Int} (h1 : f env st = some (.dat (.int i), s1)) : pSome f env st = some (some i, s1) := by unfold pSome; rw [h1]
theorem r_pNone : pNone env st = some (none, st) := rfl
theorem r_slice {p q : Ep} {lo hi : Option Int} (h1 : f env st = some (x, s1)) (h2 : p env s1 = some (lo, s2)) (h3 : q env s2 = some (hi, s3)) (h4 : opSlice x lo hi s3 = r) : bSlice f p q env st = r := by
  unfold bSlice; rw [h1, Option.bind_some]; simp only [h2, h3, Option.bind_some, h4]
theorem r_meth {o : W → OpN} {e : Ea} (h1 : f env st = some (x, s1)) (h0 : isL s1 x = true) (h2 : e env s1 = some (ws, s2)) (h3 : o x ws s2 = r) : bMeth o f e env st = r := by
  unfold bMeth; rw [h1, Option.bind_some, if_pos h0]; simp only [h2, Option.bind_some, h3]
theorem r_rev (h1 : f env st = some (x, s1)) (h2 : opRev x s1 = r) : bRev f env st = r := by unfold bRev; rw [h1, Option.bind_some]; exact h2
/-! ### tests -/
theorem r_tBl {k : Bool} (h1 : f env st = some (.dat (.bool k), s1)) : tBl f env st = some (k, s1) := by unfold tBl; rw [h1]
theorem r_tTru {k : Bool} (h1 : f env st = some (x, s1)) (h2 : truth s1 x = some k) : tTru f env st = some (k, s1) := by unfold tTru; rw [h1, Option.bind_some]; simp only [h2, Option.map_some]
theorem r_tAll : tAll env st = some (true, st) := rfl
theorem r_tNo {k : Bool} (h1 : t env st = some (k, s1)) : tNo t env st = some (!k, s1) := by unfold tNo; rw [h1, Option.map_some]
theorem r_tAn {k l : Bool} (h1 : t env st = some (k, st)) (h2 : k = true → u env st = some (l, st)) : tAn t u env st = some (k && l, st) := by
  unfold tAn; rw [h1, Option.bind_some]
  cases k
  · rfl
  · simp only [if_true, h2 rfl, Bool.true_and]
theorem r_tOr {k l : Bool} (h1 : t env st = some (k, st)) (h2 : k = false → u env st = some (l, st)) : tOr3 t u env st = some (k || l, st) := by
  unfold tOr3; rw [h1, Option.bind_some]
  cases k
  · simp only [Bool.false_eq_true, if_false, h2 rfl, Bool.false_or]
  · rfl
theorem r_bAnd {k l : Bool} (h1 : f env st = some (.dat (.bool k), st)) (h2 : k = true → g env st = some (.dat (.bool l), st)) : bAnd f g env st = some (.dat (.bool (k && l)), st) := by
  unfold bAnd; rw [h1, Option.bind_some]
  simp only [truth, Option.bind_some]
  cases k
  · rfl
  · simp only [if_true, h2 rfl, Bool.true_and]
theorem r_bOr {k l : Bool} (h1 : f env st = some (.dat (.bool k), st)) (h2 : k = false → g env st = some (.dat (.bool l), st)) : bOr f g env st = some (.dat (.bool (k || l)), st) := by
  unfold bOr; rw [h1, Option.bind_some]
  simp only [truth, Option.bind_some]
  cases k
  · simp only [Bool.false_eq_true, if_false, h2 rfl, Bool.false_or]
  · rfl
theorem r_bNot {k : Bool} (h1 : f env st = some (.dat (.bool k), s1)) : bNot f env st = some (.dat (.bool (!k)), s1) := by
  unfold bNot; rw [h1, Option.bind_some]; rfl
theorem r_bNotT {k : Bool} (h1 : f env st = some (x, s1)) (h2 : truth s1 x = some k) : bNot f env st = some (.dat (.bool (!k)), s1) := by
  unfold bNot; rw [h1, Option.bind_some]; simp only [h2, Option.map_some]
/-- a test whose end is known -/
theorem r_ifT (h1 : t env st = some (true, s1)) (h2 : f env s1 = r) : bIf t f g env st = r := by unfold bIf; rw [h1, Option.bind_some]; exact h2
theorem r_ifF (h1 : t env st = some (false, s1)) (h2 : g env s1 = r) : bIf t f g env st = r := by unfold bIf; rw [h1, Option.bind_some]; exact h2
theorem r_ifK {k : Bool} (h1 : t env st = some (k, s1)) (h2 : (if k = true then f env s1 else g env s1) = r) : bIf t f g env st = r := by unfold bIf; rw [h1, Option.bind_some]; exact h2
theorem r_ifD {k : Bool} {d e v : PyData} (h1 : t env st = some (k, st)) (h2 : k = true → f env st = some (.dat d, st)) (h3 : k = false → g env st = some (.dat e, st)) (h4 : (if k = true then d else e) = v) : bIf t f g env st = some (.dat v, st) := by
  unfold bIf; rw [h1, Option.bind_some, ← h4]
  cases k
  · simp only [Bool.false_eq_true, if_false, h3 rfl]
  · simp only [if_true, h2 rfl]
theorem r_chain {o o' : Op2} {k l : Bool} (h1 : f env st = some (x, st)) (h2 : g env st = some (y, st)) (h3 : o x y st = some (.dat (.bool k), st)) (h4 : k = true → h env st = some (z, st)) (h5 : k = true → o' y z st = some (.dat (.bool l), st)) : bChain o o' f g h env st = some (.dat (.bool (k && l)), st) := by
  unfold bChain; rw [h1, Option.bind_some]; simp only [h2, h3, Option.bind_some]
  cases k
  · rfl
  · simp only [h4 rfl, Option.bind_some, h5 rfl, Bool.true_and]
/-! ### statements -/
theorem r_seq (h1 : a env st = some (.nx, env1, s1)) (h2 : b env1 s1 = rb) : bSeq a b env st = rb := by unfold bSeq; rw [h1, Option.bind_some]; exact h2
theorem r_seqR (h1 : a env st = some (.rt w, env1, s1)) : bSeq a b env st = some (.rt w, env1, s1) := by unfold bSeq; rw [h1, Option.bind_some]
theorem r_seqC (h1 : a env st = some (.ct, env1, s1)) : bSeq a b env st = some (.ct, env1, s1) := by unfold bSeq; rw [h1, Option.bind_some]
theorem r_seqB (h1 : a env st = some (.bk, env1, s1)) : bSeq a b env st = some (.bk, env1, s1) := by unfold bSeq; rw [h1, Option.bind_some]
theorem r_ret (h1 : f env st = some (w, s1)) : bRet f env st = some (.rt w, env, s1) := by unfold bRet; rw [h1, Option.map_some]
theorem r_retN : bRetN env st = some (.rt (.dat .none), env, st) := rfl
theorem r_pass : bPass env st = some (.nx, env, st) := rfl
theorem r_asg {tg : Eg} (h1 : f env st = some (w, s1)) (h2 : tg w env s1 = some (env1, s2)) : bAsg f tg env st = some (.nx, env1, s2) := by unfold bAsg; rw [h1, Option.bind_some]; simp only [h2, Option.map_some]
theorem r_exp (h1 : f env st = some (w, s1)) : bExp f env st = some (.nx, env, s1) := by unfold bExp; rw [h1, Option.map_some]
theorem r_ifS {k : Bool} (h1 : t env st = some (k, s1)) (h2 : (if k = true then a env s1 else b env s1) = rb) : bIfS t a b env st = rb := by unfold bIfS; rw [h1, Option.bind_some]; exact h2
theorem r_ifST {k : Bool} (h1 : t env st = some (k, s1)) (hk : k = true) (h2 : a env s1 = rb) : bIfS t a b env st = rb := by subst hk; unfold bIfS; rw [h1, Option.bind_some]; exact h2
theorem r_ifSF {k : Bool} (h1 : t env st = some (k, s1)) (hk : k = false) (h2 : b env s1 = rb) : bIfS t a b env st = rb := by subst hk; unfold bIfS; rw [h1, Option.bind_some]; exact h2
theorem r_aug {i : Nat} {o : Op2} (h0 : env[i]? = some (some x)) (h1 : f env st = some (y, s1)) (h2 : o x y s1 = some (z, s2)) : bAug i o f env st = some (.nx, env.set i (some z), s2) := by
  unfold bAug; rw [h0]; simp only [h1, Option.bind_some, h2, Option.map_some]
theorem r_par2 {i j : Nat} {e : Ea} (h1 : e env st = some ([x, y], s1)) : bPar2 i j e env st = some (.nx, (env.set i (some x)).set j (some y), s1) := by unfold bPar2; rw [h1]; rfl
theorem r_par3 {i j l : Nat} {e : Ea} (h1 : e env st = some ([x, y, z], s1)) : bPar3 i j l e env st = some (.nx, ((env.set i (some x)).set j (some y)).set l (some z), s1) := by unfold bPar3; rw [h1]; rfl
/-! ### targets -/
theorem g_nm {i : Nat} (h : env.set i (some w) = env1) : gNm i w env st = some (env1, st) := by unfold gNm; rw [h]
theorem g_nl : gNl [] env st = some (env, st) := rfl
theorem g_cn {tg : Eg} {tgs : Egs} (h1 : tg w env st = some (env1, s1)) (h2 : tgs ws env1 s1 = some (env2, s2)) : gCn tg tgs (w :: ws) env st = some (env2, s2) := by
  show (tg w env st).bind (fun r => tgs ws r.1 r.2) = _
  rw [h1, Option.bind_some]; exact h2
theorem g_tp {n : Nat} {tgs : Egs} (h1 : seqOf st w = some ws) (h2 : ws.length = n) (h3 : tgs ws env st = some (env1, s1)) : gTp n tgs w env st = some (env1, s1) := by unfold gTp; rw [h1]; simp only [h2, if_true]; exact h3
/-! ### comprehensions -/
/-- a walk over xs that changes nothing -/
structure Iter {α : Type} (fi : Ei) (env : E3) (st : Store) (xs : List α) (e : α → W) : Prop where
  go : ∃ it, fi env st = some (it, st) ∧ Gives it (· = st) (xs.map e)
theorem r_comp {α : Type} {fi : Ei} {gt : Eg} {el : Ev} {vs : List Nat} {xs : List α} {e : α → W} {p : α → Bool} {k : α → PyData} {en : α → E3} {d : PyData} (hi : Iter fi env st xs e) (hv : wipe3 env vs = env1)
    (hg : ∀ x ∈ xs, gt (e x) env1 st = some (en x, st)) (ht : ∀ x ∈ xs, t (en x) st = some (p x, st)) (he : ∀ x ∈ xs, p x = true → el (en x) st = some (.dat (k x), st)) (hd : PyData.list ((xs.filter p).map k) = d) : bComp fi gt t el vs env st = some (.dat d, st) := by
  obtain ⟨it, h1, h2⟩ := hi.go
  rw [← hd]
  exact bComp_pure h1 h2 p k fun x hx => ⟨en x, by rw [hv]; exact hg x hx, ht x hx, he x hx⟩
theorem r_compA {α : Type} {fi : Ei} {gt : Eg} {el : Ev} {vs : List Nat} {xs : List α} {e : α → W} {k : α → PyData} {en : α → E3} {d : PyData} (hi : Iter fi env st xs e) (hv : wipe3 env vs = env1)
    (hg : ∀ x ∈ xs, gt (e x) env1 st = some (en x, st)) (he : ∀ x ∈ xs, el (en x) st = some (.dat (k x), st)) (hd : PyData.list (xs.map k) = d) : bComp fi gt tAll el vs env st = some (.dat d, st) := by
  refine r_comp (p := fun _ => true) hi hv hg (fun _ _ => rfl) (fun x hx _ => he x hx) ?_
  rw [ft]; exact hd
/-- what a sequence of data gives -/
structure SeqI {α : Type} (st : Store) (w : W) (xs : List α) (e : α → PyData) : Prop where
  go : seqOf st w = some ((xs.map e).map .dat)
theorem i_seq {α : Type} {xs : List α} {e : α → PyData} (h1 : f env st = some (w, st)) (h2 : SeqI st w xs e) : Iter (iSeq f) env st xs fun x => .dat (e x) := by
  refine ⟨liveSeq w ((xs.map e).map .dat), by unfold iSeq; rw [h1, Option.bind_some]; simp only [h2.go]; rfl, ?_⟩
  have : xs.map (fun x => W.dat (e x)) = (xs.map e).map W.dat := by rw [List.map_map]; rfl
  rw [this]
  exact gives_seq fun s hs => by subst hs; exact h2.go
theorem i_enu {α : Type} {xs : List α} {e : α → PyData} (h1 : f env st = some (w, st)) (h2 : SeqI st w xs e) : Iter (iEnu f) env st xs.zipIdx fun x => .dat (.tuple [.int x.2, e x.1]) := by
  refine ⟨itEnum w ((xs.map e).map W.dat).length, by unfold iEnu; rw [h1, Option.bind_some]; simp only [h2.go]; rfl, ?_⟩
  have := gives_enum (S := (· = st)) (w := w) (ds := xs.map e) fun s hs => by subst hs; exact h2.go
  rw [List.zipIdx_map] at this
  rw [List.map_map (l := xs.zipIdx)] at this
  exact this
/-- the data of a sequence -/
structure TupI {α : Type} (w : W) (xs : List α) (e : α → PyData) : Prop where
  go : w = .dat (.tuple (xs.map e)) ∨ w = .dat (.list (xs.map e))
theorem i_zipT {α β : Type} {xs : List α} {ys : List β} {e : α → PyData} {e' : β → PyData} (h1 : f env st = some (.dat (.tuple (xs.map e)), st)) (h2 : g env st = some (.dat (.tuple (ys.map e')), st)) : Iter (iZip f g) env st (xs.zip ys) fun x => .dat (.tuple [e x.1, e' x.2]) := by
  refine ⟨itZip (xs.map e) (ys.map e'), by unfold iZip; rw [h1, Option.bind_some]; simp only [h2, Option.bind_some], ?_⟩
  have := gives_zip (xs := xs.map e) (ys := ys.map e') (S := (· = st))
  rw [List.zip_map, List.map_map] at this
  exact this
theorem i_zipL {α β : Type} {xs : List α} {ys : List β} {e : α → PyData} {e' : β → PyData} (h1 : f env st = some (.dat (.list (xs.map e)), st)) (h2 : g env st = some (.dat (.list (ys.map e')), st)) : Iter (iZip f g) env st (xs.zip ys) fun x => .dat (.tuple [e x.1, e' x.2]) := by
  refine ⟨itZip (xs.map e) (ys.map e'), by unfold iZip; rw [h1, Option.bind_some]; simp only [h2, Option.bind_some], ?_⟩
  have := gives_zip (xs := xs.map e) (ys := ys.map e') (S := (· = st))
  rw [List.zip_map, List.map_map] at this
  exact this
/-- the whole numbers from a on, below b -/
def rgI (a b : Int) : List Int := (List.range (b - a).toNat).map fun i : Nat => a + (i : Int)
theorem mem_rgI {a b x : Int} : x ∈ rgI a b ↔ a ≤ x ∧ x < b := by
  unfold rgI
  rw [List.mem_map]
  constructor
  · rintro ⟨i, hi, rfl⟩; rw [List.mem_range] at hi; omega
  · intro h; exact ⟨(x - a).toNat, by rw [List.mem_range]; omega, by omega⟩
theorem i_range {i j : Int} (h1 : f env st = some (.dat (.int i), st)) (h2 : g env st = some (.dat (.int j), st)) (h3 : rgOk i j = true) : Iter (iRange f g) env st (rgI i j) fun x => .dat (.int x) := by
  refine ⟨itRange i j, by unfold iRange; rw [h1, Option.bind_some]; simp only [h2, Option.bind_some, h3, if_true], ?_⟩
  have := gives_range (a := i) (b := j) (S := (· = st))
  unfold rgI
  rw [List.map_map]
  exact this
theorem rgOk_small {i j : Int} (h1 : -1000000 ≤ i) (h2 : i ≤ 1000000) (h3 : -1000000 ≤ j) (h4 : j ≤ 1000000) : rgOk i j = true := by
  unfold rgOk; simp only [Bool.and_eq_true, decide_eq_true_eq]; omega
end
end L3
set_option Elab.async false
set_option linter.all false
set_option maxRecDepth 100000
set_option maxHeartbeats 400000
set_option autoImplicit false
/-! L5: webs as data; what operators tell of typed data. -/
namespace L3
open PySem PySem.Spec PyProof.Rows L2
def pl (t : Int × Int) : List Int := [t.1, t.2]
def tt (t : Int × Int) : PyData := ti (pl t)
def tts (ts : List (Int × Int)) : PyData := .tuple (ts.map tt)
def ttl (ts : List (Int × Int)) : PyData := .list (ts.map tt)
def wb (n : Int) (ts : List (Int × Int)) : PyData := .tuple [.str "web", .int n, tts ts]
/-- a web of n places -/
structure Web (n : Int) (ts : List (Int × Int)) : Prop where
  lo : 1 ≤ n
  hi : n ≤ 16
  len : ts.length ≤ 40
  ok : ∀ t ∈ ts, 0 ≤ t.1 ∧ t.1 < t.2 ∧ t.2 < n
  ord : ts.Pairwise fun p q => leT (pl p) (pl q) = true
theorem zip_all {α : Type} {p : α → α → Bool} : ∀ {l : List α}, l.Pairwise (fun a b => p a b = true) → (l.zip l.tail).all (fun x => p x.1 x.2) = true
  | [], _ => rfl
  | [_], _ => rfl
  | a :: b :: l, h => by
    rw [List.pairwise_cons] at h
    have := zip_all h.2
    simp only [List.tail_cons, List.zip_cons_cons, List.all_cons] at this ⊢
    rw [h.1 b List.mem_cons_self, this]
    rfl
def rg (n : Int) : List Int := (List.range n.toNat).map fun (i : Nat) => (i : Int)
theorem mem_rg {n x : Int} : x ∈ rg n ↔ 0 ≤ x ∧ x < n := by
  unfold rg
  rw [List.mem_map]
  constructor
  · rintro ⟨i, hi, rfl⟩; rw [List.mem_range] at hi; omega
  · intro h; exact ⟨x.toNat, by rw [List.mem_range]; omega, by omega⟩
theorem rg_sorted (n : Int) : (rg n).Pairwise (· < ·) := by
  unfold rg
  rw [List.pairwise_map]
  exact List.pairwise_lt_range.imp fun h => by omega
theorem rg_nodup (n : Int) : (rg n).Nodup := (rg_sorted n).imp fun h => by omega
theorem rg_len (n : Int) : (rg n).length = n.toNat := by unfold rg; rw [List.length_map, List.length_range]
theorem rgI_zero (n : Int) : rgI 0 n = rg n := by
  unfold rgI rg
  rw [Int.sub_zero]
  exact List.map_congr_left fun i _ => Int.zero_add _
theorem rgD_rgI (a b : Int) : rgD a b = (rgI a b).map .int := by unfold rgD rgI; rw [List.map_map]; rfl
/-- the ties with what p says, told by their positions -/
abbrev tiesBy (p : Int × Int → Bool) (ts : List (Int × Int)) : List Int := (ts.zipIdx.filter fun x => p x.1).map fun x => (x.2 : Int)
section
variable {st : Store}
/-! ### made data, recognised -/
theorem cn_id (l : List Int) : PyData.list (l.map .int) = li l := rfl
theorem cn_int {α : Type} (l : List α) (f : α → Int) : PyData.list (l.map fun x => .int (f x)) = li (l.map f) := by unfold li; rw [List.map_map]; rfl
theorem cn_ti {α : Type} (l : List α) (f : α → List Int) : PyData.list (l.map fun x => ti (f x)) = lp (l.map f) := by unfold lp; rw [List.map_map]; rfl
theorem cn_tiI (l : List (List Int)) : PyData.list (l.map ti) = lp l := rfl
theorem cn_tt {α : Type} (l : List α) (f : α → Int × Int) : PyData.list (l.map fun x => tt (f x)) = ttl (l.map f) := by unfold ttl; rw [List.map_map]; rfl
theorem cn_ttI (l : List (Int × Int)) : PyData.list (l.map tt) = ttl l := rfl
theorem ce_int (k : Bool) (a b : Int) : (if k = true then PyData.int a else .int b) = .int (if k = true then a else b) := by cases k <;> rfl
theorem ce_bool (k : Bool) (a b : Bool) : (if k = true then PyData.bool a else .bool b) = .bool (if k = true then a else b) := by cases k <;> rfl
theorem ce_ti (k : Bool) (a b : List Int) : (if k = true then ti a else ti b) = ti (if k = true then a else b) := by cases k <;> rfl
theorem ce_li (k : Bool) (a b : List Int) : (if k = true then li a else li b) = li (if k = true then a else b) := by cases k <;> rfl
theorem ce_lst (k : Bool) (a b : List PyData) : (if k = true then PyData.list a else .list b) = .list (if k = true then a else b) := by cases k <;> rfl
theorem ce_tup (k : Bool) (a b : List PyData) : (if k = true then PyData.tuple a else .tuple b) = .tuple (if k = true then a else b) := by cases k <;> rfl
/-! ### walks -/
theorem s_ti (l : List Int) : SeqI st (.dat (ti l)) l .int := ⟨rfl⟩
theorem s_li (l : List Int) : SeqI st (.dat (li l)) l .int := ⟨rfl⟩
theorem s_tts (l : List (Int × Int)) : SeqI st (.dat (tts l)) l tt := ⟨rfl⟩
theorem s_ttl (l : List (Int × Int)) : SeqI st (.dat (ttl l)) l tt := ⟨rfl⟩
theorem s_tp (l : List (List Int)) : SeqI st (.dat (tp l)) l ti := ⟨rfl⟩
theorem s_lp (l : List (List Int)) : SeqI st (.dat (lp l)) l ti := ⟨rfl⟩
theorem s_tt (t : Int × Int) : SeqI st (.dat (tt t)) (pl t) .int := ⟨rfl⟩
theorem s_lst {α : Type} (l : List α) (e : α → PyData) : SeqI st (.dat (.list (l.map e))) l e := ⟨rfl⟩
theorem s_tup {α : Type} (l : List α) (e : α → PyData) : SeqI st (.dat (.tuple (l.map e))) l e := ⟨rfl⟩
theorem s_loc {α : Type} {n : Nat} {l : List α} {e : α → PyData} (h : st[n]? = some (.list ((l.map e).map .dat))) : SeqI st (.loc n) l e := ⟨by simp only [seqOf, h]⟩
theorem q_tt (t : Int × Int) : seqOf st (.dat (tt t)) = some [.dat (.int t.1), .dat (.int t.2)] := rfl
theorem q_2 (a b : PyData) : seqOf st (.dat (.tuple [a, b])) = some [.dat a, .dat b] := rfl
theorem q_3 (a b c : PyData) : seqOf st (.dat (.tuple [a, b, c])) = some [.dat a, .dat b, .dat c] := rfl
/-! ### operators -/
theorem o_w0 (n : Int) (ts : List (Int × Int)) : opIdx (.dat (wb n ts)) (.dat (.int 0)) st = some (.dat (.str "web"), st) := rfl
theorem o_w1 (n : Int) (ts : List (Int × Int)) : opIdx (.dat (wb n ts)) (.dat (.int 1)) st = some (.dat (.int n), st) := rfl
theorem o_w2 (n : Int) (ts : List (Int × Int)) : opIdx (.dat (wb n ts)) (.dat (.int 2)) st = some (.dat (tts ts), st) := rfl
theorem o_w02 (n : Int) (ts : List (Int × Int)) : opSlice (.dat (wb n ts)) none (some 2) st = some (.dat (.tuple [.str "web", .int n]), st) := rfl
theorem o_wadd (n : Int) (ts : List (Int × Int)) : opAdd (.dat (.tuple [.str "web", .int n])) (.dat (.tuple [tts ts])) st = some (.dat (wb n ts), st) := by
  unfold opAdd
  exact if_pos (small 3 (by decide))
theorem o_t0 (t : Int × Int) : opIdx (.dat (tt t)) (.dat (.int 0)) st = some (.dat (.int t.1), st) := rfl
theorem o_t1 (t : Int × Int) : opIdx (.dat (tt t)) (.dat (.int 1)) st = some (.dat (.int t.2), st) := rfl
theorem opIdx_tup {ds : List PyData} {d : PyData} (i : Nat) (h : ds[i]? = some d) : opIdx (.dat (.tuple ds)) (.dat (.int (i : Int))) st = some (.dat d, st) := by
  have hi := (List.getElem?_eq_some_iff.mp h).1
  have ha : atI (ds.map W.dat) (i : Int) = some (.dat d) := by
    unfold atI ixN
    rw [if_pos (by omega), if_pos (by rw [List.length_map]; omega)]
    show (ds.map W.dat)[((i : Int)).toNat]? = _
    rw [Int.toNat_natCast, List.getElem?_map, h]; rfl
  simp only [opIdx, seqOf, ha, Option.map_some]
theorem idx_tp {P : List (List Int)} {l : List Int} (i : Nat) (h : P[i]? = some l) : opIdx (.dat (tp P)) (.dat (.int (i : Int))) st = some (.dat (ti l), st) := opIdx_tup i (by rw [List.getElem?_map, h]; rfl)
theorem idx_ti {P : List Int} {l : Int} (i : Nat) (h : P[i]? = some l) : opIdx (.dat (ti P)) (.dat (.int (i : Int))) st = some (.dat (.int l), st) := opIdx_tup i (by rw [List.getElem?_map, h]; rfl)
theorem idx_tts {P : List (Int × Int)} {l : Int × Int} (i : Nat) (h : P[i]? = some l) : opIdx (.dat (tts P)) (.dat (.int (i : Int))) st = some (.dat (tt l), st) := opIdx_tup i (by rw [List.getElem?_map, h]; rfl)
theorem v_lenG {w : W} {α : Type} {xs : List α} {e : α → PyData} (h : w = .dat (.tuple (xs.map e)) ∨ w = .dat (.list (xs.map e))) : opLen [w] st = some (.dat (.int xs.length), st) := by
  rcases h with h | h <;> subst h <;> simp only [opLen, seqOf, List.length_map]
theorem o_lenTi (l : List Int) : opLen [.dat (ti l)] st = some (.dat (.int l.length), st) := v_lenG (.inl rfl)
theorem o_lenLi (l : List Int) : opLen [.dat (li l)] st = some (.dat (.int l.length), st) := v_lenG (.inr rfl)
theorem o_lenTts (l : List (Int × Int)) : opLen [.dat (tts l)] st = some (.dat (.int l.length), st) := v_lenG (.inl rfl)
theorem o_lenTtl (l : List (Int × Int)) : opLen [.dat (ttl l)] st = some (.dat (.int l.length), st) := v_lenG (.inr rfl)
theorem o_lenTp (l : List (List Int)) : opLen [.dat (tp l)] st = some (.dat (.int l.length), st) := v_lenG (.inl rfl)
theorem o_lenLp (l : List (List Int)) : opLen [.dat (lp l)] st = some (.dat (.int l.length), st) := v_lenG (.inr rfl)
theorem o_lenT {α : Type} (l : List α) (e : α → PyData) : opLen [.dat (.tuple (l.map e))] st = some (.dat (.int l.length), st) := v_lenG (.inl rfl)
theorem o_lenL {α : Type} (l : List α) (e : α → PyData) : opLen [.dat (.list (l.map e))] st = some (.dat (.int l.length), st) := v_lenG (.inr rfl)
theorem o_lenC {n : Nat} {ws : List W} (h : st[n]? = some (.list ws)) : opLen [.loc n] st = some (.dat (.int ws.length), st) := by simp only [opLen, h]
theorem o_tupLi (l : List Int) : opTuple [.dat (li l)] st = some (.dat (ti l), st) := opTuple_lst _
theorem o_tupLp (l : List (List Int)) : opTuple [.dat (lp l)] st = some (.dat (tp l), st) := opTuple_lst _
theorem o_tupTtl (l : List (Int × Int)) : opTuple [.dat (ttl l)] st = some (.dat (tts l), st) := opTuple_lst _
theorem o_lstTi (l : List Int) : opList [.dat (ti l)] st = some (.dat (li l), st) := opList_tup _
theorem o_lstTp (l : List (List Int)) : opList [.dat (tp l)] st = some (.dat (lp l), st) := opList_tup _
theorem o_lstTts (l : List (Int × Int)) : opList [.dat (tts l)] st = some (.dat (ttl l), st) := opList_tup _
theorem o_sortTi (l : List Int) : opSorted [.dat (ti l)] st = some (.dat (li (sI l)), st) := opSorted_ints rfl
theorem o_sortLi (l : List Int) : opSorted [.dat (li l)] st = some (.dat (li (sI l)), st) := opSorted_ints rfl
theorem o_in2 {neg : Bool} (x : Int) (t : Int × Int) : opIn neg (.dat (.int x)) (.dat (tt t)) st = some (.dat (.bool (neg ^^ decide (x ∈ pl t))), st) := opIn_ti x (pl t)
theorem inF_ti (x : Int) (l : List Int) : opIn false (.dat (.int x)) (.dat (ti l)) st = some (.dat (.bool (decide (x ∈ l))), st) := by rw [opIn_ti, Bool.false_xor]
theorem inT_ti (x : Int) (l : List Int) : opIn true (.dat (.int x)) (.dat (ti l)) st = some (.dat (.bool (!decide (x ∈ l))), st) := by rw [opIn_ti, Bool.true_xor]
theorem inF_li (x : Int) (l : List Int) : opIn false (.dat (.int x)) (.dat (li l)) st = some (.dat (.bool (decide (x ∈ l))), st) := by rw [opIn_li, Bool.false_xor]
theorem inT_li (x : Int) (l : List Int) : opIn true (.dat (.int x)) (.dat (li l)) st = some (.dat (.bool (!decide (x ∈ l))), st) := by rw [opIn_li, Bool.true_xor]
theorem inF_2 (x : Int) (t : Int × Int) : opIn false (.dat (.int x)) (.dat (tt t)) st = some (.dat (.bool (decide (x ∈ pl t))), st) := inF_ti x (pl t)
theorem inT_2 (x : Int) (t : Int × Int) : opIn true (.dat (.int x)) (.dat (tt t)) st = some (.dat (.bool (!decide (x ∈ pl t))), st) := inT_ti x (pl t)
theorem inF_tp (x : List Int) (l : List (List Int)) : opIn false (.dat (ti x)) (.dat (tp l)) st = some (.dat (.bool (decide (x ∈ l))), st) := by rw [opIn_tp, Bool.false_xor]
theorem inT_tp (x : List Int) (l : List (List Int)) : opIn true (.dat (ti x)) (.dat (tp l)) st = some (.dat (.bool (!decide (x ∈ l))), st) := by rw [opIn_tp, Bool.true_xor]
theorem o_neB (a b : Bool) : opNe (.dat (.bool a)) (.dat (.bool b)) st = some (.dat (.bool (a != b)), st) := by cases a <;> cases b <;> rfl
theorem o_eqB (a b : Bool) : opEq (.dat (.bool a)) (.dat (.bool b)) st = some (.dat (.bool (a == b)), st) := by cases a <;> cases b <;> rfl
theorem o_minI (i j : Int) : opMin [.dat (.int i), .dat (.int j)] st = some (.dat (.int (if j < i then j else i)), st) := rfl
theorem o_maxI (i j : Int) : opMax [.dat (.int i), .dat (.int j)] st = some (.dat (.int (if j > i then j else i)), st) := rfl
theorem o_tup2 (i j : Int) : opTup [.dat (.int i), .dat (.int j)] st = some (.dat (tt (i, j)), st) := rfl
theorem o_tup1 (i : Int) : opTup [.dat (.int i)] st = some (.dat (ti [i]), st) := rfl
theorem o_tup0 : opTup [] st = some (.dat (ti []), st) := rfl
theorem o_tupA1 (a : PyData) : opTup [.dat a] st = some (.dat (.tuple [a]), st) := rfl
theorem o_tupA2 (a b : PyData) : opTup [.dat a, .dat b] st = some (.dat (.tuple [a, b]), st) := rfl
theorem o_tupA3 (a b c : PyData) : opTup [.dat a, .dat b, .dat c] st = some (.dat (.tuple [a, b, c]), st) := rfl
theorem o_lstI1 (i : Int) : opLst [.dat (.int i)] st = some (.dat (li [i]), st) := rfl
theorem o_lstI0 : opLst [] st = some (.dat (li []), st) := rfl
theorem o_lstP1 (t : Int × Int) : opLst [.dat (tt t)] st = some (.dat (ttl [t]), st) := rfl
theorem o_lstP0 : opLst [] st = some (.dat (ttl []), st) := rfl
theorem ce_ttl (k : Bool) (a b : List (Int × Int)) : (if k = true then ttl a else ttl b) = ttl (if k = true then a else b) := by cases k <;> rfl
theorem ce_tt (k : Bool) (a b : Int × Int) : (if k = true then tt a else tt b) = tt (if k = true then a else b) := by cases k <;> rfl
theorem o_lst0 : opLst [] st = some (.dat (.list []), st) := rfl
theorem o_lst1 (a : PyData) : opLst [.dat a] st = some (.dat (.list [a]), st) := rfl
theorem o_lst2 (a b : PyData) : opLst [.dat a, .dat b] st = some (.dat (.list [a, b]), st) := rfl
theorem o_lst3 (a b c : PyData) : opLst [.dat a, .dat b, .dat c] st = some (.dat (.list [a, b, c]), st) := rfl
theorem o_lst4 (a b c d : PyData) : opLst [.dat a, .dat b, .dat c, .dat d] st = some (.dat (.list [a, b, c, d]), st) := rfl
theorem o_lst5 (a b c d e : PyData) : opLst [.dat a, .dat b, .dat c, .dat d, .dat e] st = some (.dat (.list [a, b, c, d, e]), st) := rfl
theorem o_rgT {i j : Int} (h : rgOk i j = true) : opRg true false (.dat (.int i)) (.dat (.int j)) st = some (.dat (ti (rgI i j)), st) := by
  show (if rgOk i j = true then some (W.dat (.tuple (rgD i j)), st) else none) = _
  rw [if_pos h, rgD_rgI]; rfl
theorem o_rgL {i j : Int} (h : rgOk i j = true) : opRg false false (.dat (.int i)) (.dat (.int j)) st = some (.dat (li (rgI i j)), st) := by
  show (if rgOk i j = true then some (W.dat (.list (rgD i j)), st) else none) = _
  rw [if_pos h, rgD_rgI]; rfl
theorem o_addTi (a b : List Int) (h : a.length + b.length ≤ 1000000) : opAdd (.dat (ti a)) (.dat (ti b)) st = some (.dat (ti (a ++ b)), st) := by
  unfold ti opAdd
  simp only
  rw [if_pos (by rw [List.length_map, List.length_map]; exact small _ (by omega)), List.map_append]
theorem o_addLi (a b : List Int) (h : a.length + b.length ≤ 1000000) : opAdd (.dat (li a)) (.dat (li b)) st = some (.dat (li (a ++ b)), st) := by
  unfold li opAdd
  simp only
  rw [if_pos (by rw [List.length_map, List.length_map]; exact small _ (by omega)), List.map_append]
theorem allT {α : Type} (l : List α) : (l.all fun _ => true) = true := List.all_eq_true.mpr fun _ _ => rfl
theorem t_bl (b : Bool) : truth st (.dat (.bool b)) = some b := rfl
theorem t_int (i : Int) : truth st (.dat (.int i)) = some (i != 0) := rfl
theorem t_non : truth st (.dat .none) = some false := rfl
theorem t_lst (ds : List PyData) : truth st (.dat (.list ds)) = some (!ds.isEmpty) := rfl
theorem t_tup (ds : List PyData) : truth st (.dat (.tuple ds)) = some (!ds.isEmpty) := rfl
theorem o_isN (d : PyData) : opIs false (.dat d) (.dat .none) st = some (.dat (.bool (match d with | .none => true | _ => false)), st) := by cases d <;> rfl
theorem o_isT (b : Bool) : opIs false (.dat (.bool b)) (.dat (.bool true)) st = some (.dat (.bool b), st) := by cases b <;> rfl
theorem o_isnT (b : Bool) : opIs true (.dat (.bool b)) (.dat (.bool true)) st = some (.dat (.bool (!b)), st) := by cases b <;> rfl
theorem o_ssT (l : List Int) (h : l.length < 64) : opSortSetT (.dat (ti l)) st = some (.dat (li (sset l)), st) := by
  unfold ti opSortSetT
  simp only [L3.ints_of]
  rw [if_pos h]
  rfl
theorem o_tt {l : List Int} {t : Int × Int} (h : l = pl t) : ti l = tt t := by rw [h]; rfl
end
/-! ### the ends of defs -/
theorem run_ev {fz : Bool} {n m : Nat} {b : Eb} {ws : List W} {st : Store} {env env' : E3} {d : PyData} (hl : ws.length = m) (hs : start3 n ws = env) (h : b env st = some (.rt (.dat d), env', st)) : runB fz n m b ws st = some (.dat d, st) := run_ret0 hl (by rw [hs]; exact h)
theorem run_evE {fz : Bool} {n m : Nat} {b : Eb} {ws : List W} {st ext : Store} {env env' : E3} {d : PyData} (hl : ws.length = m) (hs : start3 n ws = env) (h : b env st = some (.rt (.dat d), env', st ++ ext)) : runB fz n m b ws st = some (.dat d, st) := run_ret hl (by rw [hs]; exact h)
theorem run_to {fz : Bool} {n m : Nat} {b : Eb} {ws : List W} {st : Store} {env env' : E3} {d d' : PyData} (hl : ws.length = m) (hs : start3 n ws = env) (h : b env st = some (.rt (.dat d), env', st)) (hd : d = d') : runB fz n m b ws st = some (.dat d', st) := by
  rw [← hd]; exact run_ev hl hs h
theorem run_toE {fz : Bool} {n m : Nat} {b : Eb} {ws : List W} {st ext : Store} {env env' : E3} {d d' : PyData} (hl : ws.length = m) (hs : start3 n ws = env) (h : b env st = some (.rt (.dat d), env', st ++ ext)) (hd : d = d') : runB fz n m b ws st = some (.dat d', st) := by
  rw [← hd]; exact run_evE hl hs h
end L3
set_option Elab.async false
set_option linter.all false
set_option maxRecDepth 100000
set_option maxHeartbeats 400000
set_option autoImplicit false
/-! L5: what holds behind a statement. -/
namespace L3
open PySem PySem.Spec PyProof.Rows L2
def Wp (b : Eb) (env : E3) (st : Store) (Q : Fl → E3 → Store → Prop) : Prop := ∃ fl env' st', b env st = some (fl, env', st') ∧ Q fl env' st'
section
variable {env env1 env2 : E3} {st s1 s2 s3 : Store} {f g h : Ev} {t u : Et} {a b c : Eb} {w x y z : W} {ws : List W} {Q : Fl → E3 → Store → Prop}
theorem Wp.imp {Q' : Fl → E3 → Store → Prop} (h : Wp a env st Q) (k : ∀ fl e s, Q fl e s → Q' fl e s) : Wp a env st Q' := by
  obtain ⟨fl, e, s, h1, h2⟩ := h; exact ⟨fl, e, s, h1, k _ _ _ h2⟩
def Beh (b : Eb) (Q : Fl → E3 → Store → Prop) : Fl → E3 → Store → Prop := fun fl e s => match fl with
  | .nx => Wp b e s Q
  | fl => Q fl e s
theorem wp_seq (h : Wp a env st (Beh b Q)) : Wp (bSeq a b) env st Q := by
  obtain ⟨fl, e, s, h1, h2⟩ := h
  unfold Wp bSeq
  rw [h1, Option.bind_some]
  cases fl with
  | nx => exact h2
  | _ => exact ⟨_, _, _, rfl, h2⟩
theorem wp_of {fl : Fl} (h : a env st = some (fl, env1, s1)) (q : Q fl env1 s1) : Wp a env st Q := ⟨_, _, _, h, q⟩
theorem wp_asg {tg : Eg} (h1 : f env st = some (w, s1)) (h2 : tg w env s1 = some (env1, s2)) (q : Q .nx env1 s2) : Wp (bAsg f tg) env st Q := wp_of (r_asg h1 h2) q
theorem wp_ret (h1 : f env st = some (w, s1)) (q : Q (.rt w) env s1) : Wp (bRet f) env st Q := wp_of (r_ret h1) q
theorem wp_retN (q : Q (.rt (.dat .none)) env st) : Wp bRetN env st Q := wp_of r_retN q
theorem wp_pass (q : Q .nx env st) : Wp bPass env st Q := wp_of r_pass q
theorem wp_exp (h1 : f env st = some (w, s1)) (q : Q .nx env s1) : Wp (bExp f) env st Q := wp_of (r_exp h1) q
theorem wp_aug {i : Nat} {o : Op2} (h0 : env[i]? = some (some x)) (h1 : f env st = some (y, s1)) (h2 : o x y s1 = some (z, s2)) (h3 : env.set i (some z) = env1) (q : Q .nx env1 s2) : Wp (bAug i o f) env st Q := wp_of (r_aug h0 h1 h2) (by rw [h3]; exact q)
theorem wp_par2 {i j : Nat} {e : Ea} (h1 : e env st = some ([x, y], s1)) (h2 : (env.set i (some x)).set j (some y) = env1) (q : Q .nx env1 s1) : Wp (bPar2 i j e) env st Q := wp_of (r_par2 h1) (by rw [h2]; exact q)
theorem wp_par3 {i j l : Nat} {e : Ea} (h1 : e env st = some ([x, y, z], s1)) (h2 : ((env.set i (some x)).set j (some y)).set l (some z) = env1) (q : Q .nx env1 s1) : Wp (bPar3 i j l e) env st Q := wp_of (r_par3 h1) (by rw [h2]; exact q)
theorem wp_guard {k : Bool} (h1 : t env st = some (k, s1)) (hk : k = false) (q : Q .nx env s1) : Wp (bIfS t bBad bPass) env st Q := by subst hk; exact wp_of (r_ifSF h1 rfl r_pass) q
theorem wp_if {k : Bool} (h1 : t env st = some (k, s1)) (h2 : k = true → Wp a env s1 Q) (h3 : k = false → Wp b env s1 Q) : Wp (bIfS t a b) env st Q := by
  cases k with
  | true => obtain ⟨fl, e, s, h4, h5⟩ := h2 rfl; exact ⟨fl, e, s, r_ifST h1 rfl h4, h5⟩
  | false => obtain ⟨fl, e, s, h4, h5⟩ := h3 rfl; exact ⟨fl, e, s, r_ifSF h1 rfl h4, h5⟩
theorem wp_ifT {k : Bool} (h1 : t env st = some (k, s1)) (hk : k = true) (h2 : Wp a env s1 Q) : Wp (bIfS t a b) env st Q := wp_if h1 (fun _ => h2) fun e => by rw [hk] at e; cases e
theorem wp_ifF {k : Bool} (h1 : t env st = some (k, s1)) (hk : k = false) (h2 : Wp b env s1 Q) : Wp (bIfS t a b) env st Q := wp_if h1 (fun e => by rw [hk] at e; cases e) fun _ => h2
theorem beh_nx (h : Wp b env st Q) : Beh b Q .nx env st := h
theorem beh_rt (h : Q (.rt w) env st) : Beh b Q (.rt w) env st := h
/-! ### walks of any kind -/
/-- a walk over xs, whatever store of S it is -/
structure IterS {α : Type} (fi : Ei) (env : E3) (st st0 : Store) (S : Store → Prop) (xs : List α) (e : α → W) : Prop where
  go : ∃ it, fi env st = some (it, st0) ∧ Gives it S (xs.map e)
theorem it_rng {i j : Int} {S : Store → Prop} (h1 : f env st = some (.dat (.int i), s1)) (h2 : g env s1 = some (.dat (.int j), s2)) (h3 : rgOk i j = true) : IterS (iRange f g) env st s2 S (rgI i j) fun x => .dat (.int x) := by
  refine ⟨itRange i j, by unfold iRange; rw [h1, Option.bind_some]; simp only [h2, Option.bind_some, h3, if_true], ?_⟩
  have := gives_range (a := i) (b := j) (S := S)
  unfold rgI
  rw [List.map_map]
  exact this
theorem it_lst {α : Type} {xs : List α} {e : α → PyData} {S : Store → Prop} (h1 : f env st = some (.dat (.list (xs.map e)), s1)) : IterS (iSeq f) env st s1 S xs fun x => .dat (e x) := by
  refine ⟨liveSeq (.dat (.list (xs.map e))) ((xs.map e).map .dat), by unfold iSeq; rw [h1, Option.bind_some]; rfl, ?_⟩
  have : xs.map (fun x => W.dat (e x)) = (xs.map e).map W.dat := by rw [List.map_map]; rfl
  rw [this]
  exact gives_lst
theorem it_tup {α : Type} {xs : List α} {e : α → PyData} {S : Store → Prop} (h1 : f env st = some (.dat (.tuple (xs.map e)), s1)) : IterS (iSeq f) env st s1 S xs fun x => .dat (e x) := by
  refine ⟨liveSeq (.dat (.tuple (xs.map e))) ((xs.map e).map .dat), by unfold iSeq; rw [h1, Option.bind_some]; rfl, ?_⟩
  have : xs.map (fun x => W.dat (e x)) = (xs.map e).map W.dat := by rw [List.map_map]; rfl
  rw [this]
  exact gives_tup
theorem it_ti {l : List Int} {S : Store → Prop} (h1 : f env st = some (.dat (ti l), s1)) : IterS (iSeq f) env st s1 S l fun x => .dat (.int x) := it_tup h1
theorem it_li {l : List Int} {S : Store → Prop} (h1 : f env st = some (.dat (li l), s1)) : IterS (iSeq f) env st s1 S l fun x => .dat (.int x) := it_lst h1
theorem it_tts {l : List (Int × Int)} {S : Store → Prop} (h1 : f env st = some (.dat (tts l), s1)) : IterS (iSeq f) env st s1 S l fun x => .dat (tt x) := it_tup h1
theorem it_ttl {l : List (Int × Int)} {S : Store → Prop} (h1 : f env st = some (.dat (ttl l), s1)) : IterS (iSeq f) env st s1 S l fun x => .dat (tt x) := it_lst h1
theorem it_tp {l : List (List Int)} {S : Store → Prop} (h1 : f env st = some (.dat (tp l), s1)) : IterS (iSeq f) env st s1 S l fun x => .dat (ti x) := it_tup h1
theorem it_lp {l : List (List Int)} {S : Store → Prop} (h1 : f env st = some (.dat (lp l), s1)) : IterS (iSeq f) env st s1 S l fun x => .dat (ti x) := it_lst h1
theorem it_enuT {α : Type} {xs : List α} {e : α → PyData} {S : Store → Prop} (h1 : f env st = some (.dat (.tuple (xs.map e)), s1)) : IterS (iEnu f) env st s1 S xs.zipIdx fun x => .dat (.tuple [.int x.2, e x.1]) := by
  refine ⟨itEnum (.dat (.tuple (xs.map e))) ((xs.map e).map W.dat).length, by unfold iEnu; rw [h1, Option.bind_some]; rfl, gives_enum_tupm xs e⟩
theorem it_enuL {α : Type} {xs : List α} {e : α → PyData} {S : Store → Prop} (h1 : f env st = some (.dat (.list (xs.map e)), s1)) : IterS (iEnu f) env st s1 S xs.zipIdx fun x => .dat (.tuple [.int x.2, e x.1]) := by
  refine ⟨itEnum (.dat (.list (xs.map e))) ((xs.map e).map W.dat).length, by unfold iEnu; rw [h1, Option.bind_some]; rfl, ?_⟩
  have h := gives_enum (S := S) (w := .dat (.list (xs.map e))) (ds := xs.map e) fun _ _ => rfl
  rw [List.zipIdx_map] at h
  rw [List.map_map (l := xs.zipIdx)] at h
  exact h
/-- for: P of the turns done -/
theorem wp_for {α : Type} {fi : Ei} {tg : Eg} {st0 : Store} {S : Store → Prop} {xs : List α} {e : α → W} (hi : IterS fi env st st0 S xs e) (P : Nat → E3 → Store → Prop) (hS : ∀ i env st, P i env st → S st) (h0 : P 0 env st0)
    (hs : ∀ i x env st, xs[i]? = some x → P i env st → Wp (fun env st => stepOf tg a (e x) env st) env st fun fl env1 st1 => (fl = .nx ∨ fl = .ct) ∧ P (i + 1) env1 st1) (hq : ∀ env1 st1, P xs.length env1 st1 → Q .nx env1 st1) : Wp (bFor fi tg a) env st Q := by
  obtain ⟨it, h1, h2⟩ := hi.go
  obtain ⟨env1, st1, h3, h4⟩ := bFor_inv (g := tg) (u := a) h1 h2 P hS h0 fun i w env st hw hp => by
    rw [List.getElem?_map] at hw
    obtain ⟨x, hx, rfl⟩ := Option.map_eq_some_iff.mp hw
    obtain ⟨fl, env1, st1, k1, k2, k3⟩ := hs i x env st hx hp
    refine ⟨env1, st1, ?_, k3⟩
    rcases k2 with k2 | k2 <;> subst k2
    · exact .inl k1
    · exact .inr k1
  rw [List.length_map] at h4
  exact ⟨_, _, _, h3, hq _ _ h4⟩
theorem wp_each {α : Type} {fi : Ei} {tg : Eg} {st0 : Store} {xs : List α} {e : α → W} (P : Nat → E3 → Store → Prop) (hi : IterS fi env st st0 (fun _ => True) xs e) (h0 : P 0 env st0)
    (hs : ∀ i x env st, xs[i]? = some x → P i env st → Wp (fun env st => stepOf tg a (e x) env st) env st fun fl env1 st1 => (fl = .nx ∨ fl = .ct) ∧ P (i + 1) env1 st1) (hq : ∀ env1 st1, P xs.length env1 st1 → Q .nx env1 st1) : Wp (bFor fi tg a) env st Q :=
  wp_for hi P (fun _ _ _ _ => trivial) h0 hs hq
/-- for: what is gathered, turn by turn -/
theorem wp_fold {α β : Type} {fi : Ei} {tg : Eg} {st0 : Store} {xs : List α} {e : α → W} (P : β → E3 → Store → Prop) (step : β → α → β) (b0 : β) (hi : IterS fi env st st0 (fun s => ∃ b env, P b env s) xs e) (h0 : P b0 env st0)
    (hs : ∀ (ys : List α) x zs env st, xs = ys ++ x :: zs → P (ys.foldl step b0) env st → Wp (fun env st => stepOf tg a (e x) env st) env st fun fl env1 st1 => (fl = .nx ∨ fl = .ct) ∧ P (step (ys.foldl step b0) x) env1 st1) (hq : ∀ env1 st1, P (xs.foldl step b0) env1 st1 → Q .nx env1 st1) : Wp (bFor fi tg a) env st Q := by
  refine wp_for hi (fun i env st => P ((xs.take i).foldl step b0) env st) (fun i env st p => ⟨_, _, p⟩) h0 (fun i x env st hx p => ?_) fun env1 st1 p => hq _ _ (by rwa [List.take_length] at p)
  rw [take_next hx, List.foldl_append]
  refine hs (xs.take i) x (xs.drop (i + 1)) env st ?_ p
  obtain ⟨hi', rfl⟩ := List.getElem?_eq_some_iff.mp hx
  rw [List.getElem_cons_drop hi', List.take_append_drop]
theorem wp_step {tg : Eg} (h1 : tg w env st = some (env1, s1)) (h2 : Wp a env1 s1 Q) : Wp (fun env st => stepOf tg a w env st) env st Q := by
  obtain ⟨fl, e, s, h3, h4⟩ := h2
  refine ⟨fl, e, s, ?_, h4⟩
  show stepOf tg a w env st = _
  unfold stepOf
  rw [h1, Option.bind_some]; exact h3
/-- while: m is less each turn -/
theorem wp_while (P : Nat → E3 → Store → Prop) (n0 : Nat) {m : Nat} (hm : n0 < m) (h0 : P n0 env st)
    (hs : ∀ n env st, P n env st → ∃ k st1, t env st = some (k, st1) ∧ (k = false → Q .nx env st1) ∧ (k = true → Wp a env st1 fun fl env2 st2 => ((fl = .nx ∨ fl = .ct) ∧ ∃ n', n' < n ∧ P n' env2 st2) ∨ (fl = .bk ∧ Q .nx env2 st2) ∨ ∃ w, fl = .rt w ∧ Q (.rt w) env2 st2)) : Wp (bWhile m t a) env st Q := by
  unfold bWhile
  induction m generalizing n0 env st with
  | zero => omega
  | succ m ih =>
    obtain ⟨k, st1, h1, h2, h3⟩ := hs n0 env st h0
    unfold Wp
    simp only [whileRun, h1]
    cases k with
    | false => exact ⟨_, _, _, rfl, h2 rfl⟩
    | true =>
      obtain ⟨fl, env2, st2, h4, h5⟩ := h3 rfl
      simp only [h4]
      rcases h5 with ⟨hfl, n', hn, hp⟩ | ⟨hfl, hq⟩ | ⟨w, hfl, hq⟩
      · have := ih n' (by omega) hp
        rcases hfl with e | e <;> subst e <;> exact this
      · subst hfl; exact ⟨_, _, _, rfl, hq⟩
      · subst hfl; exact ⟨_, _, _, rfl, hq⟩
/-! ### ends of defs -/
theorem run_wp {fz : Bool} {n m : Nat} {d : PyData} (hl : ws.length = m) (hs : start3 n ws = env) (h : Wp b env st fun fl _ s => fl = .rt (.dat d) ∧ ∃ ext, s = st ++ ext) : runB fz n m b ws st = some (.dat d, st) := by
  obtain ⟨fl, e, s, h1, h2, ext, h3⟩ := h
  subst h2 h3
  exact run_ret hl (by rw [hs]; exact h1)
theorem run_wpS {fz : Bool} {n m : Nat} {st1 : Store} {d : PyData} (hl : ws.length = m) (hs : start3 n ws = env) (h : Wp b env st fun fl _ s => fl = .rt (.dat d) ∧ ∃ ext, s = st1 ++ ext) (h1 : st1.length = st.length) (h2 : ∀ (i : Nat) (c : Cell), i < st.length → st1[i]? = some c → st[i]? = some c ∨ CBelow st.length c) : runB fz n m b ws st = some (.dat d, st1) := by
  obtain ⟨fl, e, s, h3, h4, ext, h5⟩ := h
  subst h4 h5
  exact run_of hl (by rw [hs]; exact h3) h1 h2
end
end L3
namespace L3
open PySem PySem.Spec PyProof.Rows L2
section
variable {env : E3} {st : Store} {a : Eb} {Q : Fl → E3 → Store → Prop}
theorem set_noop {env : E3} {i : Nat} : ∃ o, env.set i o = env := by
  by_cases h : i < env.length
  · exact ⟨env[i], List.set_getElem_self h⟩
  · exact ⟨none, List.set_eq_of_length_le (by omega)⟩
/-- for: the slot i is the loop's own -/
theorem wp_each1 {α : Type} {fi : Ei} {tg : Eg} {st0 : Store} {xs : List α} {e : α → W} (i : Nat) (P : Nat → Store → Prop) (hi : IterS fi env st st0 (fun _ => True) xs e) (h0 : P 0 st0)
    (hs : ∀ k x o st, xs[k]? = some x → P k st → Wp (fun env st => stepOf tg a (e x) env st) (env.set i o) st fun fl env1 st1 => (fl = .nx ∨ fl = .ct) ∧ (∃ o, env1 = env.set i o) ∧ P (k + 1) st1) (hq : ∀ o st1, P xs.length st1 → Q .nx (env.set i o) st1) : Wp (bFor fi tg a) env st Q := by
  obtain ⟨o0, h00⟩ := set_noop (env := env) (i := i)
  refine wp_for hi (fun k env' st => (∃ o, env' = env.set i o) ∧ P k st) (fun _ _ _ _ => trivial) ⟨⟨o0, h00.symm⟩, h0⟩ (fun k x env' st hx ⟨⟨o, e1⟩, p⟩ => ?_) fun env1 st1 ⟨⟨o, e1⟩, p⟩ => ?_
  · subst e1; exact hs k x o st hx p
  · subst e1; exact hq o st1 p
theorem wp_each2 {α : Type} {fi : Ei} {tg : Eg} {st0 : Store} {xs : List α} {e : α → W} (i j : Nat) (P : Nat → Store → Prop) (hi : IterS fi env st st0 (fun _ => True) xs e) (h0 : P 0 st0)
    (hs : ∀ k x o o' st, xs[k]? = some x → P k st → Wp (fun env st => stepOf tg a (e x) env st) ((env.set i o).set j o') st fun fl env1 st1 => (fl = .nx ∨ fl = .ct) ∧ (∃ o o', env1 = (env.set i o).set j o') ∧ P (k + 1) st1) (hq : ∀ o o' st1, P xs.length st1 → Q .nx ((env.set i o).set j o') st1) : Wp (bFor fi tg a) env st Q := by
  obtain ⟨o0, h00⟩ := set_noop (env := env) (i := i)
  obtain ⟨o1, h01⟩ := set_noop (env := env) (i := j)
  refine wp_for hi (fun k env' st => (∃ o o', env' = (env.set i o).set j o') ∧ P k st) (fun _ _ _ _ => trivial) ⟨⟨o0, o1, by rw [h00, h01]⟩, h0⟩ (fun k x env' st hx ⟨⟨o, o', e1⟩, p⟩ => ?_) fun env1 st1 ⟨⟨o, o', e1⟩, p⟩ => ?_
  · subst e1; exact hs k x o o' st hx p
  · subst e1; exact hq o o' st1 p
theorem wp_each3 {α : Type} {fi : Ei} {tg : Eg} {st0 : Store} {xs : List α} {e : α → W} (i j l : Nat) (P : Nat → Store → Prop) (hi : IterS fi env st st0 (fun _ => True) xs e) (h0 : P 0 st0)
    (hs : ∀ k x o o' o'' st, xs[k]? = some x → P k st → Wp (fun env st => stepOf tg a (e x) env st) (((env.set i o).set j o').set l o'') st fun fl env1 st1 => (fl = .nx ∨ fl = .ct) ∧ (∃ o o' o'', env1 = ((env.set i o).set j o').set l o'') ∧ P (k + 1) st1) (hq : ∀ o o' o'' st1, P xs.length st1 → Q .nx (((env.set i o).set j o').set l o'') st1) : Wp (bFor fi tg a) env st Q := by
  obtain ⟨o0, h00⟩ := set_noop (env := env) (i := i)
  obtain ⟨o1, h01⟩ := set_noop (env := env) (i := j)
  obtain ⟨o2, h02⟩ := set_noop (env := env) (i := l)
  refine wp_for hi (fun k env' st => (∃ o o' o'', env' = ((env.set i o).set j o').set l o'') ∧ P k st) (fun _ _ _ _ => trivial) ⟨⟨o0, o1, o2, by rw [h00, h01, h02]⟩, h0⟩ (fun k x env' st hx ⟨⟨o, o', o'', e1⟩, p⟩ => ?_) fun env1 st1 ⟨⟨o, o', o'', e1⟩, p⟩ => ?_
  · subst e1; exact hs k x o o' o'' st hx p
  · subst e1; exact hq o o' o'' st1 p
end
end L3
namespace L3
open PySem PySem.Spec PyProof.Rows L2
/-- data that is a sequence -/
structure SeqC {α : Type} (w : W) (xs : List α) (e : α → PyData) : Prop where
  go : ∀ st, seqOf st w = some ((xs.map e).map .dat)
theorem sc_ti (l : List Int) : SeqC (.dat (ti l)) l .int := ⟨fun _ => rfl⟩
theorem sc_li (l : List Int) : SeqC (.dat (li l)) l .int := ⟨fun _ => rfl⟩
theorem sc_tts (l : List (Int × Int)) : SeqC (.dat (tts l)) l tt := ⟨fun _ => rfl⟩
theorem sc_ttl (l : List (Int × Int)) : SeqC (.dat (ttl l)) l tt := ⟨fun _ => rfl⟩
theorem sc_tp (l : List (List Int)) : SeqC (.dat (tp l)) l ti := ⟨fun _ => rfl⟩
theorem sc_lp (l : List (List Int)) : SeqC (.dat (lp l)) l ti := ⟨fun _ => rfl⟩
theorem sc_tup {α : Type} (l : List α) (e : α → PyData) : SeqC (.dat (.tuple (l.map e))) l e := ⟨fun _ => rfl⟩
theorem sc_lst {α : Type} (l : List α) (e : α → PyData) : SeqC (.dat (.list (l.map e))) l e := ⟨fun _ => rfl⟩
theorem sc_w {l : List (Int × Int)} {w : PyData} (hw : w = tts l ∨ w = ttl l) : SeqC (.dat w) l tt := by rcases hw with e | e <;> subst e <;> exact ⟨fun _ => rfl⟩
theorem it_seq {α : Type} {f : Ev} {env : E3} {st s1 : Store} {w : W} {xs : List α} {e : α → PyData} {S : Store → Prop} (h1 : f env st = some (w, s1)) (h2 : SeqC w xs e) : IterS (iSeq f) env st s1 S xs fun x => .dat (e x) := by
  refine ⟨liveSeq w ((xs.map e).map .dat), by unfold iSeq; rw [h1, Option.bind_some]; simp only [h2.go]; rfl, ?_⟩
  have : xs.map (fun x => W.dat (e x)) = (xs.map e).map W.dat := by rw [List.map_map]; rfl
  rw [this]
  exact gives_seq fun s _ => h2.go s
theorem it_enu {α : Type} {f : Ev} {env : E3} {st s1 : Store} {w : W} {xs : List α} {e : α → PyData} {S : Store → Prop} (h1 : f env st = some (w, s1)) (h2 : SeqC w xs e) : IterS (iEnu f) env st s1 S xs.zipIdx fun x => .dat (.tuple [.int x.2, e x.1]) := by
  refine ⟨itEnum w ((xs.map e).map W.dat).length, by unfold iEnu; rw [h1, Option.bind_some]; simp only [h2.go]; rfl, ?_⟩
  have h := gives_enum (S := S) (w := w) (ds := xs.map e) fun s _ => h2.go s
  rw [List.zipIdx_map] at h
  rw [List.map_map (l := xs.zipIdx)] at h
  exact h
end L3
set_option Elab.async false
set_option linter.all false
set_option maxRecDepth 100000
set_option maxHeartbeats 400000
set_option autoImplicit false
/-! L5: what is drawn from a pot. -/
namespace L3
open PySem PySem.Spec PyProof.Rows L2
def pc (a b : Int) : Cell := .list [.dat (.int a), .dat (.int b)]
theorem pc_below (k : Nat) (a b : Int) : CBelow k (pc a b) := by
  intro w hw
  simp only [List.mem_cons, List.mem_nil_iff, or_false] at hw
  rcases hw with e | e <;> subst e <;> trivial
theorem pot_shut {st : Store} {n k : Nat} {a b : Int} (i : Nat) (c : Cell) (h : (st.set n (pc a b))[i]? = some c) : st[i]? = some c ∨ CBelow k c := by
  by_cases e : n = i
  · subst e
    by_cases hl : n < st.length
    · rw [List.getElem?_set_self hl] at h
      cases h
      exact .inr (pc_below _ _ _)
    · rw [List.getElem?_eq_none (by rw [List.length_set]; omega)] at h
      cases h
  · rw [List.getElem?_set_ne e] at h
    exact .inl h
theorem run_pot {fz : Bool} {n m k : Nat} {b : Eb} {ws : List W} {st ext : Store} {env' : E3} {d : PyData} {x y : Int} (hl : ws.length = m) (h : b (start3 n ws) st = some (.rt (.dat d), env', st.set k (pc x y) ++ ext)) : runB fz n m b ws st = some (.dat d, st.set k (pc x y)) :=
  run_of hl h List.length_set fun i c _ e => pot_shut i c e
theorem pylong_no (a m : Int) (h : m.natAbs < 2 ^ 64) : Builtin.divisionGoesByPylong a m = false := by
  unfold Builtin.divisionGoesByPylong
  have h1 := log2_small h (by decide)
  have : decide ((if m == 0 then 0 else m.natAbs.log2 / 30 + 1) > 300) = false := by
    rw [decide_eq_false_iff_not]
    split
    · omega
    · have : m.natAbs.log2 / 30 ≤ 64 / 30 := Nat.div_le_div_right (by omega)
      omega
  simp only [this, Bool.false_and]
theorem set_app {st ext : Store} {n : Nat} {c : Cell} (h : n < st.length) : (st ++ ext).set n c = st.set n c ++ ext := by rw [List.set_append, if_pos h]
theorem get_app {st ext : Store} {n : Nat} (h : n < st.length) : (st ++ ext)[n]? = st[n]? := List.getElem?_append_left h
theorem set_same {st : Store} {n : Nat} {c : Cell} (h : st[n]? = some c) : st.set n c = st := by
  obtain ⟨hl, e⟩ := List.getElem?_eq_some_iff.mp h
  subst e
  exact List.set_getElem_self hl
/-- what stands in a pot's second place -/
structure Drawn (y : Int) : Prop where
  lo : 0 ≤ y
  hi : y ≤ 2147483647
/-- what is drawn with the pot at n: d with G, the pot is moved on -/
def Rnd (n : Nat) (F : Store → Option (W × Store)) (G : PyData → Prop) : Prop := ∀ (st ext : Store) (a b : Int), n < st.length → Drawn b → ∃ d x y, F (st.set n (pc a b) ++ ext) = some (.dat d, st.set n (pc x y) ++ ext) ∧ Drawn y ∧ G d
theorem Rnd.imp {n : Nat} {F : Store → Option (W × Store)} {G G' : PyData → Prop} (h : Rnd n F G) (k : ∀ d, G d → G' d) : Rnd n F G' := fun st ext a b hn hb => by
  obtain ⟨d, x, y, h1, h2, h3⟩ := h st ext a b hn hb
  exact ⟨d, x, y, h1, h2, k d h3⟩
/-- from what holds at a store with its pot -/
theorem Rnd.of {n : Nat} {F : Store → Option (W × Store)} {G : PyData → Prop} (h : ∀ (st : Store) (a b : Int), st[n]? = some (pc a b) → Drawn b → ∃ d x y, F st = some (.dat d, st.set n (pc x y)) ∧ Drawn y ∧ G d) : Rnd n F G := fun st ext a b hn hb => by
  obtain ⟨d, x, y, h1, h2⟩ := h (st.set n (pc a b) ++ ext) a b (by rw [get_app (by rw [List.length_set]; exact hn), List.getElem?_set_self hn]) hb
  rw [set_app (by rw [List.length_set]; exact hn), List.set_set] at h1
  exact ⟨d, x, y, h1, h2⟩
theorem Rnd.ofWp {n n' m : Nat} {fz : Bool} {b : Eb} {ws : List W} {env : E3} {G : PyData → Prop} (hl : ws.length = m) (hs : start3 n' ws = env)
    (h : ∀ (st : Store) (a b' : Int), n < st.length → Drawn b' → Wp b env (st.set n (pc a b')) fun fl _ s => ∃ d x y ext, fl = .rt (.dat d) ∧ s = st.set n (pc x y) ++ ext ∧ Drawn y ∧ G d) : Rnd n (runB fz n' m b ws) G := Rnd.of fun st a b' hst hb => by
  have hn : n < st.length := (List.getElem?_eq_some_iff.mp hst).1
  obtain ⟨fl, e, s, h1, d, x, y, ext, h2, h3, h4, h5⟩ := h st a b' hn hb
  rw [set_same hst] at h1
  subst h2 h3
  exact ⟨d, x, y, run_pot hl (by rw [hs]; exact h1), h4, h5⟩
/-- a comprehension whose test draws -/
theorem compR {α : Type} {n : Nat} {st ext : Store} {fi : Ei} {gt : Eg} {t : Et} {el : Ev} {vs : List Nat} {env env0 : E3} {a b : Int} {xs : List α} {e : α → W} {f : α → PyData} (hn : n < st.length) (hb : Drawn b)
    (hi : IterS fi env (st.set n (pc a b) ++ ext) (st.set n (pc a b) ++ ext) (fun _ => True) xs e) (hv : wipe3 env vs = env0)
    (h : ∀ x ∈ xs, ∀ a b, Drawn b → ∃ env1 k x' y', gt (e x) env0 (st.set n (pc a b) ++ ext) = some (env1, st.set n (pc a b) ++ ext) ∧ t env1 (st.set n (pc a b) ++ ext) = some (k, st.set n (pc x' y') ++ ext) ∧ Drawn y' ∧ (k = true → el env1 (st.set n (pc x' y') ++ ext) = some (.dat (f x), st.set n (pc x' y') ++ ext))) :
    ∃ (sel : List α) (x y : Int), bComp fi gt t el vs env (st.set n (pc a b) ++ ext) = some (.dat (.list (sel.map f)), st.set n (pc x y) ++ ext) ∧ Drawn y ∧ sel.Sublist xs := by
  obtain ⟨it, h1, h2⟩ := hi.go
  obtain ⟨acc, st1, h3, x, y, sel, h4, h5, h6, h7⟩ := compAll_inv (gt := gt) (t := t) (el := el) (vs := vs) h1 h2 (fun i s acc => ∃ (x y : Int) (sel : List α), s = st.set n (pc x y) ++ ext ∧ acc = (sel.map f).map .dat ∧ Drawn y ∧ sel.Sublist (xs.take i)) (fun _ _ _ _ => trivial) ⟨a, b, [], rfl, rfl, hb, List.nil_sublist _⟩ fun i w s acc hw ⟨x, y, sel, q1, q2, q3, q4⟩ => by
    subst q1 q2
    rw [List.getElem?_map] at hw
    obtain ⟨z, hz, rfl⟩ := Option.map_eq_some_iff.mp hw
    obtain ⟨env1, k, x', y', k1, k2, k3, k4⟩ := h z (List.mem_of_getElem? hz) x y q3
    rw [hv]
    refine ⟨env1, _, k, _, k1, k2, fun _ => ⟨x', y', sel, rfl, rfl, k3, ?_⟩, fun hk => ⟨_, _, k4 hk, x', y', sel ++ [z], rfl, by simp, k3, ?_⟩⟩
    · rw [take_next hz]; exact q4.trans (List.sublist_append_left _ _)
    · rw [take_next hz]; exact q4.append (List.Sublist.refl _)
  subst h4 h5
  rw [List.length_map, List.take_length] at h7
  refine ⟨sel, x, y, ?_, h6, h7⟩
  unfold bComp
  rw [h3, Option.bind_some]
  simp only [mapM_dat]
  rfl
theorem r_bAndT {f g : Ev} {env : E3} {st s1 : Store} {r : Option (W × Store)} (h1 : f env st = some (.dat (.bool true), s1)) (h2 : g env s1 = r) : bAnd f g env st = r := by
  unfold bAnd; rw [h1, Option.bind_some]; exact h2
/-- tuple([x for .. if a draw tells so]) -/
theorem wp_drawTup {α : Type} {n i : Nat} {st ext : Store} {fi : Ei} {gt : Eg} {t : Et} {el : Ev} {vs : List Nat} {env env0 : E3} {a b : Int} {xs : List α} {e : α → W} {f : α → PyData} {Q : Fl → E3 → Store → Prop} (hn : n < st.length) (hb : Drawn b)
    (hi : IterS fi env (st.set n (pc a b) ++ ext) (st.set n (pc a b) ++ ext) (fun _ => True) xs e) (hv : wipe3 env vs = env0)
    (h : ∀ x ∈ xs, ∀ a b, Drawn b → ∃ env1 k x' y', gt (e x) env0 (st.set n (pc a b) ++ ext) = some (env1, st.set n (pc a b) ++ ext) ∧ t env1 (st.set n (pc a b) ++ ext) = some (k, st.set n (pc x' y') ++ ext) ∧ Drawn y' ∧ (k = true → el env1 (st.set n (pc x' y') ++ ext) = some (.dat (f x), st.set n (pc x' y') ++ ext)))
    (hq : ∀ (sel : List α) (x y : Int), Drawn y → sel.Sublist xs → Q .nx (env.set i (some (.dat (.tuple (sel.map f))))) (st.set n (pc x y) ++ ext)) : Wp (bAsg (bN opTuple (aCons (bComp fi gt t el vs) aNil)) (gNm i)) env (st.set n (pc a b) ++ ext) Q := by
  obtain ⟨sel, x, y, h1, h2, h3⟩ := compR hn hb hi hv h
  exact wp_asg (r_bN (r_aCons h1 r_aNil) (opTuple_lst _)) rfl (hq sel x y h2 h3)
end L3
namespace L3
open PySem PySem.Spec PyProof.Rows L2
theorem r_tOrF {t u : Et} {env : E3} {st s1 : Store} {r : Option (Bool × Store)} (h1 : t env st = some (false, s1)) (h2 : u env s1 = r) : tOr3 t u env st = r := by
  unfold tOr3; rw [h1, Option.bind_some]; exact h2
theorem r_tAnT {t u : Et} {env : E3} {st s1 : Store} {r : Option (Bool × Store)} (h1 : t env st = some (true, s1)) (h2 : u env s1 = r) : tAn t u env st = r := by
  unfold tAn; rw [h1, Option.bind_some]; exact h2
end L3
set_option Elab.async false
set_option linter.all false
set_option maxRecDepth 100000
set_option maxHeartbeats 400000
set_option autoImplicit false
/-! L5: cells behind a store. -/
namespace L3
open PySem PySem.Spec PyProof.Rows L2
def cellD (l : List PyData) : Cell := .list (l.map .dat)
def cellI (l : List Int) : Cell := .list ((l.map .int).map .dat)
def cellT (l : List (List Int)) : Cell := .list ((l.map ti).map .dat)
def cellP (l : List (Int × Int)) : Cell := .list ((l.map tt).map .dat)
section
variable {st : Store} {a b : Cell} {rest : Store} {ws : List W}
theorem c_0 : (st ++ (a :: rest))[st.length]? = some a := by rw [List.getElem?_append_right (Nat.le_refl _), Nat.sub_self]; rfl
theorem c_1 : (st ++ (a :: b :: rest))[st.length + 1]? = some b := by
  rw [List.getElem?_append_right (Nat.le_add_right _ _), Nat.add_sub_cancel_left]; rfl
theorem s_0 {c : Cell} : (st ++ (a :: rest)).set st.length c = st ++ (c :: rest) := by rw [List.set_append, if_neg (Nat.lt_irrefl _), Nat.sub_self]; rfl
theorem s_1 {c : Cell} : (st ++ (a :: b :: rest)).set (st.length + 1) c = st ++ (a :: c :: rest) := by
  rw [List.set_append, if_neg (by omega), Nat.add_sub_cancel_left]; rfl
theorem isL_of {n : Nat} (h : st[n]? = some (.list ws)) : isL st (.loc n) = true := by simp only [isL, h]
theorem app_of {n : Nat} {w : W} (h : st[n]? = some (.list ws)) (hz : ws.length < 1000000) : opAppend (.loc n) [w] st = some (.dat .none, st.set n (.list (ws ++ [w]))) := by
  simp only [opAppend, h]
  exact if_pos (Nat.lt_of_lt_of_le hz (small _ (by decide)))
theorem ext_of {n : Nat} {ds : List PyData} (h : st[n]? = some (.list ws)) (hz : ws.length + ds.length ≤ 1000000) : opExtend (.loc n) [.dat (.list ds)] st = some (.dat .none, st.set n (.list (ws ++ ds.map .dat))) := by
  simp only [opExtend, h]
  exact if_pos (Nat.le_trans hz (small _ (by decide)))
theorem isL_0I {l : List Int} : isL (st ++ (cellI l :: rest)) (.loc st.length) = true := isL_of c_0
theorem isL_1I {l : List Int} : isL (st ++ (a :: cellI l :: rest)) (.loc (st.length + 1)) = true := isL_of c_1
theorem isL_0T {l : List (List Int)} : isL (st ++ (cellT l :: rest)) (.loc st.length) = true := isL_of c_0
theorem isL_0P {l : List (Int × Int)} : isL (st ++ (cellP l :: rest)) (.loc st.length) = true := isL_of c_0
theorem app_0I {l : List Int} (x : Int) (hz : l.length < 1000000) : opAppend (.loc st.length) [.dat (.int x)] (st ++ (cellI l :: rest)) = some (.dat .none, st ++ (cellI (l ++ [x]) :: rest)) := by
  refine (app_of (st := st ++ (cellI l :: rest)) (n := st.length) (ws := (l.map .int).map .dat) c_0 (by rw [List.length_map, List.length_map]; exact hz)).trans ?_
  rw [s_0]
  unfold cellI; simp
theorem app_1I {l : List Int} (x : Int) (hz : l.length < 1000000) : opAppend (.loc (st.length + 1)) [.dat (.int x)] (st ++ (a :: cellI l :: rest)) = some (.dat .none, st ++ (a :: cellI (l ++ [x]) :: rest)) := by
  refine (app_of (st := st ++ (a :: cellI l :: rest)) (n := st.length + 1) (ws := (l.map .int).map .dat) c_1 (by rw [List.length_map, List.length_map]; exact hz)).trans ?_
  rw [s_1]
  unfold cellI; simp
theorem app_0T {l : List (List Int)} (x : List Int) (hz : l.length < 1000000) : opAppend (.loc st.length) [.dat (ti x)] (st ++ (cellT l :: rest)) = some (.dat .none, st ++ (cellT (l ++ [x]) :: rest)) := by
  refine (app_of (st := st ++ (cellT l :: rest)) (n := st.length) (ws := (l.map ti).map .dat) c_0 (by rw [List.length_map, List.length_map]; exact hz)).trans ?_
  rw [s_0]
  unfold cellT; simp
theorem app_0P {l : List (Int × Int)} (x : Int × Int) (hz : l.length < 1000000) : opAppend (.loc st.length) [.dat (tt x)] (st ++ (cellP l :: rest)) = some (.dat .none, st ++ (cellP (l ++ [x]) :: rest)) := by
  refine (app_of (st := st ++ (cellP l :: rest)) (n := st.length) (ws := (l.map tt).map .dat) c_0 (by rw [List.length_map, List.length_map]; exact hz)).trans ?_
  rw [s_0]
  unfold cellP; simp
theorem ext_0I {l : List Int} (x : List Int) (hz : l.length + x.length ≤ 1000000) : opExtend (.loc st.length) [.dat (li x)] (st ++ (cellI l :: rest)) = some (.dat .none, st ++ (cellI (l ++ x) :: rest)) := by
  show opExtend _ [.dat (.list (x.map .int))] _ = _
  refine (ext_of (st := st ++ (cellI l :: rest)) (n := st.length) (ws := (l.map .int).map .dat) c_0 (by rw [List.length_map, List.length_map, List.length_map]; exact hz)).trans ?_
  rw [s_0]
  unfold cellI; simp
theorem ext_1I {l : List Int} (x : List Int) (hz : l.length + x.length ≤ 1000000) : opExtend (.loc (st.length + 1)) [.dat (li x)] (st ++ (a :: cellI l :: rest)) = some (.dat .none, st ++ (a :: cellI (l ++ x) :: rest)) := by
  show opExtend _ [.dat (.list (x.map .int))] _ = _
  refine (ext_of (st := st ++ (a :: cellI l :: rest)) (n := st.length + 1) (ws := (l.map .int).map .dat) c_1 (by rw [List.length_map, List.length_map, List.length_map]; exact hz)).trans ?_
  rw [s_1]
  unfold cellI; simp
theorem ext_0P {l : List (Int × Int)} (x : List (Int × Int)) (hz : l.length + x.length ≤ 1000000) : opExtend (.loc st.length) [.dat (ttl x)] (st ++ (cellP l :: rest)) = some (.dat .none, st ++ (cellP (l ++ x) :: rest)) := by
  show opExtend _ [.dat (.list (x.map tt))] _ = _
  refine (ext_of (st := st ++ (cellP l :: rest)) (n := st.length) (ws := (l.map tt).map .dat) c_0 (by rw [List.length_map, List.length_map, List.length_map]; exact hz)).trans ?_
  rw [s_0]
  unfold cellP; simp
theorem in_0I {neg : Bool} (x : Int) (l : List Int) : opIn neg (.dat (.int x)) (.loc st.length) (st ++ (cellI l :: rest)) = some (.dat (.bool (neg ^^ decide (x ∈ l))), st ++ (cellI l :: rest)) := opIn_cell x l c_0
theorem in_1I {neg : Bool} (x : Int) (l : List Int) : opIn neg (.dat (.int x)) (.loc (st.length + 1)) (st ++ (a :: cellI l :: rest)) = some (.dat (.bool (neg ^^ decide (x ∈ l))), st ++ (a :: cellI l :: rest)) := opIn_cell x l c_1
theorem inF_0I (x : Int) (l : List Int) : opIn false (.dat (.int x)) (.loc st.length) (st ++ (cellI l :: rest)) = some (.dat (.bool (decide (x ∈ l))), st ++ (cellI l :: rest)) := by rw [in_0I, Bool.false_xor]
theorem inT_0I (x : Int) (l : List Int) : opIn true (.dat (.int x)) (.loc st.length) (st ++ (cellI l :: rest)) = some (.dat (.bool (!decide (x ∈ l))), st ++ (cellI l :: rest)) := by rw [in_0I, Bool.true_xor]
theorem inF_1I (x : Int) (l : List Int) : opIn false (.dat (.int x)) (.loc (st.length + 1)) (st ++ (a :: cellI l :: rest)) = some (.dat (.bool (decide (x ∈ l))), st ++ (a :: cellI l :: rest)) := by rw [in_1I, Bool.false_xor]
theorem inT_1I (x : Int) (l : List Int) : opIn true (.dat (.int x)) (.loc (st.length + 1)) (st ++ (a :: cellI l :: rest)) = some (.dat (.bool (!decide (x ∈ l))), st ++ (a :: cellI l :: rest)) := by rw [in_1I, Bool.true_xor]
theorem dats (l : List PyData) : (l.map W.dat).mapM datOf = some l := mapM_dats l
theorem addL_0I (p l : List Int) (hz : p.length + l.length ≤ 1000000) : opAddL (.dat (li p)) (.loc st.length) (st ++ (cellI l :: rest)) = some (.dat (li (p ++ l)), st ++ (cellI l :: rest)) := by
  have h1 : lstOf (st ++ (cellI l :: rest)) (.dat (li p)) = some (p.map .int) := rfl
  have h2 : lstOf (st ++ (cellI l :: rest)) (.loc st.length) = some (l.map .int) := by
    simp only [lstOf, c_0, cellI, dats]
  unfold opAddL
  rw [h1, Option.bind_some]
  simp only [h2, Option.bind_some]
  rw [if_pos (by rw [List.length_map, List.length_map]; exact small _ (by omega)), ← List.map_append]; rfl
theorem ssL (l : List Int) (h : l.length < 64) : opSortSetL (.dat (li l)) st = some (.dat (li (sset l)), st) := by
  have h1 : lstOf st (.dat (li l)) = some (l.map .int) := rfl
  unfold opSortSetL
  rw [h1, Option.bind_some]
  simp only [L3.ints_of, Option.bind_some]
  rw [if_pos h]; rfl
theorem new1 : opLstNew [] st = some (.loc st.length, st ++ [cellI []]) := by unfold opLstNew; exact if_pos (Nat.zero_le _)
theorem new1T : opLstNew [] st = some (.loc st.length, st ++ [cellT []]) := by unfold opLstNew; exact if_pos (Nat.zero_le _)
theorem new1P : opLstNew [] st = some (.loc st.length, st ++ [cellP []]) := by unfold opLstNew; exact if_pos (Nat.zero_le _)
theorem new2TI {env : E3} : aCons (bN opLstNew aNil) (aCons (bN opLstNew aNil) aNil) env st = some ([.loc st.length, .loc (st.length + 1)], st ++ [cellT [], cellI []]) := by
  have h := new1 (st := st ++ [cellT []])
  rw [List.length_append, List.append_assoc] at h
  exact r_aCons (r_bN r_aNil new1T) (r_aCons (r_bN r_aNil h) r_aNil)
theorem c_lastI {l : List Int} : (st ++ [cellI l])[st.length]? = some (cellI l) := c_0
theorem tup_0I (l : List Int) : opTuple [.loc st.length] (st ++ (cellI l :: rest)) = some (.dat (ti l), st ++ (cellI l :: rest)) := by
  unfold opTuple
  have e : seqOf (st ++ (cellI l :: rest)) (.loc st.length) = some ((l.map PyData.int).map W.dat) := by simp only [seqOf, c_0, cellI]
  simp only [tupOf, e, dats]
  rfl
theorem tup_0P (l : List (Int × Int)) : opTuple [.loc st.length] (st ++ (cellP l :: rest)) = some (.dat (tts l), st ++ (cellP l :: rest)) := by
  unfold opTuple
  have e : seqOf (st ++ (cellP l :: rest)) (.loc st.length) = some ((l.map tt).map W.dat) := by simp only [seqOf, c_0, cellP]
  simp only [tupOf, e, dats]
  rfl
theorem tup_0T (l : List (List Int)) : opTuple [.loc st.length] (st ++ (cellT l :: rest)) = some (.dat (tp l), st ++ (cellT l :: rest)) := by
  unfold opTuple
  have e : seqOf (st ++ (cellT l :: rest)) (.loc st.length) = some ((l.map ti).map W.dat) := by simp only [seqOf, c_0, cellT]
  simp only [tupOf, e, dats]
  rfl
/-- a def that returns a list of tuples of its own -/
theorem run_cellT {n m : Nat} {b : Eb} {ws : List W} {env : E3} {l : List (List Int)} (hl : ws.length = m) (hs : start3 n ws = env) (h : Wp b env st fun fl _ s => fl = .rt (.loc st.length) ∧ ∃ rest, s = st ++ (cellT l :: rest)) : runB true n m b ws st = some (.dat (lp l), st) := by
  obtain ⟨fl, e, s, h1, h2, rest, h3⟩ := h
  subst h2 h3
  unfold runB
  rw [if_pos hl, hs, h1, Option.bind_some]
  show shut true st (.loc st.length) (st ++ (cellT l :: rest)) = _
  unfold shut
  rw [if_pos ⟨by rw [List.length_append]; omega, fun i c hi e => .inl (by rwa [List.getElem?_append_left hi] at e)⟩]
  simp only
  rw [if_neg (Nat.lt_irrefl _), if_pos trivial, c_0]
  simp only [cellT, dats]
  rw [List.take_left']
  · rfl
  · rfl
theorem run_cellI {n m : Nat} {b : Eb} {ws : List W} {env : E3} {l : List Int} (hl : ws.length = m) (hs : start3 n ws = env) (h : Wp b env st fun fl _ s => fl = .rt (.loc st.length) ∧ ∃ rest, s = st ++ (cellI l :: rest)) : runB true n m b ws st = some (.dat (li l), st) := by
  obtain ⟨fl, e, s, h1, h2, rest, h3⟩ := h
  subst h2 h3
  unfold runB
  rw [if_pos hl, hs, h1, Option.bind_some]
  show shut true st (.loc st.length) (st ++ (cellI l :: rest)) = _
  unfold shut
  rw [if_pos ⟨by rw [List.length_append]; omega, fun i c hi e => .inl (by rwa [List.getElem?_append_left hi] at e)⟩]
  simp only
  rw [if_neg (Nat.lt_irrefl _), if_pos trivial, c_0]
  simp only [cellI, dats]
  rw [List.take_left']
  · rfl
  · rfl
end
end L3
namespace L3
open PySem PySem.Spec PyProof.Rows L2
theorem rgI_get {a b x : Int} {i : Nat} (h : (rgI a b)[i]? = some x) : x = a + i ∧ a + i < b := by
  unfold rgI at h
  rw [List.getElem?_map] at h
  obtain ⟨j, hj, rfl⟩ := Option.map_eq_some_iff.mp h
  obtain ⟨h1, h2⟩ := List.getElem?_eq_some_iff.mp hj
  rw [List.length_range] at h1
  rw [List.getElem_range] at h2
  subst h2
  exact ⟨rfl, by omega⟩
theorem rgI_len (a b : Int) : (rgI a b).length = (b - a).toNat := by unfold rgI; rw [List.length_map, List.length_range]
theorem it_w {f : Ev} {env : E3} {st s1 : Store} {l : List (Int × Int)} {w : PyData} {S : Store → Prop} (hw : w = tts l ∨ w = ttl l) (h1 : f env st = some (.dat w, s1)) : IterS (iSeq f) env st s1 S l fun x => .dat (tt x) := by
  rcases hw with e | e <;> subst e
  · exact it_tts h1
  · exact it_ttl h1
end L3
namespace L3
open PySem PySem.Spec PyProof.Rows L2
def toldL (ts : List (Int × Int)) (lot : List Int) : List (Int × Int) := lot.map fun x => ts.getD x.toNat (0, 0)
theorem getD_mem {ts : List (Int × Int)} {x : Int} (h1 : 0 ≤ x) (h2 : x < ts.length) : ts.getD x.toNat (0, 0) ∈ ts := by
  rw [List.getD_eq_getElem?_getD, List.getElem?_eq_getElem (show x.toNat < ts.length by omega)]
  exact List.getElem_mem _
theorem idx_ttsI {st : Store} {ts : List (Int × Int)} {x : Int} (h1 : 0 ≤ x) (h2 : x < ts.length) : opIdx (.dat (tts ts)) (.dat (.int x)) st = some (.dat (tt (ts.getD x.toNat (0, 0))), st) := by
  obtain ⟨i, rfl⟩ : ∃ i : Nat, x = i := ⟨x.toNat, by omega⟩
  refine idx_tts i ?_
  rw [List.getD_eq_getElem?_getD, Int.toNat_natCast, List.getElem?_eq_getElem (show i < ts.length by omega)]; rfl
theorem idx_lst {st : Store} {ds : List PyData} {d : PyData} (i : Nat) (h : ds[i]? = some d) : opIdx (.dat (.list ds)) (.dat (.int (i : Int))) st = some (.dat d, st) := by
  have hi := (List.getElem?_eq_some_iff.mp h).1
  have ha : atI (ds.map W.dat) (i : Int) = some (.dat d) := by
    unfold atI ixN
    rw [if_pos (by omega), if_pos (by rw [List.length_map]; omega)]
    show (ds.map W.dat)[((i : Int)).toNat]? = _
    rw [Int.toNat_natCast, List.getElem?_map, h]; rfl
  simp only [opIdx, seqOf, ha, Option.map_some]
theorem idx_rg {st : Store} {n y : Int} (f : Int → Int) (h1 : 0 ≤ y) (h2 : y < n) : opIdx (.dat (li ((rg n).map f))) (.dat (.int y)) st = some (.dat (.int (f y)), st) := by
  obtain ⟨i, rfl⟩ : ∃ i : Nat, y = i := ⟨y.toNat, by omega⟩
  refine idx_lst i ?_
  unfold rg
  rw [List.map_map, List.map_map, List.getElem?_map, List.getElem?_range (by omega)]; rfl
theorem q_liM {st : Store} (f : Int → Int) (t : Int × Int) : seqOf st (.dat (li ((pl t).map f))) = some [.dat (.int (f t.1)), .dat (.int (f t.2))] := rfl
end L3
namespace L3
open PySem PySem.Spec PyProof.Rows L2
theorem dict0 {env : E3} {st : Store} : bDictNew env st = some (.loc st.length, st ++ [.dict []]) := rfl
theorem rg_get {n : Int} {k : Nat} (h : k < n.toNat) : (rg n)[k]? = some (k : Int) := by
  unfold rg; rw [List.getElem?_map, List.getElem?_range h]; rfl
theorem enum_get {n : Int} {f : Int → Int} {k : Nat} {x : Int × Nat} (h : ((rg n).map f).zipIdx[k]? = some x) : k < n.toNat ∧ x = (f k, k) := by
  rw [List.getElem?_zipIdx] at h
  obtain ⟨y, hy, rfl⟩ := Option.map_eq_some_iff.mp h
  rw [List.getElem?_map] at hy
  obtain ⟨z, hz, rfl⟩ := Option.map_eq_some_iff.mp hy
  have hk : k < n.toNat := by have := (List.getElem?_eq_some_iff.mp hz).1; rwa [rg_len] at this
  rw [rg_get hk] at hz
  cases hz
  exact ⟨hk, by simp⟩
theorem told_rng {n : Int} {ts : List (Int × Int)} {lot : List Int} (h : Web n ts) (h2 : ∀ x ∈ lot, 0 ≤ x ∧ x < ts.length) : ∀ t ∈ toldL ts lot, 0 ≤ t.1 ∧ t.1 < t.2 ∧ t.2 < n := fun t ht => by
  obtain ⟨x, hx, rfl⟩ := List.mem_map.mp ht
  exact h.ok _ (getD_mem (h2 x hx).1 (h2 x hx).2)
theorem told_parts {n : Int} {ts : List (Int × Int)} {lot : List Int} (h : Web n ts) (h2 : ∀ x ∈ lot, 0 ≤ x ∧ x < ts.length) : Parts n.toNat (toldL ts lot) (groups (labF (toldL ts lot)) n.toNat) := by
  have ht : ∀ t ∈ toldL ts lot, (0 ≤ t.1 ∧ t.1 < n.toNat) ∧ 0 ≤ t.2 ∧ t.2 < n.toNat := fun t ht => by have := told_rng h h2 t ht; omega
  exact groups_parts (labF_iff ht) ht
end L3
namespace L3
open PySem PySem.Spec PyProof.Rows L2
theorem key_int (x : Int) : keyOf (.dat (.int x)) = some (.inl x) := rfl
end L3
set_option Elab.async false
set_option linter.all false
set_option maxRecDepth 100000
set_option maxHeartbeats 400000
set_option autoImplicit false
/-! The cells of a dict from labels to lists, place by place. -/
namespace L3
open PySem PySem.Spec PyProof.Rows L2
def heads (f : Int → Int) (k : Nat) : List Nat := (List.range k).filter fun i => firstB f i
def gKvs (f : Int → Int) (L k : Nat) : List (Key × W) := (heads f k).map fun (i : Nat) => (.inl (f i), .loc (L + 1 + i))
def gCells (f : Int → Int) (k : Nat) : Store := (List.range k).map fun (i : Nat) => cellI (if firstB f i = true then group f k i else [])
theorem heads_succ (f : Int → Int) (k : Nat) : heads f (k + 1) = heads f k ++ if firstB f k = true then [k] else [] := by
  unfold heads; rw [List.range_succ, List.filter_append]; congr 1
  by_cases h : firstB f k = true
  · simp [h]
  · simp [h]
theorem rgN_succ (k : Nat) : rgN (k + 1) = rgN k ++ [(k : Int)] := by unfold rgN; rw [List.range_succ, List.map_append]; rfl
theorem group_succ (f : Int → Int) (k : Nat) (i : Int) : group f (k + 1) i = group f k i ++ if f k = f i then [(k : Int)] else [] := by
  unfold group
  rw [rgN_succ, List.filter_append]; congr 1
  by_cases h : f k = f i
  · rw [if_pos h, List.filter_cons_of_pos (by simpa using h)]; rfl
  · rw [if_neg h, List.filter_cons_of_neg (by simpa using h)]; rfl
theorem mem_heads {f : Int → Int} {k i : Nat} : i ∈ heads f k ↔ i < k ∧ firstB f i = true := by
  unfold heads; rw [List.mem_filter, List.mem_range]
theorem heads_one {f : Int → Int} {i j : Nat} (hi : firstB f i = true) (hj : firstB f j = true) (e : f i = f j) : i = j := by
  have h1 := firstB_iff.mp hi
  have h2 := firstB_iff.mp hj
  by_cases h : i < j
  · exact absurd e (h2 i (by omega) (by omega))
  · by_cases h' : j < i
    · exact absurd e.symm (h1 j (by omega) (by omega))
    · omega
theorem val_none {f : Int → Int} {L k : Nat} (h : firstB f k = true) : valW (gKvs f L k) (.inl (f k)) = none := by
  unfold valW gKvs
  rw [Option.map_eq_none_iff, List.find?_eq_none]
  intro p hp
  obtain ⟨i, hi, rfl⟩ := List.mem_map.mp hp
  obtain ⟨h1, h2⟩ := mem_heads.mp hi
  have := firstB_iff.mp h i (by omega) (by omega)
  simpa using this
theorem find_map {f : Int → Int} {L i : Nat} : ∀ {l : List Nat}, (∀ j ∈ l, f j = f i → j = i) → i ∈ l → ((l.map fun (j : Nat) => ((Sum.inl (f j) : Key), W.loc (L + 1 + j))).find? fun kv => decide (kv.1 = Sum.inl (f i))).map (·.2) = some (.loc (L + 1 + i))
  | [], _, h => by cases h
  | j :: l, ho, h => by
    rw [List.map_cons]
    by_cases e : f j = f i
    · rw [List.find?_cons_of_pos (by simp [e]), ho j List.mem_cons_self e]; rfl
    · rw [List.find?_cons_of_neg (by simp [e])]
      refine find_map (fun j hj => ho j (List.mem_cons_of_mem _ hj)) ?_
      rcases List.mem_cons.mp h with e' | h
      · subst e'; exact absurd rfl e
      · exact h
theorem val_some {f : Int → Int} {L k i : Nat} (hi : i ∈ heads f k) (e : f i = f k) : valW (gKvs f L k) (.inl (f k)) = some (.loc (L + 1 + i)) := by
  rw [← e]
  exact find_map (fun j hj e => heads_one (mem_heads.mp hj).2 (mem_heads.mp hi).2 e) hi
theorem put_new {f : Int → Int} {L k : Nat} (h : firstB f k = true) : putG (gKvs f L k) (.inl (f k)) (.loc (L + 1 + k)) = gKvs f L (k + 1) := by
  unfold putG
  rw [valW_any, val_none h]
  show (if false = true then _ else _) = _
  rw [if_neg (by decide)]
  unfold gKvs
  rw [heads_succ, if_pos h, List.map_append]; rfl
theorem kvs_same {f : Int → Int} {L k : Nat} (h : ¬ firstB f k = true) : gKvs f L (k + 1) = gKvs f L k := by
  unfold gKvs; rw [heads_succ, if_neg h, List.append_nil]
theorem cells_get {f : Int → Int} {k i : Nat} (hi : i < k) : (gCells f k)[i]? = some (cellI (if firstB f i = true then group f k i else [])) := by
  unfold gCells; rw [List.getElem?_map, List.getElem?_range hi]; rfl
theorem cells_len (f : Int → Int) (k : Nat) : (gCells f k).length = k := by unfold gCells; rw [List.length_map, List.length_range]
theorem cells_succ (f : Int → Int) (k : Nat) : gCells f (k + 1) = ((List.range k).map fun i : Nat => cellI (if firstB f i = true then group f (k + 1) i else [])) ++ [cellI (if firstB f k = true then group f (k + 1) k else [])] := by
  unfold gCells; rw [List.range_succ, List.map_append]; rfl
theorem group_self {f : Int → Int} {k : Nat} (h : firstB f k = true) : group f k k = [] := by
  unfold group
  rw [List.filter_eq_nil_iff]
  intro j hj
  have hj := mem_rgN.mp hj
  have := firstB_iff.mp h j hj.1 hj.2
  simpa using this
theorem cells_new {f : Int → Int} {k : Nat} (h : firstB f k = true) : gCells f k ++ [cellI [(k : Int)]] = gCells f (k + 1) := by
  rw [cells_succ, if_pos h, group_succ, if_pos rfl, group_self h]
  congr 1
  unfold gCells
  refine List.map_congr_left fun i hi => ?_
  have hi := List.mem_range.mp hi
  by_cases hf : firstB f i = true
  · rw [if_pos hf, if_pos hf, group_succ, if_neg, List.append_nil]
    intro e
    have := firstB_iff.mp h i (by omega) (by omega)
    exact this e.symm
  · rw [if_neg hf, if_neg hf]
theorem cells_old {f : Int → Int} {k i : Nat} (h : ¬ firstB f k = true) (hi : i ∈ heads f k) (e : f i = f k) : (gCells f k ++ [cellI []]).set i (cellI (group f k i ++ [(k : Int)])) = gCells f (k + 1) := by
  obtain ⟨hik, hfi⟩ := mem_heads.mp hi
  rw [cells_succ, if_neg h, List.set_append, if_pos (by rw [cells_len]; exact hik)]
  congr 1
  refine List.ext_getElem? fun j => ?_
  by_cases hj : j < k
  · rw [List.getElem?_map, List.getElem?_range hj, List.getElem?_set, cells_len]
    by_cases hij : i = j
    · subst hij
      rw [if_pos rfl, if_pos hj, Option.map_some, if_pos hfi, group_succ, if_pos e.symm]
    · rw [if_neg hij, cells_get hj, Option.map_some]
      by_cases hfj : firstB f j = true
      · rw [if_pos hfj, if_pos hfj, group_succ, if_neg, List.append_nil]
        intro e2
        exact hij (heads_one hfi hfj (e.trans e2))
      · rw [if_neg hfj, if_neg hfj]
  · rw [List.getElem?_eq_none (by rw [List.length_set, cells_len]; omega), List.getElem?_eq_none (by rw [List.length_map, List.length_range]; omega)]
theorem head_of {f : Int → Int} {k : Nat} (h : ¬ firstB f k = true) : ∃ i, i ∈ heads f k ∧ f i = f k := by
  obtain ⟨i, i1, i2, i3, i4⟩ := first_of f k k (by omega) (by omega)
  refine ⟨i.toNat, mem_heads.mpr ⟨?_, by rw [Int.toNat_of_nonneg i1]; exact i4⟩, by rw [Int.toNat_of_nonneg i1]; exact i3⟩
  by_cases e : i = k
  · subst e; exact absurd i4 h
  · omega
theorem heads_groups (f : Int → Int) (n : Nat) : (heads f n).map (fun (i : Nat) => group f n i) = groups f n := by
  unfold heads groups rgN
  rw [List.filter_map, List.map_map]
  rfl
theorem groups_ne {f : Int → Int} {n : Nat} : ∀ x ∈ groups f n, x ≠ [] := by
  rw [← heads_groups]
  intro x hx e
  obtain ⟨i, hi, rfl⟩ := List.mem_map.mp hx
  have : (i : Int) ∈ group f n i := mem_group.mpr ⟨⟨by omega, by have := (mem_heads.mp hi).1; omega⟩, rfl⟩
  rw [e] at this
  cases this
theorem lex_le {a b : List Int} (h : HT.lexLt a b = true) : leT a b = true := by
  unfold leT; rw [lex_asy a b h]; rfl
theorem sT_id {l : List (List Int)} (h : l.Pairwise fun a b => HT.lexLt a b = true) : sT l = l :=
  List.mergeSort_of_pairwise (h.imp fun q => lex_le q)
end L3
namespace L3
open PySem PySem.Spec PyProof.Rows L2
/-- found.setdefault(part, []).append(place) -/
theorem setd_app {st : Store} {f : Int → Int} {k i6 i7 i8 : Nat} {env : E3} (hk : k < 1000) (h6 : env[i6]? = some (some (.loc st.length))) (h7 : env[i7]? = some (some (.dat (.int k)))) (h8 : env[i8]? = some (some (.dat (.int (f k))))) :
    bMeth opAppend (bSetd (bVar i6) (bVar i8) (bN opLstNew aNil)) (aCons (bVar i7) aNil) env (st ++ (.dict (gKvs f st.length k) :: gCells f k)) = some (.dat .none, st ++ (.dict (gKvs f st.length (k + 1)) :: gCells f (k + 1))) := by
  have hlen : (st ++ (Cell.dict (gKvs f st.length k) :: gCells f k)).length = st.length + 1 + k := by rw [List.length_append, List.length_cons, cells_len]; omega
  have hn : bN opLstNew aNil env (st ++ (Cell.dict (gKvs f st.length k) :: gCells f k)) = some (.loc (st.length + 1 + k), st ++ (Cell.dict (gKvs f st.length k) :: (gCells f k ++ [cellI []]))) := by
    have := r_bN (env := env) r_aNil (new1 (st := st ++ (Cell.dict (gKvs f st.length k) :: gCells f k)))
    rw [hlen, List.append_assoc] at this
    exact this
  have hkv : isKv (st ++ (Cell.dict (gKvs f st.length k) :: gCells f k)) (.loc st.length) = true := by simp only [isKv, kvsOf, c_0, Option.isSome_some]
  have hd : dictAt (st ++ (Cell.dict (gKvs f st.length k) :: (gCells f k ++ [cellI []]))) st.length = some (gKvs f st.length k) := by simp only [dictAt, c_0]
  have hz : (gKvs f st.length k).length < sizeLine := by
    have : (gKvs f st.length k).length ≤ k := by
      unfold gKvs heads
      rw [List.length_map]
      exact Nat.le_trans (List.length_filter_le _ _) (by rw [List.length_range]; exact Nat.le_refl _)
    exact Nat.lt_of_lt_of_le (show _ < 1000 by omega) (small _ (by decide))
  have at1 : ∀ (a : Cell) (cs : Store) (i : Nat), (st ++ (a :: cs))[st.length + 1 + i]? = cs[i]? := fun a cs i => by
    rw [List.getElem?_append_right (by omega), show st.length + 1 + i - st.length = i + 1 by omega, List.getElem?_cons_succ]
  have set1 : ∀ (a : Cell) (cs : Store) (i : Nat) (c : Cell), (st ++ (a :: cs)).set (st.length + 1 + i) c = st ++ (a :: cs.set i c) := fun a cs i c => by
    rw [List.set_append, if_neg (by omega), show st.length + 1 + i - st.length = i + 1 by omega, List.set_cons_succ]
  unfold bMeth bSetd
  rw [r_var h6, Option.bind_some]
  simp only [hkv, if_true, r_var h8, Option.bind_some, hn, hd, keyOf, hz]
  by_cases hf : firstB f k = true
  · rw [val_none hf]
    simp only [Option.bind_some, put_new hf, s_0]
    have hl : isL (st ++ (Cell.dict (gKvs f st.length (k + 1)) :: (gCells f k ++ [cellI []]))) (.loc (st.length + 1 + k)) = true := isL_of (ws := []) (by
      rw [at1, List.getElem?_append_right (by rw [cells_len]; omega), cells_len, Nat.sub_self]; rfl)
    simp only [hl, if_true, r_aCons (r_var h7) r_aNil, Option.bind_some]
    rw [app_of (ws := []) (by rw [at1, List.getElem?_append_right (by rw [cells_len]; omega), cells_len, Nat.sub_self]; rfl) (by simp), set1, List.set_append, if_neg (by rw [cells_len]; omega), cells_len, Nat.sub_self]
    show some (W.dat PyData.none, st ++ (Cell.dict (gKvs f st.length (k + 1)) :: (gCells f k ++ [cellI [(k : Int)]]))) = _
    rw [cells_new hf]
  · obtain ⟨i, hi, e⟩ := head_of hf
    have hik := (mem_heads.mp hi).1
    rw [val_some hi e, kvs_same hf]
    have hc : (gCells f k ++ [cellI []])[i]? = some (Cell.list (((group f k i).map .int).map .dat)) := by
      rw [List.getElem?_append_left (by rw [cells_len]; exact hik), cells_get hik, if_pos (mem_heads.mp hi).2]; rfl
    have hl : isL (st ++ (Cell.dict (gKvs f st.length k) :: (gCells f k ++ [cellI []]))) (.loc (st.length + 1 + i)) = true := isL_of (by rw [at1]; exact hc)
    simp only [Option.bind_some, hl, if_true, r_aCons (r_var h7) r_aNil]
    have hg : (group f k i).length < 1000 := by
      have : (group f k i).length ≤ k := by
        unfold group
        refine Nat.le_trans (List.length_filter_le _ _) ?_
        unfold rgN; rw [List.length_map, List.length_range]; exact Nat.le_refl _
      omega
    rw [app_of (ws := ((group f k i).map .int).map .dat) (by rw [at1]; exact hc) (by rw [List.length_map, List.length_map]; omega), set1]
    have : Cell.list (((group f k i).map PyData.int).map W.dat ++ [W.dat (.int k)]) = cellI (group f k i ++ [(k : Int)]) := by unfold cellI; simp
    rw [this, cells_old hf hi e]
/-- sorted([tuple(part) for part in found.values()]) -/
theorem vals_tup {st : Store} {f : Int → Int} {n i6 i8 : Nat} {env env0 : E3} (hn : n < 1000) (h6 : env[i6]? = some (some (.loc st.length))) (hv : wipe3 env [i8] = env0) (h8 : i8 < env0.length) :
    bLockE i6 (bComp (iValF i6) (gNm i8) tAll (bN opTuple (aCons (bVar i8) aNil)) [i8]) env (st ++ (.dict (gKvs f st.length n) :: gCells f n)) = some (.dat (lp (groups f n)), st ++ (.dict (gKvs f st.length n) :: gCells f n)) := by
  have at1 : ∀ (a : Cell) (cs : Store) (i : Nat), (st ++ (a :: cs))[st.length + 1 + i]? = cs[i]? := fun a cs i => by
    rw [List.getElem?_append_right (by omega), show st.length + 1 + i - st.length = i + 1 by omega, List.getElem?_cons_succ]
  have hvl : varLoc env i6 = some st.length := by simp only [varLoc, h6]
  have hd : dictAt (st ++ (Cell.dict (gKvs f st.length n) :: gCells f n)) st.length = some (gKvs f st.length n) := by simp only [dictAt, c_0]
  unfold bLockE
  rw [hvl, Option.bind_some, hd, Option.bind_some, s_0]
  have hfz : frozAt (st ++ (Cell.froz (gKvs f st.length n) :: gCells f n)) st.length = some (gKvs f st.length n) := by simp only [frozAt, c_0]
  have hc := bComp_pure (fi := iValF i6) (gt := gNm i8) (t := tAll) (el := bN opTuple (aCons (bVar i8) aNil)) (vs := [i8]) (env := env) (st := st ++ (Cell.froz (gKvs f st.length n) :: gCells f n)) (it := itVals (gKvs f st.length n)) (xs := heads f n) (e := fun i => W.loc (st.length + 1 + i))
    (by unfold iValF; rw [hvl, Option.bind_some, hfz]; rfl) ⟨by simp [itVals, gKvs], fun s _ j => by simp only [itVals, gKvs, List.getElem?_map, Option.map_map]; rfl⟩ (fun _ => true) (fun i => ti (group f n i)) fun i hi => by
      obtain ⟨h1, h2⟩ := mem_heads.mp hi
      refine ⟨env0.set i8 (some (.loc (st.length + 1 + i))), by rw [hv]; rfl, rfl, fun _ => ?_⟩
      have hg : (st ++ (Cell.froz (gKvs f st.length n) :: gCells f n))[st.length + 1 + i]? = some (Cell.list (((group f n i).map .int).map .dat)) := by
        rw [at1, cells_get h1, if_pos h2]; rfl
      refine r_bN (r_aCons (r_var (List.getElem?_set_self h8)) r_aNil) ?_
      unfold opTuple
      have e : seqOf (st ++ (Cell.froz (gKvs f st.length n) :: gCells f n)) (.loc (st.length + 1 + i)) = some (((group f n i).map PyData.int).map W.dat) := by simp only [seqOf, hg]
      simp only [tupOf, e, dats]
      rfl
  rw [ft] at hc
  have e1 : (heads f n).map (fun (i : Nat) => ti (group f n i)) = (groups f n).map ti := by rw [← heads_groups, List.map_map]; rfl
  rw [e1] at hc
  rw [hc, Option.bind_some]
  simp only [thaw, c_0, s_0, Option.map_some]
  rfl
end L3
set_option Elab.async false
set_option linter.all false
set_option maxRecDepth 100000
set_option maxHeartbeats 400000
set_option autoImplicit false
/-! Webs made of ties told in any sequence; numbers of parts. -/
namespace L3
open PySem PySem.Spec PyProof.Rows L2
def leP (p q : Int × Int) : Bool := leT (pl p) (pl q)
def sP (ts : List (Int × Int)) : List (Int × Int) := ts.mergeSort leP
theorem sT_pl (ts : List (Int × Int)) : sT (ts.map pl) = (sP ts).map pl := (List.map_mergeSort (r := leP) (s := leT) (f := pl) (l := ts) fun _ _ _ _ => rfl).symm
theorem sP_perm (ts : List (Int × Int)) : (sP ts).Perm ts := List.mergeSort_perm _ _
theorem web_sP {m : Int} {ts : List (Int × Int)} (h1 : 1 ≤ m) (h2 : m ≤ 16) (h3 : ts.length ≤ 40) (h4 : ∀ t ∈ ts, 0 ≤ t.1 ∧ t.1 < t.2 ∧ t.2 < m) : Web m (sP ts) :=
  ⟨h1, h2, by rw [(sP_perm ts).length_eq]; exact h3, fun t ht => h4 t ((sP_perm ts).mem_iff.mp ht), List.pairwise_mergeSort (le := leP) (fun a b c h1 h2 => leT_tr (pl a) (pl b) (pl c) h1 h2) (fun a b => leT_to (pl a) (pl b)) ts⟩
theorem sP_id {ts : List (Int × Int)} (h : ts.Pairwise fun p q => leT (pl p) (pl q) = true) : sP ts = ts := List.mergeSort_of_pairwise h
theorem pl_inj {a b : Int × Int} (h : pl a = pl b) : a = b := by
  unfold pl at h; injection h with h1 h2; injection h2 with h2 h3; exact Prod.ext h1 h2
theorem sP_eq {a b : List (Int × Int)} (h : a.Perm b) : sP a = sP b := by
  have h1 := sT_eq (h.map pl)
  rw [sT_pl, sT_pl] at h1
  exact (List.map_inj_right fun _ _ e => pl_inj e).mp h1
def ord2 (t : Int × Int) : Int × Int := (min t.1 t.2, max t.1 t.2)
theorem ord2_id {t : Int × Int} (h : t.1 ≤ t.2) : ord2 t = t := Prod.ext (Int.min_eq_left h) (Int.max_eq_right h)
theorem ord2_swap {t : Int × Int} (h : t.1 ≤ t.2) : ord2 (t.2, t.1) = t := Prod.ext (Int.min_eq_right h) (Int.max_eq_left h)
theorem ord2_ids {ts : List (Int × Int)} (h : ∀ t ∈ ts, t.1 ≤ t.2) : ts.map ord2 = ts := by
  conv => rhs; rw [← List.map_id ts]
  exact List.map_congr_left fun t ht => ord2_id (h t ht)
theorem sI_pl (t : Int × Int) : sI (pl t) = pl (ord2 t) := by
  by_cases h : t.1 ≤ t.2
  · rw [ord2_id h]; exact sI_eq (List.Perm.refl _) (by unfold pl; simp [h])
  · have h' : t.2 ≤ t.1 := by omega
    have e : ord2 t = (t.2, t.1) := ord2_swap (t := (t.2, t.1)) h'
    rw [e]; exact sI_eq (List.Perm.swap _ _ _) (by unfold pl; simp; omega)
section
variable {st : Store}
theorem tts_pl (l : List (Int × Int)) : l.map tt = (l.map pl).map ti := by rw [List.map_map]; rfl
theorem o_sortPairs {w : W} {l : List (Int × Int)} (h : seqOf st w = some ((l.map tt).map .dat)) : opSorted [w] st = some (.dat (ttl (sP l)), st) := by
  rw [tts_pl] at h
  rw [opSorted_tis h (fun x hx => by obtain ⟨t, _, rfl⟩ := List.mem_map.mp hx; exact List.cons_ne_nil _ _), sT_pl]
  unfold lp ttl
  rw [← tts_pl]
theorem o_sortC {rest : Store} (l : List (Int × Int)) : opSorted [.loc st.length] (st ++ (cellP l :: rest)) = some (.dat (ttl (sP l)), st ++ (cellP l :: rest)) := o_sortPairs (by simp only [seqOf, c_0, cellP])
theorem o_sortTtl (l : List (Int × Int)) : opSorted [.dat (ttl l)] st = some (.dat (ttl (sP l)), st) := o_sortPairs rfl
theorem o_sortTts (l : List (Int × Int)) : opSorted [.dat (tts l)] st = some (.dat (ttl (sP l)), st) := o_sortPairs rfl
theorem o_minTt (t : Int × Int) : opMinT [.dat (tt t)] st = some (.dat (.int (ord2 t).1), st) := rfl
theorem o_maxTt (t : Int × Int) : opMaxT [.dat (tt t)] st = some (.dat (.int (ord2 t).2), st) := rfl
theorem o_ord2 (t : Int × Int) : opTup [.dat (.int (ord2 t).1), .dat (.int (ord2 t).2)] st = some (.dat (tt (ord2 t)), st) := rfl
theorem o_web (n : Int) (ts : List (Int × Int)) : opTup [.dat (.str "web"), .dat (.int n), .dat (tts ts)] st = some (.dat (wb n ts), st) := rfl
theorem o_addTtl (a b : List (Int × Int)) (h : a.length + b.length ≤ 1000000) : opAdd (.dat (ttl a)) (.dat (ttl b)) st = some (.dat (ttl (a ++ b)), st) := by
  unfold ttl opAdd
  simp only
  rw [if_pos (by rw [List.length_map, List.length_map]; exact small _ (by omega)), List.map_append]
theorem o_addTts (a b : List (Int × Int)) (h : a.length + b.length ≤ 1000000) : opAdd (.dat (tts a)) (.dat (tts b)) st = some (.dat (tts (a ++ b)), st) := by
  unfold tts opAdd
  simp only
  rw [if_pos (by rw [List.length_map, List.length_map]; exact small _ (by omega)), List.map_append]
/-- a sequence of pairs: data, or a list's cell -/
structure PairsAt (st : Store) (w : W) (l : List (Int × Int)) : Prop where
  sq : seqOf st w = some ((l.map tt).map .dat)
  ln : opLen [w] st = some (.dat (.int l.length), st)
  ins : opIsinst [w, .tys ["list", "tuple"]] st = some (.dat (.bool true), st)
  low : WBelow st.length w
theorem PairsAt.tts (l : List (Int × Int)) : PairsAt st (.dat (tts l)) l := ⟨rfl, o_lenTts l, rfl, trivial⟩
theorem PairsAt.ttl (l : List (Int × Int)) : PairsAt st (.dat (ttl l)) l := ⟨rfl, o_lenTtl l, rfl, trivial⟩
theorem PairsAt.cell {n : Nat} {l : List (Int × Int)} (h : st[n]? = some (cellP l)) : PairsAt st (.loc n) l := by
  refine ⟨by simp only [seqOf, h, cellP], by rw [o_lenC h, List.length_map, List.length_map], ?_, (List.getElem?_eq_some_iff.mp h).1⟩
  have e : tyName st (.loc n) = some "list" := by simp only [tyName, h, cellP]
  simp only [opIsinst, e]
  rfl
theorem PairsAt.si {w : W} {l : List (Int × Int)} (h : PairsAt st w l) : SeqI st w l tt := ⟨h.sq⟩
theorem o_tysLT : opTup [.ty "list", .ty "tuple"] st = some (.tys ["list", "tuple"], st) := rfl
/-- a def that returns what it was given -/
theorem run_toW {fz : Bool} {n m : Nat} {b : Eb} {ws : List W} {env env' : E3} {w : W} (hl : ws.length = m) (hs : start3 n ws = env) (h : b env st = some (.rt w, env', st)) (hw : WBelow st.length w) : runB fz n m b ws st = some (w, st) := by
  unfold runB
  rw [if_pos hl, hs, h, Option.bind_some]
  show shut fz st w st = _
  unfold shut
  rw [if_pos ⟨Nat.le_refl _, fun i c hi e => .inl e⟩]
  cases w with
  | loc k => simp only; rw [if_pos (show k < st.length from hw), List.take_length]
  | _ => simp only [List.take_length]
theorem run_wpW {fz : Bool} {n m : Nat} {b : Eb} {ws : List W} {env : E3} {w : W} (hl : ws.length = m) (hs : start3 n ws = env) (hw : WBelow st.length w) (h : Wp b env st fun fl _ s => fl = .rt w ∧ s = st) : runB fz n m b ws st = some (w, st) := by
  obtain ⟨fl, e, s, h1, h2, h3⟩ := h
  subst h2 h3
  exact run_toW hl hs h1 hw
/-- a def that returns nothing -/
theorem run_wpN {fz : Bool} {n m : Nat} {b : Eb} {ws : List W} {env : E3} (hl : ws.length = m) (hs : start3 n ws = env) (h : Wp b env st fun fl _ s => fl = .nx ∧ s = st) : runB fz n m b ws st = some (.dat .none, st) := by
  obtain ⟨fl, e, s, h1, h2, h3⟩ := h
  subst h2 h3
  exact run_nx0 hl (by rw [hs]; exact h1)
/-! ### the numbers of parts -/
def numP (P : List (List Int)) (x : Int) : Option Nat := P.findIdx? fun p => decide (x ∈ p)
theorem r_dcAll {α : Type} {fi : Ei} {gt : Eg} {kx vx : Ev} {vs : List Nat} {env env1 : E3} {xs : List α} {e : α → W} {en : α → E3} {kw v : α → W} {key : α → Key} (hi : Iter fi env st xs e) (hv : wipe3 env vs = env1) (hg : ∀ x ∈ xs, gt (e x) env1 st = some (en x, st))
    (hk : ∀ x ∈ xs, kx (en x) st = some (kw x, st)) (hw : ∀ x ∈ xs, vx (en x) st = some (v x, st)) (hy : ∀ x ∈ xs, keyOf (kw x) = some (key x)) : dcAll fi gt tAll kx vx vs env st = some (putAll xs key v, st) := by
  obtain ⟨it, h1, h2⟩ := hi.go
  exact dcAll_pure h1 h2 kw key v fun x hx => ⟨en x, by rw [hv]; exact hg x hx, rfl, hk x hx, hw x hx, hy x hx⟩
theorem r_updC {f : Ev} {fi : Ei} {gt : Eg} {t : Et} {kx vx : Ev} {vs : List Nat} {env : E3} {n : Nat} {kvs acc : List (Key × W)} (h1 : f env st = some (.loc n, st)) (h2 : st[n]? = some (.dict kvs)) (h3 : dcAll fi gt t kx vx vs env st = some (acc, st)) (h4 : kvs.length + acc.length ≤ 1000000) :
    bUpdC f fi gt t kx vx vs env st = some (.dat .none, st.set n (.dict (mergeG kvs acc))) := by
  unfold bUpdC
  rw [h1, Option.bind_some]
  have hd : isD st (.loc n) = true := by simp only [isD, h2]
  simp only [hd, if_true, h3, Option.bind_some, h2]
  exact if_pos (Nat.le_trans h4 (small _ (by decide)))
theorem merge_len {α : Type} (kvs more : List (Key × α)) : (mergeG kvs more).length ≤ kvs.length + more.length := by
  unfold mergeG
  induction more generalizing kvs with
  | nil => exact Nat.le_refl _
  | cons p more ih =>
    rw [List.foldl_cons, List.length_cons]
    have := ih (putG kvs p.1 p.2)
    have := putG_len kvs p.1 p.2
    omega
theorem putAll_len {α : Type} (xs : List α) (key : α → Key) (v : W) : (putAll xs key fun _ => v).length ≤ xs.length := by
  have := (foldl_put key v xs [] (fun e he => by cases he)).2.2
  rw [List.length_nil, Nat.zero_add] at this
  exact this
open Classical in
theorem merge_put {α : Type} (kvs : List (Key × W)) (xs : List α) (key : α → Key) (v : W) (k : Key) : valW (mergeG kvs (putAll xs key fun _ => v)) k = if k ∈ xs.map key then some v else valW kvs k := by
  obtain ⟨h1, h2, _⟩ := foldl_put key v xs [] (fun e he => by cases he)
  have := valW_merge v (putAll xs key fun _ => v) kvs (fun e he => h1 e he) k
  rw [this]
  have e : (k ∈ (putAll xs key fun _ => v).map (fun p : Key × W => p.1)) ↔ k ∈ xs.map key := by
    rw [show (putAll xs key fun _ => v) = xs.foldl (fun acc x => putG acc (key x) v) [] from rfl]
    have := h2 k
    simpa using this
  simp only [e]
theorem numP_snoc (P : List (List Int)) (p : List Int) (x : Int) : numP (P ++ [p]) x = match numP P x with | some i => some i | none => if x ∈ p then some P.length else none := by
  unfold numP
  rw [List.findIdx?_append]
  cases h : P.findIdx? fun p => decide (x ∈ p) with
  | some i => simp
  | none => by_cases hx : x ∈ p <;> simp [hx]
theorem numP_none {P : List (List Int)} {x : Int} : numP P x = none ↔ ∀ p ∈ P, x ∉ p := by
  unfold numP; rw [List.findIdx?_eq_none_iff]; simp
end
end L3
namespace L3
open PySem PySem.Spec PyProof.Rows L2
def numT (P : List (List Int)) (t : Int × Int) : Int × Int := (((numP P t.1).getD 0 : Nat), ((numP P t.2).getD 0 : Nat))
theorem getD_num {st : Store} {P : List (List Int)} {kvs : List (Key × W)} (h2 : ∀ x : Int, valW kvs (.inl x) = (numP P x).map fun i => .dat (.int i)) {x : Int} (h : ∃ p ∈ P, x ∈ p) : opGetD (.loc st.length) (.dat (.int x)) (st ++ [.dict kvs]) = some (.dat (.int ((numP P x).getD 0 : Nat)), st ++ [.dict kvs]) := by
  obtain ⟨i, hi⟩ : ∃ i, numP P x = some i := by
    cases e : numP P x with
    | some i => exact ⟨i, rfl⟩
    | none => obtain ⟨p, hp, hx⟩ := h; exact absurd hx (numP_none.mp e p hp)
  unfold opGetD
  simp only [keyOf, c_0, h2, hi]
  rfl
end L3
namespace L3
open PySem PySem.Spec PyProof.Rows L2
theorem parts_disj {n : Int} {ts : List (Int × Int)} {P : List (List Int)} (h : Parts n ts P) : ∀ (i j : Nat) (p q : List Int) (x : Int), P[i]? = some p → P[j]? = some q → x ∈ p → x ∈ q → i = j := fun i j p q x hi hj hp hq => by
  have e := h.one (List.mem_of_getElem? hi) (List.mem_of_getElem? hj) hp hq
  subst e
  have nd : P.Nodup := h.sorted.imp fun {a b} q e => by subst e; rw [lex_irr] at q; cases q
  exact (List.getElem?_inj (List.getElem?_eq_some_iff.mp hi).1 nd).mp (hi.trans hj.symm)
theorem flat_nodup {n : Int} {ts : List (Int × Int)} {P : List (List Int)} (h : Parts n ts P) : P.flatten.Nodup := by
  refine List.pairwise_flatten.mpr ⟨fun p hp => (h.inc p hp).imp fun q => Int.ne_of_lt q, ?_⟩
  have nd : P.Nodup := h.sorted.imp fun {a b} q e => by subst e; rw [lex_irr] at q; cases q
  refine nd.imp_of_mem fun {a b} ha hb hab => ?_
  intro x hx y hy e
  subst e
  exact hab (h.one ha hb hx hy)
theorem flat_perm {n : Int} {ts : List (Int × Int)} {P : List (List Int)} (h : Parts n ts P) : P.flatten.Perm (rg n) := by
  refine (List.perm_ext_iff_of_nodup (flat_nodup h) (rg_nodup n)).mpr fun x => ?_
  rw [mem_rg, List.mem_flatten]
  exact ⟨fun ⟨p, hp, hx⟩ => h.rng hp hx, fun hx => h.cov x hx.1 hx.2⟩
theorem parts_flat {n : Int} {m : Nat} {ts : List (Int × Int)} {P : List (List Int)} (h : Parts m ts P) (hn : n ≤ 16) (hm : (m : Int) = n := by omega) : P.flatten.length ≤ 1000 := by
  rw [(flat_perm h).length_eq, rg_len]; omega
theorem parts_cov {n : Int} {ts us : List (Int × Int)} {P : List (List Int)} (h : Web n ts) (hp : Parts n.toNat us P) : ∀ t ∈ ts, (∃ p ∈ P, t.1 ∈ p) ∧ ∃ p ∈ P, t.2 ∈ p := fun t ht => by
  have := h.ok t ht
  exact ⟨hp.cov _ (by omega) (by omega), hp.cov _ (by omega) (by omega)⟩
theorem parts_len {n : Int} {ts : List (Int × Int)} {P : List (List Int)} (h : Parts n ts P) : (P.length : Int) ≤ max n 0 := by
  have h1 : P.length ≤ P.flatten.length := by
    have hs := h.some
    clear h
    induction P with
    | nil => exact Nat.le_refl _
    | cons p P ih =>
      rw [List.flatten_cons, List.length_append, List.length_cons]
      have := ih fun q hq => hs q (List.mem_cons_of_mem _ hq)
      have : 1 ≤ p.length := List.length_pos_iff.mpr (hs p List.mem_cons_self)
      omega
  rw [(flat_perm h).length_eq, rg_len] at h1
  omega
end L3
set_option Elab.async false
set_option linter.all false
set_option maxRecDepth 100000
set_option maxHeartbeats 400000
set_option autoImplicit false
/-! What is shown; calls by name. -/
namespace L3
open PySem PySem.Spec PyProof.Rows L2
theorem Shw.str {x : Str} (h1 : PyData.strOk x = true) (h2 : (PyData.str x).weight ≤ 1000) (h3 : (PyData.str x).showable = true) : Shw 0 1000 (.str x) := ⟨.str h1, h2, by simp only [PyData.intsShort], h3⟩
abbrev Sm (d : PyData) : Prop := Shw 8 100000 d
theorem sm_nil {k w : Nat} : ∀ d ∈ ([] : List PyData), Shw k w d := fun d h => by cases h
theorem sm_cons {k w : Nat} {a : PyData} {l : List PyData} (h : Shw k w a) (t : ∀ d ∈ l, Shw k w d) : ∀ d ∈ a :: l, Shw k w d := fun d hd => by
  rcases List.mem_cons.mp hd with e | e
  · subst e; exact h
  · exact t d e
theorem sm_bool (b : Bool) : Sm (.bool b) := (Shw.bool b).mono
theorem sm_none : Sm .none := Shw.none.mono
theorem sm_int {n : Int} (h1 : -999999999999 < n) (h2 : n < 999999999999) : Sm (.int n) := (Shw.int h1 h2).mono
theorem sm_ti {l : List Int} (hl : l.length ≤ 100) (h : ∀ x ∈ l, 0 ≤ x ∧ x < 999999999999) : Sm (ti l) := (Shw.ti hl h).mono
theorem sm_li {l : List Int} (hl : l.length ≤ 100) (h : ∀ x ∈ l, 0 ≤ x ∧ x < 999999999999) : Sm (li l) := by
  refine (Shw.lst (k := 0) (w := 41) (ds := l.map .int) fun d hd => ?_).mono (by decide) (by rw [List.length_map]; exact Nat.le_trans (Nat.mul_le_mul_right 42 hl) (by decide))
  obtain ⟨x, hx, rfl⟩ := List.mem_map.mp hd
  exact .int (by have := (h x hx).1; omega) (h x hx).2
theorem sm_tt {t : Int × Int} (h1 : 0 ≤ t.1 ∧ t.1 < 999999999999) (h2 : 0 ≤ t.2 ∧ t.2 < 999999999999) : Shw 1 84 (tt t) := Shw.ti (n := 2) (Nat.le_refl _) fun x hx => by
  simp only [pl, List.mem_cons, List.mem_nil_iff, or_false] at hx; rcases hx with e | e <;> subst e <;> assumption
theorem sm_webB {n : Int} {ts : List (Int × Int)} (h : Web n ts) : Shw 3 10203 (wb n ts) := by
  have h1 : Shw 2 3400 (tts ts) := by
    refine (Shw.tup (k := 1) (w := 84) (ds := ts.map tt) fun d hd => ?_).mono (Nat.le_refl _) (by rw [List.length_map]; exact Nat.mul_le_mul_right 85 h.len)
    obtain ⟨t, ht, rfl⟩ := List.mem_map.mp hd
    have := h.ok t ht
    have := h.hi
    exact sm_tt (by omega) (by omega)
  have hs : Shw 0 1000 (.str "web") := Shw.str (by decide +kernel) (by decide +kernel) (by decide +kernel)
  refine (Shw.tup (k := 2) (w := 3400) (ds := [.str "web", .int n, tts ts]) fun d hd => ?_).mono (by decide) (show 3 * 3401 ≤ 10203 by decide)
  simp only [List.mem_cons, List.mem_nil_iff, or_false] at hd
  have := h.lo
  have := h.hi
  rcases hd with e | e | e <;> subst e
  · exact hs.mono
  · exact (Shw.int (by omega) (by omega)).mono
  · exact h1
theorem sm_web {n : Int} {ts : List (Int × Int)} (h : Web n ts) : Sm (wb n ts) := (sm_webB h).mono
theorem sm_web7 {n : Int} {ts : List (Int × Int)} (h : Web n ts) : Shw 7 20000 (wb n ts) := (sm_webB h).mono
theorem sm_lst4 {ds : List PyData} (h : ∀ d ∈ ds, Shw 7 20000 d) (hl : ds.length ≤ 4) : Sm (.list ds) := (Shw.lst h).mono (by decide) (Nat.le_trans (Nat.mul_le_mul_right 20001 hl) (by decide))
theorem sm_tp {P : List (List Int)} (hP : P.length ≤ 20) (hl : ∀ l ∈ P, l.length ≤ 20) (h : ∀ l ∈ P, ∀ x ∈ l, 0 ≤ x ∧ x < 999999999999) : Sm (tp P) := (Shw.tp hP hl h).mono
theorem sm_lp {P : List (List Int)} (hP : P.length ≤ 20) (hl : ∀ l ∈ P, l.length ≤ 20) (h : ∀ l ∈ P, ∀ x ∈ l, 0 ≤ x ∧ x < 999999999999) : Sm (lp P) := by
  refine (Shw.lst (k := 1) (w := 20 * 42) (ds := P.map L3.ti) fun d hd => ?_).mono (by decide) (by rw [List.length_map]; exact Nat.le_trans (Nat.mul_le_mul_right 841 hP) (by decide))
  obtain ⟨l, hl', rfl⟩ := List.mem_map.mp hd
  exact Shw.ti (hl l hl') (h l hl')
theorem sm_lst {w : Nat} {ds : List PyData} (h : ∀ d ∈ ds, Shw 7 w d) (hl : ds.length * (w + 1) ≤ 100000) : Sm (.list ds) := (Shw.lst h).mono (by decide) hl
section
variable {st : Store}
theorem reprL {ds : List PyData} (h : ∀ d ∈ ds, Sm d) (hl : ds.length ≤ 8) : opRepr [.dat (.list ds)] st = some (.dat (.str (PyData.list ds).shown), st) :=
  (Shw.lst h).repr (by decide) (Nat.le_trans (Nat.mul_le_mul_right 100001 hl) (by decide))
theorem reprD {d : PyData} (h : Sm d) : opRepr [.dat d] st = some (.dat (.str d.shown), st) := h.repr (by decide) (by decide)
theorem r_kw {c : Prop} {inst : Decidable c} {F : OpN} {idx : List Nat} {ws ws' : List W} {r : Option (W × Store)} (hc : c) (hw : pk idx ws = ws') (h : F ws' st = r) : (if c then F (pk idx ws) st else none) = r := by
  rw [if_pos hc, hw]; exact h
theorem pk1 {α : Type} (a : α) : pk [0] [a] = [a] := rfl
theorem pk2 {α : Type} (a b : α) : pk [1, 0] [a, b] = [b, a] := rfl
theorem pk3 {α : Type} (a b c : α) : pk [2, 1, 0] [a, b, c] = [c, b, a] := rfl
theorem pk4 {α : Type} (a b c d : α) : pk [3, 2, 1, 0] [a, b, c, d] = [d, c, b, a] := rfl
theorem eq_self_str {s : Str} : opEq (.dat (.str s)) (.dat (.str s)) st = some (.dat (.bool true), st) := by rw [opEq_str]; simp
theorem ne_self_str {s : Str} : opNe (.dat (.str s)) (.dat (.str s)) st = some (.dat (.bool false), st) := by rw [opNe_str]; simp
end
/-! ### what hangs together -/
theorem parts_one {n : Int} {ts : List (Int × Int)} {P : List (List Int)} (h : Parts n ts P) (hn : 1 ≤ n) (hc : ∀ x, 0 ≤ x → x < n → Conn ts 0 x) : P.length = 1 := by
  obtain ⟨p, hp, h0⟩ := h.cov 0 (by omega) (by omega)
  have all : ∀ q ∈ P, q = p := fun q hq => by
    obtain ⟨x, hx⟩ : ∃ x, x ∈ q := by
      cases q with
      | nil => exact absurd rfl (h.some [] hq)
      | cons a _ => exact ⟨a, List.mem_cons_self⟩
    have hr := h.rng hq hx
    exact h.one hq hp hx ((h.cls p hp 0 h0 x).mpr ⟨hr, hc x hr.1 hr.2⟩)
  have nd : P.Nodup := h.sorted.imp fun {a b} q e => by subst e; rw [lex_irr] at q; cases q
  match P, all, nd, hp with
  | [a], _, _, _ => rfl
  | a :: b :: l, all, nd, _ =>
    have e1 := all a List.mem_cons_self
    have e2 := all b (List.mem_cons_of_mem _ List.mem_cons_self)
    exact absurd (by rw [e1.trans e2.symm]; exact List.mem_cons_self) (List.nodup_cons.mp nd).1
end L3
set_option Elab.async false
set_option linter.all false
set_option maxRecDepth 100000
set_option maxHeartbeats 400000
set_option autoImplicit false
/-! Lists popped at places. -/
namespace L3
open PySem PySem.Spec PyProof.Rows L2
section
variable {st : Store} {a : Cell} {rest : Store}
theorem isL_1P {l : List (Int × Int)} : isL (st ++ (a :: cellP l :: rest)) (.loc (st.length + 1)) = true := isL_of c_1
theorem len_0P (l : List (Int × Int)) : opLen [.loc st.length] (st ++ (cellP l :: rest)) = some (.dat (.int l.length), st ++ (cellP l :: rest)) := by
  have h : (st ++ (cellP l :: rest))[st.length]? = some (.list ((l.map tt).map .dat)) := c_0
  rw [o_lenC h, List.length_map, List.length_map]
theorem len_1P (l : List (Int × Int)) : opLen [.loc (st.length + 1)] (st ++ (a :: cellP l :: rest)) = some (.dat (.int l.length), st ++ (a :: cellP l :: rest)) := by
  have h : (st ++ (a :: cellP l :: rest))[st.length + 1]? = some (.list ((l.map tt).map .dat)) := c_1
  rw [o_lenC h, List.length_map, List.length_map]
theorem newLP (l : List (Int × Int)) : opListNew [.dat (tts l)] st = some (.loc st.length, st ++ [cellP l]) := rfl
theorem newLI (l : List Int) : opListNew [.dat (ti l)] st = some (.loc st.length, st ++ [cellI l]) := rfl
theorem new2PL {env : E3} {f : Ev} {l : List (Int × Int)} (h : ∀ s, f env s = some (.dat (tts l), s)) : aCons (bN opLstNew aNil) (aCons (bN opListNew (aCons f aNil)) aNil) env st = some ([.loc st.length, .loc (st.length + 1)], st ++ [cellP [], cellP l]) := by
  have h2 := newLP (st := st ++ [cellP []]) l
  rw [List.length_append, List.append_assoc] at h2
  exact r_aCons (r_bN r_aNil new1P) (r_aCons (r_bN (r_aCons (h _) r_aNil) h2) r_aNil)
theorem six {k n : Nat} (h : k < n) : seqIndex? (k : Int) n = some k := by
  unfold seqIndex?
  simp only [show ¬ ((k : Int) < 0) by omega, if_false, show (0 : Int) ≤ k by omega, decide_true, Bool.true_and, show ((k : Int) < (n : Int)) by omega, if_true, Int.toNat_natCast]
theorem erase_map {α β : Type} (f : α → β) (l : List α) (k : Nat) : (l.map f).eraseIdx k = (l.eraseIdx k).map f := by
  rw [List.eraseIdx_eq_take_drop_succ, List.eraseIdx_eq_take_drop_succ, List.map_append, List.map_take, List.map_drop]
theorem pop_1P {l : List (Int × Int)} {k : Nat} {t : Int × Int} (hk : l[k]? = some t) (hz : k < 1000) : opPopAt (.loc (st.length + 1)) [.dat (.int k)] (st ++ (a :: cellP l :: rest)) = some (.dat (tt t), st ++ (a :: cellP (l.eraseIdx k) :: rest)) := by
  have hl := (List.getElem?_eq_some_iff.mp hk).1
  have h : (st ++ (a :: cellP l :: rest))[st.length + 1]? = some (.list ((l.map tt).map .dat)) := c_1
  simp only [opPopAt, h]
  rw [if_pos ⟨by omega, by omega⟩, List.length_map, List.length_map, six hl, Option.bind_some, List.getElem?_map, List.getElem?_map, hk]
  show some (W.dat (tt t), _) = _
  rw [s_1]
  unfold cellP
  rw [erase_map, erase_map]
end
theorem erase_perm {α : Type} {l : List α} {k : Nat} {t : α} (h : l[k]? = some t) : l.Perm (t :: l.eraseIdx k) := by
  obtain ⟨hk, rfl⟩ := List.getElem?_eq_some_iff.mp h
  rw [List.eraseIdx_eq_take_drop_succ]
  conv => lhs; rw [← List.take_append_drop k l, List.drop_eq_getElem_cons hk]
  exact List.perm_middle
theorem ord2_rng {t : Int × Int} {n : Int} (h : 0 ≤ (ord2 t).1 ∧ (ord2 t).1 < (ord2 t).2 ∧ (ord2 t).2 < n) : (0 ≤ t.1 ∧ t.1 < n) ∧ (0 ≤ t.2 ∧ t.2 < n) ∧ t.1 ≠ t.2 := by
  unfold ord2 at h; simp only at h; omega
theorem ord2_rev (t : Int × Int) : ord2 (t.2, t.1) = ord2 t := Prod.ext (Int.min_comm _ _) (Int.max_comm _ _)
theorem mixed_perm {mixed left rest ts : List (Int × Int)} {t u : Int × Int} (h : (mixed.map ord2 ++ left).Perm ts) (hl : left.Perm (t :: rest)) (ht : t.1 ≤ t.2) (hu : u = t ∨ u = (t.2, t.1)) : ((mixed ++ [u]).map ord2 ++ rest).Perm ts := by
  have e : ord2 u = t := by
    rcases hu with e | e <;> subst e
    · exact ord2_id ht
    · exact ord2_swap ht
  rw [List.map_append, List.map_cons, List.map_nil, e, List.append_assoc]
  exact ((List.Perm.append_left _ hl).symm).trans h
theorem Web.ord2s {n : Int} {mixed left rest ts : List (Int × Int)} {t : Int × Int} (h : Web n ts) (hl : left.Perm (t :: rest)) (hp : (mixed.map ord2 ++ left).Perm ts) : t.1 ≤ t.2 := by
  have := h.ok t (hp.mem_iff.mp (List.mem_append_right _ (hl.mem_iff.mpr List.mem_cons_self)))
  omega
end L3
set_option Elab.async false
set_option linter.all false
set_option maxRecDepth 100000
set_option maxHeartbeats 400000
set_option autoImplicit false
/-! The same of cells at a told position. -/
namespace L3
open PySem PySem.Spec PyProof.Rows L2
section
variable {st : Store} {a b : Cell} {rest : Store}
theorem isL_0Ik {k0 : Nat} {l : List Int} (hk0 : k0 = st.length) : isL (st ++ (cellI l :: rest)) (.loc k0) = true := by subst hk0; exact isL_0I 
theorem isL_1Ik {k0 : Nat} {l : List Int} (hk0 : k0 = st.length + 1) : isL (st ++ (a :: cellI l :: rest)) (.loc k0) = true := by subst hk0; exact isL_1I 
theorem isL_0Tk {k0 : Nat} {l : List (List Int)} (hk0 : k0 = st.length) : isL (st ++ (cellT l :: rest)) (.loc k0) = true := by subst hk0; exact isL_0T 
theorem isL_0Pk {k0 : Nat} {l : List (Int × Int)} (hk0 : k0 = st.length) : isL (st ++ (cellP l :: rest)) (.loc k0) = true := by subst hk0; exact isL_0P 
theorem isL_1Pk {k0 : Nat} {l : List (Int × Int)} (hk0 : k0 = st.length + 1) : isL (st ++ (a :: cellP l :: rest)) (.loc k0) = true := by subst hk0; exact isL_1P 
theorem app_0Ik {k0 : Nat} {l : List Int} (hk0 : k0 = st.length) (x : Int) (hz : l.length < 1000000) : opAppend (.loc k0) [.dat (.int x)] (st ++ (cellI l :: rest)) = some (.dat .none, st ++ (cellI (l ++ [x]) :: rest)) := by subst hk0; exact app_0I x hz
theorem app_1Ik {k0 : Nat} {l : List Int} (hk0 : k0 = st.length + 1) (x : Int) (hz : l.length < 1000000) : opAppend (.loc k0) [.dat (.int x)] (st ++ (a :: cellI l :: rest)) = some (.dat .none, st ++ (a :: cellI (l ++ [x]) :: rest)) := by subst hk0; exact app_1I x hz
theorem app_0Tk {k0 : Nat} {l : List (List Int)} (hk0 : k0 = st.length) (x : List Int) (hz : l.length < 1000000) : opAppend (.loc k0) [.dat (ti x)] (st ++ (cellT l :: rest)) = some (.dat .none, st ++ (cellT (l ++ [x]) :: rest)) := by subst hk0; exact app_0T x hz
theorem app_0Pk {k0 : Nat} {l : List (Int × Int)} (hk0 : k0 = st.length) (x : Int × Int) (hz : l.length < 1000000) : opAppend (.loc k0) [.dat (tt x)] (st ++ (cellP l :: rest)) = some (.dat .none, st ++ (cellP (l ++ [x]) :: rest)) := by subst hk0; exact app_0P x hz
theorem ext_0Ik {k0 : Nat} {l : List Int} (hk0 : k0 = st.length) (x : List Int) (hz : l.length + x.length ≤ 1000000) : opExtend (.loc k0) [.dat (li x)] (st ++ (cellI l :: rest)) = some (.dat .none, st ++ (cellI (l ++ x) :: rest)) := by subst hk0; exact ext_0I x hz
theorem ext_1Ik {k0 : Nat} {l : List Int} (hk0 : k0 = st.length + 1) (x : List Int) (hz : l.length + x.length ≤ 1000000) : opExtend (.loc k0) [.dat (li x)] (st ++ (a :: cellI l :: rest)) = some (.dat .none, st ++ (a :: cellI (l ++ x) :: rest)) := by subst hk0; exact ext_1I x hz
theorem ext_0Pk {k0 : Nat} {l : List (Int × Int)} (hk0 : k0 = st.length) (x : List (Int × Int)) (hz : l.length + x.length ≤ 1000000) : opExtend (.loc k0) [.dat (ttl x)] (st ++ (cellP l :: rest)) = some (.dat .none, st ++ (cellP (l ++ x) :: rest)) := by subst hk0; exact ext_0P x hz
theorem inF_0Ik {k0 : Nat} (hk0 : k0 = st.length) (x : Int) (l : List Int) : opIn false (.dat (.int x)) (.loc k0) (st ++ (cellI l :: rest)) = some (.dat (.bool (decide (x ∈ l))), st ++ (cellI l :: rest)) := by subst hk0; exact inF_0I x l
theorem inT_0Ik {k0 : Nat} (hk0 : k0 = st.length) (x : Int) (l : List Int) : opIn true (.dat (.int x)) (.loc k0) (st ++ (cellI l :: rest)) = some (.dat (.bool (!decide (x ∈ l))), st ++ (cellI l :: rest)) := by subst hk0; exact inT_0I x l
theorem inF_1Ik {k0 : Nat} (hk0 : k0 = st.length + 1) (x : Int) (l : List Int) : opIn false (.dat (.int x)) (.loc k0) (st ++ (a :: cellI l :: rest)) = some (.dat (.bool (decide (x ∈ l))), st ++ (a :: cellI l :: rest)) := by subst hk0; exact inF_1I x l
theorem inT_1Ik {k0 : Nat} (hk0 : k0 = st.length + 1) (x : Int) (l : List Int) : opIn true (.dat (.int x)) (.loc k0) (st ++ (a :: cellI l :: rest)) = some (.dat (.bool (!decide (x ∈ l))), st ++ (a :: cellI l :: rest)) := by subst hk0; exact inT_1I x l
theorem tup_0Ik {k0 : Nat} (hk0 : k0 = st.length) (l : List Int) : opTuple [.loc k0] (st ++ (cellI l :: rest)) = some (.dat (ti l), st ++ (cellI l :: rest)) := by subst hk0; exact tup_0I l
theorem tup_0Pk {k0 : Nat} (hk0 : k0 = st.length) (l : List (Int × Int)) : opTuple [.loc k0] (st ++ (cellP l :: rest)) = some (.dat (tts l), st ++ (cellP l :: rest)) := by subst hk0; exact tup_0P l
theorem tup_0Tk {k0 : Nat} (hk0 : k0 = st.length) (l : List (List Int)) : opTuple [.loc k0] (st ++ (cellT l :: rest)) = some (.dat (tp l), st ++ (cellT l :: rest)) := by subst hk0; exact tup_0T l
theorem len_0Pk {k0 : Nat} (hk0 : k0 = st.length) (l : List (Int × Int)) : opLen [.loc k0] (st ++ (cellP l :: rest)) = some (.dat (.int l.length), st ++ (cellP l :: rest)) := by subst hk0; exact len_0P l
theorem len_1Pk {k0 : Nat} (hk0 : k0 = st.length + 1) (l : List (Int × Int)) : opLen [.loc k0] (st ++ (a :: cellP l :: rest)) = some (.dat (.int l.length), st ++ (a :: cellP l :: rest)) := by subst hk0; exact len_1P l
theorem pop_1Pk {k0 : Nat} {l : List (Int × Int)} {k : Nat} {t : Int × Int} (hk0 : k0 = st.length + 1) (hk : l[k]? = some t) (hz : k < 1000) : opPopAt (.loc k0) [.dat (.int k)] (st ++ (a :: cellP l :: rest)) = some (.dat (tt t), st ++ (a :: cellP (l.eraseIdx k) :: rest)) := by subst hk0; exact pop_1P hk hz
end
end L3
set_option Elab.async false
set_option linter.all false
set_option maxRecDepth 100000
set_option maxHeartbeats 400000
set_option autoImplicit false
/-! Known webs. -/
namespace L3
open PySem PySem.Spec PyProof.Rows L2
theorem rgI_succ {a b : Int} (h : a ≤ b) : rgI a (b + 1) = rgI a b ++ [b] := by
  unfold rgI
  rw [show (b + 1 - a).toNat = (b - a).toNat + 1 by omega, List.range_succ, List.map_append, List.map_cons, List.map_nil, show a + ((b - a).toNat : Int) = b by omega]
def pairsN (n : Int) : List (Int × Int) := (rgI 0 n).flatMap fun i => (rgI (i + 1) n).map fun j => (i, j)
theorem mem_pairsN {n : Int} {t : Int × Int} : t ∈ pairsN n ↔ 0 ≤ t.1 ∧ t.1 < t.2 ∧ t.2 < n := by
  unfold pairsN
  rw [List.mem_flatMap]
  constructor
  · rintro ⟨i, hi, ht⟩
    obtain ⟨j, hj, rfl⟩ := List.mem_map.mp ht
    have := mem_rgI.mp hi
    have := mem_rgI.mp hj
    simp only; omega
  · intro h
    exact ⟨t.1, mem_rgI.mpr (by omega), List.mem_map.mpr ⟨t.2, mem_rgI.mpr (by omega), rfl⟩⟩
theorem pairsN_web {n : Int} (h1 : 1 ≤ n) (h2 : n ≤ 9) : Web n (pairsN n) := by
  have : (pairsN n).length ≤ 40 ∧ (pairsN n).Pairwise fun p q => leT (pl p) (pl q) = true := by
    have hn : n = 1 ∨ n = 2 ∨ n = 3 ∨ n = 4 ∨ n = 5 ∨ n = 6 ∨ n = 7 ∨ n = 8 ∨ n = 9 := by omega
    rcases hn with e | e | e | e | e | e | e | e | e <;> subst e <;> decide +kernel
  exact ⟨h1, by omega, this.1, fun t ht => mem_pairsN.mp ht, this.2⟩
def ringN (n : Int) : List (Int × Int) := (rgI 0 (n - 1)).map (fun p => (p, p + 1)) ++ [(0, n - 1)]
theorem ring_ord {n : Int} (h : 2 ≤ n) : ((rgI 0 n).map fun p => (p, (p + 1) % n)).map ord2 = ringN n := by
  have e : rgI 0 n = rgI 0 (n - 1) ++ [n - 1] := by
    have := rgI_succ (a := 0) (b := n - 1) (by omega)
    rwa [Int.sub_add_cancel] at this
  rw [e, List.map_append, List.map_append, List.map_map]
  unfold ringN
  congr 1
  · refine List.map_congr_left fun p hp => ?_
    have := mem_rgI.mp hp
    show ord2 (p, (p + 1) % n) = _
    rw [Int.emod_eq_of_lt (by omega) (by omega)]
    exact ord2_id (by simp only; omega)
  · show [ord2 (n - 1, (n - 1 + 1) % n)] = _
    rw [Int.sub_add_cancel, Int.emod_self]
    congr 1
    exact ord2_swap (t := (0, n - 1)) (by simp only; omega)
theorem ring_web {n : Int} (h1 : 2 ≤ n) (h2 : n ≤ 16) : Web n (sP (ringN n)) := by
  refine web_sP (by omega) h2 (by unfold ringN; rw [List.length_append, List.length_map, rgI_len]; simp; omega) fun t ht => ?_
  unfold ringN at ht
  rcases List.mem_append.mp ht with ht | ht
  · obtain ⟨p, hp, rfl⟩ := List.mem_map.mp ht
    have := mem_rgI.mp hp
    simp only; omega
  · rw [List.mem_singleton.mp ht]; simp only; omega
def wheelN (n : Int) : List (Int × Int) := (rgI 1 (n + 1)).map (fun p => (0, p)) ++ (rgI 1 n).map (fun p => (p, p + 1)) ++ [(1, n)]
theorem wheel_ord {n : Int} (h : 3 ≤ n) : ((rgI 1 (n + 1)).map (fun p => ((0 : Int), p)) ++ (rgI 1 (n + 1)).map (fun p => (p, p % n + 1))).map ord2 = wheelN n := by
  have e : rgI 1 (n + 1) = rgI 1 n ++ [n] := rgI_succ (by omega)
  unfold wheelN
  rw [List.map_append, List.append_assoc]
  congr 1
  · exact ord2_ids fun t ht => by obtain ⟨p, hp, rfl⟩ := List.mem_map.mp ht; have := mem_rgI.mp hp; simp only; omega
  · rw [e, List.map_append, List.map_append, List.map_map]
    congr 1
    · refine List.map_congr_left fun p hp => ?_
      have := mem_rgI.mp hp
      show ord2 (p, p % n + 1) = _
      rw [Int.emod_eq_of_lt (by omega) (by omega)]
      exact ord2_id (by simp only; omega)
    · show [ord2 (n, n % n + 1)] = _
      rw [Int.emod_self]
      congr 1
      exact ord2_swap (t := (1, n)) (by simp only; omega)
theorem wheel_web {n : Int} (h1 : 3 ≤ n) (h2 : n ≤ 15) : Web (n + 1) (sP (wheelN n)) := by
  refine web_sP (by omega) (by omega) (by unfold wheelN; simp only [List.length_append, List.length_map, rgI_len, List.length_cons, List.length_nil]; omega) fun t ht => ?_
  unfold wheelN at ht
  rcases List.mem_append.mp ht with ht | ht
  · rcases List.mem_append.mp ht with ht | ht
    · obtain ⟨p, hp, rfl⟩ := List.mem_map.mp ht
      have := mem_rgI.mp hp
      simp only; omega
    · obtain ⟨p, hp, rfl⟩ := List.mem_map.mp ht
      have := mem_rgI.mp hp
      simp only; omega
  · rw [List.mem_singleton.mp ht]; simp only; omega
def bundleN (k : Int) : List (Int × Int) := List.replicate k.toNat (0, 1)
theorem bundle_pair (k : Int) : (bundleN k).Pairwise fun p q => leT (pl p) (pl q) = true := by
  unfold bundleN; rw [List.pairwise_replicate]; exact .inr (by decide)
theorem bundle_web {k : Int} (h1 : 0 ≤ k) (h2 : k ≤ 40) : Web 2 (bundleN k) :=
  ⟨by decide, by decide, by unfold bundleN; rw [List.length_replicate]; omega, fun t ht => by rw [List.eq_of_mem_replicate ht]; decide, bundle_pair k⟩
theorem bundle_ord {k : Int} (h1 : 0 ≤ k) (h2 : k ≤ 40) : sP ((bundleN k).map ord2) = bundleN k := by
  rw [ord2_ids (fun t ht => by rw [List.eq_of_mem_replicate ht]; decide)]
  exact sP_id (bundle_pair k)
theorem toldL_all (ts : List (Int × Int)) : toldL ts (rg ts.length) = ts := by
  unfold toldL rg
  rw [List.map_map, Int.toNat_natCast]
  refine List.ext_getElem? fun i => ?_
  rw [List.getElem?_map]
  by_cases h : i < ts.length
  · rw [List.getElem?_range h, Option.map_some, Function.comp, List.getD_eq_getElem?_getD, Int.toNat_natCast, List.getElem?_eq_getElem h]; rfl
  · rw [List.getElem?_eq_none (by rw [List.length_range]; omega), List.getElem?_eq_none (by omega)]; rfl
theorem all_parts {n : Int} {ts : List (Int × Int)} (h : Web n ts) : Parts n.toNat ts (groups (labF ts) n.toNat) := by
  have := told_parts h (lot := rg ts.length) fun x hx => mem_rg.mp hx
  rwa [toldL_all] at this
theorem hang_one {n : Int} {ts : List (Int × Int)} (h : Web n ts) (hc : ∀ x, 0 ≤ x → x < n → Conn ts 0 x) : (groups (labF ts) n.toNat).length = 1 :=
  parts_one (all_parts h) (by have := h.lo; omega) fun x h1 h2 => hc x h1 (by omega)
theorem star_conn {n : Int} {ts : List (Int × Int)} (hs : ∀ x, 1 ≤ x → x < n → ((0 : Int), x) ∈ ts) : ∀ x, 0 ≤ x → x < n → Conn ts 0 x := fun x h1 h2 => by
  by_cases e : x = 0
  · subst e; exact .refl _
  · exact Conn.one (.inl (hs x (by omega) h2))
theorem row_conn {n : Int} {ts : List (Int × Int)} (hs : ∀ x, 0 ≤ x → x + 1 < n → (x, x + 1) ∈ ts) : ∀ x, 0 ≤ x → x < n → Conn ts 0 x := fun x h1 h2 => by
  obtain ⟨k, rfl⟩ : ∃ k : Nat, x = k := ⟨x.toNat, by omega⟩
  induction k with
  | zero => exact .refl _
  | succ k ih => exact .step (ih (by omega) (by omega)) (.inl (by have := hs k (by omega) (by omega); simpa using this))
end L3
namespace L3
open PySem PySem.Spec PyProof.Rows L2
def pick4 {α : Type} (a b c d : α) : Nat → α
  | 0 => a
  | 1 => b
  | 2 => c
  | _ => d
theorem s_l4 {st : Store} (a b c d : PyData) : SeqI st (.dat (.list [a, b, c, d])) [0, 1, 2, 3] (pick4 a b c d) := ⟨rfl⟩
theorem o_tupA4 {st : Store} (a b c d : PyData) : opTup [.dat a, .dat b, .dat c, .dat d] st = some (.dat (.tuple [a, b, c, d]), st) := rfl
theorem q_4 {st : Store} (a b c d : PyData) : seqOf st (.dat (.tuple [a, b, c, d])) = some [.dat a, .dat b, .dat c, .dat d] := rfl
theorem eq_bools {st : Store} (a b : List Bool) : opEq (.dat (.list (a.map .bool))) (.dat (.list (b.map .bool))) st = some (.dat (.bool (decide (a = b))), st) := by
  rw [opEq_dat (.lst (Lay.map fun x => .bool x (k := 0))) (.lst (Lay.map fun x => .bool x (k := 0))), eqv_list (e := PyData.bool) (fun a b => by cases a <;> cases b <;> rfl)]
end L3
set_option Elab.async false
set_option linter.all false
set_option maxRecDepth 100000
set_option maxHeartbeats 400000
set_option autoImplicit false
/-! Webs without ties, webs drawn together. -/
namespace L3
open PySem PySem.Spec PyProof.Rows L2
theorem dict_pairs {st : Store} (p : List Int) (k : Int) : opDict [.dat (ttl (p.map fun x => (x, k)))] st = some (.loc st.length, st ++ [.dict (putAll p (fun x => (.inl x : Key)) fun _ => .dat (.int k))]) := by
  have h : ((p.map fun x => (x, k)).map tt).mapM pairOf = some (p.map fun x => ((.inl x : Key), W.dat (.int k))) := by
    induction p with
    | nil => rfl
    | cons x p ih => rw [List.map_cons, List.map_cons, List.mapM_cons, ih]; rfl
  show (((p.map fun x => (x, k)).map tt).mapM pairOf).map _ = _
  rw [h, Option.map_some]
  have e : mergeG [] (p.map fun x => ((.inl x : Key), W.dat (.int k))) = putAll p (fun x => (.inl x : Key)) fun _ => .dat (.int k) := by
    unfold mergeG putAll
    rw [List.foldl_map]
  rw [e]
theorem upd_of {st : Store} {n m : Nat} {kvs ds : List (Key × W)} (h1 : st[n]? = some (.dict kvs)) (h2 : st[m]? = some (.dict ds)) (hnm : n ≠ m) (hz : kvs.length + ds.length ≤ 1000000) : opUpd (.loc n) [.loc m] st = some (.dat .none, st.set n (.dict (mergeG kvs ds))) := by
  simp only [opUpd, if_neg hnm, dictAt, h1, h2, Option.bind_some]
  exact if_pos (Nat.le_trans hz (small _ (by decide)))
theorem r_methD {o : W → OpN} {f : Ev} {e : Ea} {env : E3} {st s1 s2 : Store} {x : W} {ws : List W} {r : Option (W × Store)} (h1 : f env st = some (x, s1)) (h0 : isD s1 x = true) (h2 : e env s1 = some (ws, s2)) (h3 : o x ws s2 = r) : bMethD o f e env st = r := by
  unfold bMethD; rw [h1, Option.bind_some, if_pos h0]; simp only [h2, Option.bind_some, h3]
theorem isD_0 {st rest : Store} {kvs : List (Key × W)} : isD (st ++ (.dict kvs :: rest)) (.loc st.length) = true := by simp only [isD, c_0]
/-- number.update(dict([(one, late) for one in part])) -/
theorem upd_0 {st rest : Store} {kvs : List (Key × W)} {p : List Int} {k : Int} (hz : kvs.length + p.length ≤ 1000000) :
    opUpd (.loc st.length) [.loc (st ++ (Cell.dict kvs :: rest)).length] ((st ++ (Cell.dict kvs :: rest)) ++ [.dict (putAll p (fun x => (.inl x : Key)) fun _ => .dat (.int k))])
      = some (.dat .none, st ++ (Cell.dict (mergeG kvs (putAll p (fun x => (.inl x : Key)) fun _ => .dat (.int k))) :: (rest ++ [.dict (putAll p (fun x => (.inl x : Key)) fun _ => .dat (.int k))]))) := by
  have hp := putAll_len p (fun x => (.inl x : Key)) (.dat (.int k))
  rw [upd_of (kvs := kvs) (ds := putAll p (fun x => (.inl x : Key)) fun _ => .dat (.int k))]
  · rw [List.append_assoc, List.cons_append, s_0]
  · rw [List.append_assoc, List.cons_append]; exact c_0
  · exact c_0
  · rw [List.length_append, List.length_cons]; omega
  · omega
/-- the numbers found part by part -/
def NumAt (P : List (List Int)) (kvs : List (Key × W)) : Prop := (∀ x : Int, valW kvs (.inl x) = (numP P x).map fun i => .dat (.int i)) ∧ kvs.length ≤ P.flatten.length
theorem NumAt.nil : NumAt [] [] := ⟨fun _ => rfl, Nat.le_refl _⟩
theorem NumAt.snoc {P : List (List Int)} {kvs : List (Key × W)} {p : List Int} (h : NumAt P kvs) (hd : ∀ x ∈ p, ∀ q ∈ P, x ∉ q) : NumAt (P ++ [p]) (mergeG kvs (putAll p (fun x => (.inl x : Key)) fun _ => .dat (.int P.length))) := by
  have hpl := putAll_len p (fun x : Int => (Sum.inl x : Key)) (.dat (.int P.length))
  have hml := merge_len kvs (putAll p (fun x : Int => (Sum.inl x : Key)) fun _ => .dat (.int P.length))
  refine ⟨fun y => ?_, ?_⟩
  · rw [merge_put, numP_snoc]
    by_cases hy : y ∈ p
    · rw [numP_none.mpr (hd y hy)]; simp [hy]
    · rw [if_neg (by simpa using hy), h.1]
      cases numP P y <;> simp [hy]
  · rw [List.flatten_append, List.length_append, List.flatten_cons, List.flatten_nil, List.append_nil]
    have := h.2
    omega
theorem NumAt.get {st rest : Store} {P : List (List Int)} {kvs : List (Key × W)} (h : NumAt P kvs) {x : Int} (hx : ∃ p ∈ P, x ∈ p) : opGetD (.loc st.length) (.dat (.int x)) (st ++ (.dict kvs :: rest)) = some (.dat (.int ((numP P x).getD 0 : Nat)), st ++ (.dict kvs :: rest)) := by
  obtain ⟨i, hi⟩ : ∃ i, numP P x = some i := by
    cases e : numP P x with
    | some i => exact ⟨i, rfl⟩
    | none => obtain ⟨p, hp, hx⟩ := hx; exact absurd hx (numP_none.mp e p hp)
  unfold opGetD
  simp only [keyOf, c_0, h.1, hi]
  rfl
theorem o_sort2 {st : Store} (a b : Int) : opSorted [.dat (.list [.int a, .int b])] st = some (.dat (.list [.int (ord2 (a, b)).1, .int (ord2 (a, b)).2]), st) := by
  have := o_sortLi (st := st) (pl (a, b))
  rw [sI_pl] at this
  exact this
theorem o_tup2o {st : Store} (t : Int × Int) : opTuple [.dat (.list [.int (ord2 t).1, .int (ord2 t).2])] st = some (.dat (tt (ord2 t)), st) := opTuple_lst _
theorem numP_lt {P : List (List Int)} {x : Int} {i : Nat} (h : numP P x = some i) : i < P.length := by
  unfold numP at h
  exact (List.findIdx?_eq_some_iff_findIdx_eq.mp h).1
theorem drawn_web {n : Int} {ts us : List (Int × Int)} {P : List (List Int)} (h : Web n ts) (hp : Parts n.toNat us P) : Web P.length (sP (((ts.map (numT P)).filter fun t => !decide (t.1 = t.2)).map ord2)) := by
  have hl := parts_len hp
  have h1 := h.lo
  have h2 := h.hi
  have hpos : 1 ≤ P.length := by
    obtain ⟨p, hq, _⟩ := hp.cov 0 (by omega) (by omega)
    exact List.length_pos_iff.mpr (List.ne_nil_of_mem hq)
  refine web_sP (by omega) (by omega) ?_ fun t ht => ?_
  · rw [List.length_map]
    exact Nat.le_trans (List.length_filter_le _ _) (by rw [List.length_map]; exact h.len)
  · obtain ⟨u, hu, rfl⟩ := List.mem_map.mp ht
    obtain ⟨hu1, hu2⟩ := List.mem_filter.mp hu
    obtain ⟨v, hv, rfl⟩ := List.mem_map.mp hu1
    have hc := parts_cov h hp v hv
    have num : ∀ {x : Int}, (∃ p ∈ P, x ∈ p) → ∃ i, numP P x = some i ∧ i < P.length := fun {x} hx => by
      cases e : numP P x with
      | some i => exact ⟨i, rfl, numP_lt e⟩
      | none => obtain ⟨p, hp, hx⟩ := hx; exact absurd hx (numP_none.mp e p hp)
    obtain ⟨i, hi, hi2⟩ := num hc.1
    obtain ⟨j, hj, hj2⟩ := num hc.2
    have hne : (numT P v).1 ≠ (numT P v).2 := by simpa using hu2
    unfold numT at hne ⊢
    rw [hi, hj] at hne ⊢
    simp only [Option.getD_some] at hne ⊢
    unfold ord2
    simp only
    omega
theorem less_web {n : Int} {ts : List (Int × Int)} (h : Web n ts) (p : (Int × Int) × Nat → Bool) : Web n ((ts.zipIdx.filter p).map (·.1)) := by
  have hs : ((ts.zipIdx.filter p).map (·.1)).Sublist ts := by
    have : ((ts.zipIdx.filter p).map (·.1)).Sublist (ts.zipIdx.map (·.1)) := List.Sublist.map _ List.filter_sublist
    simpa using this
  exact ⟨h.lo, h.hi, Nat.le_trans hs.length_le h.len, fun t ht => h.ok t (hs.subset ht), h.ord.sublist hs⟩
theorem filter_two (t : Int × Int) (p : List Int) : decide ((((pl t).filter fun x => decide (x ∈ p)).length : Int) = 2) = (decide (t.1 ∈ p) && decide (t.2 ∈ p)) := by
  unfold pl
  by_cases h1 : t.1 ∈ p <;> by_cases h2 : t.2 ∈ p <;> simp [h1, h2]
theorem filter_one (t : Int × Int) (p : List Int) : decide ((((pl t).filter fun x => decide (x ∈ p)).length : Int) = 1) = (decide (t.1 ∈ p) != decide (t.2 ∈ p)) := by
  unfold pl
  by_cases h1 : t.1 ∈ p <;> by_cases h2 : t.2 ∈ p <;> simp [h1, h2]
theorem tiesBy_rng {ts : List (Int × Int)} {p : Int × Int → Bool} : ∀ x ∈ tiesBy p ts, 0 ≤ x ∧ x < ts.length := fun x hx => by
  unfold tiesBy at hx
  obtain ⟨y, hy, rfl⟩ := List.mem_map.mp hx
  have := List.mem_zipIdx (List.mem_filter.mp hy).1
  omega
theorem tiesBy_inc (ts : List (Int × Int)) (p : Int × Int → Bool) : (tiesBy p ts).Pairwise (· < ·) := by
  unfold tiesBy
  rw [List.pairwise_map]
  refine List.Pairwise.filter _ ?_
  have h : (ts.zipIdx.map (·.2)).Pairwise (· < ·) := by
    rw [List.zipIdx_map_snd]
    exact List.pairwise_lt_range'
  rw [List.pairwise_map] at h
  exact h.imp fun h => by omega
theorem tiesBy_len (ts : List (Int × Int)) (p : Int × Int → Bool) : (tiesBy p ts).length ≤ ts.length := by
  unfold tiesBy
  rw [List.length_map]
  exact Nat.le_trans (List.length_filter_le _ _) (by rw [List.length_zipIdx]; exact Nat.le_refl _)
theorem sm_ties {ts : List (Int × Int)} (h : ts.length ≤ 40) (p : Int × Int → Bool) : Sm (ti (tiesBy p ts)) := sm_ti (by have := tiesBy_len ts p; omega) fun x hx => by have := tiesBy_rng x hx; omega
theorem sm_parts {n : Int} {us : List (Int × Int)} {P : List (List Int)} (hp : Parts n us P) (hn : n ≤ 16) : Sm (lp P) := by
  have hl := parts_len hp
  refine sm_lp (by omega) (fun l h => ?_) fun l h x hx => ?_
  · have h1 : l.length ≤ P.flatten.length := by
      obtain ⟨a, b, e⟩ := List.append_of_mem h
      rw [e, List.flatten_append, List.flatten_cons, List.length_append, List.length_append]; omega
    rw [(flat_perm hp).length_eq, rg_len] at h1
    omega
  · have := hp.rng h hx; omega
theorem rgI_inc (a b : Int) : (rgI a b).Pairwise (· < ·) := by
  unfold rgI
  rw [List.pairwise_map]
  exact List.pairwise_lt_range.imp fun h => by omega
theorem zipI_get {α : Type} {P : List α} {k j : Nat} {p : α} (h : P.zipIdx[k]? = some (p, j)) : j = k ∧ P[k]? = some p := by
  rw [List.getElem?_zipIdx] at h
  obtain ⟨y, hy, e⟩ := Option.map_eq_some_iff.mp h
  simp only [Prod.mk.injEq, Nat.zero_add] at e
  obtain ⟨rfl, rfl⟩ := e
  exact ⟨rfl, hy⟩
theorem take_flat {P : List (List Int)} {k : Nat} {p : List Int} (h : P[k]? = some p) : (P.take k).flatten.length + p.length ≤ P.flatten.length := by
  have h1 : (P.take (k + 1)).flatten.length ≤ P.flatten.length := by
    conv => rhs; rw [← List.take_append_drop (k + 1) P, List.flatten_append, List.length_append]
    exact Nat.le_add_right _ _
  rwa [take_next h, List.flatten_append, List.length_append, List.flatten_cons, List.flatten_nil, List.append_nil] at h1
theorem NumAt.next {n : Int} {us : List (Int × Int)} {P : List (List Int)} (hp : Parts n us P) {k : Nat} {p : List Int} {kvs : List (Key × W)} (h : NumAt (P.take k) kvs) (hk : P[k]? = some p) : NumAt (P.take (k + 1)) (mergeG kvs (putAll p (fun x => (.inl x : Key)) fun _ => .dat (.int k))) := by
  have hkl := (List.getElem?_eq_some_iff.mp hk).1
  have := NumAt.snoc (p := p) h fun x hx q hq hxq => by
    obtain ⟨i, hi⟩ := List.getElem?_of_mem hq
    have hij : i < k := by have := (List.getElem?_eq_some_iff.mp hi).1; rw [List.length_take] at this; omega
    rw [List.getElem?_take_of_lt hij] at hi
    have := parts_disj hp i k q p x hi hk hxq hx
    omega
  rwa [List.length_take, Nat.min_eq_left (Nat.le_of_lt hkl), ← take_next hk] at this
end L3
namespace L3
open PySem PySem.Spec PyProof.Rows L2
theorem r_tNoF {t : Et} {env : E3} {st s1 : Store} (h1 : t env st = some (true, s1)) : tNo t env st = some (false, s1) := by unfold tNo; rw [h1, Option.map_some]; rfl
theorem r_tNoT {t : Et} {env : E3} {st s1 : Store} (h1 : t env st = some (false, s1)) : tNo t env st = some (true, s1) := by unfold tNo; rw [h1, Option.map_some]; rfl
end L3
set_option Elab.async false
set_option linter.all false
set_option maxRecDepth 100000
set_option maxHeartbeats 400000
set_option autoImplicit false
/-! How many parts: a tie more. -/
namespace L3
open PySem PySem.Spec PyProof.Rows L2
/-- labels that tell what hangs together -/
def Lab (n : Nat) (f : Int → Int) (us : List (Int × Int)) : Prop := ∀ x y : Int, (0 ≤ x ∧ x < n) → (0 ≤ y ∧ y < n) → (f x = f y ↔ Conn us x y)
def Rng (n : Nat) (us : List (Int × Int)) : Prop := ∀ t ∈ us, (0 ≤ t.1 ∧ t.1 < n) ∧ 0 ≤ t.2 ∧ t.2 < n
def cnt (n : Nat) (us : List (Int × Int)) : Nat := (groups (labF us) n).length
theorem lab_of {n : Nat} {us : List (Int × Int)} (h : Rng n us) : Lab n (labF us) us := labF_iff h
theorem Lab.first {n : Nat} {f : Int → Int} {us : List (Int × Int)} (h : Lab n f us) {i : Nat} (hi : i < n) : firstB f i = true ↔ ∀ j : Int, 0 ≤ j → j < i → ¬ Conn us j i := by
  rw [firstB_iff]
  exact ⟨fun q j h1 h2 c => q j h1 h2 ((h j i (by omega) (by omega)).mpr c), fun q j h1 h2 e => q j h1 h2 ((h j i (by omega) (by omega)).mp e)⟩
theorem cnt_heads {n : Nat} {f : Int → Int} {us : List (Int × Int)} (hr : Rng n us) (h : Lab n f us) : cnt n us = (heads f n).length := by
  have : heads f n = heads (labF us) n := by
    unfold heads
    refine List.filter_congr fun i hi => ?_
    have hi := List.mem_range.mp hi
    rw [Bool.eq_iff_iff, h.first hi, (lab_of hr).first hi]
  rw [this]
  unfold cnt
  rw [← heads_groups, List.length_map]
theorem cnt_congr {n : Nat} {us vs : List (Int × Int)} (h1 : Rng n us) (h2 : Rng n vs) (e : ∀ x y, Conn us x y ↔ Conn vs x y) : cnt n us = cnt n vs := by
  rw [cnt_heads h1 (lab_of h1), cnt_heads h2 (f := labF us) fun x y hx hy => (lab_of h1 x y hx hy).trans (e x y)]
theorem Conn.perm {us vs : List (Int × Int)} (h : us.Perm vs) {x y : Int} : Conn us x y ↔ Conn vs x y := ⟨fun c => c.mono fun t ht => h.mem_iff.mp ht, fun c => c.mono fun t ht => h.mem_iff.mpr ht⟩
theorem cnt_perm {n : Nat} {us vs : List (Int × Int)} (h : us.Perm vs) (hr : Rng n us) : cnt n us = cnt n vs := cnt_congr hr (fun t ht => hr t (h.mem_iff.mpr ht)) fun _ _ => Conn.perm h
theorem filter_out {l : List Nat} {x : Nat} (nd : l.Nodup) (hx : x ∈ l) : (l.filter fun y => !decide (y = x)).length + 1 = l.length := by
  induction l with
  | nil => cases hx
  | cons a l ih =>
    rw [List.nodup_cons] at nd
    by_cases e : a = x
    · subst e
      have : (a :: l).filter (fun y => !decide (y = a)) = l := by
        rw [List.filter_cons_of_neg (by simp)]
        exact List.filter_eq_self.mpr fun y hy => by simp; intro e; subst e; exact nd.1 hy
      rw [this, List.length_cons]
    · rw [List.filter_cons_of_pos (by simp [e]), List.length_cons, List.length_cons]
      have := ih nd.2 (by rcases List.mem_cons.mp hx with h | h; exact absurd h.symm e; exact h)
      omega
theorem heads_nodup (f : Int → Int) (n : Nat) : (heads f n).Nodup := List.nodup_range.sublist List.filter_sublist
theorem class_head {n : Nat} {f : Int → Int} {us : List (Int × Int)} (h : Lab n f us) {a : Int} (ha : 0 ≤ a ∧ a < n) : ∃ i : Nat, i < n ∧ firstB f i = true ∧ Conn us i a := by
  obtain ⟨i, i1, i2, i3, i4⟩ := first_of f a.toNat a ha.1 (Nat.le_refl _)
  refine ⟨i.toNat, by omega, by rw [Int.toNat_of_nonneg i1]; exact i4, ?_⟩
  rw [Int.toNat_of_nonneg i1]
  exact (h i a (by omega) ha).mp i3
theorem snoc_swap {us : List (Int × Int)} {a b x y : Int} : Conn (us ++ [(a, b)]) x y ↔ Conn (us ++ [(b, a)]) x y := by
  rw [Conn.snoc, Conn.snoc]
  constructor <;> (rintro (h | h | h); exact .inl h; exact .inr (.inr h); exact .inr (.inl h))
theorem rng_snoc {n : Nat} {us : List (Int × Int)} {a b : Int} (h : Rng n us) (ha : 0 ≤ a ∧ a < n) (hb : 0 ≤ b ∧ b < n) : Rng n (us ++ [(a, b)]) := fun t ht => by
  rcases List.mem_append.mp ht with ht | ht
  · exact h t ht
  · rw [List.mem_singleton.mp ht]; exact ⟨ha, hb⟩
theorem cnt_tied {n : Nat} {us : List (Int × Int)} {a b : Int} (h : Rng n us) (ha : 0 ≤ a ∧ a < n) (hb : 0 ≤ b ∧ b < n) (c : Conn us a b) : cnt n (us ++ [(a, b)]) = cnt n us := by
  refine cnt_congr (rng_snoc h ha hb) h fun x y => ?_
  rw [Conn.snoc]
  constructor
  · rintro (h | ⟨h1, h2⟩ | ⟨h1, h2⟩)
    · exact h
    · exact (h1.trans c).trans h2
    · exact (h1.trans c.symm).trans h2
  · exact .inl
theorem cnt_new {n : Nat} {us : List (Int × Int)} {a b : Int} (h : Rng n us) (ha : 0 ≤ a ∧ a < n) (hb : 0 ≤ b ∧ b < n) (c : ¬ Conn us a b) : cnt n (us ++ [(a, b)]) + 1 = cnt n us := by
  have key : ∀ {a b : Int}, (0 ≤ a ∧ a < n) → (0 ≤ b ∧ b < n) → ¬ Conn us a b → ∀ {p q : Nat}, p < n → q < n → firstB (labF us) p = true → firstB (labF us) q = true → Conn us p a → Conn us q b → p < q → cnt n (us ++ [(a, b)]) + 1 = cnt n us := by
    intro a b ha hb c p q hp hq fp fq cp cq hpq
    have L := lab_of h
    have hr := rng_snoc h ha hb
    have L' := lab_of hr
    rw [cnt_heads h L, cnt_heads hr L', ← filter_out (heads_nodup _ n) (mem_heads.mpr ⟨hq, fq⟩)]
    congr 2
    unfold heads
    rw [List.filter_filter]
    refine List.filter_congr fun i hi => ?_
    have hi := List.mem_range.mp hi
    rw [Bool.eq_iff_iff, Bool.and_eq_true, L'.first hi, L.first hi]
    have same : ∀ {i j : Nat}, i < n → j < n → (∀ k : Int, 0 ≤ k → k < i → ¬ Conn us k i) → firstB (labF us) j = true → Conn us i j → i = j := fun {i j} hi hj h1 h2 cc => heads_one (f := labF us) ((L.first hi).mpr h1) h2 ((L i j (by omega) (by omega)).mpr cc)
    constructor
    · intro q'
      have : ¬ i = q := fun e => by
        subst e
        exact q' p (by omega) (by omega) (Conn.snoc.mpr (.inr (.inl ⟨cp, cq.symm⟩)))
      exact ⟨by simp [this], fun j h1 h2 cc => q' j h1 h2 (Conn.snoc.mpr (.inl cc))⟩
    · rintro ⟨hne, q'⟩ j h1 h2 cc
      have hne : i ≠ q := by simpa using hne
      rcases Conn.snoc.mp cc with cc | ⟨c1, c2⟩ | ⟨c1, c2⟩
      · exact q' j h1 h2 cc
      · exact hne (same hi hq q' fq (c2.symm.trans cq.symm))
      · have e : i = p := same hi hp q' fp (c2.symm.trans cp.symm)
        subst e
        exact (L.first hq).mp fq j h1 (by omega) (c1.trans cq.symm)
  obtain ⟨p, hp, fp, cp⟩ := class_head (lab_of h) ha
  obtain ⟨q, hq, fq, cq⟩ := class_head (lab_of h) hb
  by_cases hpq : p < q
  · exact key ha hb c hp hq fp fq cp cq hpq
  · have hne : p ≠ q := fun e => by subst e; exact c (cp.symm.trans cq)
    have := key hb ha (fun c' => c c'.symm) hq hp fq fp cq cp (by omega)
    rw [← this]
    congr 1
    exact cnt_congr (rng_snoc h ha hb) (rng_snoc h hb ha) fun _ _ => snoc_swap
theorem cnt_nil (n : Nat) : cnt n [] = n := by
  rw [cnt_heads (f := id) (fun t h => by cases h) fun x y _ _ => ⟨fun e => by cases (show x = y from e); exact .refl _, fun c => by
    cases c with
    | refl => rfl
    | step _ e => rcases e with e | e <;> cases e⟩]
  have : heads id n = List.range n := by
    unfold heads
    refine List.filter_eq_self.mpr fun i hi => firstB_iff.mpr fun j h1 h2 e => ?_
    have e : j = (i : Int) := e
    omega
  rw [this, List.length_range]
theorem cnt_le {n : Nat} {us : List (Int × Int)} (h : Rng n us) : n ≤ cnt n us + us.length := by
  have key : ∀ i : Nat, i ≤ us.length → n ≤ cnt n (us.take i) + i := by
    intro i
    induction i with
    | zero => intro _; rw [List.take_zero, cnt_nil]; exact Nat.le_refl _
    | succ i ih =>
      intro hi
      have h0 := ih (by omega)
      obtain ⟨⟨a, b⟩, hx⟩ : ∃ t, us[i]? = some t := ⟨_, List.getElem?_eq_getElem (by omega)⟩
      rw [take_next hx]
      have h1 : Rng n (us.take i) := fun t ht => h t (List.mem_of_mem_take ht)
      have hab := h (a, b) (List.mem_of_getElem? hx)
      by_cases c : Conn (us.take i) a b
      · rw [cnt_tied (a := a) (b := b) h1 hab.1 hab.2 c]; omega
      · have := cnt_new (a := a) (b := b) h1 hab.1 hab.2 c; omega
  have := key us.length (Nat.le_refl _)
  rwa [List.take_length] at this
theorem cnt_pos {n : Nat} {us : List (Int × Int)} (h : Rng n us) (hn : 0 < n) : 1 ≤ cnt n us := by
  rw [cnt_heads h (lab_of h)]
  refine List.length_pos_iff.mpr fun e => ?_
  have : 0 ∈ heads (labF us) n := mem_heads.mpr ⟨hn, firstB_iff.mpr fun j h1 h2 => absurd h2 (by omega)⟩
  rw [e] at this
  cases this
theorem cnt_one {n : Nat} {us : List (Int × Int)} (h : Rng n us) (hn : 0 < n) : cnt n us = 1 ↔ ∀ x y : Int, (0 ≤ x ∧ x < n) → (0 ≤ y ∧ y < n) → Conn us x y := by
  have hp : Parts n us (groups (labF us) n) := groups_parts (lab_of h) h
  constructor
  · intro e x y hx hy
    obtain ⟨p, hp1, hxp⟩ := hp.cov x hx.1 hx.2
    obtain ⟨q, hq1, hyq⟩ := hp.cov y hy.1 hy.2
    have : p = q := by
      unfold cnt at e
      match hg : groups (labF us) n, e with
      | [a], _ =>
        rw [hg] at hp1 hq1
        rw [List.mem_singleton.mp hp1, List.mem_singleton.mp hq1]
    subst this
    exact ((hp.cls p hp1 x hxp y).mp hyq).2
  · intro q
    exact parts_one hp (by omega) fun x h1 h2 => q 0 x (by omega) (by omega)
end L3
set_option Elab.async false
set_option linter.all false
set_option maxRecDepth 100000
set_option maxHeartbeats 400000
set_option autoImplicit false
/-! Trees. -/
namespace L3
open PySem PySem.Spec PyProof.Rows L2
theorem idx_lp {st : Store} {P : List (List Int)} {l : List Int} (i : Nat) (h : P[i]? = some l) : opIdx (.dat (lp P)) (.dat (.int (i : Int))) st = some (.dat (ti l), st) := idx_lst i (by rw [List.getElem?_map, h]; rfl)
/-- a lot that is a tree -/
structure TreeLot (n : Nat) (ts : List (Int × Int)) (lot : List Int) : Prop where
  inc : lot.Pairwise (· < ·)
  rng : ∀ x ∈ lot, 0 ≤ x ∧ x < ts.length
  len : lot.length + 1 = n
  one : cnt n (toldL ts lot) = 1
def WRng (n : Nat) (ts : List (Int × Int)) : Prop := ∀ t ∈ ts, (0 ≤ t.1 ∧ t.1 < n) ∧ 0 ≤ t.2 ∧ t.2 < n
theorem Web.wr {n : Int} {ts : List (Int × Int)} (h : Web n ts) : Rng n.toNat ts := fun t ht => by have := h.ok t ht; omega
theorem told_rngN {n : Nat} {ts : List (Int × Int)} {lot : List Int} (h : Rng n ts) (h2 : ∀ x ∈ lot, 0 ≤ x ∧ x < ts.length) : Rng n (toldL ts lot) := fun t ht => by
  obtain ⟨x, hx, rfl⟩ := List.mem_map.mp ht
  exact h _ (getD_mem (h2 x hx).1 (h2 x hx).2)
theorem told_perm {ts : List (Int × Int)} {a b : List Int} (h : a.Perm b) : (toldL ts a).Perm (toldL ts b) := h.map _
theorem told_app (ts : List (Int × Int)) (a b : List Int) : toldL ts (a ++ b) = toldL ts a ++ toldL ts b := List.map_append
theorem less_perm {lot : List Int} (nd : lot.Nodup) {x : Int} (hx : x ∈ lot) : lot.Perm ((lot.filter fun y => !decide (y = x)) ++ [x]) := by
  refine (List.perm_ext_iff_of_nodup nd ?_).mpr fun y => ?_
  · rw [List.nodup_append]
    refine ⟨nd.sublist List.filter_sublist, by simp, fun a ha b hb e => ?_⟩
    subst e
    rw [List.mem_singleton.mp hb] at ha
    have := (List.mem_filter.mp ha).2
    simp at this
  · rw [List.mem_append, List.mem_filter, List.mem_singleton]
    constructor
    · intro h
      by_cases e : y = x
      · exact .inr e
      · exact .inl ⟨h, by simp [e]⟩
    · rintro (h | h)
      · exact h.1
      · rw [h]; exact hx
/-- a tie of a tree taken away: two parts, its ends apart -/
theorem tree_less {n : Nat} {ts : List (Int × Int)} {lot : List Int} (hr : Rng n ts) (h : TreeLot n ts lot) {x : Int} (hx : x ∈ lot) : cnt n (toldL ts (lot.filter fun y => !decide (y = x))) = 2 ∧ ¬ Conn (toldL ts (lot.filter fun y => !decide (y = x))) (ts.getD x.toNat (0, 0)).1 (ts.getD x.toNat (0, 0)).2 := by
  have nd : lot.Nodup := h.inc.imp fun q => Int.ne_of_lt q
  have hp := less_perm nd hx
  have hl := hp.length_eq
  rw [List.length_append, List.length_singleton] at hl
  have hv : ∀ y ∈ lot.filter (fun y => !decide (y = x)), 0 ≤ y ∧ y < ts.length := fun y hy => h.rng y (List.mem_filter.mp hy).1
  have hv2 := told_rngN hr hv
  have h1 := cnt_perm (told_perm (ts := ts) hp) (told_rngN hr h.rng)
  rw [h.one, told_app] at h1
  have hab := hr _ (getD_mem (h.rng x hx).1 (h.rng x hx).2)
  have h1' : 1 = cnt n (toldL ts (lot.filter fun y => !decide (y = x)) ++ [((ts.getD x.toNat (0, 0)).1, (ts.getD x.toNat (0, 0)).2)]) := h1
  have h3 := cnt_le hv2
  rw [show (toldL ts (lot.filter fun y => !decide (y = x))).length = (lot.filter fun y => !decide (y = x)).length from List.length_map _] at h3
  have hlen := h.len
  by_cases c : Conn (toldL ts (lot.filter fun y => !decide (y = x))) (ts.getD x.toNat (0, 0)).1 (ts.getD x.toNat (0, 0)).2
  · rw [cnt_tied hv2 hab.1 hab.2 c] at h1'; omega
  · have := cnt_new hv2 hab.1 hab.2 c
    exact ⟨by omega, c⟩
/-- of two parts: apart -/
theorem two_parts {n : Nat} {us : List (Int × Int)} (hr : Rng n us) (h : cnt n us = 2) : ∃ p q, groups (labF us) n = [p, q] ∧ ∀ x y : Int, (0 ≤ x ∧ x < n) → (0 ≤ y ∧ y < n) → ((decide (x ∈ p) != decide (y ∈ p)) = true ↔ ¬ Conn us x y) := by
  have hp : Parts n us (groups (labF us) n) := groups_parts (lab_of hr) hr
  unfold cnt at h
  match hg : groups (labF us) n, h with
  | [p, q], _ =>
    rw [hg] at hp
    refine ⟨p, q, rfl, fun x y hx hy => ?_⟩
    have mem : ∀ z : Int, (0 ≤ z ∧ z < n) → z ∈ p ∨ z ∈ q := fun z hz => by
      obtain ⟨r, hr, hzr⟩ := hp.cov z hz.1 hz.2
      simp only [List.mem_cons, List.mem_nil_iff, or_false] at hr
      rcases hr with e | e <;> subst e
      · exact .inl hzr
      · exact .inr hzr
    have cl : ∀ {r : List Int}, r ∈ [p, q] → ∀ {z w : Int}, z ∈ r → (0 ≤ w ∧ w < n) → (w ∈ r ↔ Conn us z w) := fun {r} hr {z w} hz hw => by
      rw [hp.cls r hr z hz w]; exact ⟨fun h => h.2, fun h => ⟨hw, h⟩⟩
    have hpm : p ∈ [p, q] := by simp
    have hqm : q ∈ [p, q] := by simp
    by_cases h1 : x ∈ p <;> by_cases h2 : y ∈ p
    · simp only [h1, h2, decide_true, bne_self_eq_false, Bool.false_eq_true, false_iff]
      exact fun f => f ((cl hpm h1 hy).mp h2)
    · simp only [h1, h2, decide_true, decide_false]
      exact ⟨fun _ c => h2 ((cl hpm h1 hy).mpr c), fun _ => rfl⟩
    · simp only [h1, h2, decide_true, decide_false]
      exact ⟨fun _ c => h1 ((cl hpm h2 hx).mpr c.symm), fun _ => rfl⟩
    · simp only [h1, h2, decide_false, bne_self_eq_false, Bool.false_eq_true, false_iff]
      have q1 := (mem x hx).resolve_left h1
      have q2 := (mem y hy).resolve_left h2
      exact fun f => f ((cl hqm q1 hy).mp q2)
end L3
set_option Elab.async false
set_option linter.all false
set_option maxRecDepth 100000
set_option maxHeartbeats 400000
set_option autoImplicit false
/-! Places reached one behind another. -/
namespace L3
open PySem PySem.Spec PyProof.Rows L2
abbrev Ord := List (Int × Option (Int × Int))
def encB : Option (Int × Int) → PyData
  | none => .none
  | some t => tt t
def kvsB (o : Ord) : List (Key × W) := o.map fun p => (.inl p.1, .dat (encB p.2))
def tieAt (ts : List (Int × Int)) (x : Int) : Int × Int := ts.getD x.toNat (0, 0)
def Ends (ts : List (Int × Int)) (e u v : Int) : Prop := tieAt ts e = (u, v) ∨ tieAt ts e = (v, u)
theorem Ends.symm {ts : List (Int × Int)} {e u v : Int} (h : Ends ts e u v) : Ends ts e v u := Or.symm h
def otherE (ts : List (Int × Int)) (e y : Int) : Int := if y = (tieAt ts e).1 then (tieAt ts e).2 else (tieAt ts e).1
theorem otherE_ends {ts : List (Int × Int)} {e y : Int} (h : y ∈ pl (tieAt ts e)) : Ends ts e y (otherE ts e y) := by
  unfold otherE Ends
  simp only [pl, List.mem_cons, List.mem_nil_iff, or_false] at h
  by_cases e1 : y = (tieAt ts e).1
  · rw [if_pos e1]; exact .inl (Prod.ext e1.symm rfl)
  · rw [if_neg e1]; exact .inr (Prod.ext rfl (h.resolve_left e1).symm)
/-- what is reached from a by the ties of a lot; the first `turn` of them have been looked at -/
structure Reach (ts : List (Int × Int)) (lot : List Int) (a : Int) (turn : Nat) (o : Ord) : Prop where
  root : o[0]? = some (a, none)
  le : turn ≤ o.length
  nd : (o.map (·.1)).Nodup
  beh : ∀ (i : Nat) (p : Int × Option (Int × Int)), o[i]? = some p → 0 < i → ∃ e u, p.2 = some (e, u) ∧ e ∈ lot ∧ Ends ts e u p.1 ∧ ∃ (j : Nat) (q : Int × Option (Int × Int)), j < i ∧ o[j]? = some q ∧ q.1 = u
  shut : ∀ (i : Nat) (p : Int × Option (Int × Int)), i < turn → o[i]? = some p → ∀ e ∈ lot, ∀ v, Ends ts e p.1 v → v ∈ o.map (·.1)
theorem Reach.start {ts : List (Int × Int)} {lot : List Int} {a : Int} : Reach ts lot a 0 [(a, none)] :=
  ⟨rfl, Nat.zero_le _, by simp, fun i p h h0 => by
    have := (List.getElem?_eq_some_iff.mp h).1
    simp at this; omega, fun i p h => by omega⟩
theorem Reach.put {ts : List (Int × Int)} {lot : List Int} {a : Int} {turn : Nat} {o : Ord} (h : Reach ts lot a turn o) {e u v : Int} (he : e ∈ lot) (hE : Ends ts e u v) (hu : u ∈ o.map (·.1)) (hv : v ∉ o.map (·.1)) : Reach ts lot a turn (o ++ [(v, some (e, u))]) := by
  have ho : 0 < o.length := (List.getElem?_eq_some_iff.mp h.root).1
  refine ⟨by rw [List.getElem?_append_left ho]; exact h.root, by rw [List.length_append]; have := h.le; omega, ?_, fun i p hp hi => ?_, fun i p hi hp e' he' w hw => ?_⟩
  · rw [List.map_append, List.map_cons, List.map_nil, List.nodup_append]
    exact ⟨h.nd, by simp, fun x hx y hy e => by rw [List.mem_singleton.mp hy] at e; subst e; exact hv hx⟩
  · by_cases hl : i < o.length
    · rw [List.getElem?_append_left hl] at hp
      obtain ⟨e', u', h1, h2, h3, j, q, h4, h5, h6⟩ := h.beh i p hp hi
      exact ⟨e', u', h1, h2, h3, j, q, h4, by rw [List.getElem?_append_left (by omega)]; exact h5, h6⟩
    · have hil : i = o.length := by
        have := (List.getElem?_eq_some_iff.mp hp).1
        rw [List.length_append, List.length_singleton] at this; omega
      subst hil
      rw [List.getElem?_append_right (Nat.le_refl _), Nat.sub_self] at hp
      cases hp
      obtain ⟨q, hq, rfl⟩ := List.mem_map.mp hu
      obtain ⟨j, hj⟩ := List.getElem?_of_mem hq
      have hjl := (List.getElem?_eq_some_iff.mp hj).1
      exact ⟨e, q.1, rfl, he, hE, j, q, hjl, by rw [List.getElem?_append_left hjl]; exact hj, rfl⟩
  · rw [List.map_append]
    have hl : i < o.length := by have := h.le; omega
    rw [List.getElem?_append_left hl] at hp
    exact List.mem_append_left _ (h.shut i p hi hp e' he' w hw)
theorem Reach.next {ts : List (Int × Int)} {lot : List Int} {a : Int} {turn : Nat} {o : Ord} (h : Reach ts lot a turn o) {p : Int × Option (Int × Int)} (hp : o[turn]? = some p) (hs : ∀ e ∈ lot, ∀ v, Ends ts e p.1 v → v ∈ o.map (·.1)) : Reach ts lot a (turn + 1) o := by
  have hl := (List.getElem?_eq_some_iff.mp hp).1
  refine ⟨h.root, hl, h.nd, h.beh, fun i q hi hq e he v hv => ?_⟩
  by_cases e1 : i = turn
  · subst e1; rw [hp] at hq; cases hq; exact hs e he v hv
  · exact h.shut i q (by omega) hq e he v hv
theorem told_mem {ts : List (Int × Int)} {lot : List Int} {u v : Int} : ((u, v) ∈ toldL ts lot ∨ (v, u) ∈ toldL ts lot) ↔ ∃ e ∈ lot, Ends ts e u v := by
  unfold toldL Ends tieAt
  constructor
  · rintro (h | h) <;> (obtain ⟨e, he, h⟩ := List.mem_map.mp h)
    · exact ⟨e, he, .inl h⟩
    · exact ⟨e, he, .inr h⟩
  · rintro ⟨e, he, h | h⟩
    · exact .inl (List.mem_map.mpr ⟨e, he, h⟩)
    · exact .inr (List.mem_map.mpr ⟨e, he, h⟩)
theorem Reach.all {ts : List (Int × Int)} {lot : List Int} {a : Int} {o : Ord} (h : Reach ts lot a o.length o) {x : Int} (c : Conn (toldL ts lot) a x) : x ∈ o.map (·.1) := by
  induction c with
  | refl => exact List.mem_map.mpr ⟨_, List.mem_of_getElem? h.root, rfl⟩
  | step _ e ih =>
    obtain ⟨p, hp, rfl⟩ := List.mem_map.mp ih
    obtain ⟨i, hi⟩ := List.getElem?_of_mem hp
    obtain ⟨t, ht, hE⟩ := told_mem.mp e
    exact h.shut i p (List.getElem?_eq_some_iff.mp hi).1 hi t ht _ hE
/-- the ties from a to x, as told by what stands behind each place -/
inductive Tr (o : Ord) : Nat → Int → List Int → Prop
  | root {a : Int} : o[0]? = some (a, none) → Tr o 0 a []
  | step {i j : Nat} {e u x : Int} {W : List Int} {q : Option (Int × Int)} : o[i]? = some (x, some (e, u)) → o[j]? = some (u, q) → j < i → Tr o j u W → Tr o i x (W ++ [e])
theorem Tr.at {o : Ord} {i : Nat} {x : Int} {W : List Int} (h : Tr o i x W) : ∃ q, o[i]? = some (x, q) := by
  cases h with
  | root h => exact ⟨_, h⟩
  | step h _ _ _ => exact ⟨_, h⟩
theorem Tr.get {ts : List (Int × Int)} {lot : List Int} {a : Int} {turn : Nat} {o : Ord} (h : Reach ts lot a turn o) : ∀ (i : Nat) (p : Int × Option (Int × Int)), o[i]? = some p → ∃ W, Tr o i p.1 W := by
  intro i
  induction i using Nat.strongRecOn with
  | ind i ih =>
    intro p hp
    by_cases h0 : i = 0
    · subst h0
      rw [h.root] at hp
      cases hp
      exact ⟨[], .root h.root⟩
    · obtain ⟨e, u, h1, h2, h3, j, q, h4, h5, h6⟩ := h.beh i p hp (by omega)
      obtain ⟨W, hW⟩ := ih j h4 q h5
      obtain ⟨x, b⟩ := p
      obtain ⟨u', b'⟩ := q
      change b = _ at h1
      change u' = u at h6
      subst h1 h6
      exact ⟨W ++ [e], .step hp h5 h4 hW⟩
theorem nd_idx {o : Ord} (nd : (o.map (·.1)).Nodup) {i j : Nat} {x : Int} {p q : Option (Int × Int)} (h1 : o[i]? = some (x, p)) (h2 : o[j]? = some (x, q)) : i = j := by
  have e1 : (o.map (·.1))[i]? = some x := by rw [List.getElem?_map, h1]; rfl
  have e2 : (o.map (·.1))[j]? = some x := by rw [List.getElem?_map, h2]; rfl
  exact (List.getElem?_inj (List.getElem?_eq_some_iff.mp e1).1 nd).mp (e1.trans e2.symm)
/-- each tie of a way stands behind a place that is not later -/
theorem Tr.from {o : Ord} {i : Nat} {x : Int} {W : List Int} (h : Tr o i x W) : ∀ e ∈ W, ∃ (k j : Nat) (u v : Int) (q : Option (Int × Int)), k ≤ i ∧ o[k]? = some (v, some (e, u)) ∧ o[j]? = some (u, q) ∧ j < k := by
  induction h with
  | root _ => intro e he; cases he
  | step h1 h2 h3 _ ih =>
    intro e he
    rcases List.mem_append.mp he with he | he
    · obtain ⟨k, j, u, v, q, k1, k2⟩ := ih e he
      exact ⟨k, j, u, v, q, by omega, k2⟩
    · rw [List.mem_singleton.mp he]
      exact ⟨_, _, _, _, _, Nat.le_refl _, h1, h2, h3⟩
theorem Tr.in {ts : List (Int × Int)} {lot : List Int} {a : Int} {turn : Nat} {o : Ord} (h : Reach ts lot a turn o) {i : Nat} {x : Int} {W : List Int} (t : Tr o i x W) : ∀ e ∈ W, e ∈ lot := fun e he => by
  obtain ⟨k, j, u, v, q, k1, k2, k3, k4⟩ := t.from e he
  obtain ⟨e', u', h1, h2, _⟩ := h.beh k _ k2 (by omega)
  cases h1
  exact h2
theorem Tr.ends {ts : List (Int × Int)} {lot : List Int} {a : Int} {turn : Nat} {o : Ord} (h : Reach ts lot a turn o) {k j : Nat} {u v e : Int} (h1 : o[k]? = some (v, some (e, u))) (h2 : j < k) : Ends ts e u v := by
  obtain ⟨e', u', h3, h4, h5, _⟩ := h.beh k _ h1 (by omega)
  cases h3
  exact h5
/-- a way's last tie is no earlier one -/
theorem Tr.new {ts : List (Int × Int)} {lot : List Int} {a : Int} {turn : Nat} {o : Ord} (h : Reach ts lot a turn o) {i j : Nat} {x u e : Int} {W : List Int} {q : Option (Int × Int)} (h1 : o[i]? = some (x, some (e, u))) (h2 : o[j]? = some (u, q)) (h3 : j < i) (t : Tr o j u W) : e ∉ W := fun he => by
  obtain ⟨k, l, u', v', q', k1, k2, k3, k4⟩ := t.from e he
  have E1 := Tr.ends h h1 h3
  have E2 := Tr.ends h k2 k4
  -- the same two ends
  have : (x = v' ∧ u = u') ∨ (x = u' ∧ u = v') := by
    unfold Ends at E1 E2
    rcases E1 with E1 | E1 <;> rcases E2 with E2 | E2 <;> (rw [E1] at E2; injection E2 with e1 e2)
    · exact .inl ⟨e2, e1⟩
    · exact .inr ⟨e2, e1⟩
    · exact .inr ⟨e1, e2⟩
    · exact .inl ⟨e1, e2⟩
  rcases this with ⟨e1, _⟩ | ⟨e1, _⟩
  · subst e1
    have := nd_idx h.nd h1 k2
    omega
  · subst e1
    have := nd_idx h.nd h1 k3
    omega
theorem Tr.facts {ts : List (Int × Int)} {lot : List Int} {a : Int} {turn : Nat} {o : Ord} (h : Reach ts lot a turn o) {i : Nat} {x : Int} {W : List Int} (t : Tr o i x W) :
    Conn (toldL ts W) a x ∧ W.Nodup ∧ ∀ e ∈ W, ∃ u v, Ends ts e u v ∧ Conn (toldL ts (W.filter fun y => !decide (y = e))) a u ∧ Conn (toldL ts (W.filter fun y => !decide (y = e))) v x := by
  induction t with
  | root h0 =>
    rw [h.root] at h0
    cases h0
    exact ⟨.refl _, .nil, fun e he => by cases he⟩
  | @step i j e u x W q h1 h2 h3 t ih =>
    obtain ⟨c, nd, sp⟩ := ih
    have hn := Tr.new h h1 h2 h3 t
    have hE := Tr.ends h h1 h3
    have sub : ∀ {A B : List Int}, (∀ y ∈ A, y ∈ B) → ∀ {p q : Int}, Conn (toldL ts A) p q → Conn (toldL ts B) p q := fun {A B} hs {p q} c => c.mono fun t ht => by
      obtain ⟨y, hy, rfl⟩ := List.mem_map.mp ht
      exact List.mem_map_of_mem (hs y hy)
    refine ⟨?_, ?_, fun e' he' => ?_⟩
    · exact .step (sub (fun y hy => List.mem_append_left _ hy) c) (told_mem.mpr ⟨e, by simp, hE⟩)
    · rw [List.nodup_append]
      exact ⟨nd, by simp, fun y hy z hz q => by rw [List.mem_singleton.mp hz] at q; subst q; exact hn hy⟩
    · rcases List.mem_append.mp he' with he' | he'
      · obtain ⟨p, q', hE', c1, c2⟩ := sp e' he'
        have hne : e ≠ e' := fun z => by subst z; exact hn he'
        have hs : ∀ y ∈ W.filter (fun y => !decide (y = e')), y ∈ (W ++ [e]).filter fun y => !decide (y = e') := fun y hy => by
          rw [List.filter_append]; exact List.mem_append_left _ hy
        refine ⟨p, q', hE', sub hs c1, .step (sub hs c2) (told_mem.mpr ⟨e, ?_, hE⟩)⟩
        exact List.mem_filter.mpr ⟨by simp, by simp [hne]⟩
      · rw [List.mem_singleton.mp he']
        refine ⟨u, x, hE, sub (fun y hy => ?_) c, .refl _⟩
        exact List.mem_filter.mpr ⟨List.mem_append_left _ hy, by simp; intro z; subst z; exact hn hy⟩
end L3
set_option Elab.async false
set_option linter.all false
set_option maxRecDepth 100000
set_option maxHeartbeats 400000
set_option autoImplicit false
/-! What stands behind each place, as a dict's cell. -/
namespace L3
open PySem PySem.Spec PyProof.Rows L2
theorem kvsB_val {o : Ord} {x : Int} : valW (kvsB o) (.inl x) = ((o.find? fun p => decide (p.1 = x)).map fun p => W.dat (encB p.2)) := by
  unfold valW kvsB
  rw [List.find?_map, Option.map_map]
  have : ((fun kv : Key × W => decide (kv.1 = Sum.inl x)) ∘ fun p : Int × Option (Int × Int) => ((Sum.inl p.1 : Key), W.dat (encB p.2))) = fun p => decide (p.1 = x) := by
    funext p
    simp only [Function.comp, decide_eq_decide]
    exact ⟨fun e => by cases e; rfl, fun e => by rw [e]⟩
  rw [this]
  rfl
theorem kvsB_in {o : Ord} {x : Int} : (valW (kvsB o) (.inl x)).isSome = decide (x ∈ o.map (·.1)) := by
  rw [kvsB_val, Option.isSome_map, Bool.eq_iff_iff, decide_eq_true_eq, List.find?_isSome]
  simp only [decide_eq_true_eq, List.mem_map]
theorem kvsB_get {o : Ord} (nd : (o.map (·.1)).Nodup) {i : Nat} {x : Int} {q : Option (Int × Int)} (h : o[i]? = some (x, q)) : valW (kvsB o) (.inl x) = some (.dat (encB q)) := by
  rw [kvsB_val]
  cases hf : o.find? fun p => decide (p.1 = x) with
  | none =>
    rw [List.find?_eq_none] at hf
    have := hf _ (List.mem_of_getElem? h)
    simp at this
  | some p =>
    have h1 := List.find?_some hf
    have h2 := List.mem_of_find?_eq_some hf
    obtain ⟨j, hj⟩ := List.getElem?_of_mem h2
    obtain ⟨y, q'⟩ := p
    have e : y = x := by simpa using h1
    subst e
    have := nd_idx nd hj h
    subst this
    rw [h] at hj
    cases hj
    rfl
theorem kvsB_put {o : Ord} {x : Int} {t : Int × Int} (h : x ∉ o.map (·.1)) : putG (kvsB o) (.inl x) (.dat (tt t)) = kvsB (o ++ [(x, some t)]) := by
  unfold putG
  have : ((kvsB o).any fun kv => decide (kv.1 = Sum.inl x)) = false := by
    rw [valW_any, kvsB_in]
    exact decide_eq_false h
  rw [this]
  unfold kvsB
  rw [List.map_append]
  rfl
section
variable {st rest : Store} {o : Ord}
theorem din_B {neg : Bool} (x : Int) : opDIn neg (.dat (.int x)) (.loc st.length) (st ++ (.dict (kvsB o) :: rest)) = some (.dat (.bool (neg ^^ decide (x ∈ o.map (·.1)))), st ++ (.dict (kvsB o) :: rest)) := by
  have h : kvsOf (st ++ (.dict (kvsB o) :: rest)) (.loc st.length) = some (kvsB o) := by simp only [kvsOf, c_0]
  simp only [opDIn, h, L3.keyOf, kvsB_in]
theorem getD_B (nd : (o.map (·.1)).Nodup) {i : Nat} {x : Int} {q : Option (Int × Int)} (h : o[i]? = some (x, q)) : opGetD (.loc st.length) (.dat (.int x)) (st ++ (.dict (kvsB o) :: rest)) = some (.dat (encB q), st ++ (.dict (kvsB o) :: rest)) := by
  unfold opGetD
  simp only [L3.keyOf, c_0, kvsB_get nd h]
  rfl
theorem put_B {x : Int} {t : Int × Int} (h : x ∉ o.map (·.1)) (hz : o.length < 1000) : opDPut (.loc st.length) (.dat (.int x)) (.dat (tt t)) (st ++ (.dict (kvsB o) :: rest)) = some (st ++ (.dict (kvsB (o ++ [(x, some t)])) :: rest)) := by
  unfold opDPut
  simp only [c_0, L3.keyOf]
  rw [if_pos (by unfold kvsB; rw [List.length_map]; exact Nat.lt_of_lt_of_le hz (small _ (by decide))), s_0, kvsB_put h]
theorem wp_dput {v f i : Ev} {env : E3} {st s1 s2 s3 s4 : Store} {x y w : W} {Q : Fl → E3 → Store → Prop} (h1 : v env st = some (w, s1)) (h2 : f env s1 = some (x, s2)) (h3 : i env s2 = some (y, s3)) (h4 : opDPut x y w s3 = some s4) (q : Q .nx env s4) : Wp (bDPut v f i) env st Q := by
  refine ⟨.nx, env, s4, ?_, q⟩
  unfold bDPut
  rw [h1, Option.bind_some]
  simp only [h2, h3, h4, Option.bind_some, Option.map_some]
theorem len_1I {a : Cell} (l : List Int) : opLen [.loc (st.length + 1)] (st ++ (a :: cellI l :: rest)) = some (.dat (.int l.length), st ++ (a :: cellI l :: rest)) := by
  have h : (st ++ (a :: cellI l :: rest))[st.length + 1]? = some (.list ((l.map .int).map .dat)) := c_1
  rw [o_lenC h, List.length_map, List.length_map]
theorem idx_cell {n : Nat} {l : List Int} {i : Nat} {x : Int} (h : st[n]? = some (cellI l)) (hi : l[i]? = some x) : opIdx (.loc n) (.dat (.int i)) st = some (.dat (.int x), st) := by
  have hil := (List.getElem?_eq_some_iff.mp hi).1
  have ha : atI ((l.map PyData.int).map W.dat) (i : Int) = some (.dat (.int x)) := by
    unfold atI ixN
    rw [if_pos (by omega), if_pos (by rw [List.length_map, List.length_map]; omega)]
    show ((l.map PyData.int).map W.dat)[((i : Int)).toNat]? = _
    rw [Int.toNat_natCast, List.getElem?_map, List.getElem?_map, hi]; rfl
  have hs : seqOf st (.loc n) = some ((l.map PyData.int).map W.dat) := by simp only [seqOf, h, cellI]
  simp only [opIdx, hs, ha, Option.map_some]
theorem idx_1I {a : Cell} {l : List Int} {i : Nat} {x : Int} (hi : l[i]? = some x) : opIdx (.loc (st.length + 1)) (.dat (.int i)) (st ++ (a :: cellI l :: rest)) = some (.dat (.int x), st ++ (a :: cellI l :: rest)) := idx_cell c_1 hi
theorem newWay {env : E3} {i : Nat} {a : Int} (h : env[i]? = some (some (.dat (.int a)))) : aCons (bDisp [(bVar i, bDat .none)]) (aCons (bN opLstNew (aCons (bVar i) aNil)) (aCons (bDat (.int 0)) aNil)) env st = some ([.loc st.length, .loc (st.length + 1), .dat (.int 0)], st ++ [.dict (kvsB [(a, none)]), cellI [a]]) := by
  have h1 : bDisp [(bVar i, bDat .none)] env st = some (.loc st.length, st ++ [.dict (kvsB [(a, none)])]) := by
    unfold bDisp pairsE
    rw [r_var h, Option.bind_some]
    rfl
  have h2 : opLstNew [.dat (.int a)] (st ++ [.dict (kvsB [(a, none)])]) = some (.loc (st.length + 1), st ++ [.dict (kvsB [(a, none)]), cellI [a]]) := by
    unfold opLstNew
    rw [if_pos (show [W.dat (PyData.int a)].length ≤ sizeLine from small 1 (by decide)), List.length_append, List.append_assoc]
    rfl
  exact r_aCons h1 (r_aCons (r_bN (r_aCons (r_var h) r_aNil) h2) (r_aCons r_dat r_aNil))
theorem isN_B (q : Option (Int × Int)) : opIs true (.dat (encB q)) (.dat .none) st = some (.dat (.bool q.isSome), st) := by cases q <;> rfl
theorem rev_0I (l : List Int) : opRev (.loc st.length) (st ++ (cellI l :: rest)) = some (.dat (li l.reverse), st ++ (cellI l :: rest)) := by
  have h : (st ++ (cellI l :: rest))[st.length]? = some (.list ((l.map PyData.int).map .dat)) := c_0
  simp only [opRev, h, dats]
  rw [← List.map_reverse]
  rfl
theorem iadd_int (a b : Int) : opIAdd (.dat (.int a)) (.dat (.int b)) st = some (.dat (.int (a + b)), st) := rfl
end
theorem ord_len {n : Nat} {o : Ord} (nd : (o.map (·.1)).Nodup) (hr : ∀ x ∈ o.map (·.1), 0 ≤ x ∧ x < (n : Int)) : o.length ≤ n := by
  have := nd_le nd (q := rgN n) fun x hx => mem_rgN.mpr (hr x hx)
  rw [List.length_map] at this
  unfold rgN at this
  rwa [List.length_map, List.length_range] at this
theorem mem_tiesBy {ts : List (Int × Int)} {p : Int × Int → Bool} {x : Int} : x ∈ tiesBy p ts ↔ (0 ≤ x ∧ x < ts.length) ∧ p (tieAt ts x) = true := by
  unfold tiesBy tieAt
  rw [List.mem_map]
  constructor
  · rintro ⟨y, hy, rfl⟩
    obtain ⟨h1, h2⟩ := List.mem_filter.mp hy
    have h3 : ts[y.2]? = some y.1 := List.mk_mem_zipIdx_iff_getElem?.mp h1
    have h4 := (List.getElem?_eq_some_iff.mp h3).1
    refine ⟨by omega, ?_⟩
    rw [Int.toNat_natCast, List.getD_eq_getElem?_getD, h3]
    exact h2
  · rintro ⟨⟨h1, h2⟩, h3⟩
    have hl : x.toNat < ts.length := by omega
    refine ⟨(ts[x.toNat], x.toNat), List.mem_filter.mpr ⟨List.mk_mem_zipIdx_iff_getElem?.mpr (List.getElem?_eq_getElem hl), ?_⟩, by omega⟩
    rw [List.getD_eq_getElem?_getD, List.getElem?_eq_getElem hl] at h3
    exact h3
end L3
namespace L3
theorem otherE_of {ts : List (Int × Int)} {e u v : Int} (h : Ends ts e u v) : otherE ts e u = v := by
  unfold otherE
  rcases h with h | h <;> rw [h]
  · simp
  · simp only
    split
    · rename_i q; exact q
    · rfl
theorem Ends.mem {ts : List (Int × Int)} {e u v : Int} (h : Ends ts e u v) : u ∈ pl (tieAt ts e) := by
  rcases h with h | h <;> rw [h] <;> simp [pl]
end L3
set_option Elab.async false
set_option linter.all false
set_option maxRecDepth 100000
set_option maxHeartbeats 400000
set_option autoImplicit false
/-! Exchanges between two trees. -/
namespace L3
open PySem PySem.Spec PyProof.Rows L2
def lessE (lot : List Int) (x : Int) : List Int := lot.filter fun y => !decide (y = x)
theorem mem_lessE {lot : List Int} {x y : Int} : y ∈ lessE lot x ↔ y ∈ lot ∧ y ≠ x := by
  unfold lessE; rw [List.mem_filter]; simp
theorem conn_sub {ts : List (Int × Int)} {A B : List Int} (hs : ∀ y ∈ A, y ∈ B) {p q : Int} (c : Conn (toldL ts A) p q) : Conn (toldL ts B) p q := c.mono fun t ht => by
  obtain ⟨y, hy, rfl⟩ := List.mem_map.mp ht
  exact List.mem_map_of_mem (hs y hy)
/-- the ties on the way between the ends of a tie -/
structure RingW (ts : List (Int × Int)) (lot : List Int) (x : Int) (W : List Int) : Prop where
  sub : ∀ e ∈ W, e ∈ lot
  nd : W.Nodup
  iff : ∀ e ∈ lot, (e ∈ W ↔ ¬ Conn (toldL ts (lessE lot e)) (tieAt ts x).1 (tieAt ts x).2)
  conn : Conn (toldL ts W) (tieAt ts x).1 (tieAt ts x).2
theorem ringW {n : Nat} {ts : List (Int × Int)} {lot : List Int} (hr : Rng n ts) (h : TreeLot n ts lot) {x : Int} {o : Ord} {i : Nat} {W : List Int} (hR : Reach ts lot (tieAt ts x).1 o.length o) (t : Tr o i (tieAt ts x).2 W) : RingW ts lot x W := by
  obtain ⟨c, nd, sp⟩ := t.facts hR
  have hin := t.in hR
  refine ⟨hin, nd, fun e he => ⟨fun heW cc => ?_, fun cc => ?_⟩, c⟩
  · obtain ⟨u, v, hE, c1, c2⟩ := sp e heW
    have hs : ∀ y ∈ W.filter (fun y => !decide (y = e)), y ∈ lessE lot e := fun y hy => by
      obtain ⟨h1, h2⟩ := List.mem_filter.mp hy
      exact mem_lessE.mpr ⟨hin y h1, by simpa using h2⟩
    have cuv : Conn (toldL ts (lessE lot e)) u v := ((conn_sub hs c1).symm.trans cc).trans (conn_sub hs c2).symm
    have := (tree_less hr h he).2
    rcases hE with hE | hE
    · unfold tieAt at hE; rw [hE] at this; exact this cuv
    · unfold tieAt at hE; rw [hE] at this; exact this cuv.symm
  · exact Classical.byContradiction fun heW => cc (conn_sub (fun y hy => mem_lessE.mpr ⟨hin y hy, fun z => by subst z; exact heW hy⟩) c)
theorem insI_len {x : Int} : ∀ {l : List Int}, x ∉ l → (insI x l).length = l.length + 1
  | [], _ => rfl
  | y :: l, h => by
    unfold insI
    split
    · rfl
    · split
      · rename_i e; exact absurd (by rw [e]; exact List.mem_cons_self) h
      · rw [List.length_cons, insI_len fun q => h (List.mem_cons_of_mem _ q), List.length_cons]
theorem sset_nd {l : List Int} (h : l.Nodup) : (sset l).length = l.length := by
  induction l with
  | nil => rfl
  | cons x l ih =>
    rw [List.nodup_cons] at h
    unfold sset
    rw [insI_len fun q => h.1 (mem_sset.mp q), ih h.2, List.length_cons]
/-- what _law_is_tree tells -/
def treeB (n : Nat) (ts : List (Int × Int)) (lot : List Int) : Bool := (decide (((sset lot).length : Int) = n - 1) && decide ((n : Int) - 1 = lot.length)) && decide (((cnt n (toldL ts lot) : Nat) : Int) = n - lot.length)
theorem treeB_of {n : Nat} {ts : List (Int × Int)} {lot : List Int} (h : TreeLot n ts lot) : treeB n ts lot = true := by
  have nd : lot.Nodup := h.inc.imp fun q => Int.ne_of_lt q
  have h1 := h.len
  have h2 := h.one
  unfold treeB
  rw [sset_nd nd]
  simp only [Bool.and_eq_true, decide_eq_true_eq]
  omega
theorem treeB_iff {n : Nat} {ts : List (Int × Int)} {t' : List Int} (hr : Rng n ts) (nd : t'.Nodup) (hv : ∀ x ∈ t', 0 ≤ x ∧ x < ts.length) (hl : t'.length + 2 = n) (h2 : cnt n (toldL ts t') = 2) {x : Int} (hx : 0 ≤ x ∧ x < ts.length) :
    treeB n ts (sI (t' ++ [x])) = true ↔ ¬ Conn (toldL ts t') (tieAt ts x).1 (tieAt ts x).2 := by
  have hp := sI_perm (t' ++ [x])
  have hlen : (sI (t' ++ [x])).length = t'.length + 1 := by rw [hp.length_eq, List.length_append]; rfl
  have hv2 : ∀ y ∈ sI (t' ++ [x]), 0 ≤ y ∧ y < ts.length := fun y hy => by
    rcases List.mem_append.mp (hp.mem_iff.mp hy) with hy | hy
    · exact hv y hy
    · rw [List.mem_singleton.mp hy]; exact hx
  have hab := hr _ (getD_mem hx.1 hx.2)
  have hc : cnt n (toldL ts (sI (t' ++ [x]))) = cnt n (toldL ts t' ++ [((tieAt ts x).1, (tieAt ts x).2)]) := by
    rw [cnt_perm (told_perm (ts := ts) hp) (told_rngN hr hv2), told_app]; rfl
  have hrt := told_rngN hr hv
  unfold treeB
  rw [hc, hlen]
  simp only [Bool.and_eq_true, decide_eq_true_eq]
  constructor
  · rintro ⟨_, h3⟩ c
    rw [cnt_tied (a := (tieAt ts x).1) (b := (tieAt ts x).2) hrt hab.1 hab.2 c, h2] at h3
    omega
  · intro c
    have h3 := cnt_new (a := (tieAt ts x).1) (b := (tieAt ts x).2) hrt hab.1 hab.2 c
    have hnx : x ∉ t' := fun hx' => c (Conn.one (told_mem.mpr ⟨x, hx', .inl rfl⟩))
    have nd2 : (sI (t' ++ [x])).Nodup := hp.nodup_iff.mpr (by
      rw [List.nodup_append]
      exact ⟨nd, by simp, fun y hy z hz q => by rw [List.mem_singleton.mp hz] at q; subst q; exact hnx hy⟩)
    rw [sset_nd nd2, hlen]
    omega
theorem lessE_len {lot : List Int} (nd : lot.Nodup) {x : Int} (hx : x ∈ lot) : (lessE lot x).length + 1 = lot.length := by
  have := (less_perm nd hx).length_eq
  rw [List.length_append, List.length_singleton] at this
  exact this.symm
/-- min(xs) -/
theorem min_first {l m : List Int} (hl : l.Pairwise (· < ·)) {x : Int} {r : List Int} (h : l = x :: r) (e : ∀ y, y ∈ m ↔ y ∈ l) : ∃ z zs, m = z :: zs ∧ zs.foldl min z = x := by
  subst h
  match m, e with
  | [], e => have := (e x).mpr List.mem_cons_self; cases this
  | z :: zs, e =>
    refine ⟨z, zs, rfl, ?_⟩
    have h1 := foldl_min_le zs z
    have h2 := (e _).mp (foldl_min_mem zs z)
    have hx := (e x).mpr List.mem_cons_self
    have h3 : zs.foldl min z ≤ x := by
      rcases List.mem_cons.mp hx with q | q
      · subst q; exact h1.1
      · exact h1.2 x q
    rcases List.mem_cons.mp h2 with q | q
    · exact q
    · have := (List.pairwise_cons.mp hl).1 _ q; omega
section
variable {n : Nat} {ts : List (Int × Int)} {tree other : List Int} {tie : Int} {p q : List Int}
/-- the cut: the ties whose ends are apart -/
theorem cut_iff (hr : Rng n ts) (ht : TreeLot n ts tree) (htie : tie ∈ tree) (hg : groups (labF (toldL ts (lessE tree tie))) n = [p, q])
    (hsep : ∀ x y : Int, (0 ≤ x ∧ x < n) → (0 ≤ y ∧ y < n) → ((decide (x ∈ p) != decide (y ∈ p)) = true ↔ ¬ Conn (toldL ts (lessE tree tie)) x y)) {e : Int} :
    e ∈ tiesBy (fun t => decide (t.1 ∈ p) != decide (t.2 ∈ p)) ts ↔ (0 ≤ e ∧ e < ts.length) ∧ ¬ Conn (toldL ts (lessE tree tie)) (tieAt ts e).1 (tieAt ts e).2 := by
  rw [mem_tiesBy]
  constructor
  · rintro ⟨h1, h2⟩
    have := hr _ (getD_mem h1.1 h1.2)
    exact ⟨h1, (hsep _ _ this.1 this.2).mp h2⟩
  · rintro ⟨h1, h2⟩
    have := hr _ (getD_mem h1.1 h1.2)
    exact ⟨h1, (hsep _ _ this.1 this.2).mpr h2⟩
/-- some tie of a way is in the cut -/
theorem cut_way (hr : Rng n ts) (ht : TreeLot n ts tree) (htie : tie ∈ tree) {W : List Int} (hW : RingW ts other tie W) : ∃ e ∈ W, ¬ Conn (toldL ts (lessE tree tie)) (tieAt ts e).1 (tieAt ts e).2 := by
  apply Classical.byContradiction
  intro hn
  have hn' : ∀ e ∈ W, Conn (toldL ts (lessE tree tie)) (tieAt ts e).1 (tieAt ts e).2 := fun e he => Classical.byContradiction fun c => hn ⟨e, he, c⟩
  refine (tree_less hr ht htie).2 ?_
  have key : ∀ {x y : Int}, Conn (toldL ts W) x y → Conn (toldL ts (lessE tree tie)) x y := fun {x y} c => by
    induction c with
    | refl => exact .refl _
    | step _ e ih =>
      obtain ⟨f, hf, hE⟩ := told_mem.mp e
      have hc := hn' f hf
      rcases hE with hE | hE
      · rw [hE] at hc; exact ih.trans hc
      · rw [hE] at hc; exact ih.trans hc.symm
  exact key hW.conn
end
end L3
set_option Elab.async false
set_option linter.all false
set_option maxRecDepth 100000
set_option maxHeartbeats 400000
set_option autoImplicit false
/-! Drawn webs that hang together, drawn trees. -/
namespace L3
open PySem PySem.Spec PyProof.Rows L2
section
variable {st : Store} {a : Cell} {rest : Store}
theorem len_0I {k0 : Nat} (hk0 : k0 = st.length) (l : List Int) : opLen [.loc k0] (st ++ (cellI l :: rest)) = some (.dat (.int l.length), st ++ (cellI l :: rest)) := by
  subst hk0
  have h : (st ++ (cellI l :: rest))[st.length]? = some (.list ((l.map .int).map .dat)) := c_0
  rw [o_lenC h, List.length_map, List.length_map]
theorem pop_0I {k0 : Nat} (hk0 : k0 = st.length) {l : List Int} {k : Nat} {t : Int} (hk : l[k]? = some t) (hz : k < 1000) : opPopAt (.loc k0) [.dat (.int k)] (st ++ (cellI l :: rest)) = some (.dat (.int t), st ++ (cellI (l.eraseIdx k) :: rest)) := by
  subst hk0
  have hl := (List.getElem?_eq_some_iff.mp hk).1
  have h : (st ++ (cellI l :: rest))[st.length]? = some (.list ((l.map .int).map .dat)) := c_0
  simp only [opPopAt, h]
  rw [if_pos ⟨by omega, by omega⟩, List.length_map, List.length_map, six hl, Option.bind_some, List.getElem?_map, List.getElem?_map, hk]
  show some (W.dat (.int t), _) = _
  rw [s_0]
  unfold cellI
  rw [erase_map, erase_map]
theorem newRg {k : Int} (h : rgOk 0 k = true) : opRg false true (.dat (.int 0)) (.dat (.int k)) st = some (.loc st.length, st ++ [cellI (rgI 0 k)]) := by
  show (if rgOk 0 k = true then some (W.loc st.length, st ++ [.list ((rgD 0 k).map .dat)]) else none) = _
  rw [if_pos h, rgD_rgI]; rfl
end
/-- a new list whose items are drawn -/
theorem wp_compNewR {α : Type} {n i : Nat} {st ext : Store} {fi : Ei} {gt : Eg} {el : Ev} {vs : List Nat} {env env0 : E3} {a b : Int} {xs : List α} {e : α → W} {Q : Fl → E3 → Store → Prop} (hn : n < st.length) (hb : Drawn b)
    (hi : IterS fi env (st.set n (pc a b) ++ ext) (st.set n (pc a b) ++ ext) (fun _ => True) xs e) (hv : wipe3 env vs = env0) (G : α → PyData → Prop)
    (h : ∀ x ∈ xs, ∀ a b, Drawn b → ∃ env1 d x' y', gt (e x) env0 (st.set n (pc a b) ++ ext) = some (env1, st.set n (pc a b) ++ ext) ∧ el env1 (st.set n (pc a b) ++ ext) = some (.dat d, st.set n (pc x' y') ++ ext) ∧ Drawn y' ∧ G x d)
    (hq : ∀ (ds : List PyData) (x y : Int), Drawn y → ds.length = xs.length → (∀ (i : Nat) z d, xs[i]? = some z → ds[i]? = some d → G z d) → Q .nx (env.set i (some (.loc (st.set n (pc x y) ++ ext).length))) ((st.set n (pc x y) ++ ext) ++ [.list (ds.map .dat)])) : Wp (bAsg (bCompNew fi gt tAll el vs) (gNm i)) env (st.set n (pc a b) ++ ext) Q := by
  obtain ⟨it, h1, h2⟩ := hi.go
  obtain ⟨acc, st1, h3, x, y, ds, h4, h5, h6, h7, h8⟩ := compAll_inv (gt := gt) (t := tAll) (el := el) (vs := vs) h1 h2 (fun i s acc => ∃ (x y : Int) (ds : List PyData), s = st.set n (pc x y) ++ ext ∧ acc = ds.map .dat ∧ Drawn y ∧ ds.length = i ∧ ∀ (j : Nat) z d, xs[j]? = some z → ds[j]? = some d → G z d) (fun _ _ _ _ => trivial) ⟨a, b, [], rfl, rfl, hb, rfl, fun j z d _ q => by simp at q⟩ fun i w s acc hw ⟨x, y, ds, q1, q2, q3, q4, q5⟩ => by
    subst q1 q2
    rw [List.getElem?_map] at hw
    obtain ⟨z, hz, rfl⟩ := Option.map_eq_some_iff.mp hw
    obtain ⟨env1, d, x', y', k1, k2, k3, k4⟩ := h z (List.mem_of_getElem? hz) x y q3
    rw [hv]
    refine ⟨env1, _, true, _, k1, rfl, (fun q => by cases q), fun _ => ⟨_, _, k2, x', y', ds ++ [d], rfl, by simp, k3, by simp [q4], fun j z' d' hj hd => ?_⟩⟩
    by_cases hl : j < ds.length
    · rw [List.getElem?_append_left hl] at hd
      exact q5 j z' d' hj hd
    · have hjl : j = ds.length := by
        have := (List.getElem?_eq_some_iff.mp hd).1
        rw [List.length_append, List.length_singleton] at this; omega
      subst hjl
      rw [List.getElem?_append_right (Nat.le_refl _), Nat.sub_self] at hd
      cases hd
      rw [q4] at hj
      rw [hz] at hj
      cases hj
      exact k4
  subst h4 h5
  rw [List.length_map] at h7
  refine wp_asg (s1 := (st.set n (pc x y) ++ ext) ++ [.list (ds.map .dat)]) ?_ rfl (hq ds x y h6 h7 h8)
  unfold bCompNew
  rw [h3]
  rfl
theorem web_perm_cnt {n : Nat} {ts : List (Int × Int)} (h : Rng n ts) : cnt n (sP ts) = cnt n ts := (cnt_perm (sP_perm ts).symm h).symm
/-- each place is tied to one ahead -/
theorem hung_one {n : Nat} {ts : List (Int × Int)} (hr : Rng n ts) (hn : 0 < n) (h : ∀ x : Int, 1 ≤ x → x < n → ∃ u, (0 ≤ u ∧ u < x) ∧ (u, x) ∈ ts) : cnt n ts = 1 := by
  have key : ∀ k : Nat, k < n → Conn ts 0 k := by
    intro k
    induction k using Nat.strongRecOn with
    | ind k ih =>
      intro hk
      by_cases h0 : k = 0
      · subst h0; exact .refl _
      · obtain ⟨u, hu, hm⟩ := h k (by omega) (by omega)
        obtain ⟨j, rfl⟩ : ∃ j : Nat, u = j := ⟨u.toNat, by omega⟩
        exact .step (ih j (by omega) (by omega)) (.inl hm)
  refine (cnt_one hr hn).mpr fun x y hx hy => ?_
  obtain ⟨i, rfl⟩ : ∃ i : Nat, x = i := ⟨x.toNat, by omega⟩
  obtain ⟨j, rfl⟩ : ∃ j : Nat, y = j := ⟨y.toNat, by omega⟩
  exact (key i (by omega)).symm.trans (key j (by omega))
/-- a grove that grows tie by tie: F is found, L is left -/
structure Grow (n : Nat) (ts : List (Int × Int)) (F L : List Int) : Prop where
  inc : F.Pairwise (· < ·)
  rng : ∀ x ∈ F, 0 ≤ x ∧ x < ts.length
  lrng : ∀ x ∈ L, 0 ≤ x ∧ x < ts.length
  lnd : L.Nodup
  out : ∀ x ∈ F, x ∉ L
  grove : cnt n (toldL ts F) + F.length = n
  done : ∀ x : Int, (0 ≤ x ∧ x < ts.length) → x ∈ L ∨ Conn (toldL ts F) (tieAt ts x).1 (tieAt ts x).2
theorem Grow.start (n : Nat) (ts : List (Int × Int)) : Grow n ts [] (rgI 0 ts.length) :=
  ⟨.nil, fun x h => (by cases h), fun x h => mem_rgI.mp h, (rgI_inc 0 _).imp fun q => Int.ne_of_lt q, fun x h => (by cases h), by rw [show toldL ts [] = [] from rfl, cnt_nil]; rfl, fun x h => .inl (mem_rgI.mpr h)⟩
theorem insert_inc {F : List Int} (h : F.Pairwise (· < ·)) {x : Int} (hx : x ∉ F) : (sI (F ++ [x])).Pairwise (· < ·) := by
  have nd : (sI (F ++ [x])).Nodup := (sI_perm _).nodup_iff.mpr (by
    rw [List.nodup_append]
    exact ⟨h.imp fun q => Int.ne_of_lt q, by simp, fun y hy z hz q => by rw [List.mem_singleton.mp hz] at q; subst q; exact hx hy⟩)
  exact ((sI_sorted (F ++ [x])).and nd).imp fun q => by have := q.1; have := q.2; omega
theorem Grow.step {n : Nat} {ts : List (Int × Int)} {F L : List Int} (hr : Rng n ts) (g : Grow n ts F L) {k : Nat} {x : Int} (hk : L[k]? = some x) (hF : F.length < n) : (decide (((cnt n (toldL ts (sI (F ++ [x]))) : Nat) : Int) = (n : Int) - (sI (F ++ [x])).length) = true ∧ Grow n ts (sI (F ++ [x])) (L.eraseIdx k)) ∨ (decide (((cnt n (toldL ts (sI (F ++ [x]))) : Nat) : Int) = (n : Int) - (sI (F ++ [x])).length) = false ∧ Grow n ts F (L.eraseIdx k)) := by
  have hxL := List.mem_of_getElem? hk
  have hx := g.lrng x hxL
  have hp := sI_perm (F ++ [x])
  have hlen : (sI (F ++ [x])).length = F.length + 1 := by rw [hp.length_eq, List.length_append]; rfl
  have hlp := erase_perm hk
  have hxF : x ∉ F := fun q => g.out x q hxL
  have hrF := told_rngN hr g.rng
  have hrng : ∀ y ∈ sI (F ++ [x]), 0 ≤ y ∧ y < ts.length := fun y hy => by
    rcases List.mem_append.mp (hp.mem_iff.mp hy) with hy | hy
    · exact g.rng y hy
    · rw [List.mem_singleton.mp hy]; exact hx
  have hab := hr _ (getD_mem hx.1 hx.2)
  have hc : cnt n (toldL ts (sI (F ++ [x]))) = cnt n (toldL ts F ++ [((tieAt ts x).1, (tieAt ts x).2)]) := by
    rw [cnt_perm (told_perm (ts := ts) hp) (told_rngN hr hrng), told_app]; rfl
  have nd1 := hlp.nodup_iff.mp g.lnd
  rw [List.nodup_cons] at nd1
  have hsub : ∀ y ∈ L.eraseIdx k, y ∈ L := fun y hy => hlp.mem_iff.mpr (List.mem_cons_of_mem _ hy)
  rw [hc, hlen]
  by_cases c : Conn (toldL ts F) (tieAt ts x).1 (tieAt ts x).2
  · right
    have e := cnt_tied (a := (tieAt ts x).1) (b := (tieAt ts x).2) hrF hab.1 hab.2 c
    have hg := g.grove
    refine ⟨decide_eq_false (by omega), g.inc, g.rng, fun y hy => g.lrng y (hsub y hy), nd1.2, fun y hy q => g.out y hy (hsub y q), hg, fun y hy => ?_⟩
    rcases g.done y hy with q | q
    · rcases List.mem_cons.mp (hlp.mem_iff.mp q) with e | q
      · subst e; exact .inr c
      · exact .inl q
    · exact .inr q
  · left
    have e := cnt_new (a := (tieAt ts x).1) (b := (tieAt ts x).2) hrF hab.1 hab.2 c
    have hg := g.grove
    have mono : ∀ {p q : Int}, Conn (toldL ts F) p q → Conn (toldL ts (sI (F ++ [x]))) p q := fun {p q} c => conn_sub (fun y hy => hp.mem_iff.mpr (List.mem_append_left _ hy)) c
    refine ⟨decide_eq_true (by omega), insert_inc g.inc hxF, hrng, fun y hy => g.lrng y (hsub y hy), nd1.2, fun y hy q => ?_, by rw [hc, hlen]; omega, fun y hy => ?_⟩
    · rcases List.mem_append.mp (hp.mem_iff.mp hy) with hy | hy
      · exact g.out y hy (hsub y q)
      · rw [List.mem_singleton.mp hy] at q; exact nd1.1 q
    · rcases g.done y hy with q | q
      · rcases List.mem_cons.mp (hlp.mem_iff.mp q) with e' | q
        · subst e'
          exact .inr (Conn.one (told_mem.mpr ⟨y, hp.mem_iff.mpr (by simp), .inl rfl⟩))
        · exact .inl q
      · exact .inr (mono q)
theorem Grow.tree {n : Nat} {ts : List (Int × Int)} {F : List Int} (hr : Rng n ts) (hn : 0 < n) (h1 : cnt n ts = 1) (g : Grow n ts F []) : TreeLot n ts F := by
  have hrF := told_rngN hr g.rng
  have hc : cnt n (toldL ts F) = 1 := by
    refine (cnt_one hrF hn).mpr fun x y hx hy => ?_
    have c := (cnt_one hr hn).mp h1 x y hx hy
    have key : ∀ {p q : Int}, Conn ts p q → Conn (toldL ts F) p q := fun {p q} c => by
      induction c with
      | refl => exact .refl _
      | @step y z _ e ih =>
        have one : ∀ {t : Int × Int}, t ∈ ts → Conn (toldL ts F) t.1 t.2 := fun {t} ht => by
          obtain ⟨i, hi⟩ := List.getElem?_of_mem ht
          have hil := (List.getElem?_eq_some_iff.mp hi).1
          have := (g.done i ⟨by omega, by omega⟩).resolve_left (by simp)
          unfold tieAt at this
          rwa [Int.toNat_natCast, List.getD_eq_getElem?_getD, hi] at this
        rcases e with e | e
        · exact ih.trans (one e)
        · exact ih.trans (one e).symm
    exact key c
  have := g.grove
  exact ⟨g.inc, g.rng, by omega, hc⟩
theorem Grow.small {n : Nat} {ts : List (Int × Int)} {F L : List Int} (hr : Rng n ts) (hn : 0 < n) (g : Grow n ts F L) : F.length < n := by
  have := cnt_pos (told_rngN hr g.rng) hn
  have := g.grove
  omega
end L3
namespace L3
theorem rowOf {m : Int} {ds : List PySem.PyData} (hl : ds.length = (rgI 1 m).length) (h : ∀ (i : Nat) z d, (rgI 1 m)[i]? = some z → ds[i]? = some d → ∃ u : Int, (0 ≤ u ∧ u < z) ∧ d = tt (u, z)) :
    ∃ row : List (Int × Int), ds = row.map tt ∧ (∀ t ∈ row, 0 ≤ t.1 ∧ t.1 < t.2 ∧ t.2 < m) ∧ ∀ x : Int, 1 ≤ x → x < m → ∃ u, (0 ≤ u ∧ u < x) ∧ (u, x) ∈ row := by
  have key : ∀ (l : List Int) (ds : List PySem.PyData), ds.length = l.length → (∀ (i : Nat) z d, l[i]? = some z → ds[i]? = some d → ∃ u : Int, (0 ≤ u ∧ u < z) ∧ d = tt (u, z)) → ∃ row : List (Int × Int), ds = row.map tt ∧ row.map (·.2) = l ∧ ∀ t ∈ row, 0 ≤ t.1 ∧ t.1 < t.2 := by
    intro l
    induction l with
    | nil => intro ds hl _; exact ⟨[], List.eq_nil_of_length_eq_zero hl, rfl, fun t h => by cases h⟩
    | cons z l ih =>
      intro ds hl h
      match ds, hl with
      | d :: ds, hl =>
        obtain ⟨u, hu, rfl⟩ := h 0 z d rfl rfl
        obtain ⟨row, h1, h2, h3⟩ := ih ds (by simpa using hl) fun i z' d' hz hd => h (i + 1) z' d' hz hd
        refine ⟨(u, z) :: row, by rw [h1]; rfl, by rw [List.map_cons, h2], fun t ht => ?_⟩
        rcases List.mem_cons.mp ht with e | ht
        · subst e; exact hu
        · exact h3 t ht
  obtain ⟨row, h1, h2, h3⟩ := key _ _ hl h
  refine ⟨row, h1, fun t ht => ?_, fun x hx1 hx2 => ?_⟩
  · have : t.2 ∈ rgI 1 m := by rw [← h2]; exact List.mem_map_of_mem ht
    have := mem_rgI.mp this
    have := h3 t ht
    omega
  · have : x ∈ row.map (·.2) := by rw [h2]; exact mem_rgI.mpr ⟨hx1, hx2⟩
    obtain ⟨t, ht, rfl⟩ := List.mem_map.mp this
    exact ⟨t.1, h3 t ht, ht⟩
end L3
set_option Elab.async false
set_option linter.all false
set_option maxRecDepth 100000
set_option maxHeartbeats 400000
set_option autoImplicit false
namespace K18
open PySem PySem.Spec PyProof.Rows L2 L3
abbrev row : PySem.W.OpenRow := PySem.W.OpenLaw.row PySem.Challenge.rw_grovesapart_k18_whole_exchanges_and_cuts
def top (i : Nat) : Stmt := PySem.Challenge.pw_grovesapart_k18_whole_exchanges_and_cuts.main.body.getD i (.Pass ⟨0, 0, 0, 0⟩)
/-! ### readings -/
def b__law_pot : Eb := bSeq (bAsg (bIf (tBl (b2 opLt (bVar 1) (bN opLen (aCons (bVar 0) (aNil))))) (bN opAbs (aCons (b2 opIdx (bVar 0) (bVar 1)) (aNil))) (b2 opAdd (b2 opMul (bDat (.int 19507)) (bVar 1)) (bDat (.int 20873)))) (gNm 2)) (bRet (bN opLstNew (aCons (bN opMax (aCons (bDat (.int 0)) (aCons (b2 opSub (bVar 2) (b2 opPow (bDat (.int 10)) (bDat (.int 18)))) (aNil)))) (aCons (b2 opAdd (b2 opMod (bN opInt (aCons (b2 opAdd (b2 opAdd (b2 opMul (b2 opMod (bN opInt (aCons (bVar 2) (aNil))) (bDat (.int 2147483549))) (bDat (.int 17729))) (b2 opMul (bDat (.int 17957)) (bVar 1))) (bDat (.int 907))) (aNil))) (bDat (.int 2147483563))) (bDat (.int 1))) (aNil)))))
noncomputable def F__law_pot : OpN := runB false 3 2 b__law_pot
def b__law_draw : Eb := bSeq (bIfS (tBl (b2 opGt (b2 opIdx (bVar 0) (bDat (.int 0))) (bDat (.int 0)))) (bSeq (bAsg (bN opDivmod (aCons (b2 opIdx (bVar 0) (bDat (.int 0))) (aCons (bVar 1) (aNil)))) (gTp 2 (gCn (gSb (bVar 0) (bDat (.int 0))) (gCn (gNm 2) (gNl))))) (bRet (bVar 2))) (bPass)) (bSeq (bAsg (b2 opMod (bN opInt (aCons (b2 opAdd (b2 opMul (b2 opIdx (bVar 0) (bDat (.int 1))) (bDat (.int 40692))) (bDat (.int 17957))) (aNil))) (bDat (.int 2147483399))) (gSb (bVar 0) (bDat (.int 1)))) (bRet (b2 opMod (bN opInt (aCons (b2 opDiv (b2 opMod (bN opInt (aCons (b2 opMul (b2 opIdx (bVar 0) (bDat (.int 1))) (b2 opIdx (bVar 0) (bDat (.int 1)))) (aNil))) (bDat (.int 2147483323))) (bDat (.int 19))) (aNil))) (bVar 1))))
noncomputable def F__law_draw : OpN := runB true 3 2 b__law_draw
def b__law_parts : Eb := bSeq (bPar2 2 3 (aCons (bN opLstNew (aNil)) (aCons (bN opLstNew (aNil)) (aNil)))) (bSeq (bFor (iRange (bDat (.int 0)) (bVar 0)) (gNm 4) (bIfS (tBl (b2 (opIn true) (bVar 4) (bVar 3))) (bSeq (bAsg (bN opLst (aCons (bVar 4) (aNil))) (gNm 5)) (bSeq (bFor (iRange (bDat (.int 0)) (bVar 0)) (gNm 6) (bSeq (bAsg (bN opLstNew (aNil)) (gNm 7)) (bSeq (bFor (iSeq (bVar 1)) (gTp 2 (gCn (gNm 8) (gCn (gNm 9) (gNl)))) (bSeq (bExp (bMeth opExtend (bVar 7) (aCons (bIf (tBl (b2 (opIn false) (bVar 8) (bVar 5))) (bN opLst (aCons (bVar 9) (aNil))) (bN opLst (aNil))) (aNil)))) (bExp (bMeth opExtend (bVar 7) (aCons (bIf (tBl (b2 (opIn false) (bVar 9) (bVar 5))) (bN opLst (aCons (bVar 8) (aNil))) (bN opLst (aNil))) (aNil)))))) (bAsg (b1 opSortSetL (b2 opAddL (bVar 5) (bVar 7))) (gNm 5))))) (bSeq (bExp (bMeth opAppend (bVar 2) (aCons (bN opTuple (aCons (bVar 5) (aNil))) (aNil)))) (bExp (bMeth opExtend (bVar 3) (aCons (bVar 5) (aNil))))))) (bPass))) (bRet (bVar 2)))
noncomputable def F__law_parts : OpN := runB true 10 2 b__law_parts
def b__law_told : Eb := bRet (bComp (iSeq (bVar 1)) (gNm 2) (tAll) (b2 opIdx (b2 opIdx (bVar 0) (bDat (.int 2))) (bVar 2)) [2])
noncomputable def F__law_told : OpN := runB true 3 2 b__law_told
noncomputable def b__law_is_grove : Eb := bRet (b2 opEq (bN opLen (aCons (bN F__law_parts (aCons (b2 opIdx (bVar 0) (bDat (.int 1))) (aCons (bN F__law_told (aCons (bVar 0) (aCons (bVar 1) (aNil)))) (aNil)))) (aNil))) (b2 opSub (b2 opIdx (bVar 0) (bDat (.int 1))) (bN opLen (aCons (bVar 1) (aNil)))))
noncomputable def F__law_is_grove : OpN := runB true 2 2 b__law_is_grove
noncomputable def b__law_tree : Eb := bSeq (bPar2 2 3 (aCons (b2 (opRg false true) (bDat (.int 0)) (bN opLen (aCons (b2 opIdx (bVar 1) (bDat (.int 2))) (aNil)))) (aCons (bN opTup (aNil)) (aNil)))) (bSeq (bFor (iRange (bDat (.int 0)) (bN opLen (aCons (bVar 2) (aNil)))) (gNm 4) (bSeq (bAsg (bMeth opPopAt (bVar 2) (aCons (bN F__law_draw (aCons (bVar 0) (aCons (bN opLen (aCons (bVar 2) (aNil))) (aNil)))) (aNil))) (gNm 5)) (bSeq (bAsg (bN opTuple (aCons (bN opSorted (aCons (b2 opAdd (bVar 3) (bN opTup (aCons (bVar 5) (aNil)))) (aNil))) (aNil))) (gNm 6)) (bAsg (bIf (tTru (bN F__law_is_grove (aCons (bVar 1) (aCons (bVar 6) (aNil))))) (bVar 6) (bVar 3)) (gNm 3))))) (bRet (bVar 3)))
noncomputable def F__law_tree : OpN := runB true 7 2 b__law_tree
def b_is_rising : Eb := bRet (bN opAll (aCons (bComp (iZip (bVar 0) (bSlice (bVar 0) (pSome (bDat (.int 1))) (pNone))) (gTp 2 (gCn (gNm 1) (gCn (gNm 2) (gNl)))) (tAll) (b2 opLt (bVar 1) (bVar 2)) [1, 2]) (aNil)))
noncomputable def F_is_rising : OpN := runB true 3 1 b_is_rising
def b_is_integer : Eb := bRet (bAnd (bN opIsinst (aCons (bVar 0) (aCons (bTy "int") (aNil)))) (bNot (bN opIsinst (aCons (bVar 0) (aCons (bTy "bool") (aNil))))))
noncomputable def F_is_integer : OpN := runB true 1 1 b_is_integer
noncomputable def b_is_count : Eb := bRet (bAnd (bN F_is_integer (aCons (bVar 0) (aNil))) (b2 opGe (bVar 0) (bDat (.int 0))))
noncomputable def F_is_count : OpN := runB true 1 1 b_is_count
noncomputable def b_is_below : Eb := bRet (bAnd (bN F_is_count (aCons (bVar 0) (aNil))) (b2 opLt (bVar 0) (bVar 1)))
noncomputable def F_is_below : OpN := runB true 2 2 b_is_below
noncomputable def b_is_tie_of : Eb := bRet (bN F_is_below (aCons (bVar 1) (aCons (bN opLen (aCons (b2 opIdx (bVar 0) (bDat (.int 2))) (aNil))) (aNil))))
noncomputable def F_is_tie_of : OpN := runB true 2 2 b_is_tie_of
noncomputable def b_is_lot_of : Eb := bRet (bAnd (bN opIsinst (aCons (bVar 1) (aCons (bTy "tuple") (aNil)))) (bAnd (bN opAll (aCons (bComp (iSeq (bVar 1)) (gNm 2) (tAll) (bN F_is_tie_of (aCons (bVar 0) (aCons (bVar 2) (aNil)))) [2]) (aNil))) (bN F_is_rising (aCons (bVar 1) (aNil)))))
noncomputable def F_is_lot_of : OpN := runB true 3 2 b_is_lot_of
def b_parts_of : Eb := bSeq (bAsg (b2 (opRg false false) (bDat (.int 0)) (b2 opIdx (bVar 0) (bDat (.int 1)))) (gNm 2)) (bSeq (bFor (iSeq (bVar 1)) (gNm 3) (bSeq (bAsg (bComp (iSeq (b2 opIdx (b2 opIdx (bVar 0) (bDat (.int 2))) (bVar 3))) (gNm 7) (tAll) (b2 opIdx (bVar 2) (bVar 7)) [7]) (gTp 2 (gCn (gNm 4) (gCn (gNm 5) (gNl))))) (bAsg (bComp (iSeq (bVar 2)) (gNm 8) (tAll) (bIf (tBl (b2 (opIn false) (bVar 8) (bN opTup (aCons (bVar 4) (aCons (bVar 5) (aNil)))))) (bN opMin (aCons (bVar 4) (aCons (bVar 5) (aNil)))) (bVar 8)) [8]) (gNm 2)))) (bSeq (bAsg (bDictNew) (gNm 6)) (bSeq (bFor (iEnu (bVar 2)) (gTp 2 (gCn (gNm 7) (gCn (gNm 8) (gNl)))) (bExp (bMeth opAppend (bSetd (bVar 6) (bVar 8) (bN opLstNew (aNil))) (aCons (bVar 7) (aNil))))) (bRet (bN opSorted (aCons (bLockE 6 (bComp (iValF 6) (gNm 8) (tAll) (bN opTuple (aCons (bVar 8) (aNil))) [8])) (aNil)))))))
noncomputable def F_parts_of : OpN := runB true 9 2 b_parts_of
noncomputable def b_span_of : Eb := bRet (b2 opSub (b2 opIdx (bVar 0) (bDat (.int 1))) (bN opLen (aCons (bN F_parts_of (aCons (bVar 0) (aCons (bVar 1) (aNil)))) (aNil))))
noncomputable def F_span_of : OpN := runB true 2 2 b_span_of
noncomputable def b_is_grove_of : Eb := bRet (b2 opEq (bN F_span_of (aCons (bVar 0) (aCons (bVar 1) (aNil)))) (bN opLen (aCons (bVar 1) (aNil))))
noncomputable def F_is_grove_of : OpN := runB true 2 2 b_is_grove_of
noncomputable def b_is_tree_lot : Eb := bRet (bAnd (b2 opEq (bN opLen (aCons (bVar 1) (aNil))) (b2 opSub (b2 opIdx (bVar 0) (bDat (.int 1))) (bDat (.int 1)))) (bN F_is_grove_of (aCons (bVar 0) (aCons (bVar 1) (aNil)))))
noncomputable def F_is_tree_lot : OpN := runB true 2 2 b_is_tree_lot
def b_is_row : Eb := bRet (bAnd (bN opIsinst (aCons (bVar 0) (aCons (bTy "tuple") (aNil)))) (b2 opEq (bN opLen (aCons (bVar 0) (aNil))) (bVar 1)))
noncomputable def F_is_row : OpN := runB true 2 2 b_is_row
noncomputable def b_are_ties : Eb := bSeq (bIfS (tOr3 (tNo (tTru (bN opIsinst (aCons (bVar 1) (aCons (bTy "tuple") (aNil)))))) (tOr3 (tBl (b2 opGt (bN opLen (aCons (bVar 1) (aNil))) (bDat (.int 40)))) (tNo (tTru (bN opAll (aCons (bComp (iSeq (bVar 1)) (gNm 2) (tAll) (bN F_is_row (aCons (bVar 2) (aCons (bDat (.int 2)) (aNil)))) [2]) (aNil))))))) (bRet (bDat (.bool false))) (bPass)) (bSeq (bIfS (tNo (tTru (bN opAll (aCons (bComp (iSeq (bVar 1)) (gTp 2 (gCn (gNm 3) (gCn (gNm 4) (gNl)))) (tAll) (bAnd (bN F_is_below (aCons (bVar 3) (aCons (bVar 0) (aNil)))) (bAnd (bN F_is_below (aCons (bVar 4) (aCons (bVar 0) (aNil)))) (b2 opLt (bVar 3) (bVar 4)))) [3, 4]) (aNil))))) (bRet (bDat (.bool false))) (bPass)) (bRet (bN opAll (aCons (bComp (iZip (bVar 1) (bSlice (bVar 1) (pSome (bDat (.int 1))) (pNone))) (gTp 2 (gCn (gNm 5) (gCn (gNm 6) (gNl)))) (tAll) (b2 opLe (bVar 5) (bVar 6)) [5, 6]) (aNil)))))
noncomputable def F_are_ties : OpN := runB true 7 2 b_are_ties
noncomputable def b_is_many : Eb := bRet (bAnd (bN F_is_integer (aCons (bVar 0) (aNil))) (bChain opLe opLe (bDat (.int 1)) (bVar 0) (bDat (.int 16))))
noncomputable def F_is_many : OpN := runB true 1 1 b_is_many
noncomputable def b_is_web_of : Eb := bSeq (bIfS (tOr3 (tNo (tTru (bN F_is_row (aCons (bVar 0) (aCons (bDat (.int 3)) (aNil)))))) (tOr3 (tNo (tTru (bN opIsinst (aCons (b2 opIdx (bVar 0) (bDat (.int 0))) (aCons (bTy "str") (aNil)))))) (tOr3 (tBl (b2 opNe (b2 opIdx (bVar 0) (bDat (.int 0))) (bDat (.str "web")))) (tNo (tTru (bN F_is_many (aCons (b2 opIdx (bVar 0) (bDat (.int 1))) (aNil)))))))) (bRet (bDat (.bool false))) (bPass)) (bRet (bN F_are_ties (aCons (b2 opIdx (bVar 0) (bDat (.int 1))) (aCons (b2 opIdx (bVar 0) (bDat (.int 2))) (aNil)))))
noncomputable def F_is_web_of : OpN := runB true 1 1 b_is_web_of
noncomputable def b_want_web : Eb := bSeq (bIfS (tNo (tTru (bN F_is_web_of (aCons (bVar 0) (aNil))))) (bBad) (bPass)) (bRet (bVar 0))
noncomputable def F_want_web : OpN := runB true 1 1 b_want_web
noncomputable def b_is_tree : Eb := bRet (bAnd (bN F_is_lot_of (aCons (bN F_want_web (aCons (bVar 0) (aNil))) (aCons (bVar 1) (aNil)))) (bN F_is_tree_lot (aCons (bVar 0) (aCons (bVar 1) (aNil)))))
noncomputable def F_is_tree : OpN := runB true 2 2 b_is_tree
noncomputable def b__law_is_tree : Eb := bRet (bAnd (bChain opEq opEq (b1 opLenSetT (bVar 1)) (b2 opSub (b2 opIdx (bVar 0) (bDat (.int 1))) (bDat (.int 1))) (bN opLen (aCons (bVar 1) (aNil)))) (bN F__law_is_grove (aCons (bVar 0) (aCons (bVar 1) (aNil)))))
noncomputable def F__law_is_tree : OpN := runB true 2 2 b__law_is_tree
noncomputable def b_want_tree : Eb := bSeq (bIfS (tOr3 (tNo (tTru (bN F_is_lot_of (aCons (bVar 0) (aCons (bVar 1) (aNil)))))) (tNo (tTru (bN F_is_tree_lot (aCons (bVar 0) (aCons (bVar 1) (aNil))))))) (bBad) (bPass)) (bRet (bVar 1))
noncomputable def F_want_tree : OpN := runB true 2 2 b_want_tree
def b_ties_at : Eb := bRet (bComp (iEnu (b2 opIdx (bVar 0) (bDat (.int 2)))) (gTp 2 (gCn (gNm 2) (gCn (gNm 3) (gNl)))) (tBl (b2 (opIn false) (bVar 1) (bVar 3))) (bVar 2) [2, 3])
noncomputable def F_ties_at : OpN := runB true 4 2 b_ties_at
def b_other_end : Eb := bSeq (bAsg (b2 opIdx (b2 opIdx (bVar 0) (bDat (.int 2))) (bVar 1)) (gTp 2 (gCn (gNm 3) (gCn (gNm 4) (gNl))))) (bRet (bIf (tBl (b2 opEq (bVar 2) (bVar 3))) (bVar 4) (bVar 3)))
noncomputable def F_other_end : OpN := runB true 5 3 b_other_end
noncomputable def b_way_in : Eb := bSeq (bPar3 4 5 6 (aCons (bDisp [(bVar 2, bDat .none)]) (aCons (bN opLstNew (aCons (bVar 2) (aNil))) (aCons (bDat (.int 0)) (aNil))))) (bSeq (bWhile (1000) (tBl (b2 opLt (bVar 6) (bN opLen (aCons (bVar 5) (aNil))))) (bSeq (bAsg (b2 opIdx (bVar 5) (bVar 6)) (gNm 7)) (bSeq (bFor (iSeq (bN F_ties_at (aCons (bVar 0) (aCons (bVar 7) (aNil))))) (gNm 8) (bSeq (bAsg (bN F_other_end (aCons (bVar 0) (aCons (bVar 8) (aCons (bVar 7) (aNil))))) (gNm 9)) (bIfS (tAn (tBl (b2 (opIn false) (bVar 8) (bVar 1))) (tBl (b2 (opDIn true) (bVar 9) (bVar 4)))) (bSeq (bDPut (bN opTup (aCons (bVar 8) (aCons (bVar 7) (aNil)))) (bVar 4) (bVar 9)) (bExp (bMeth opAppend (bVar 5) (aCons (bVar 9) (aNil))))) (bPass)))) (bAug 6 opIAdd (bDat (.int 1)))))) (bSeq (bIfS (tBl (b2 (opDIn true) (bVar 3) (bVar 4))) (bRet (bDat .none)) (bPass)) (bSeq (bAsg (bN opLstNew (aNil)) (gNm 10)) (bSeq (bWhile (1000) (tBl (b2 (opIs true) (b2 opGetD (bVar 4) (bVar 3)) (bDat .none))) (bSeq (bAsg (b2 opGetD (bVar 4) (bVar 3)) (gTp 2 (gCn (gNm 8) (gCn (gNm 3) (gNl))))) (bExp (bMeth opAppend (bVar 10) (aCons (bVar 8) (aNil)))))) (bRet (bN opTuple (aCons (bRev (bVar 10)) (aNil))))))))
noncomputable def F_way_in : OpN := runB true 11 4 b_way_in
noncomputable def b_ring_with : Eb := bSeq (bAsg (b2 opIdx (b2 opIdx (bVar 0) (bDat (.int 2))) (bVar 2)) (gTp 2 (gCn (gNm 3) (gCn (gNm 4) (gNl))))) (bSeq (bAsg (bN F_way_in (aCons (bVar 0) (aCons (bVar 1) (aCons (bVar 3) (aCons (bVar 4) (aNil)))))) (gNm 5)) (bRet (bIf (tBl (b2 (opIs false) (bVar 5) (bDat .none))) (bDat .none) (bN opTuple (aCons (bN opSorted (aCons (b2 opAdd (bVar 5) (bN opTup (aCons (bVar 2) (aNil)))) (aNil))) (aNil))))))
noncomputable def F_ring_with : OpN := runB true 6 3 b_ring_with
def b_without_tie : Eb := bRet (bN opTuple (aCons (bComp (iSeq (bVar 0)) (gNm 2) (tBl (b2 opNe (bVar 2) (bVar 1))) (bVar 2) [2]) (aNil)))
noncomputable def F_without_tie : OpN := runB true 3 2 b_without_tie
noncomputable def b_cut_by : Eb := bSeq (bAsg (b2 opIdx (bN F_parts_of (aCons (bVar 0) (aCons (bN F_without_tie (aCons (bVar 1) (aCons (bVar 2) (aNil)))) (aNil)))) (bDat (.int 0))) (gNm 3)) (bRet (bN opTuple (aCons (bComp (iEnu (b2 opIdx (bVar 0) (bDat (.int 2)))) (gTp 2 (gCn (gNm 4) (gCn (gNm 5) (gNl)))) (tBl (b2 opNe (b2 (opIn false) (b2 opIdx (bVar 5) (bDat (.int 0))) (bVar 3)) (b2 (opIn false) (b2 opIdx (bVar 5) (bDat (.int 1))) (bVar 3)))) (bVar 4) [4, 5]) (aNil))))
noncomputable def F_cut_by : OpN := runB true 6 3 b_cut_by
noncomputable def b_exchange_of : Eb := bSeq (bAsg (bIf (tBl (b2 (opIn true) (bVar 3) (bVar 2))) (bN F_ring_with (aCons (bVar 0) (aCons (bVar 2) (aCons (bVar 3) (aNil))))) (bN opTup (aCons (bVar 3) (aNil)))) (gNm 4)) (bRet (b2 opIdx (bComp (iSeq (bN F_cut_by (aCons (bVar 0) (aCons (bVar 1) (aCons (bVar 3) (aNil)))))) (gNm 5) (tAn (tBl (b2 (opIn false) (bVar 5) (bVar 4))) (tBl (b2 (opIn false) (bVar 5) (bVar 2)))) (bVar 5) [5]) (bDat (.int 0))))
noncomputable def F_exchange_of : OpN := runB true 6 4 b_exchange_of
noncomputable def b_want_tie : Eb := bSeq (bIfS (tNo (tTru (bN F_is_tie_of (aCons (bVar 0) (aCons (bVar 1) (aNil)))))) (bBad) (bPass)) (bRet (bVar 1))
noncomputable def F_want_tie : OpN := runB true 2 2 b_want_tie
noncomputable def b_exchange : Eb := bSeq (bExp (bN F_want_tree (aCons (bN F_want_web (aCons (bVar 0) (aNil))) (aCons (bVar 1) (aNil))))) (bSeq (bExp (bN F_want_tree (aCons (bVar 0) (aCons (bVar 2) (aNil))))) (bSeq (bIfS (tBl (b2 (opIn true) (bN F_want_tie (aCons (bVar 0) (aCons (bVar 3) (aNil)))) (bVar 1))) (bBad) (bPass)) (bRet (bN F_exchange_of (aCons (bVar 0) (aCons (bVar 1) (aCons (bVar 2) (aCons (bVar 3) (aNil)))))))))
noncomputable def F_exchange : OpN := runB true 4 4 b_exchange
noncomputable def b_cut : Eb := bSeq (bExp (bN F_want_tree (aCons (bN F_want_web (aCons (bVar 0) (aNil))) (aCons (bVar 1) (aNil))))) (bSeq (bIfS (tBl (b2 (opIn true) (bN F_want_tie (aCons (bVar 0) (aCons (bVar 2) (aNil)))) (bVar 1))) (bBad) (bPass)) (bRet (bN F_cut_by (aCons (bVar 0) (aCons (bVar 1) (aCons (bVar 2) (aNil)))))))
noncomputable def F_cut : OpN := runB true 3 3 b_cut
def b__law_changed : Eb := bRet (bN opTuple (aCons (bN opSorted (aCons (b2 opAdd (bComp (iSeq (bVar 0)) (gNm 3) (tBl (b2 opNe (bVar 3) (bVar 1))) (bVar 3) [3]) (bN opLst (aCons (bVar 2) (aNil)))) (aNil))) (aNil)))
noncomputable def F__law_changed : OpN := runB true 4 3 b__law_changed
noncomputable def b__law_right : Eb := bSeq (bAsg (bN opTup (aCons (bN F__law_tree (aCons (bVar 0) (aCons (bVar 1) (aNil)))) (aCons (bN F__law_tree (aCons (bVar 0) (aCons (bVar 1) (aNil)))) (aNil)))) (gTp 2 (gCn (gNm 2) (gCn (gNm 3) (gNl))))) (bSeq (bIfS (tOr3 (tBl (b2 (opIs true) (bN F_is_tree (aCons (bVar 1) (aCons (bVar 2) (aNil)))) (bDat (.bool true)))) (tBl (b2 (opIs true) (bN F_is_tree (aCons (bVar 1) (aCons (bVar 3) (aNil)))) (bDat (.bool true))))) (bRet (bDat (.bool false))) (bPass)) (bSeq (bFor (iSeq (bVar 2)) (gNm 4) (bSeq (bAsg (bN F__law_parts (aCons (b2 opIdx (bVar 1) (bDat (.int 1))) (aCons (bN F__law_told (aCons (bVar 1) (aCons (bComp (iSeq (bVar 2)) (gNm 9) (tBl (b2 opNe (bVar 9) (bVar 4))) (bVar 9) [9]) (aNil)))) (aNil)))) (gNm 5)) (bSeq (bAsg (bN opTuple (aCons (bComp (iEnu (b2 opIdx (bVar 1) (bDat (.int 2)))) (gTp 2 (gCn (gNm 9) (gCn (gNm 10) (gNl)))) (tBl (b2 opNe (b2 (opIn false) (b2 opIdx (bVar 10) (bDat (.int 0))) (b2 opIdx (bVar 5) (bDat (.int 0)))) (b2 (opIn false) (b2 opIdx (bVar 10) (bDat (.int 1))) (b2 opIdx (bVar 5) (bDat (.int 0)))))) (bVar 9) [9, 10]) (aNil))) (gNm 6)) (bSeq (bIfS (tOr3 (tBl (b2 opNe (bN opLen (aCons (bVar 5) (aNil))) (bDat (.int 2)))) (tBl (b2 opNe (bN opRepr (aCons (bN opLst (aCons (bN F_cut (aCons (bVar 1) (aCons (bVar 2) (aCons (bVar 4) (aNil))))) (aCons (bN (fun ws st => if ws.length = (["tie", "tree", "web"] : List Str).length then F_cut (pk [2, 1, 0] ws) st else none) (aCons (bVar 4) (aCons (bVar 2) (aCons (bVar 1) (aNil))))) (aNil)))) (aNil))) (bN opRepr (aCons (bN opLst (aCons (bVar 6) (aCons (bVar 6) (aNil)))) (aNil)))))) (bRet (bDat (.bool false))) (bPass)) (bSeq (bAsg (bComp (iSeq (bVar 3)) (gNm 9) (tAn (tTru (bN F__law_is_tree (aCons (bVar 1) (aCons (bN F__law_changed (aCons (bVar 2) (aCons (bVar 4) (aCons (bVar 9) (aNil))))) (aNil))))) (tTru (bN F__law_is_tree (aCons (bVar 1) (aCons (bN F__law_changed (aCons (bVar 3) (aCons (bVar 9) (aCons (bVar 4) (aNil))))) (aNil)))))) (bVar 9) [9]) (gNm 7)) (bSeq (bAsg (bIf (tBl (b2 (opIn false) (bVar 4) (bVar 3))) (bVar 4) (bN opMinL (aCons (bVar 7) (aNil)))) (gNm 8)) (bIfS (tBl (b2 opNe (bN opRepr (aCons (bN opLst (aCons (bN F_exchange (aCons (bVar 1) (aCons (bVar 2) (aCons (bVar 3) (aCons (bVar 4) (aNil)))))) (aCons (bN (fun ws st => if ws.length = (["tie", "other_tree", "tree", "web"] : List Str).length then F_exchange (pk [3, 2, 1, 0] ws) st else none) (aCons (bVar 4) (aCons (bVar 3) (aCons (bVar 2) (aCons (bVar 1) (aNil)))))) (aNil)))) (aNil))) (bN opRepr (aCons (bN opLst (aCons (bVar 8) (aCons (bVar 8) (aNil)))) (aNil))))) (bRet (bDat (.bool false))) (bPass)))))))) (bRet (bDat (.bool true)))))
noncomputable def F__law_right : OpN := runB true 11 2 b__law_right
noncomputable def b__law_hung : Eb := bSeq (bAsg (b2 opAdd (bDat (.int 2)) (bN F__law_draw (aCons (bVar 0) (aCons (b2 opSub (bVar 1) (bDat (.int 1))) (aNil))))) (gNm 3)) (bSeq (bAsg (bCompNew (iRange (bDat (.int 1)) (bVar 3)) (gNm 8) (tAll) (bN opTup (aCons (bN F__law_draw (aCons (bVar 0) (aCons (bVar 8) (aNil)))) (aCons (bVar 8) (aNil)))) [8]) (gNm 4)) (bSeq (bFor (iRange (bDat (.int 0)) (bN F__law_draw (aCons (bVar 0) (aCons (b2 opAdd (bVar 2) (bDat (.int 1))) (aNil))))) (gNm 5) (bSeq (bPar2 6 7 (aCons (bN F__law_draw (aCons (bVar 0) (aCons (bVar 3) (aNil)))) (aCons (bN F__law_draw (aCons (bVar 0) (aCons (bVar 3) (aNil)))) (aNil)))) (bExp (bMeth opExtend (bVar 4) (aCons (bIf (tBl (b2 opNe (bVar 6) (bVar 7))) (bN opLst (aCons (bN opTup (aCons (bN opMin (aCons (bVar 6) (aCons (bVar 7) (aNil)))) (aCons (bN opMax (aCons (bVar 6) (aCons (bVar 7) (aNil)))) (aNil)))) (aNil))) (bN opLst (aNil))) (aNil)))))) (bRet (bN opTup (aCons (bDat (.str "web")) (aCons (bVar 3) (aCons (bN opTuple (aCons (bN opSorted (aCons (bVar 4) (aNil))) (aNil))) (aNil))))))))
noncomputable def F__law_hung : OpN := runB true 9 3 b__law_hung
noncomputable def b_law : Eb := bSeq (bAsg (bN F__law_pot (aCons (bVar 0) (aCons (bDat (.int 0)) (aNil)))) (gNm 1)) (bSeq (bFor (iRange (bDat (.int 0)) (bDat (.int 4))) (gNm 2) (bIfS (tNo (tTru (bN F__law_right (aCons (bVar 1) (aCons (bN F__law_hung (aCons (bVar 1) (aCons (bDat (.int 8)) (aCons (bDat (.int 9)) (aNil))))) (aNil)))))) (bRet (bDat (.bool false))) (bPass))) (bRet (bDat (.bool true))))
noncomputable def F_law : OpN := runB true 3 1 b_law
/-! ### the head -/
def d__law_pot : He.DefD := ⟨("_law_pot", none), "_law_pot", "_law_pot", defArgs (top 41), defBody (top 41), defScope (top 41), [], []⟩
def d__law_draw : He.DefD := ⟨("_law_draw", none), "_law_draw", "_law_draw", defArgs (top 42), defBody (top 42), defScope (top 42), [], []⟩
def d__law_parts : He.DefD := ⟨("_law_parts", none), "_law_parts", "_law_parts", defArgs (top 43), defBody (top 43), defScope (top 43), [], []⟩
def d__law_told : He.DefD := ⟨("_law_told", none), "_law_told", "_law_told", defArgs (top 44), defBody (top 44), defScope (top 44), [], []⟩
def d__law_is_grove : He.DefD := ⟨("_law_is_grove", none), "_law_is_grove", "_law_is_grove", defArgs (top 45), defBody (top 45), defScope (top 45), [], []⟩
def d__law_tree : He.DefD := ⟨("_law_tree", none), "_law_tree", "_law_tree", defArgs (top 47), defBody (top 47), defScope (top 47), [], []⟩
def d_is_rising : He.DefD := ⟨("is_rising", none), "is_rising", "is_rising", defArgs (top 12), defBody (top 12), defScope (top 12), [], []⟩
def d_is_integer : He.DefD := ⟨("is_integer", none), "is_integer", "is_integer", defArgs (top 8), defBody (top 8), defScope (top 8), [], []⟩
def d_is_count : He.DefD := ⟨("is_count", none), "is_count", "is_count", defArgs (top 9), defBody (top 9), defScope (top 9), [], []⟩
def d_is_below : He.DefD := ⟨("is_below", none), "is_below", "is_below", defArgs (top 10), defBody (top 10), defScope (top 10), [], []⟩
def d_is_tie_of : He.DefD := ⟨("is_tie_of", none), "is_tie_of", "is_tie_of", defArgs (top 20), defBody (top 20), defScope (top 20), [], []⟩
def d_is_lot_of : He.DefD := ⟨("is_lot_of", none), "is_lot_of", "is_lot_of", defArgs (top 21), defBody (top 21), defScope (top 21), [], []⟩
def d_parts_of : He.DefD := ⟨("parts_of", none), "parts_of", "parts_of", defArgs (top 24), defBody (top 24), defScope (top 24), [], []⟩
def d_span_of : He.DefD := ⟨("span_of", none), "span_of", "span_of", defArgs (top 28), defBody (top 28), defScope (top 28), [], []⟩
def d_is_grove_of : He.DefD := ⟨("is_grove_of", none), "is_grove_of", "is_grove_of", defArgs (top 29), defBody (top 29), defScope (top 29), [], []⟩
def d_is_tree_lot : He.DefD := ⟨("is_tree_lot", none), "is_tree_lot", "is_tree_lot", defArgs (top 30), defBody (top 30), defScope (top 30), [], []⟩
def d_is_row : He.DefD := ⟨("is_row", none), "is_row", "is_row", defArgs (top 11), defBody (top 11), defScope (top 11), [], []⟩
def d_are_ties : He.DefD := ⟨("are_ties", none), "are_ties", "are_ties", defArgs (top 17), defBody (top 17), defScope (top 17), [], []⟩
def d_is_many : He.DefD := ⟨("is_many", none), "is_many", "is_many", defArgs (top 18), defBody (top 18), defScope (top 18), [], []⟩
def d_is_web_of : He.DefD := ⟨("is_web_of", none), "is_web_of", "is_web_of", defArgs (top 19), defBody (top 19), defScope (top 19), [], []⟩
def d_want_web : He.DefD := ⟨("want_web", none), "want_web", "want_web", defArgs (top 25), defBody (top 25), defScope (top 25), [], []⟩
def d_is_tree : He.DefD := ⟨("is_tree", none), "is_tree", "is_tree", defArgs (top 37), defBody (top 37), defScope (top 37), [], []⟩
def d__law_is_tree : He.DefD := ⟨("_law_is_tree", none), "_law_is_tree", "_law_is_tree", defArgs (top 49), defBody (top 49), defScope (top 49), [], []⟩
def d_want_tree : He.DefD := ⟨("want_tree", none), "want_tree", "want_tree", defArgs (top 36), defBody (top 36), defScope (top 36), [], []⟩
def d_ties_at : He.DefD := ⟨("ties_at", none), "ties_at", "ties_at", defArgs (top 22), defBody (top 22), defScope (top 22), [], []⟩
def d_other_end : He.DefD := ⟨("other_end", none), "other_end", "other_end", defArgs (top 23), defBody (top 23), defScope (top 23), [], []⟩
def d_way_in : He.DefD := ⟨("way_in", none), "way_in", "way_in", defArgs (top 31), defBody (top 31), defScope (top 31), [], []⟩
def d_ring_with : He.DefD := ⟨("ring_with", none), "ring_with", "ring_with", defArgs (top 32), defBody (top 32), defScope (top 32), [], []⟩
def d_without_tie : He.DefD := ⟨("without_tie", none), "without_tie", "without_tie", defArgs (top 33), defBody (top 33), defScope (top 33), [], []⟩
def d_cut_by : He.DefD := ⟨("cut_by", none), "cut_by", "cut_by", defArgs (top 34), defBody (top 34), defScope (top 34), [], []⟩
def d_exchange_of : He.DefD := ⟨("exchange_of", none), "exchange_of", "exchange_of", defArgs (top 35), defBody (top 35), defScope (top 35), [], []⟩
def d_want_tie : He.DefD := ⟨("want_tie", none), "want_tie", "want_tie", defArgs (top 26), defBody (top 26), defScope (top 26), [], []⟩
def d_exchange : He.DefD := ⟨("exchange", none), "exchange", "exchange", defArgs (top 39), defBody (top 39), defScope (top 39), [], []⟩
def d_cut : He.DefD := ⟨("cut", none), "cut", "cut", defArgs (top 38), defBody (top 38), defScope (top 38), [], []⟩
def d__law_changed : He.DefD := ⟨("_law_changed", none), "_law_changed", "_law_changed", defArgs (top 48), defBody (top 48), defScope (top 48), [], []⟩
def d__law_right : He.DefD := ⟨("_law_right", none), "_law_right", "_law_right", defArgs (top 50), defBody (top 50), defScope (top 50), [], []⟩
def d__law_hung : He.DefD := ⟨("_law_hung", none), "_law_hung", "_law_hung", defArgs (top 46), defBody (top 46), defScope (top 46), [], []⟩
def d_law : He.DefD := ⟨("law", none), "law", "law", defArgs (top 51), defBody (top 51), defScope (top 51), [], []⟩
def fn0 : List He.DefD := [d__law_pot, d__law_draw, d__law_parts, d__law_told, d__law_is_grove, d__law_tree, d_is_rising, d_is_integer, d_is_count, d_is_below, d_is_tie_of, d_is_lot_of, d_parts_of, d_span_of, d_is_grove_of, d_is_tree_lot, d_is_row, d_are_ties, d_is_many, d_is_web_of, d_want_web, d_is_tree, d__law_is_tree, d_want_tree, d_ties_at, d_other_end, d_way_in, d_ring_with, d_without_tie, d_cut_by]
def fn1 : List He.DefD := [d_exchange_of, d_want_tie, d_exchange, d_cut, d__law_changed, d__law_right, d__law_hung, d_law]
def fn : List He.DefD := fn0 ++ fn1
def fa0 : List He.Fa := [.glo "_law_pot", .glo "_law_draw", .glo "_law_parts", .glo "_law_told", .glo "_law_is_grove", .glo "_law_tree", .glo "is_rising", .glo "is_integer", .glo "is_count", .glo "is_below", .glo "is_tie_of", .glo "is_lot_of", .glo "parts_of", .glo "span_of", .glo "is_grove_of", .glo "is_tree_lot", .glo "is_row", .glo "are_ties", .glo "is_many", .glo "is_web_of", .glo "want_web", .glo "is_tree", .glo "_law_is_tree", .glo "want_tree", .glo "ties_at", .glo "other_end", .glo "way_in", .glo "ring_with", .glo "without_tie", .glo "cut_by"]
def fa1 : List He.Fa := [.glo "exchange_of", .glo "want_tie", .glo "exchange", .glo "cut", .glo "_law_changed", .glo "_law_right", .glo "_law_hung", .glo "law", .free "len", .free "abs", .free "int", .free "max", .free "divmod", .free "range", .free "sorted", .free "set", .free "tuple", .free "list", .free "zip", .free "all", .free "isinstance", .free "bool", .free "min", .free "enumerate", .int "MOST_TIES" 40, .int "MOST_PLACES" 16, .free "str", .str "WEB" "web", .free "repr"]
def fa : List He.Fa := fa0 ++ fa1
abbrev Says (K : PySem.W.Frag) : Prop := He.SaysD fa fn K
/-! ### each def keeps its reading -/
section
variable {P : Program} {w : World} {K : PySem.W.Frag} {mg : Str → Option Value} {base : Heap}
structure Has (P : Program) (w : World) (K : PySem.W.Frag) (mg : Str → Option Value) (base : Heap) (x : Str) (st : Stmt) (k : Nat) (ps : List Str) (F : OpN) (fd : FuncData) : Prop where
  m : mg x = some (.ref (He.ga K x))
  u : FunD K x x (defArgs st) (defBody st) (defScope st) [] [] (He.ga K x) fd
  b : Binds K fd ps []
  g : FnG P w K mg base k (He.ga K x) fd ps F
theorem sc__law_pot : FnScope ["script", "k", "cell"] ["script", "k"] (defScope (top 41)) := ⟨rfl, rfl, rfl, by decide +kernel, rfl, by decide +kernel, by decide +kernel⟩
theorem ok__law_pot (X : K.In base) (G : base.Ns mainGlobals mg) (c : Says K) : ∃ fd, Has P w K mg base "_law_pot" (top 41) 1 ["script", "k"] F__law_pot fd := by
  obtain ⟨fd, F⟩ := c.def_ 0 (d := d__law_pot) rfl
  have e_len : mg "len" = none := He.free_ok X G (c.fact 38 (f := .free "len") rfl)
  have e_abs : mg "abs" = none := He.free_ok X G (c.fact 39 (f := .free "abs") rfl)
  have e_int : mg "int" = none := He.free_ok X G (c.fact 40 (f := .free "int") rfl)
  have e_max : mg "max" = none := He.free_ok X G (c.fact 41 (f := .free "max") rfl)
  refine ⟨fd, He.glo_ok X G (c.fact 0 (f := .glo "_law_pot") rfl), F, F.bindsN fun _ _ _ _ _ _ us hl => match us, hl with | [_, _], _ => rfl, L3.FunD.okG F sc__law_pot fun cdv A outer s H E hr hgd => ?_⟩
  have nd := sc__law_pot.nd
  exact xss_cons (xs_set (i := 2) nd rfl (.inl rfl) (x_if (xt_cmp (o_lt (r0 hr)) (x_var (i := 1) rfl (.inl rfl)) (x_callB o_len rfl e_len (by rfl) (xa_cons (x_var (i := 0) rfl (.inl rfl)) (xa_nil))) (by rfl)) (x_callB o_abs rfl e_abs (by rfl) (xa_cons (x_idx (x_var (i := 0) rfl (.inl rfl)) (x_var (i := 1) rfl (.inl rfl)) (fun _ _ => rfl)) (xa_nil))) (x_bin o_add (x_bin o_mul (x_int) (x_var (i := 1) rfl (.inl rfl))) (x_int)))) (xss_one (xs_ret (x_lstNew (xa_cons (x_callB (o_max rfl) rfl e_max (by rfl) (xa_cons (x_int) (xa_cons (x_bin o_sub (x_var (i := 2) rfl (.inl rfl)) (x_bin o_pow (x_int) (x_int))) (xa_nil)))) (xa_cons (x_bin o_add (x_bin o_mod (x_callTy o_int rfl e_int (by rfl) (xa_cons (x_bin o_add (x_bin o_add (x_bin o_mul (x_bin o_mod (x_callTy o_int rfl e_int (by rfl) (xa_cons (x_var (i := 2) rfl (.inl rfl)) (xa_nil))) (x_int)) (x_int)) (x_bin o_mul (x_int) (x_var (i := 1) rfl (.inl rfl)))) (x_int)) (xa_nil))) (x_int)) (x_int)) (xa_nil))))))
theorem sc__law_draw : FnScope ["pot", "size", "digit"] ["pot", "size"] (defScope (top 42)) := ⟨rfl, rfl, rfl, by decide +kernel, rfl, by decide +kernel, by decide +kernel⟩
theorem ok__law_draw (X : K.In base) (G : base.Ns mainGlobals mg) (c : Says K) : ∃ fd, Has P w K mg base "_law_draw" (top 42) 1 ["pot", "size"] F__law_draw fd := by
  obtain ⟨fd, F⟩ := c.def_ 1 (d := d__law_draw) rfl
  have e_divmod : mg "divmod" = none := He.free_ok X G (c.fact 42 (f := .free "divmod") rfl)
  have e_int : mg "int" = none := He.free_ok X G (c.fact 40 (f := .free "int") rfl)
  refine ⟨fd, He.glo_ok X G (c.fact 1 (f := .glo "_law_draw") rfl), F, F.bindsN fun _ _ _ _ _ _ us hl => match us, hl with | [_, _], _ => rfl, L3.FunD.okG F sc__law_draw fun cdv A outer s H E hr hgd => ?_⟩
  have nd := sc__law_draw.nd
  exact xss_cons (xs_if (xt_cmp o_gt (x_idx (x_var (i := 0) rfl (.inl rfl)) (x_int) (fun _ _ => rfl)) (x_int) (by rfl)) (xss_cons (xs_asg (x_callB o_divmod rfl e_divmod (by rfl) (xa_cons (x_idx (x_var (i := 0) rfl (.inl rfl)) (x_int) (fun _ _ => rfl)) (xa_cons (x_var (i := 1) rfl (.inl rfl)) (xa_nil)))) (xg_tup rfl (xgs_cons (xg_sub (x_var (i := 0) rfl (.inl rfl)) (x_int)) (xgs_cons (xg_name (i := 2) nd rfl (.inl rfl)) (xgs_nil))))) (xss_one (xs_ret (x_var (i := 2) rfl (.inl rfl))))) (xss_nil)) (xss_cons (xs_asg (x_bin o_mod (x_callTy o_int rfl e_int (by rfl) (xa_cons (x_bin o_add (x_bin o_mul (x_idx (x_var (i := 0) rfl (.inl rfl)) (x_int) (fun _ _ => rfl)) (x_int)) (x_int)) (xa_nil))) (x_int)) (xg_sub (x_var (i := 0) rfl (.inl rfl)) (x_int))) (xss_one (xs_ret (x_bin o_mod (x_callTy o_int rfl e_int (by rfl) (xa_cons (x_bin o_div (x_bin o_mod (x_callTy o_int rfl e_int (by rfl) (xa_cons (x_bin o_mul (x_idx (x_var (i := 0) rfl (.inl rfl)) (x_int) (fun _ _ => rfl)) (x_idx (x_var (i := 0) rfl (.inl rfl)) (x_int) (fun _ _ => rfl))) (xa_nil))) (x_int)) (x_int)) (xa_nil))) (x_var (i := 1) rfl (.inl rfl))))))
theorem sc__law_parts : FnScope ["many", "ties", "found", "seen", "start", "part", "turn", "more", "one", "other"] ["many", "ties"] (defScope (top 43)) := ⟨rfl, rfl, rfl, by decide +kernel, rfl, by decide +kernel, by decide +kernel⟩
theorem ok__law_parts (X : K.In base) (G : base.Ns mainGlobals mg) (c : Says K) : ∃ fd, Has P w K mg base "_law_parts" (top 43) 1 ["many", "ties"] F__law_parts fd := by
  obtain ⟨fd, F⟩ := c.def_ 2 (d := d__law_parts) rfl
  have e_range : mg "range" = none := He.free_ok X G (c.fact 43 (f := .free "range") rfl)
  have e_sorted : mg "sorted" = none := He.free_ok X G (c.fact 44 (f := .free "sorted") rfl)
  have e_set : mg "set" = none := He.free_ok X G (c.fact 45 (f := .free "set") rfl)
  have e_tuple : mg "tuple" = none := He.free_ok X G (c.fact 46 (f := .free "tuple") rfl)
  refine ⟨fd, He.glo_ok X G (c.fact 2 (f := .glo "_law_parts") rfl), F, F.bindsN fun _ _ _ _ _ _ us hl => match us, hl with | [_, _], _ => rfl, L3.FunD.okG F sc__law_parts fun cdv A outer s H E hr hgd => ?_⟩
  have nd := sc__law_parts.nd
  exact xss_cons (xs_par2 (i := 2) (j := 3) rfl nd rfl rfl (by decide) rfl rfl (xa_cons (x_lstNew (xa_nil)) (xa_cons (x_lstNew (xa_nil)) (xa_nil)))) (xss_cons (xs_for PassesOwn.leaving rfl (xi_range1 rfl e_range (x_var (i := 0) rfl (.inl rfl))) (xg_name (i := 4) nd rfl (.inl rfl)) (xss_one (xs_if (xt_cmp (o_notIn (r65 hr)) (x_var (i := 4) rfl (.inl rfl)) (x_var (i := 3) rfl (.inl rfl)) (by rfl)) (xss_cons (xs_set (i := 5) nd rfl (.inl rfl) (x_lst (xa_cons (x_var (i := 4) rfl (.inl rfl)) (xa_nil)))) (xss_cons (xs_for PassesOwn.leaving rfl (xi_range1 rfl e_range (x_var (i := 0) rfl (.inl rfl))) (xg_name (i := 6) nd rfl (.inl rfl)) (xss_cons (xs_set (i := 7) nd rfl (.inl rfl) (x_lstNew (xa_nil))) (xss_cons (xs_for PassesOwn.leaving rfl (xi_seq (x_var (i := 1) rfl (.inl rfl))) (xg_tup rfl (xgs_cons (xg_name (i := 8) nd rfl (.inl rfl)) (xgs_cons (xg_name (i := 9) nd rfl (.inl rfl)) (xgs_nil)))) (xss_cons (xs_exp (x_extend (x_var (i := 7) rfl (.inl rfl)) (xa_cons (x_if (xt_cmp (o_in (r65 hr)) (x_var (i := 8) rfl (.inl rfl)) (x_var (i := 5) rfl (.inl rfl)) (by rfl)) (x_lst (xa_cons (x_var (i := 9) rfl (.inl rfl)) (xa_nil))) (x_lst (xa_nil))) (xa_nil)))) (xss_one (xs_exp (x_extend (x_var (i := 7) rfl (.inl rfl)) (xa_cons (x_if (xt_cmp (o_in (r65 hr)) (x_var (i := 9) rfl (.inl rfl)) (x_var (i := 5) rfl (.inl rfl)) (by rfl)) (x_lst (xa_cons (x_var (i := 8) rfl (.inl rfl)) (xa_nil))) (x_lst (xa_nil))) (xa_nil))))))) (xss_one (xs_set (i := 5) nd rfl (.inl rfl) (x_sortSetL rfl rfl e_sorted rfl e_set (x_bin o_addL (x_var (i := 5) rfl (.inl rfl)) (x_var (i := 7) rfl (.inl rfl))))))))) (xss_cons (xs_exp (x_append (x_var (i := 2) rfl (.inl rfl)) (xa_cons (x_callTy o_tuple rfl e_tuple (by rfl) (xa_cons (x_var (i := 5) rfl (.inl rfl)) (xa_nil))) (xa_nil)))) (xss_one (xs_exp (x_extend (x_var (i := 3) rfl (.inl rfl)) (xa_cons (x_var (i := 5) rfl (.inl rfl)) (xa_nil)))))))) (xss_nil)))) (xss_one (xs_ret (x_var (i := 2) rfl (.inl rfl)))))
theorem sc__law_told : FnScope ["web", "lot", "tie"] ["web", "lot"] (defScope (top 44)) := ⟨rfl, rfl, rfl, by decide +kernel, rfl, by decide +kernel, by decide +kernel⟩
theorem ok__law_told (X : K.In base) (G : base.Ns mainGlobals mg) (c : Says K) : ∃ fd, Has P w K mg base "_law_told" (top 44) 1 ["web", "lot"] F__law_told fd := by
  obtain ⟨fd, F⟩ := c.def_ 3 (d := d__law_told) rfl
  refine ⟨fd, He.glo_ok X G (c.fact 3 (f := .glo "_law_told") rfl), F, F.bindsN fun _ _ _ _ _ _ us hl => match us, hl with | [_, _], _ => rfl, L3.FunD.okG F sc__law_told fun cdv A outer s H E hr hgd => ?_⟩
  have nd := sc__law_told.nd
  exact xss_one (xs_ret (x_comp (own := [("tie", 2)]) rfl nd (xi_seq (x_var (i := 1) rfl (.inl rfl))) (blkOk_by (by kernel_rfl)) (fun _ _ _ _ _ => xg_name (i := 2) nd rfl (.inl rfl)) (fun _ _ _ _ _ => xts_nil) (fun _ _ _ _ _ => x_idx (x_idx (x_var (i := 0) rfl (.inr (.inl rfl))) (x_int) (fun _ _ => rfl)) (x_var (i := 2) rfl (.inl rfl)) (fun _ _ => rfl)) (by decide)))
theorem sc__law_is_grove : FnScope ["web", "lot"] ["web", "lot"] (defScope (top 45)) := ⟨rfl, rfl, rfl, by decide +kernel, rfl, by decide +kernel, by decide +kernel⟩
theorem ok__law_is_grove (X : K.In base) (G : base.Ns mainGlobals mg) (c : Says K) : ∃ fd, Has P w K mg base "_law_is_grove" (top 45) 2 ["web", "lot"] F__law_is_grove fd := by
  obtain ⟨fd, F⟩ := c.def_ 4 (d := d__law_is_grove) rfl
  have e_len : mg "len" = none := He.free_ok X G (c.fact 38 (f := .free "len") rfl)
  obtain ⟨fd__law_parts, M__law_parts, U__law_parts, B__law_parts, G__law_parts⟩ := ok__law_parts (P := P) (w := w) X G c
  have K__law_parts := U__law_parts.kp
  obtain ⟨fd__law_told, M__law_told, U__law_told, B__law_told, G__law_told⟩ := ok__law_told (P := P) (w := w) X G c
  have K__law_told := U__law_told.kp
  refine ⟨fd, He.glo_ok X G (c.fact 4 (f := .glo "_law_is_grove") rfl), F, F.bindsN fun _ _ _ _ _ _ us hl => match us, hl with | [_, _], _ => rfl, L3.FunD.okG F sc__law_is_grove fun cdv A outer s H E hr hgd => ?_⟩
  have nd := sc__law_is_grove.nd
  exact xss_one (xs_ret (x_cmp (o_eq (r64 hr)) (x_callB o_len rfl e_len (by rfl) (xa_cons (x_call (G__law_parts.mono (by decide)) B__law_parts K__law_parts hr hgd rfl M__law_parts (xa_cons (x_idx (x_var (i := 0) rfl (.inl rfl)) (x_int) (fun _ _ => rfl)) (xa_cons (x_call (G__law_told.mono (by decide)) B__law_told K__law_told hr hgd rfl M__law_told (xa_cons (x_var (i := 0) rfl (.inl rfl)) (xa_cons (x_var (i := 1) rfl (.inl rfl)) (xa_nil)))) (xa_nil)))) (xa_nil))) (x_bin o_sub (x_idx (x_var (i := 0) rfl (.inl rfl)) (x_int) (fun _ _ => rfl)) (x_callB o_len rfl e_len (by rfl) (xa_cons (x_var (i := 1) rfl (.inl rfl)) (xa_nil)))) (by rfl)))
theorem sc__law_tree : FnScope ["pot", "web", "left", "found", "turn", "tie", "late"] ["pot", "web"] (defScope (top 47)) := ⟨rfl, rfl, rfl, by decide +kernel, rfl, by decide +kernel, by decide +kernel⟩
theorem ok__law_tree (X : K.In base) (G : base.Ns mainGlobals mg) (c : Says K) : ∃ fd, Has P w K mg base "_law_tree" (top 47) 3 ["pot", "web"] F__law_tree fd := by
  obtain ⟨fd, F⟩ := c.def_ 5 (d := d__law_tree) rfl
  have e_list : mg "list" = none := He.free_ok X G (c.fact 47 (f := .free "list") rfl)
  have e_range : mg "range" = none := He.free_ok X G (c.fact 43 (f := .free "range") rfl)
  have e_len : mg "len" = none := He.free_ok X G (c.fact 38 (f := .free "len") rfl)
  have e_sorted : mg "sorted" = none := He.free_ok X G (c.fact 44 (f := .free "sorted") rfl)
  have e_tuple : mg "tuple" = none := He.free_ok X G (c.fact 46 (f := .free "tuple") rfl)
  obtain ⟨fd__law_draw, M__law_draw, U__law_draw, B__law_draw, G__law_draw⟩ := ok__law_draw (P := P) (w := w) X G c
  have K__law_draw := U__law_draw.kp
  obtain ⟨fd__law_is_grove, M__law_is_grove, U__law_is_grove, B__law_is_grove, G__law_is_grove⟩ := ok__law_is_grove (P := P) (w := w) X G c
  have K__law_is_grove := U__law_is_grove.kp
  refine ⟨fd, He.glo_ok X G (c.fact 5 (f := .glo "_law_tree") rfl), F, F.bindsN fun _ _ _ _ _ _ us hl => match us, hl with | [_, _], _ => rfl, L3.FunD.okG F sc__law_tree fun cdv A outer s H E hr hgd => ?_⟩
  have nd := sc__law_tree.nd
  exact xss_cons (xs_par2 (i := 2) (j := 3) rfl nd rfl rfl (by decide) rfl rfl (xa_cons (x_listRg1 rfl rfl e_list rfl e_range (x_callB o_len rfl e_len (by rfl) (xa_cons (x_idx (x_var (i := 1) rfl (.inl rfl)) (x_int) (fun _ _ => rfl)) (xa_nil)))) (xa_cons (x_tup (xa_nil)) (xa_nil)))) (xss_cons (xs_for PassesOwn.leaving rfl (xi_range1 rfl e_range (x_callB o_len rfl e_len (by rfl) (xa_cons (x_var (i := 2) rfl (.inl rfl)) (xa_nil)))) (xg_name (i := 4) nd rfl (.inl rfl)) (xss_cons (xs_set (i := 5) nd rfl (.inl rfl) (x_popAt (x_var (i := 2) rfl (.inl rfl)) (xa_cons (x_call (G__law_draw.mono (by decide)) B__law_draw K__law_draw hr hgd rfl M__law_draw (xa_cons (x_var (i := 0) rfl (.inl rfl)) (xa_cons (x_callB o_len rfl e_len (by rfl) (xa_cons (x_var (i := 2) rfl (.inl rfl)) (xa_nil))) (xa_nil)))) (xa_nil)))) (xss_cons (xs_set (i := 6) nd rfl (.inl rfl) (x_callTy o_tuple rfl e_tuple (by rfl) (xa_cons (x_callB (o_sorted (r100 hr)) rfl e_sorted (by rfl) (xa_cons (x_bin o_add (x_var (i := 3) rfl (.inl rfl)) (x_tup (xa_cons (x_var (i := 5) rfl (.inl rfl)) (xa_nil)))) (xa_nil))) (xa_nil)))) (xss_one (xs_set (i := 3) nd rfl (.inl rfl) (x_if (xt_val (x_call (G__law_is_grove.mono (by decide)) B__law_is_grove K__law_is_grove hr hgd rfl M__law_is_grove (xa_cons (x_var (i := 1) rfl (.inl rfl)) (xa_cons (x_var (i := 6) rfl (.inl rfl)) (xa_nil))))) (x_var (i := 6) rfl (.inl rfl)) (x_var (i := 3) rfl (.inl rfl)))))))) (xss_one (xs_ret (x_var (i := 3) rfl (.inl rfl)))))
theorem sc_is_rising : FnScope ["items", "near", "far"] ["items"] (defScope (top 12)) := ⟨rfl, rfl, rfl, by decide +kernel, rfl, by decide +kernel, by decide +kernel⟩
theorem ok_is_rising (X : K.In base) (G : base.Ns mainGlobals mg) (c : Says K) : ∃ fd, Has P w K mg base "is_rising" (top 12) 1 ["items"] F_is_rising fd := by
  obtain ⟨fd, F⟩ := c.def_ 6 (d := d_is_rising) rfl
  have e_zip : mg "zip" = none := He.free_ok X G (c.fact 48 (f := .free "zip") rfl)
  have e_all : mg "all" = none := He.free_ok X G (c.fact 49 (f := .free "all") rfl)
  refine ⟨fd, He.glo_ok X G (c.fact 6 (f := .glo "is_rising") rfl), F, F.bindsN fun _ _ _ _ _ _ us hl => match us, hl with | [_], _ => rfl, L3.FunD.okG F sc_is_rising fun cdv A outer s H E hr hgd => ?_⟩
  have nd := sc_is_rising.nd
  exact xss_one (xs_ret (x_callB (o_all rfl) rfl e_all (by rfl) (xa_cons (x_comp (own := [("near", 1), ("far", 2)]) rfl nd (xi_zip rfl e_zip (x_var (i := 0) rfl (.inl rfl)) (x_slice (x_var (i := 0) rfl (.inl rfl)) (xp_some (x_int)) (xp_none))) (blkOk_by (by kernel_rfl)) (fun _ _ _ _ _ => xg_tup rfl (xgs_cons (xg_name (i := 1) nd rfl (.inl rfl)) (xgs_cons (xg_name (i := 2) nd rfl (.inl rfl)) (xgs_nil)))) (fun _ _ _ _ _ => xts_nil) (fun _ _ _ _ _ => x_cmp (o_lt (r0 hr)) (x_var (i := 1) rfl (.inl rfl)) (x_var (i := 2) rfl (.inl rfl)) (by rfl)) (by decide)) (xa_nil))))
theorem sc_is_integer : FnScope ["value"] ["value"] (defScope (top 8)) := ⟨rfl, rfl, rfl, by decide +kernel, rfl, by decide +kernel, by decide +kernel⟩
theorem ok_is_integer (X : K.In base) (G : base.Ns mainGlobals mg) (c : Says K) : ∃ fd, Has P w K mg base "is_integer" (top 8) 1 ["value"] F_is_integer fd := by
  obtain ⟨fd, F⟩ := c.def_ 7 (d := d_is_integer) rfl
  have e_int : mg "int" = none := He.free_ok X G (c.fact 40 (f := .free "int") rfl)
  have e_isinstance : mg "isinstance" = none := He.free_ok X G (c.fact 50 (f := .free "isinstance") rfl)
  have e_bool : mg "bool" = none := He.free_ok X G (c.fact 51 (f := .free "bool") rfl)
  refine ⟨fd, He.glo_ok X G (c.fact 7 (f := .glo "is_integer") rfl), F, F.bindsN fun _ _ _ _ _ _ us hl => match us, hl with | [_], _ => rfl, L3.FunD.okG F sc_is_integer fun cdv A outer s H E hr hgd => ?_⟩
  have nd := sc_is_integer.nd
  exact xss_one (xs_ret (x_and (x_callB o_isinst rfl e_isinstance (by rfl) (xa_cons (x_var (i := 0) rfl (.inl rfl)) (xa_cons (x_ty rfl e_int (by rfl)) (xa_nil)))) (pe_one (x_not (x_callB o_isinst rfl e_isinstance (by rfl) (xa_cons (x_var (i := 0) rfl (.inl rfl)) (xa_cons (x_ty rfl e_bool (by rfl)) (xa_nil))))))))
theorem sc_is_count : FnScope ["value"] ["value"] (defScope (top 9)) := ⟨rfl, rfl, rfl, by decide +kernel, rfl, by decide +kernel, by decide +kernel⟩
theorem ok_is_count (X : K.In base) (G : base.Ns mainGlobals mg) (c : Says K) : ∃ fd, Has P w K mg base "is_count" (top 9) 2 ["value"] F_is_count fd := by
  obtain ⟨fd, F⟩ := c.def_ 8 (d := d_is_count) rfl
  obtain ⟨fd_is_integer, M_is_integer, U_is_integer, B_is_integer, G_is_integer⟩ := ok_is_integer (P := P) (w := w) X G c
  have K_is_integer := U_is_integer.kp
  refine ⟨fd, He.glo_ok X G (c.fact 8 (f := .glo "is_count") rfl), F, F.bindsN fun _ _ _ _ _ _ us hl => match us, hl with | [_], _ => rfl, L3.FunD.okG F sc_is_count fun cdv A outer s H E hr hgd => ?_⟩
  have nd := sc_is_count.nd
  exact xss_one (xs_ret (x_and (x_call (G_is_integer.mono (by decide)) B_is_integer K_is_integer hr hgd rfl M_is_integer (xa_cons (x_var (i := 0) rfl (.inl rfl)) (xa_nil))) (pe_one (x_cmp o_ge (x_var (i := 0) rfl (.inl rfl)) (x_int) (by rfl)))))
theorem sc_is_below : FnScope ["value", "many"] ["value", "many"] (defScope (top 10)) := ⟨rfl, rfl, rfl, by decide +kernel, rfl, by decide +kernel, by decide +kernel⟩
theorem ok_is_below (X : K.In base) (G : base.Ns mainGlobals mg) (c : Says K) : ∃ fd, Has P w K mg base "is_below" (top 10) 3 ["value", "many"] F_is_below fd := by
  obtain ⟨fd, F⟩ := c.def_ 9 (d := d_is_below) rfl
  obtain ⟨fd_is_count, M_is_count, U_is_count, B_is_count, G_is_count⟩ := ok_is_count (P := P) (w := w) X G c
  have K_is_count := U_is_count.kp
  refine ⟨fd, He.glo_ok X G (c.fact 9 (f := .glo "is_below") rfl), F, F.bindsN fun _ _ _ _ _ _ us hl => match us, hl with | [_, _], _ => rfl, L3.FunD.okG F sc_is_below fun cdv A outer s H E hr hgd => ?_⟩
  have nd := sc_is_below.nd
  exact xss_one (xs_ret (x_and (x_call (G_is_count.mono (by decide)) B_is_count K_is_count hr hgd rfl M_is_count (xa_cons (x_var (i := 0) rfl (.inl rfl)) (xa_nil))) (pe_one (x_cmp (o_lt (r0 hr)) (x_var (i := 0) rfl (.inl rfl)) (x_var (i := 1) rfl (.inl rfl)) (by rfl)))))
theorem sc_is_tie_of : FnScope ["web", "value"] ["web", "value"] (defScope (top 20)) := ⟨rfl, rfl, rfl, by decide +kernel, rfl, by decide +kernel, by decide +kernel⟩
theorem ok_is_tie_of (X : K.In base) (G : base.Ns mainGlobals mg) (c : Says K) : ∃ fd, Has P w K mg base "is_tie_of" (top 20) 4 ["web", "value"] F_is_tie_of fd := by
  obtain ⟨fd, F⟩ := c.def_ 10 (d := d_is_tie_of) rfl
  have e_len : mg "len" = none := He.free_ok X G (c.fact 38 (f := .free "len") rfl)
  obtain ⟨fd_is_below, M_is_below, U_is_below, B_is_below, G_is_below⟩ := ok_is_below (P := P) (w := w) X G c
  have K_is_below := U_is_below.kp
  refine ⟨fd, He.glo_ok X G (c.fact 10 (f := .glo "is_tie_of") rfl), F, F.bindsN fun _ _ _ _ _ _ us hl => match us, hl with | [_, _], _ => rfl, L3.FunD.okG F sc_is_tie_of fun cdv A outer s H E hr hgd => ?_⟩
  have nd := sc_is_tie_of.nd
  exact xss_one (xs_ret (x_call (G_is_below.mono (by decide)) B_is_below K_is_below hr hgd rfl M_is_below (xa_cons (x_var (i := 1) rfl (.inl rfl)) (xa_cons (x_callB o_len rfl e_len (by rfl) (xa_cons (x_idx (x_var (i := 0) rfl (.inl rfl)) (x_int) (fun _ _ => rfl)) (xa_nil))) (xa_nil)))))
theorem sc_is_lot_of : FnScope ["web", "value", "tie"] ["web", "value"] (defScope (top 21)) := ⟨rfl, rfl, rfl, by decide +kernel, rfl, by decide +kernel, by decide +kernel⟩
theorem ok_is_lot_of (X : K.In base) (G : base.Ns mainGlobals mg) (c : Says K) : ∃ fd, Has P w K mg base "is_lot_of" (top 21) 5 ["web", "value"] F_is_lot_of fd := by
  obtain ⟨fd, F⟩ := c.def_ 11 (d := d_is_lot_of) rfl
  have e_tuple : mg "tuple" = none := He.free_ok X G (c.fact 46 (f := .free "tuple") rfl)
  have e_isinstance : mg "isinstance" = none := He.free_ok X G (c.fact 50 (f := .free "isinstance") rfl)
  have e_all : mg "all" = none := He.free_ok X G (c.fact 49 (f := .free "all") rfl)
  obtain ⟨fd_is_tie_of, M_is_tie_of, U_is_tie_of, B_is_tie_of, G_is_tie_of⟩ := ok_is_tie_of (P := P) (w := w) X G c
  have K_is_tie_of := U_is_tie_of.kp
  obtain ⟨fd_is_rising, M_is_rising, U_is_rising, B_is_rising, G_is_rising⟩ := ok_is_rising (P := P) (w := w) X G c
  have K_is_rising := U_is_rising.kp
  refine ⟨fd, He.glo_ok X G (c.fact 11 (f := .glo "is_lot_of") rfl), F, F.bindsN fun _ _ _ _ _ _ us hl => match us, hl with | [_, _], _ => rfl, L3.FunD.okG F sc_is_lot_of fun cdv A outer s H E hr hgd => ?_⟩
  have nd := sc_is_lot_of.nd
  exact xss_one (xs_ret (x_and (x_callB o_isinst rfl e_isinstance (by rfl) (xa_cons (x_var (i := 1) rfl (.inl rfl)) (xa_cons (x_ty rfl e_tuple (by rfl)) (xa_nil)))) (x_and (x_callB (o_all rfl) rfl e_all (by rfl) (xa_cons (x_comp (own := [("tie", 2)]) rfl nd (xi_seq (x_var (i := 1) rfl (.inl rfl))) (blkOk_by (by kernel_rfl)) (fun _ _ _ _ _ => xg_name (i := 2) nd rfl (.inl rfl)) (fun _ _ _ _ _ => xts_nil) (fun _ _ _ _ _ => x_call (G_is_tie_of.mono (by decide)) B_is_tie_of K_is_tie_of hr hgd rfl M_is_tie_of (xa_cons (x_var (i := 0) rfl (.inr (.inl rfl))) (xa_cons (x_var (i := 2) rfl (.inl rfl)) (xa_nil)))) (by decide)) (xa_nil))) (pe_one (x_call (G_is_rising.mono (by decide)) B_is_rising K_is_rising hr hgd rfl M_is_rising (xa_cons (x_var (i := 1) rfl (.inl rfl)) (xa_nil)))))))
theorem sc_parts_of : FnScope ["web", "lot", "part_at", "tie", "one", "other", "found", "place", "part"] ["web", "lot"] (defScope (top 24)) := ⟨rfl, rfl, rfl, by decide +kernel, rfl, by decide +kernel, by decide +kernel⟩
theorem ok_parts_of (X : K.In base) (G : base.Ns mainGlobals mg) (c : Says K) : ∃ fd, Has P w K mg base "parts_of" (top 24) 1 ["web", "lot"] F_parts_of fd := by
  obtain ⟨fd, F⟩ := c.def_ 12 (d := d_parts_of) rfl
  have e_list : mg "list" = none := He.free_ok X G (c.fact 47 (f := .free "list") rfl)
  have e_range : mg "range" = none := He.free_ok X G (c.fact 43 (f := .free "range") rfl)
  have e_min : mg "min" = none := He.free_ok X G (c.fact 52 (f := .free "min") rfl)
  have e_enumerate : mg "enumerate" = none := He.free_ok X G (c.fact 53 (f := .free "enumerate") rfl)
  have e_tuple : mg "tuple" = none := He.free_ok X G (c.fact 46 (f := .free "tuple") rfl)
  have e_sorted : mg "sorted" = none := He.free_ok X G (c.fact 44 (f := .free "sorted") rfl)
  refine ⟨fd, He.glo_ok X G (c.fact 12 (f := .glo "parts_of") rfl), F, F.bindsN fun _ _ _ _ _ _ us hl => match us, hl with | [_, _], _ => rfl, L3.FunD.okG F sc_parts_of fun cdv A outer s H E hr hgd => ?_⟩
  have nd := sc_parts_of.nd
  exact xss_cons (xs_set (i := 2) nd rfl (.inr rfl) (x_listRg1 rfl rfl e_list rfl e_range (x_idx (x_var (i := 0) rfl (.inl rfl)) (x_int) (fun _ _ => rfl)))) (xss_cons (xs_for PassesOwn.leaving rfl (xi_seq (x_var (i := 1) rfl (.inl rfl))) (xg_name (i := 3) nd rfl (.inl rfl)) (xss_cons (xs_asg (x_comp (own := [("place", 7)]) rfl nd (xi_seq (x_idx (x_idx (x_var (i := 0) rfl (.inl rfl)) (x_int) (fun _ _ => rfl)) (x_var (i := 3) rfl (.inl rfl)) (fun _ _ => rfl))) (blkOk_by (by kernel_rfl)) (fun _ _ _ _ _ => xg_name (i := 7) nd rfl (.inl rfl)) (fun _ _ _ _ _ => xts_nil) (fun _ _ _ _ _ => x_idx (x_var (i := 2) rfl (.inr (.inl rfl))) (x_var (i := 7) rfl (.inl rfl)) (fun _ _ => rfl)) (by decide)) (xg_tup rfl (xgs_cons (xg_name (i := 4) nd rfl (.inr rfl)) (xgs_cons (xg_name (i := 5) nd rfl (.inr rfl)) (xgs_nil))))) (xss_one (xs_set (i := 2) nd rfl (.inr rfl) (x_comp (own := [("part", 8)]) rfl nd (xi_seq (x_var (i := 2) rfl (.inr (.inl rfl)))) (blkOk_by (by kernel_rfl)) (fun _ _ _ _ _ => xg_name (i := 8) nd rfl (.inl rfl)) (fun _ _ _ _ _ => xts_nil) (fun _ _ _ _ _ => x_if (xt_cmp (o_in (r65 hr)) (x_var (i := 8) rfl (.inl rfl)) (x_tup (xa_cons (x_var (i := 4) rfl (.inr (.inl rfl))) (xa_cons (x_var (i := 5) rfl (.inr (.inl rfl))) (xa_nil)))) (by rfl)) (x_callB (o_min rfl) rfl e_min (by rfl) (xa_cons (x_var (i := 4) rfl (.inr (.inl rfl))) (xa_cons (x_var (i := 5) rfl (.inr (.inl rfl))) (xa_nil)))) (x_var (i := 8) rfl (.inl rfl))) (by decide)))))) (xss_cons (xs_set (i := 6) nd rfl (.inl rfl) (x_dictNew)) (xss_cons (xs_for PassesOwn.leaving rfl (xi_enum rfl e_enumerate (x_var (i := 2) rfl (.inr (.inl rfl)))) (xg_tup rfl (xgs_cons (xg_name (i := 7) nd rfl (.inl rfl)) (xgs_cons (xg_name (i := 8) nd rfl (.inl rfl)) (xgs_nil)))) (xss_one (xs_exp (x_append (x_setd (x_var (i := 6) rfl (.inl rfl)) (x_var (i := 8) rfl (.inl rfl)) (x_lstNew (xa_nil)) ⟨rfl, rfl, rfl, rfl⟩) (xa_cons (x_var (i := 7) rfl (.inl rfl)) (xa_nil)))))) (xss_one (xs_ret (x_callB (o_sorted (r100 hr)) rfl e_sorted (by rfl) (xa_cons (x_lock 6 (x_comp (own := [("part", 8)]) rfl nd (xi_vals (x_var (i := 6) rfl (.inl rfl))) (blkOk_by (by kernel_rfl)) (fun _ _ _ _ _ => xg_name (i := 8) nd rfl (.inl rfl)) (fun _ _ _ _ _ => xts_nil) (fun _ _ _ _ _ => x_callTy o_tuple rfl e_tuple (by rfl) (xa_cons (x_var (i := 8) rfl (.inl rfl)) (xa_nil))) (by decide))) (xa_nil))))))))
theorem sc_span_of : FnScope ["web", "lot"] ["web", "lot"] (defScope (top 28)) := ⟨rfl, rfl, rfl, by decide +kernel, rfl, by decide +kernel, by decide +kernel⟩
theorem ok_span_of (X : K.In base) (G : base.Ns mainGlobals mg) (c : Says K) : ∃ fd, Has P w K mg base "span_of" (top 28) 2 ["web", "lot"] F_span_of fd := by
  obtain ⟨fd, F⟩ := c.def_ 13 (d := d_span_of) rfl
  have e_len : mg "len" = none := He.free_ok X G (c.fact 38 (f := .free "len") rfl)
  obtain ⟨fd_parts_of, M_parts_of, U_parts_of, B_parts_of, G_parts_of⟩ := ok_parts_of (P := P) (w := w) X G c
  have K_parts_of := U_parts_of.kp
  refine ⟨fd, He.glo_ok X G (c.fact 13 (f := .glo "span_of") rfl), F, F.bindsN fun _ _ _ _ _ _ us hl => match us, hl with | [_, _], _ => rfl, L3.FunD.okG F sc_span_of fun cdv A outer s H E hr hgd => ?_⟩
  have nd := sc_span_of.nd
  exact xss_one (xs_ret (x_bin o_sub (x_idx (x_var (i := 0) rfl (.inl rfl)) (x_int) (fun _ _ => rfl)) (x_callB o_len rfl e_len (by rfl) (xa_cons (x_call (G_parts_of.mono (by decide)) B_parts_of K_parts_of hr hgd rfl M_parts_of (xa_cons (x_var (i := 0) rfl (.inl rfl)) (xa_cons (x_var (i := 1) rfl (.inl rfl)) (xa_nil)))) (xa_nil)))))
theorem sc_is_grove_of : FnScope ["web", "lot"] ["web", "lot"] (defScope (top 29)) := ⟨rfl, rfl, rfl, by decide +kernel, rfl, by decide +kernel, by decide +kernel⟩
theorem ok_is_grove_of (X : K.In base) (G : base.Ns mainGlobals mg) (c : Says K) : ∃ fd, Has P w K mg base "is_grove_of" (top 29) 3 ["web", "lot"] F_is_grove_of fd := by
  obtain ⟨fd, F⟩ := c.def_ 14 (d := d_is_grove_of) rfl
  have e_len : mg "len" = none := He.free_ok X G (c.fact 38 (f := .free "len") rfl)
  obtain ⟨fd_span_of, M_span_of, U_span_of, B_span_of, G_span_of⟩ := ok_span_of (P := P) (w := w) X G c
  have K_span_of := U_span_of.kp
  refine ⟨fd, He.glo_ok X G (c.fact 14 (f := .glo "is_grove_of") rfl), F, F.bindsN fun _ _ _ _ _ _ us hl => match us, hl with | [_, _], _ => rfl, L3.FunD.okG F sc_is_grove_of fun cdv A outer s H E hr hgd => ?_⟩
  have nd := sc_is_grove_of.nd
  exact xss_one (xs_ret (x_cmp (o_eq (r64 hr)) (x_call (G_span_of.mono (by decide)) B_span_of K_span_of hr hgd rfl M_span_of (xa_cons (x_var (i := 0) rfl (.inl rfl)) (xa_cons (x_var (i := 1) rfl (.inl rfl)) (xa_nil)))) (x_callB o_len rfl e_len (by rfl) (xa_cons (x_var (i := 1) rfl (.inl rfl)) (xa_nil))) (by rfl)))
theorem sc_is_tree_lot : FnScope ["web", "lot"] ["web", "lot"] (defScope (top 30)) := ⟨rfl, rfl, rfl, by decide +kernel, rfl, by decide +kernel, by decide +kernel⟩
theorem ok_is_tree_lot (X : K.In base) (G : base.Ns mainGlobals mg) (c : Says K) : ∃ fd, Has P w K mg base "is_tree_lot" (top 30) 4 ["web", "lot"] F_is_tree_lot fd := by
  obtain ⟨fd, F⟩ := c.def_ 15 (d := d_is_tree_lot) rfl
  have e_len : mg "len" = none := He.free_ok X G (c.fact 38 (f := .free "len") rfl)
  obtain ⟨fd_is_grove_of, M_is_grove_of, U_is_grove_of, B_is_grove_of, G_is_grove_of⟩ := ok_is_grove_of (P := P) (w := w) X G c
  have K_is_grove_of := U_is_grove_of.kp
  refine ⟨fd, He.glo_ok X G (c.fact 15 (f := .glo "is_tree_lot") rfl), F, F.bindsN fun _ _ _ _ _ _ us hl => match us, hl with | [_, _], _ => rfl, L3.FunD.okG F sc_is_tree_lot fun cdv A outer s H E hr hgd => ?_⟩
  have nd := sc_is_tree_lot.nd
  exact xss_one (xs_ret (x_and (x_cmp (o_eq (r64 hr)) (x_callB o_len rfl e_len (by rfl) (xa_cons (x_var (i := 1) rfl (.inl rfl)) (xa_nil))) (x_bin o_sub (x_idx (x_var (i := 0) rfl (.inl rfl)) (x_int) (fun _ _ => rfl)) (x_int)) (by rfl)) (pe_one (x_call (G_is_grove_of.mono (by decide)) B_is_grove_of K_is_grove_of hr hgd rfl M_is_grove_of (xa_cons (x_var (i := 0) rfl (.inl rfl)) (xa_cons (x_var (i := 1) rfl (.inl rfl)) (xa_nil)))))))
theorem sc_is_row : FnScope ["value", "many"] ["value", "many"] (defScope (top 11)) := ⟨rfl, rfl, rfl, by decide +kernel, rfl, by decide +kernel, by decide +kernel⟩
theorem ok_is_row (X : K.In base) (G : base.Ns mainGlobals mg) (c : Says K) : ∃ fd, Has P w K mg base "is_row" (top 11) 1 ["value", "many"] F_is_row fd := by
  obtain ⟨fd, F⟩ := c.def_ 16 (d := d_is_row) rfl
  have e_tuple : mg "tuple" = none := He.free_ok X G (c.fact 46 (f := .free "tuple") rfl)
  have e_isinstance : mg "isinstance" = none := He.free_ok X G (c.fact 50 (f := .free "isinstance") rfl)
  have e_len : mg "len" = none := He.free_ok X G (c.fact 38 (f := .free "len") rfl)
  refine ⟨fd, He.glo_ok X G (c.fact 16 (f := .glo "is_row") rfl), F, F.bindsN fun _ _ _ _ _ _ us hl => match us, hl with | [_, _], _ => rfl, L3.FunD.okG F sc_is_row fun cdv A outer s H E hr hgd => ?_⟩
  have nd := sc_is_row.nd
  exact xss_one (xs_ret (x_and (x_callB o_isinst rfl e_isinstance (by rfl) (xa_cons (x_var (i := 0) rfl (.inl rfl)) (xa_cons (x_ty rfl e_tuple (by rfl)) (xa_nil)))) (pe_one (x_cmp (o_eq (r64 hr)) (x_callB o_len rfl e_len (by rfl) (xa_cons (x_var (i := 0) rfl (.inl rfl)) (xa_nil))) (x_var (i := 1) rfl (.inl rfl)) (by rfl)))))
theorem sc_are_ties : FnScope ["many", "value", "tie", "one", "other", "near", "far"] ["many", "value"] (defScope (top 17)) := ⟨rfl, rfl, rfl, by decide +kernel, rfl, by decide +kernel, by decide +kernel⟩
theorem ok_are_ties (X : K.In base) (G : base.Ns mainGlobals mg) (c : Says K) : ∃ fd, Has P w K mg base "are_ties" (top 17) 4 ["many", "value"] F_are_ties fd := by
  obtain ⟨fd, F⟩ := c.def_ 17 (d := d_are_ties) rfl
  have e_tuple : mg "tuple" = none := He.free_ok X G (c.fact 46 (f := .free "tuple") rfl)
  have e_isinstance : mg "isinstance" = none := He.free_ok X G (c.fact 50 (f := .free "isinstance") rfl)
  have e_len : mg "len" = none := He.free_ok X G (c.fact 38 (f := .free "len") rfl)
  obtain ⟨t_MOST_TIES, e_MOST_TIES⟩ := He.int_ok X G (c.fact 54 (f := .int "MOST_TIES" 40) rfl)
  have e_all : mg "all" = none := He.free_ok X G (c.fact 49 (f := .free "all") rfl)
  have e_zip : mg "zip" = none := He.free_ok X G (c.fact 48 (f := .free "zip") rfl)
  obtain ⟨fd_is_row, M_is_row, U_is_row, B_is_row, G_is_row⟩ := ok_is_row (P := P) (w := w) X G c
  have K_is_row := U_is_row.kp
  obtain ⟨fd_is_below, M_is_below, U_is_below, B_is_below, G_is_below⟩ := ok_is_below (P := P) (w := w) X G c
  have K_is_below := U_is_below.kp
  refine ⟨fd, He.glo_ok X G (c.fact 17 (f := .glo "are_ties") rfl), F, F.bindsN fun _ _ _ _ _ _ us hl => match us, hl with | [_, _], _ => rfl, L3.FunD.okG F sc_are_ties fun cdv A outer s H E hr hgd => ?_⟩
  have nd := sc_are_ties.nd
  exact xss_cons (xs_if (PW.pt (xw_or (xt_not (xt_val (x_callB o_isinst rfl e_isinstance (by rfl) (xa_cons (x_var (i := 1) rfl (.inl rfl)) (xa_cons (x_ty rfl e_tuple (by rfl)) (xa_nil)))))) (xw_or (xt_cmp o_gt (x_callB o_len rfl e_len (by rfl) (xa_cons (x_var (i := 1) rfl (.inl rfl)) (xa_nil))) (x_globI rfl e_MOST_TIES) (by rfl)) (pw_or1 (xt_not (xt_val (x_callB (o_all rfl) rfl e_all (by rfl) (xa_cons (x_comp (own := [("tie", 2)]) rfl nd (xi_seq (x_var (i := 1) rfl (.inl rfl))) (blkOk_by (by kernel_rfl)) (fun _ _ _ _ _ => xg_name (i := 2) nd rfl (.inl rfl)) (fun _ _ _ _ _ => xts_nil) (fun _ _ _ _ _ => x_call (G_is_row.mono (by decide)) B_is_row K_is_row hr hgd rfl M_is_row (xa_cons (x_var (i := 2) rfl (.inl rfl)) (xa_cons (x_int) (xa_nil)))) (by decide)) (xa_nil))))))))) (xss_one (xs_ret (x_bl))) (xss_nil)) (xss_cons (xs_if (xt_not (xt_val (x_callB (o_all rfl) rfl e_all (by rfl) (xa_cons (x_comp (own := [("one", 3), ("other", 4)]) rfl nd (xi_seq (x_var (i := 1) rfl (.inl rfl))) (blkOk_by (by kernel_rfl)) (fun _ _ _ _ _ => xg_tup rfl (xgs_cons (xg_name (i := 3) nd rfl (.inl rfl)) (xgs_cons (xg_name (i := 4) nd rfl (.inl rfl)) (xgs_nil)))) (fun _ _ _ _ _ => xts_nil) (fun _ _ _ _ _ => x_and (x_call (G_is_below.mono (by decide)) B_is_below K_is_below hr hgd rfl M_is_below (xa_cons (x_var (i := 3) rfl (.inl rfl)) (xa_cons (x_var (i := 0) rfl (.inr (.inl rfl))) (xa_nil)))) (x_and (x_call (G_is_below.mono (by decide)) B_is_below K_is_below hr hgd rfl M_is_below (xa_cons (x_var (i := 4) rfl (.inl rfl)) (xa_cons (x_var (i := 0) rfl (.inr (.inl rfl))) (xa_nil)))) (pe_one (x_cmp (o_lt (r0 hr)) (x_var (i := 3) rfl (.inl rfl)) (x_var (i := 4) rfl (.inl rfl)) (by rfl))))) (by decide)) (xa_nil))))) (xss_one (xs_ret (x_bl))) (xss_nil)) (xss_one (xs_ret (x_callB (o_all rfl) rfl e_all (by rfl) (xa_cons (x_comp (own := [("near", 5), ("far", 6)]) rfl nd (xi_zip rfl e_zip (x_var (i := 1) rfl (.inl rfl)) (x_slice (x_var (i := 1) rfl (.inl rfl)) (xp_some (x_int)) (xp_none))) (blkOk_by (by kernel_rfl)) (fun _ _ _ _ _ => xg_tup rfl (xgs_cons (xg_name (i := 5) nd rfl (.inl rfl)) (xgs_cons (xg_name (i := 6) nd rfl (.inl rfl)) (xgs_nil)))) (fun _ _ _ _ _ => xts_nil) (fun _ _ _ _ _ => x_cmp (o_le (r0 hr)) (x_var (i := 5) rfl (.inl rfl)) (x_var (i := 6) rfl (.inl rfl)) (by rfl)) (by decide)) (xa_nil))))))
theorem sc_is_many : FnScope ["value"] ["value"] (defScope (top 18)) := ⟨rfl, rfl, rfl, by decide +kernel, rfl, by decide +kernel, by decide +kernel⟩
theorem ok_is_many (X : K.In base) (G : base.Ns mainGlobals mg) (c : Says K) : ∃ fd, Has P w K mg base "is_many" (top 18) 2 ["value"] F_is_many fd := by
  obtain ⟨fd, F⟩ := c.def_ 18 (d := d_is_many) rfl
  obtain ⟨t_MOST_PLACES, e_MOST_PLACES⟩ := He.int_ok X G (c.fact 55 (f := .int "MOST_PLACES" 16) rfl)
  obtain ⟨fd_is_integer, M_is_integer, U_is_integer, B_is_integer, G_is_integer⟩ := ok_is_integer (P := P) (w := w) X G c
  have K_is_integer := U_is_integer.kp
  refine ⟨fd, He.glo_ok X G (c.fact 18 (f := .glo "is_many") rfl), F, F.bindsN fun _ _ _ _ _ _ us hl => match us, hl with | [_], _ => rfl, L3.FunD.okG F sc_is_many fun cdv A outer s H E hr hgd => ?_⟩
  have nd := sc_is_many.nd
  exact xss_one (xs_ret (x_and (x_call (G_is_integer.mono (by decide)) B_is_integer K_is_integer hr hgd rfl M_is_integer (xa_cons (x_var (i := 0) rfl (.inl rfl)) (xa_nil))) (pe_one (x_chain (o_le (r0 hr)) (o_le (r0 hr)) (x_int) (x_var (i := 0) rfl (.inl rfl)) (x_globI rfl e_MOST_PLACES)))))
theorem sc_is_web_of : FnScope ["value"] ["value"] (defScope (top 19)) := ⟨rfl, rfl, rfl, by decide +kernel, rfl, by decide +kernel, by decide +kernel⟩
theorem ok_is_web_of (X : K.In base) (G : base.Ns mainGlobals mg) (c : Says K) : ∃ fd, Has P w K mg base "is_web_of" (top 19) 5 ["value"] F_is_web_of fd := by
  obtain ⟨fd, F⟩ := c.def_ 19 (d := d_is_web_of) rfl
  have e_str : mg "str" = none := He.free_ok X G (c.fact 56 (f := .free "str") rfl)
  have e_isinstance : mg "isinstance" = none := He.free_ok X G (c.fact 50 (f := .free "isinstance") rfl)
  obtain ⟨t_WEB, e_WEB⟩ := He.str_ok X G (c.fact 57 (f := .str "WEB" "web") rfl)
  obtain ⟨fd_is_row, M_is_row, U_is_row, B_is_row, G_is_row⟩ := ok_is_row (P := P) (w := w) X G c
  have K_is_row := U_is_row.kp
  obtain ⟨fd_is_many, M_is_many, U_is_many, B_is_many, G_is_many⟩ := ok_is_many (P := P) (w := w) X G c
  have K_is_many := U_is_many.kp
  obtain ⟨fd_are_ties, M_are_ties, U_are_ties, B_are_ties, G_are_ties⟩ := ok_are_ties (P := P) (w := w) X G c
  have K_are_ties := U_are_ties.kp
  refine ⟨fd, He.glo_ok X G (c.fact 19 (f := .glo "is_web_of") rfl), F, F.bindsN fun _ _ _ _ _ _ us hl => match us, hl with | [_], _ => rfl, L3.FunD.okG F sc_is_web_of fun cdv A outer s H E hr hgd => ?_⟩
  have nd := sc_is_web_of.nd
  exact xss_cons (xs_if (PW.pt (xw_or (xt_not (xt_val (x_call (G_is_row.mono (by decide)) B_is_row K_is_row hr hgd rfl M_is_row (xa_cons (x_var (i := 0) rfl (.inl rfl)) (xa_cons (x_int) (xa_nil)))))) (xw_or (xt_not (xt_val (x_callB o_isinst rfl e_isinstance (by rfl) (xa_cons (x_idx (x_var (i := 0) rfl (.inl rfl)) (x_int) (fun _ _ => rfl)) (xa_cons (x_ty rfl e_str (by rfl)) (xa_nil)))))) (xw_or (xt_cmp (o_ne (r64 hr)) (x_idx (x_var (i := 0) rfl (.inl rfl)) (x_int) (fun _ _ => rfl)) (x_globS rfl e_WEB) (by rfl)) (pw_or1 (xt_not (xt_val (x_call (G_is_many.mono (by decide)) B_is_many K_is_many hr hgd rfl M_is_many (xa_cons (x_idx (x_var (i := 0) rfl (.inl rfl)) (x_int) (fun _ _ => rfl)) (xa_nil)))))))))) (xss_one (xs_ret (x_bl))) (xss_nil)) (xss_one (xs_ret (x_call (G_are_ties.mono (by decide)) B_are_ties K_are_ties hr hgd rfl M_are_ties (xa_cons (x_idx (x_var (i := 0) rfl (.inl rfl)) (x_int) (fun _ _ => rfl)) (xa_cons (x_idx (x_var (i := 0) rfl (.inl rfl)) (x_int) (fun _ _ => rfl)) (xa_nil))))))
theorem sc_want_web : FnScope ["value"] ["value"] (defScope (top 25)) := ⟨rfl, rfl, rfl, by decide +kernel, rfl, by decide +kernel, by decide +kernel⟩
theorem ok_want_web (X : K.In base) (G : base.Ns mainGlobals mg) (c : Says K) : ∃ fd, Has P w K mg base "want_web" (top 25) 6 ["value"] F_want_web fd := by
  obtain ⟨fd, F⟩ := c.def_ 20 (d := d_want_web) rfl
  obtain ⟨fd_is_web_of, M_is_web_of, U_is_web_of, B_is_web_of, G_is_web_of⟩ := ok_is_web_of (P := P) (w := w) X G c
  have K_is_web_of := U_is_web_of.kp
  refine ⟨fd, He.glo_ok X G (c.fact 20 (f := .glo "want_web") rfl), F, F.bindsN fun _ _ _ _ _ _ us hl => match us, hl with | [_], _ => rfl, L3.FunD.okG F sc_want_web fun cdv A outer s H E hr hgd => ?_⟩
  have nd := sc_want_web.nd
  exact xss_cons (xs_if (xt_not (xt_val (x_call (G_is_web_of.mono (by decide)) B_is_web_of K_is_web_of hr hgd rfl M_is_web_of (xa_cons (x_var (i := 0) rfl (.inl rfl)) (xa_nil))))) (xss_one (xs_bad)) (xss_nil)) (xss_one (xs_ret (x_var (i := 0) rfl (.inl rfl))))
theorem sc_is_tree : FnScope ["web", "value"] ["web", "value"] (defScope (top 37)) := ⟨rfl, rfl, rfl, by decide +kernel, rfl, by decide +kernel, by decide +kernel⟩
theorem ok_is_tree (X : K.In base) (G : base.Ns mainGlobals mg) (c : Says K) : ∃ fd, Has P w K mg base "is_tree" (top 37) 7 ["web", "value"] F_is_tree fd := by
  obtain ⟨fd, F⟩ := c.def_ 21 (d := d_is_tree) rfl
  obtain ⟨fd_is_lot_of, M_is_lot_of, U_is_lot_of, B_is_lot_of, G_is_lot_of⟩ := ok_is_lot_of (P := P) (w := w) X G c
  have K_is_lot_of := U_is_lot_of.kp
  obtain ⟨fd_want_web, M_want_web, U_want_web, B_want_web, G_want_web⟩ := ok_want_web (P := P) (w := w) X G c
  have K_want_web := U_want_web.kp
  obtain ⟨fd_is_tree_lot, M_is_tree_lot, U_is_tree_lot, B_is_tree_lot, G_is_tree_lot⟩ := ok_is_tree_lot (P := P) (w := w) X G c
  have K_is_tree_lot := U_is_tree_lot.kp
  refine ⟨fd, He.glo_ok X G (c.fact 21 (f := .glo "is_tree") rfl), F, F.bindsN fun _ _ _ _ _ _ us hl => match us, hl with | [_, _], _ => rfl, L3.FunD.okG F sc_is_tree fun cdv A outer s H E hr hgd => ?_⟩
  have nd := sc_is_tree.nd
  exact xss_one (xs_ret (x_and (x_call (G_is_lot_of.mono (by decide)) B_is_lot_of K_is_lot_of hr hgd rfl M_is_lot_of (xa_cons (x_call (G_want_web.mono (by decide)) B_want_web K_want_web hr hgd rfl M_want_web (xa_cons (x_var (i := 0) rfl (.inl rfl)) (xa_nil))) (xa_cons (x_var (i := 1) rfl (.inl rfl)) (xa_nil)))) (pe_one (x_call (G_is_tree_lot.mono (by decide)) B_is_tree_lot K_is_tree_lot hr hgd rfl M_is_tree_lot (xa_cons (x_var (i := 0) rfl (.inl rfl)) (xa_cons (x_var (i := 1) rfl (.inl rfl)) (xa_nil)))))))
theorem sc__law_is_tree : FnScope ["web", "lot"] ["web", "lot"] (defScope (top 49)) := ⟨rfl, rfl, rfl, by decide +kernel, rfl, by decide +kernel, by decide +kernel⟩
theorem ok__law_is_tree (X : K.In base) (G : base.Ns mainGlobals mg) (c : Says K) : ∃ fd, Has P w K mg base "_law_is_tree" (top 49) 3 ["web", "lot"] F__law_is_tree fd := by
  obtain ⟨fd, F⟩ := c.def_ 22 (d := d__law_is_tree) rfl
  have e_len : mg "len" = none := He.free_ok X G (c.fact 38 (f := .free "len") rfl)
  have e_set : mg "set" = none := He.free_ok X G (c.fact 45 (f := .free "set") rfl)
  obtain ⟨fd__law_is_grove, M__law_is_grove, U__law_is_grove, B__law_is_grove, G__law_is_grove⟩ := ok__law_is_grove (P := P) (w := w) X G c
  have K__law_is_grove := U__law_is_grove.kp
  refine ⟨fd, He.glo_ok X G (c.fact 22 (f := .glo "_law_is_tree") rfl), F, F.bindsN fun _ _ _ _ _ _ us hl => match us, hl with | [_, _], _ => rfl, L3.FunD.okG F sc__law_is_tree fun cdv A outer s H E hr hgd => ?_⟩
  have nd := sc__law_is_tree.nd
  exact xss_one (xs_ret (x_and (x_chain (o_eq (r64 hr)) (o_eq (r64 hr)) (x_lenSetT rfl rfl e_len rfl e_set (x_var (i := 1) rfl (.inl rfl))) (x_bin o_sub (x_idx (x_var (i := 0) rfl (.inl rfl)) (x_int) (fun _ _ => rfl)) (x_int)) (x_callB o_len rfl e_len (by rfl) (xa_cons (x_var (i := 1) rfl (.inl rfl)) (xa_nil)))) (pe_one (x_call (G__law_is_grove.mono (by decide)) B__law_is_grove K__law_is_grove hr hgd rfl M__law_is_grove (xa_cons (x_var (i := 0) rfl (.inl rfl)) (xa_cons (x_var (i := 1) rfl (.inl rfl)) (xa_nil)))))))
theorem sc_want_tree : FnScope ["web", "value"] ["web", "value"] (defScope (top 36)) := ⟨rfl, rfl, rfl, by decide +kernel, rfl, by decide +kernel, by decide +kernel⟩
theorem ok_want_tree (X : K.In base) (G : base.Ns mainGlobals mg) (c : Says K) : ∃ fd, Has P w K mg base "want_tree" (top 36) 6 ["web", "value"] F_want_tree fd := by
  obtain ⟨fd, F⟩ := c.def_ 23 (d := d_want_tree) rfl
  obtain ⟨fd_is_lot_of, M_is_lot_of, U_is_lot_of, B_is_lot_of, G_is_lot_of⟩ := ok_is_lot_of (P := P) (w := w) X G c
  have K_is_lot_of := U_is_lot_of.kp
  obtain ⟨fd_is_tree_lot, M_is_tree_lot, U_is_tree_lot, B_is_tree_lot, G_is_tree_lot⟩ := ok_is_tree_lot (P := P) (w := w) X G c
  have K_is_tree_lot := U_is_tree_lot.kp
  refine ⟨fd, He.glo_ok X G (c.fact 23 (f := .glo "want_tree") rfl), F, F.bindsN fun _ _ _ _ _ _ us hl => match us, hl with | [_, _], _ => rfl, L3.FunD.okG F sc_want_tree fun cdv A outer s H E hr hgd => ?_⟩
  have nd := sc_want_tree.nd
  exact xss_cons (xs_if (PW.pt (xw_or (xt_not (xt_val (x_call (G_is_lot_of.mono (by decide)) B_is_lot_of K_is_lot_of hr hgd rfl M_is_lot_of (xa_cons (x_var (i := 0) rfl (.inl rfl)) (xa_cons (x_var (i := 1) rfl (.inl rfl)) (xa_nil)))))) (pw_or1 (xt_not (xt_val (x_call (G_is_tree_lot.mono (by decide)) B_is_tree_lot K_is_tree_lot hr hgd rfl M_is_tree_lot (xa_cons (x_var (i := 0) rfl (.inl rfl)) (xa_cons (x_var (i := 1) rfl (.inl rfl)) (xa_nil))))))))) (xss_one (xs_bad)) (xss_nil)) (xss_one (xs_ret (x_var (i := 1) rfl (.inl rfl))))
theorem sc_ties_at : FnScope ["web", "place", "tie", "ends"] ["web", "place"] (defScope (top 22)) := ⟨rfl, rfl, rfl, by decide +kernel, rfl, by decide +kernel, by decide +kernel⟩
theorem ok_ties_at (X : K.In base) (G : base.Ns mainGlobals mg) (c : Says K) : ∃ fd, Has P w K mg base "ties_at" (top 22) 1 ["web", "place"] F_ties_at fd := by
  obtain ⟨fd, F⟩ := c.def_ 24 (d := d_ties_at) rfl
  have e_enumerate : mg "enumerate" = none := He.free_ok X G (c.fact 53 (f := .free "enumerate") rfl)
  refine ⟨fd, He.glo_ok X G (c.fact 24 (f := .glo "ties_at") rfl), F, F.bindsN fun _ _ _ _ _ _ us hl => match us, hl with | [_, _], _ => rfl, L3.FunD.okG F sc_ties_at fun cdv A outer s H E hr hgd => ?_⟩
  have nd := sc_ties_at.nd
  exact xss_one (xs_ret (x_comp (own := [("tie", 2), ("ends", 3)]) rfl nd (xi_enum rfl e_enumerate (x_idx (x_var (i := 0) rfl (.inl rfl)) (x_int) (fun _ _ => rfl))) (blkOk_by (by kernel_rfl)) (fun _ _ _ _ _ => xg_tup rfl (xgs_cons (xg_name (i := 2) nd rfl (.inl rfl)) (xgs_cons (xg_name (i := 3) nd rfl (.inl rfl)) (xgs_nil)))) (fun _ _ _ _ _ => xts_one (xt_cmp (o_in (r65 hr)) (x_var (i := 1) rfl (.inr (.inl rfl))) (x_var (i := 3) rfl (.inl rfl)) (by rfl))) (fun _ _ _ _ _ => x_var (i := 2) rfl (.inl rfl)) (by decide)))
theorem sc_other_end : FnScope ["web", "tie", "place", "one", "other"] ["web", "tie", "place"] (defScope (top 23)) := ⟨rfl, rfl, rfl, by decide +kernel, rfl, by decide +kernel, by decide +kernel⟩
theorem ok_other_end (X : K.In base) (G : base.Ns mainGlobals mg) (c : Says K) : ∃ fd, Has P w K mg base "other_end" (top 23) 1 ["web", "tie", "place"] F_other_end fd := by
  obtain ⟨fd, F⟩ := c.def_ 25 (d := d_other_end) rfl
  refine ⟨fd, He.glo_ok X G (c.fact 25 (f := .glo "other_end") rfl), F, F.bindsN fun _ _ _ _ _ _ us hl => match us, hl with | [_, _, _], _ => rfl, L3.FunD.okG F sc_other_end fun cdv A outer s H E hr hgd => ?_⟩
  have nd := sc_other_end.nd
  exact xss_cons (xs_asg (x_idx (x_idx (x_var (i := 0) rfl (.inl rfl)) (x_int) (fun _ _ => rfl)) (x_var (i := 1) rfl (.inl rfl)) (fun _ _ => rfl)) (xg_tup rfl (xgs_cons (xg_name (i := 3) nd rfl (.inl rfl)) (xgs_cons (xg_name (i := 4) nd rfl (.inl rfl)) (xgs_nil))))) (xss_one (xs_ret (x_if (xt_cmp (o_eq (r64 hr)) (x_var (i := 2) rfl (.inl rfl)) (x_var (i := 3) rfl (.inl rfl)) (by rfl)) (x_var (i := 4) rfl (.inl rfl)) (x_var (i := 3) rfl (.inl rfl)))))
theorem sc_way_in : FnScope ["web", "lot", "place", "other", "behind", "order", "turn", "here", "tie", "late", "found"] ["web", "lot", "place", "other"] (defScope (top 31)) := ⟨rfl, rfl, rfl, by decide +kernel, rfl, by decide +kernel, by decide +kernel⟩
theorem ok_way_in (X : K.In base) (G : base.Ns mainGlobals mg) (c : Says K) : ∃ fd, Has P w K mg base "way_in" (top 31) 2 ["web", "lot", "place", "other"] F_way_in fd := by
  obtain ⟨fd, F⟩ := c.def_ 26 (d := d_way_in) rfl
  have e_len : mg "len" = none := He.free_ok X G (c.fact 38 (f := .free "len") rfl)
  have e_tuple : mg "tuple" = none := He.free_ok X G (c.fact 46 (f := .free "tuple") rfl)
  obtain ⟨fd_ties_at, M_ties_at, U_ties_at, B_ties_at, G_ties_at⟩ := ok_ties_at (P := P) (w := w) X G c
  have K_ties_at := U_ties_at.kp
  obtain ⟨fd_other_end, M_other_end, U_other_end, B_other_end, G_other_end⟩ := ok_other_end (P := P) (w := w) X G c
  have K_other_end := U_other_end.kp
  refine ⟨fd, He.glo_ok X G (c.fact 26 (f := .glo "way_in") rfl), F, F.bindsN fun _ _ _ _ _ _ us hl => match us, hl with | [_, _, _, _], _ => rfl, L3.FunD.okG F sc_way_in fun cdv A outer s H E hr hgd => ?_⟩
  have nd := sc_way_in.nd
  exact xss_cons (xs_par3 (i := 4) (j := 5) (l := 6) rfl nd rfl rfl rfl (by decide) (by decide) (by decide) rfl rfl rfl (xa_cons (x_disp (xp_cons (x_var (i := 2) rfl (.inl rfl)) (x_non) (xp_nil)) (by rfl) (by rfl) (fun z => by cases z) (by decide)) (xa_cons (x_lstNew (xa_cons (x_var (i := 2) rfl (.inl rfl)) (xa_nil))) (xa_cons (x_int) (xa_nil))))) (xss_cons (xs_while PassesOwn.leaving (xt_cmp (o_lt (r0 hr)) (x_var (i := 6) rfl (.inl rfl)) (x_callB o_len rfl e_len (by rfl) (xa_cons (x_var (i := 5) rfl (.inl rfl)) (xa_nil))) (by rfl)) (xss_cons (xs_set (i := 7) nd rfl (.inl rfl) (x_idx (x_var (i := 5) rfl (.inl rfl)) (x_var (i := 6) rfl (.inl rfl)) (fun _ _ => rfl))) (xss_cons (xs_for PassesOwn.leaving rfl (xi_seq (x_call (G_ties_at.mono (by decide)) B_ties_at K_ties_at hr hgd rfl M_ties_at (xa_cons (x_var (i := 0) rfl (.inl rfl)) (xa_cons (x_var (i := 7) rfl (.inl rfl)) (xa_nil))))) (xg_name (i := 8) nd rfl (.inl rfl)) (xss_cons (xs_set (i := 9) nd rfl (.inl rfl) (x_call (G_other_end.mono (by decide)) B_other_end K_other_end hr hgd rfl M_other_end (xa_cons (x_var (i := 0) rfl (.inl rfl)) (xa_cons (x_var (i := 8) rfl (.inl rfl)) (xa_cons (x_var (i := 7) rfl (.inl rfl)) (xa_nil)))))) (xss_one (xs_if (PW.pt (xw_and (xt_cmp (o_in (r65 hr)) (x_var (i := 8) rfl (.inl rfl)) (x_var (i := 1) rfl (.inl rfl)) (by rfl)) (pw_and1 (xt_dNotIn (r1 hr) (x_var (i := 9) rfl (.inl rfl)) (x_var (i := 4) rfl (.inl rfl)) (by rfl))))) (xss_cons (xs_dPut (r1 hr) (x_tup (xa_cons (x_var (i := 8) rfl (.inl rfl)) (xa_cons (x_var (i := 7) rfl (.inl rfl)) (xa_nil)))) (x_var (i := 4) rfl (.inl rfl)) (x_var (i := 9) rfl (.inl rfl))) (xss_one (xs_exp (x_append (x_var (i := 5) rfl (.inl rfl)) (xa_cons (x_var (i := 9) rfl (.inl rfl)) (xa_nil)))))) (xss_nil))))) (xss_one (xs_aug (i := 6) nd rfl (.inl rfl) (x_int) oi_add))))) (xss_cons (xs_if (xt_dNotIn (r1 hr) (x_var (i := 3) rfl (.inl rfl)) (x_var (i := 4) rfl (.inl rfl)) (by rfl)) (xss_one (xs_ret (x_non))) (xss_nil)) (xss_cons (xs_set (i := 10) nd rfl (.inl rfl) (x_lstNew (xa_nil))) (xss_cons (xs_while PassesOwn.leaving (xt_cmp o_isNot (x_getD (r1 hr) (x_var (i := 4) rfl (.inl rfl)) (x_var (i := 3) rfl (.inl rfl)) (fun _ _ => rfl)) (x_non) (by rfl)) (xss_cons (xs_asg (x_getD (r1 hr) (x_var (i := 4) rfl (.inl rfl)) (x_var (i := 3) rfl (.inl rfl)) (fun _ _ => rfl)) (xg_tup rfl (xgs_cons (xg_name (i := 8) nd rfl (.inl rfl)) (xgs_cons (xg_name (i := 3) nd rfl (.inl rfl)) (xgs_nil))))) (xss_one (xs_exp (x_append (x_var (i := 10) rfl (.inl rfl)) (xa_cons (x_var (i := 8) rfl (.inl rfl)) (xa_nil))))))) (xss_one (xs_ret (x_callTy o_tuple rfl e_tuple (by rfl) (xa_cons (x_rev (x_var (i := 10) rfl (.inl rfl))) (xa_nil)))))))))
theorem sc_ring_with : FnScope ["web", "grove", "tie", "one", "other", "way"] ["web", "grove", "tie"] (defScope (top 32)) := ⟨rfl, rfl, rfl, by decide +kernel, rfl, by decide +kernel, by decide +kernel⟩
theorem ok_ring_with (X : K.In base) (G : base.Ns mainGlobals mg) (c : Says K) : ∃ fd, Has P w K mg base "ring_with" (top 32) 3 ["web", "grove", "tie"] F_ring_with fd := by
  obtain ⟨fd, F⟩ := c.def_ 27 (d := d_ring_with) rfl
  have e_sorted : mg "sorted" = none := He.free_ok X G (c.fact 44 (f := .free "sorted") rfl)
  have e_tuple : mg "tuple" = none := He.free_ok X G (c.fact 46 (f := .free "tuple") rfl)
  obtain ⟨fd_way_in, M_way_in, U_way_in, B_way_in, G_way_in⟩ := ok_way_in (P := P) (w := w) X G c
  have K_way_in := U_way_in.kp
  refine ⟨fd, He.glo_ok X G (c.fact 27 (f := .glo "ring_with") rfl), F, F.bindsN fun _ _ _ _ _ _ us hl => match us, hl with | [_, _, _], _ => rfl, L3.FunD.okG F sc_ring_with fun cdv A outer s H E hr hgd => ?_⟩
  have nd := sc_ring_with.nd
  exact xss_cons (xs_asg (x_idx (x_idx (x_var (i := 0) rfl (.inl rfl)) (x_int) (fun _ _ => rfl)) (x_var (i := 2) rfl (.inl rfl)) (fun _ _ => rfl)) (xg_tup rfl (xgs_cons (xg_name (i := 3) nd rfl (.inl rfl)) (xgs_cons (xg_name (i := 4) nd rfl (.inl rfl)) (xgs_nil))))) (xss_cons (xs_set (i := 5) nd rfl (.inl rfl) (x_call (G_way_in.mono (by decide)) B_way_in K_way_in hr hgd rfl M_way_in (xa_cons (x_var (i := 0) rfl (.inl rfl)) (xa_cons (x_var (i := 1) rfl (.inl rfl)) (xa_cons (x_var (i := 3) rfl (.inl rfl)) (xa_cons (x_var (i := 4) rfl (.inl rfl)) (xa_nil))))))) (xss_one (xs_ret (x_if (xt_cmp o_is (x_var (i := 5) rfl (.inl rfl)) (x_non) (by rfl)) (x_non) (x_callTy o_tuple rfl e_tuple (by rfl) (xa_cons (x_callB (o_sorted (r100 hr)) rfl e_sorted (by rfl) (xa_cons (x_bin o_add (x_var (i := 5) rfl (.inl rfl)) (x_tup (xa_cons (x_var (i := 2) rfl (.inl rfl)) (xa_nil)))) (xa_nil))) (xa_nil)))))))
theorem sc_without_tie : FnScope ["lot", "tie", "one"] ["lot", "tie"] (defScope (top 33)) := ⟨rfl, rfl, rfl, by decide +kernel, rfl, by decide +kernel, by decide +kernel⟩
theorem ok_without_tie (X : K.In base) (G : base.Ns mainGlobals mg) (c : Says K) : ∃ fd, Has P w K mg base "without_tie" (top 33) 1 ["lot", "tie"] F_without_tie fd := by
  obtain ⟨fd, F⟩ := c.def_ 28 (d := d_without_tie) rfl
  have e_tuple : mg "tuple" = none := He.free_ok X G (c.fact 46 (f := .free "tuple") rfl)
  refine ⟨fd, He.glo_ok X G (c.fact 28 (f := .glo "without_tie") rfl), F, F.bindsN fun _ _ _ _ _ _ us hl => match us, hl with | [_, _], _ => rfl, L3.FunD.okG F sc_without_tie fun cdv A outer s H E hr hgd => ?_⟩
  have nd := sc_without_tie.nd
  exact xss_one (xs_ret (x_callTy o_tuple rfl e_tuple (by rfl) (xa_cons (x_comp (own := [("one", 2)]) rfl nd (xi_seq (x_var (i := 0) rfl (.inl rfl))) (blkOk_by (by kernel_rfl)) (fun _ _ _ _ _ => xg_name (i := 2) nd rfl (.inl rfl)) (fun _ _ _ _ _ => xts_one (xt_cmp (o_ne (r64 hr)) (x_var (i := 2) rfl (.inl rfl)) (x_var (i := 1) rfl (.inr (.inl rfl))) (by rfl))) (fun _ _ _ _ _ => x_var (i := 2) rfl (.inl rfl)) (by decide)) (xa_nil))))
theorem sc_cut_by : FnScope ["web", "tree", "tie", "part", "one", "ends"] ["web", "tree", "tie"] (defScope (top 34)) := ⟨rfl, rfl, rfl, by decide +kernel, rfl, by decide +kernel, by decide +kernel⟩
theorem ok_cut_by (X : K.In base) (G : base.Ns mainGlobals mg) (c : Says K) : ∃ fd, Has P w K mg base "cut_by" (top 34) 2 ["web", "tree", "tie"] F_cut_by fd := by
  obtain ⟨fd, F⟩ := c.def_ 29 (d := d_cut_by) rfl
  have e_enumerate : mg "enumerate" = none := He.free_ok X G (c.fact 53 (f := .free "enumerate") rfl)
  have e_tuple : mg "tuple" = none := He.free_ok X G (c.fact 46 (f := .free "tuple") rfl)
  obtain ⟨fd_parts_of, M_parts_of, U_parts_of, B_parts_of, G_parts_of⟩ := ok_parts_of (P := P) (w := w) X G c
  have K_parts_of := U_parts_of.kp
  obtain ⟨fd_without_tie, M_without_tie, U_without_tie, B_without_tie, G_without_tie⟩ := ok_without_tie (P := P) (w := w) X G c
  have K_without_tie := U_without_tie.kp
  refine ⟨fd, He.glo_ok X G (c.fact 29 (f := .glo "cut_by") rfl), F, F.bindsN fun _ _ _ _ _ _ us hl => match us, hl with | [_, _, _], _ => rfl, L3.FunD.okG F sc_cut_by fun cdv A outer s H E hr hgd => ?_⟩
  have nd := sc_cut_by.nd
  exact xss_cons (xs_set (i := 3) nd rfl (.inr rfl) (x_idx (x_call (G_parts_of.mono (by decide)) B_parts_of K_parts_of hr hgd rfl M_parts_of (xa_cons (x_var (i := 0) rfl (.inl rfl)) (xa_cons (x_call (G_without_tie.mono (by decide)) B_without_tie K_without_tie hr hgd rfl M_without_tie (xa_cons (x_var (i := 1) rfl (.inl rfl)) (xa_cons (x_var (i := 2) rfl (.inl rfl)) (xa_nil)))) (xa_nil)))) (x_int) (fun _ _ => rfl))) (xss_one (xs_ret (x_callTy o_tuple rfl e_tuple (by rfl) (xa_cons (x_comp (own := [("one", 4), ("ends", 5)]) rfl nd (xi_enum rfl e_enumerate (x_idx (x_var (i := 0) rfl (.inl rfl)) (x_int) (fun _ _ => rfl))) (blkOk_by (by kernel_rfl)) (fun _ _ _ _ _ => xg_tup rfl (xgs_cons (xg_name (i := 4) nd rfl (.inl rfl)) (xgs_cons (xg_name (i := 5) nd rfl (.inl rfl)) (xgs_nil)))) (fun _ _ _ _ _ => xts_one (xt_cmp (o_ne (r64 hr)) (x_cmp (o_in (r65 hr)) (x_idx (x_var (i := 5) rfl (.inl rfl)) (x_int) (fun _ _ => rfl)) (x_var (i := 3) rfl (.inr (.inl rfl))) (by rfl)) (x_cmp (o_in (r65 hr)) (x_idx (x_var (i := 5) rfl (.inl rfl)) (x_int) (fun _ _ => rfl)) (x_var (i := 3) rfl (.inr (.inl rfl))) (by rfl)) (by rfl))) (fun _ _ _ _ _ => x_var (i := 4) rfl (.inl rfl)) (by decide)) (xa_nil)))))
theorem sc_exchange_of : FnScope ["web", "tree", "other", "tie", "ring", "one"] ["web", "tree", "other", "tie"] (defScope (top 35)) := ⟨rfl, rfl, rfl, by decide +kernel, rfl, by decide +kernel, by decide +kernel⟩
theorem ok_exchange_of (X : K.In base) (G : base.Ns mainGlobals mg) (c : Says K) : ∃ fd, Has P w K mg base "exchange_of" (top 35) 4 ["web", "tree", "other", "tie"] F_exchange_of fd := by
  obtain ⟨fd, F⟩ := c.def_ 30 (d := d_exchange_of) rfl
  obtain ⟨fd_ring_with, M_ring_with, U_ring_with, B_ring_with, G_ring_with⟩ := ok_ring_with (P := P) (w := w) X G c
  have K_ring_with := U_ring_with.kp
  obtain ⟨fd_cut_by, M_cut_by, U_cut_by, B_cut_by, G_cut_by⟩ := ok_cut_by (P := P) (w := w) X G c
  have K_cut_by := U_cut_by.kp
  refine ⟨fd, He.glo_ok X G (c.fact 30 (f := .glo "exchange_of") rfl), F, F.bindsN fun _ _ _ _ _ _ us hl => match us, hl with | [_, _, _, _], _ => rfl, L3.FunD.okG F sc_exchange_of fun cdv A outer s H E hr hgd => ?_⟩
  have nd := sc_exchange_of.nd
  exact xss_cons (xs_set (i := 4) nd rfl (.inr rfl) (x_if (xt_cmp (o_notIn (r65 hr)) (x_var (i := 3) rfl (.inl rfl)) (x_var (i := 2) rfl (.inr (.inl rfl))) (by rfl)) (x_call (G_ring_with.mono (by decide)) B_ring_with K_ring_with hr hgd rfl M_ring_with (xa_cons (x_var (i := 0) rfl (.inl rfl)) (xa_cons (x_var (i := 2) rfl (.inr (.inl rfl))) (xa_cons (x_var (i := 3) rfl (.inl rfl)) (xa_nil))))) (x_tup (xa_cons (x_var (i := 3) rfl (.inl rfl)) (xa_nil))))) (xss_one (xs_ret (x_idx (x_comp (own := [("one", 5)]) rfl nd (xi_seq (x_call (G_cut_by.mono (by decide)) B_cut_by K_cut_by hr hgd rfl M_cut_by (xa_cons (x_var (i := 0) rfl (.inl rfl)) (xa_cons (x_var (i := 1) rfl (.inl rfl)) (xa_cons (x_var (i := 3) rfl (.inl rfl)) (xa_nil)))))) (blkOk_by (by kernel_rfl)) (fun _ _ _ _ _ => xg_name (i := 5) nd rfl (.inl rfl)) (fun _ _ _ _ _ => xts_one (PW.pt (xw_and (xt_cmp (o_in (r65 hr)) (x_var (i := 5) rfl (.inl rfl)) (x_var (i := 4) rfl (.inr (.inl rfl))) (by rfl)) (pw_and1 (xt_cmp (o_in (r65 hr)) (x_var (i := 5) rfl (.inl rfl)) (x_var (i := 2) rfl (.inr (.inl rfl))) (by rfl)))))) (fun _ _ _ _ _ => x_var (i := 5) rfl (.inl rfl)) (by decide)) (x_int) (fun _ _ => rfl))))
theorem sc_want_tie : FnScope ["web", "value"] ["web", "value"] (defScope (top 26)) := ⟨rfl, rfl, rfl, by decide +kernel, rfl, by decide +kernel, by decide +kernel⟩
theorem ok_want_tie (X : K.In base) (G : base.Ns mainGlobals mg) (c : Says K) : ∃ fd, Has P w K mg base "want_tie" (top 26) 5 ["web", "value"] F_want_tie fd := by
  obtain ⟨fd, F⟩ := c.def_ 31 (d := d_want_tie) rfl
  obtain ⟨fd_is_tie_of, M_is_tie_of, U_is_tie_of, B_is_tie_of, G_is_tie_of⟩ := ok_is_tie_of (P := P) (w := w) X G c
  have K_is_tie_of := U_is_tie_of.kp
  refine ⟨fd, He.glo_ok X G (c.fact 31 (f := .glo "want_tie") rfl), F, F.bindsN fun _ _ _ _ _ _ us hl => match us, hl with | [_, _], _ => rfl, L3.FunD.okG F sc_want_tie fun cdv A outer s H E hr hgd => ?_⟩
  have nd := sc_want_tie.nd
  exact xss_cons (xs_if (xt_not (xt_val (x_call (G_is_tie_of.mono (by decide)) B_is_tie_of K_is_tie_of hr hgd rfl M_is_tie_of (xa_cons (x_var (i := 0) rfl (.inl rfl)) (xa_cons (x_var (i := 1) rfl (.inl rfl)) (xa_nil)))))) (xss_one (xs_bad)) (xss_nil)) (xss_one (xs_ret (x_var (i := 1) rfl (.inl rfl))))
theorem sc_exchange : FnScope ["web", "tree", "other_tree", "tie"] ["web", "tree", "other_tree", "tie"] (defScope (top 39)) := ⟨rfl, rfl, rfl, by decide +kernel, rfl, by decide +kernel, by decide +kernel⟩
theorem ok_exchange (X : K.In base) (G : base.Ns mainGlobals mg) (c : Says K) : ∃ fd, Has P w K mg base "exchange" (top 39) 7 ["web", "tree", "other_tree", "tie"] F_exchange fd := by
  obtain ⟨fd, F⟩ := c.def_ 32 (d := d_exchange) rfl
  obtain ⟨fd_want_tree, M_want_tree, U_want_tree, B_want_tree, G_want_tree⟩ := ok_want_tree (P := P) (w := w) X G c
  have K_want_tree := U_want_tree.kp
  obtain ⟨fd_want_web, M_want_web, U_want_web, B_want_web, G_want_web⟩ := ok_want_web (P := P) (w := w) X G c
  have K_want_web := U_want_web.kp
  obtain ⟨fd_want_tie, M_want_tie, U_want_tie, B_want_tie, G_want_tie⟩ := ok_want_tie (P := P) (w := w) X G c
  have K_want_tie := U_want_tie.kp
  obtain ⟨fd_exchange_of, M_exchange_of, U_exchange_of, B_exchange_of, G_exchange_of⟩ := ok_exchange_of (P := P) (w := w) X G c
  have K_exchange_of := U_exchange_of.kp
  refine ⟨fd, He.glo_ok X G (c.fact 32 (f := .glo "exchange") rfl), F, F.bindsN fun _ _ _ _ _ _ us hl => match us, hl with | [_, _, _, _], _ => rfl, L3.FunD.okG F sc_exchange fun cdv A outer s H E hr hgd => ?_⟩
  have nd := sc_exchange.nd
  exact xss_cons (xs_exp (x_call (G_want_tree.mono (by decide)) B_want_tree K_want_tree hr hgd rfl M_want_tree (xa_cons (x_call (G_want_web.mono (by decide)) B_want_web K_want_web hr hgd rfl M_want_web (xa_cons (x_var (i := 0) rfl (.inl rfl)) (xa_nil))) (xa_cons (x_var (i := 1) rfl (.inl rfl)) (xa_nil))))) (xss_cons (xs_exp (x_call (G_want_tree.mono (by decide)) B_want_tree K_want_tree hr hgd rfl M_want_tree (xa_cons (x_var (i := 0) rfl (.inl rfl)) (xa_cons (x_var (i := 2) rfl (.inl rfl)) (xa_nil))))) (xss_cons (xs_if (xt_cmp (o_notIn (r65 hr)) (x_call (G_want_tie.mono (by decide)) B_want_tie K_want_tie hr hgd rfl M_want_tie (xa_cons (x_var (i := 0) rfl (.inl rfl)) (xa_cons (x_var (i := 3) rfl (.inl rfl)) (xa_nil)))) (x_var (i := 1) rfl (.inl rfl)) (by rfl)) (xss_one (xs_bad)) (xss_nil)) (xss_one (xs_ret (x_call (G_exchange_of.mono (by decide)) B_exchange_of K_exchange_of hr hgd rfl M_exchange_of (xa_cons (x_var (i := 0) rfl (.inl rfl)) (xa_cons (x_var (i := 1) rfl (.inl rfl)) (xa_cons (x_var (i := 2) rfl (.inl rfl)) (xa_cons (x_var (i := 3) rfl (.inl rfl)) (xa_nil))))))))))
theorem sc_cut : FnScope ["web", "tree", "tie"] ["web", "tree", "tie"] (defScope (top 38)) := ⟨rfl, rfl, rfl, by decide +kernel, rfl, by decide +kernel, by decide +kernel⟩
theorem ok_cut (X : K.In base) (G : base.Ns mainGlobals mg) (c : Says K) : ∃ fd, Has P w K mg base "cut" (top 38) 7 ["web", "tree", "tie"] F_cut fd := by
  obtain ⟨fd, F⟩ := c.def_ 33 (d := d_cut) rfl
  obtain ⟨fd_want_tree, M_want_tree, U_want_tree, B_want_tree, G_want_tree⟩ := ok_want_tree (P := P) (w := w) X G c
  have K_want_tree := U_want_tree.kp
  obtain ⟨fd_want_web, M_want_web, U_want_web, B_want_web, G_want_web⟩ := ok_want_web (P := P) (w := w) X G c
  have K_want_web := U_want_web.kp
  obtain ⟨fd_want_tie, M_want_tie, U_want_tie, B_want_tie, G_want_tie⟩ := ok_want_tie (P := P) (w := w) X G c
  have K_want_tie := U_want_tie.kp
  obtain ⟨fd_cut_by, M_cut_by, U_cut_by, B_cut_by, G_cut_by⟩ := ok_cut_by (P := P) (w := w) X G c
  have K_cut_by := U_cut_by.kp
  refine ⟨fd, He.glo_ok X G (c.fact 33 (f := .glo "cut") rfl), F, F.bindsN fun _ _ _ _ _ _ us hl => match us, hl with | [_, _, _], _ => rfl, L3.FunD.okG F sc_cut fun cdv A outer s H E hr hgd => ?_⟩
  have nd := sc_cut.nd
  exact xss_cons (xs_exp (x_call (G_want_tree.mono (by decide)) B_want_tree K_want_tree hr hgd rfl M_want_tree (xa_cons (x_call (G_want_web.mono (by decide)) B_want_web K_want_web hr hgd rfl M_want_web (xa_cons (x_var (i := 0) rfl (.inl rfl)) (xa_nil))) (xa_cons (x_var (i := 1) rfl (.inl rfl)) (xa_nil))))) (xss_cons (xs_if (xt_cmp (o_notIn (r65 hr)) (x_call (G_want_tie.mono (by decide)) B_want_tie K_want_tie hr hgd rfl M_want_tie (xa_cons (x_var (i := 0) rfl (.inl rfl)) (xa_cons (x_var (i := 2) rfl (.inl rfl)) (xa_nil)))) (x_var (i := 1) rfl (.inl rfl)) (by rfl)) (xss_one (xs_bad)) (xss_nil)) (xss_one (xs_ret (x_call (G_cut_by.mono (by decide)) B_cut_by K_cut_by hr hgd rfl M_cut_by (xa_cons (x_var (i := 0) rfl (.inl rfl)) (xa_cons (x_var (i := 1) rfl (.inl rfl)) (xa_cons (x_var (i := 2) rfl (.inl rfl)) (xa_nil))))))))
theorem sc__law_changed : FnScope ["tree", "gone", "come", "tie"] ["tree", "gone", "come"] (defScope (top 48)) := ⟨rfl, rfl, rfl, by decide +kernel, rfl, by decide +kernel, by decide +kernel⟩
theorem ok__law_changed (X : K.In base) (G : base.Ns mainGlobals mg) (c : Says K) : ∃ fd, Has P w K mg base "_law_changed" (top 48) 1 ["tree", "gone", "come"] F__law_changed fd := by
  obtain ⟨fd, F⟩ := c.def_ 34 (d := d__law_changed) rfl
  have e_sorted : mg "sorted" = none := He.free_ok X G (c.fact 44 (f := .free "sorted") rfl)
  have e_tuple : mg "tuple" = none := He.free_ok X G (c.fact 46 (f := .free "tuple") rfl)
  refine ⟨fd, He.glo_ok X G (c.fact 34 (f := .glo "_law_changed") rfl), F, F.bindsN fun _ _ _ _ _ _ us hl => match us, hl with | [_, _, _], _ => rfl, L3.FunD.okG F sc__law_changed fun cdv A outer s H E hr hgd => ?_⟩
  have nd := sc__law_changed.nd
  exact xss_one (xs_ret (x_callTy o_tuple rfl e_tuple (by rfl) (xa_cons (x_callB (o_sorted (r100 hr)) rfl e_sorted (by rfl) (xa_cons (x_bin o_add (x_comp (own := [("tie", 3)]) rfl nd (xi_seq (x_var (i := 0) rfl (.inl rfl))) (blkOk_by (by kernel_rfl)) (fun _ _ _ _ _ => xg_name (i := 3) nd rfl (.inl rfl)) (fun _ _ _ _ _ => xts_one (xt_cmp (o_ne (r64 hr)) (x_var (i := 3) rfl (.inl rfl)) (x_var (i := 1) rfl (.inr (.inl rfl))) (by rfl))) (fun _ _ _ _ _ => x_var (i := 3) rfl (.inl rfl)) (by decide)) (x_lst (xa_cons (x_var (i := 2) rfl (.inl rfl)) (xa_nil)))) (xa_nil))) (xa_nil))))
theorem sc__law_right : FnScope ["pot", "web", "tree", "other", "tie", "some", "due", "good", "late", "one", "ends"] ["pot", "web"] (defScope (top 50)) := ⟨rfl, rfl, rfl, by decide +kernel, rfl, by decide +kernel, by decide +kernel⟩
theorem ok__law_right (X : K.In base) (G : base.Ns mainGlobals mg) (c : Says K) : ∃ fd, Has P w K mg base "_law_right" (top 50) 8 ["pot", "web"] F__law_right fd := by
  obtain ⟨fd, F⟩ := c.def_ 35 (d := d__law_right) rfl
  have e_enumerate : mg "enumerate" = none := He.free_ok X G (c.fact 53 (f := .free "enumerate") rfl)
  have e_tuple : mg "tuple" = none := He.free_ok X G (c.fact 46 (f := .free "tuple") rfl)
  have e_len : mg "len" = none := He.free_ok X G (c.fact 38 (f := .free "len") rfl)
  have e_repr : mg "repr" = none := He.free_ok X G (c.fact 58 (f := .free "repr") rfl)
  have e_min : mg "min" = none := He.free_ok X G (c.fact 52 (f := .free "min") rfl)
  obtain ⟨fd__law_tree, M__law_tree, U__law_tree, B__law_tree, G__law_tree⟩ := ok__law_tree (P := P) (w := w) X G c
  have K__law_tree := U__law_tree.kp
  obtain ⟨fd_is_tree, M_is_tree, U_is_tree, B_is_tree, G_is_tree⟩ := ok_is_tree (P := P) (w := w) X G c
  have K_is_tree := U_is_tree.kp
  obtain ⟨fd__law_parts, M__law_parts, U__law_parts, B__law_parts, G__law_parts⟩ := ok__law_parts (P := P) (w := w) X G c
  have K__law_parts := U__law_parts.kp
  obtain ⟨fd__law_told, M__law_told, U__law_told, B__law_told, G__law_told⟩ := ok__law_told (P := P) (w := w) X G c
  have K__law_told := U__law_told.kp
  obtain ⟨fd_cut, M_cut, U_cut, B_cut, G_cut⟩ := ok_cut (P := P) (w := w) X G c
  have K_cut := U_cut.kp
  obtain ⟨fd__law_is_tree, M__law_is_tree, U__law_is_tree, B__law_is_tree, G__law_is_tree⟩ := ok__law_is_tree (P := P) (w := w) X G c
  have K__law_is_tree := U__law_is_tree.kp
  obtain ⟨fd__law_changed, M__law_changed, U__law_changed, B__law_changed, G__law_changed⟩ := ok__law_changed (P := P) (w := w) X G c
  have K__law_changed := U__law_changed.kp
  obtain ⟨fd_exchange, M_exchange, U_exchange, B_exchange, G_exchange⟩ := ok_exchange (P := P) (w := w) X G c
  have K_exchange := U_exchange.kp
  refine ⟨fd, He.glo_ok X G (c.fact 35 (f := .glo "_law_right") rfl), F, F.bindsN fun _ _ _ _ _ _ us hl => match us, hl with | [_, _], _ => rfl, L3.FunD.okG F sc__law_right fun cdv A outer s H E hr hgd => ?_⟩
  have nd := sc__law_right.nd
  exact xss_cons (xs_asg (x_tup (xa_cons (x_call (G__law_tree.mono (by decide)) B__law_tree K__law_tree hr hgd rfl M__law_tree (xa_cons (x_var (i := 0) rfl (.inl rfl)) (xa_cons (x_var (i := 1) rfl (.inr (.inl rfl))) (xa_nil)))) (xa_cons (x_call (G__law_tree.mono (by decide)) B__law_tree K__law_tree hr hgd rfl M__law_tree (xa_cons (x_var (i := 0) rfl (.inl rfl)) (xa_cons (x_var (i := 1) rfl (.inr (.inl rfl))) (xa_nil)))) (xa_nil)))) (xg_tup rfl (xgs_cons (xg_name (i := 2) nd rfl (.inr rfl)) (xgs_cons (xg_name (i := 3) nd rfl (.inr rfl)) (xgs_nil))))) (xss_cons (xs_if (PW.pt (xw_or (xt_cmp o_isNot (x_call (G_is_tree.mono (by decide)) B_is_tree K_is_tree hr hgd rfl M_is_tree (xa_cons (x_var (i := 1) rfl (.inr (.inl rfl))) (xa_cons (x_var (i := 2) rfl (.inr (.inl rfl))) (xa_nil)))) (x_bl) (by rfl)) (pw_or1 (xt_cmp o_isNot (x_call (G_is_tree.mono (by decide)) B_is_tree K_is_tree hr hgd rfl M_is_tree (xa_cons (x_var (i := 1) rfl (.inr (.inl rfl))) (xa_cons (x_var (i := 3) rfl (.inr (.inl rfl))) (xa_nil)))) (x_bl) (by rfl))))) (xss_one (xs_ret (x_bl))) (xss_nil)) (xss_cons (xs_for PassesOwn.leaving rfl (xi_seq (x_var (i := 2) rfl (.inr (.inl rfl)))) (xg_name (i := 4) nd rfl (.inr rfl)) (xss_cons (xs_set (i := 5) nd rfl (.inr rfl) (x_call (G__law_parts.mono (by decide)) B__law_parts K__law_parts hr hgd rfl M__law_parts (xa_cons (x_idx (x_var (i := 1) rfl (.inr (.inl rfl))) (x_int) (fun _ _ => rfl)) (xa_cons (x_call (G__law_told.mono (by decide)) B__law_told K__law_told hr hgd rfl M__law_told (xa_cons (x_var (i := 1) rfl (.inr (.inl rfl))) (xa_cons (x_comp (own := [("one", 9)]) rfl nd (xi_seq (x_var (i := 2) rfl (.inr (.inl rfl)))) (blkOk_by (by kernel_rfl)) (fun _ _ _ _ _ => xg_name (i := 9) nd rfl (.inl rfl)) (fun _ _ _ _ _ => xts_one (xt_cmp (o_ne (r64 hr)) (x_var (i := 9) rfl (.inl rfl)) (x_var (i := 4) rfl (.inr (.inl rfl))) (by rfl))) (fun _ _ _ _ _ => x_var (i := 9) rfl (.inl rfl)) (by decide)) (xa_nil)))) (xa_nil))))) (xss_cons (xs_set (i := 6) nd rfl (.inl rfl) (x_callTy o_tuple rfl e_tuple (by rfl) (xa_cons (x_comp (own := [("one", 9), ("ends", 10)]) rfl nd (xi_enum rfl e_enumerate (x_idx (x_var (i := 1) rfl (.inr (.inl rfl))) (x_int) (fun _ _ => rfl))) (blkOk_by (by kernel_rfl)) (fun _ _ _ _ _ => xg_tup rfl (xgs_cons (xg_name (i := 9) nd rfl (.inl rfl)) (xgs_cons (xg_name (i := 10) nd rfl (.inl rfl)) (xgs_nil)))) (fun _ _ _ _ _ => xts_one (xt_cmp (o_ne (r64 hr)) (x_cmp (o_in (r65 hr)) (x_idx (x_var (i := 10) rfl (.inl rfl)) (x_int) (fun _ _ => rfl)) (x_idx (x_var (i := 5) rfl (.inr (.inl rfl))) (x_int) (fun _ _ => rfl)) (by rfl)) (x_cmp (o_in (r65 hr)) (x_idx (x_var (i := 10) rfl (.inl rfl)) (x_int) (fun _ _ => rfl)) (x_idx (x_var (i := 5) rfl (.inr (.inl rfl))) (x_int) (fun _ _ => rfl)) (by rfl)) (by rfl))) (fun _ _ _ _ _ => x_var (i := 9) rfl (.inl rfl)) (by decide)) (xa_nil)))) (xss_cons (xs_if (PW.pt (xw_or (xt_cmp (o_ne (r64 hr)) (x_callB o_len rfl e_len (by rfl) (xa_cons (x_var (i := 5) rfl (.inr (.inl rfl))) (xa_nil))) (x_int) (by rfl)) (pw_or1 (xt_cmp (o_ne (r64 hr)) (x_callB (o_repr hgd (r100 hr)) rfl e_repr (by rfl) (xa_cons (x_lst (xa_cons (x_call (G_cut.mono (by decide)) B_cut K_cut hr hgd rfl M_cut (xa_cons (x_var (i := 1) rfl (.inr (.inl rfl))) (xa_cons (x_var (i := 2) rfl (.inr (.inl rfl))) (xa_cons (x_var (i := 4) rfl (.inr (.inl rfl))) (xa_nil))))) (xa_cons (x_callKw (ks := ["tie", "tree", "web"]) [2, 1, 0] (G_cut.mono (by decide)) (kwb_of U_cut fun _ _ _ _ _ _ ws hl => match ws, hl with | [_, _, _], _ => rfl) K_cut hr hgd rfl M_cut (xk_cons (x_var (i := 4) rfl (.inr (.inl rfl))) (xk_cons (x_var (i := 2) rfl (.inr (.inl rfl))) (xk_cons (x_var (i := 1) rfl (.inr (.inl rfl))) (xk_nil))))) (xa_nil)))) (xa_nil))) (x_callB (o_repr hgd (r100 hr)) rfl e_repr (by rfl) (xa_cons (x_lst (xa_cons (x_var (i := 6) rfl (.inl rfl)) (xa_cons (x_var (i := 6) rfl (.inl rfl)) (xa_nil)))) (xa_nil))) (by rfl))))) (xss_one (xs_ret (x_bl))) (xss_nil)) (xss_cons (xs_setComp (new := false) (i := 7) (own := [("one", 9)]) rfl nd rfl rfl rfl (xi_seq (x_var (i := 3) rfl (.inr (.inl rfl)))) (blkOk_by (by kernel_rfl)) (fun _ _ _ _ _ => xg_name (i := 9) nd rfl (.inl rfl)) (fun _ _ _ _ _ => xts_one (PW.pt (xw_and (xt_val (x_call (G__law_is_tree.mono (by decide)) B__law_is_tree K__law_is_tree hr hgd rfl M__law_is_tree (xa_cons (x_var (i := 1) rfl (.inr (.inl rfl))) (xa_cons (x_call (G__law_changed.mono (by decide)) B__law_changed K__law_changed hr hgd rfl M__law_changed (xa_cons (x_var (i := 2) rfl (.inr (.inl rfl))) (xa_cons (x_var (i := 4) rfl (.inr (.inl rfl))) (xa_cons (x_var (i := 9) rfl (.inl rfl)) (xa_nil))))) (xa_nil))))) (pw_and1 (xt_val (x_call (G__law_is_tree.mono (by decide)) B__law_is_tree K__law_is_tree hr hgd rfl M__law_is_tree (xa_cons (x_var (i := 1) rfl (.inr (.inl rfl))) (xa_cons (x_call (G__law_changed.mono (by decide)) B__law_changed K__law_changed hr hgd rfl M__law_changed (xa_cons (x_var (i := 3) rfl (.inr (.inl rfl))) (xa_cons (x_var (i := 9) rfl (.inl rfl)) (xa_cons (x_var (i := 4) rfl (.inr (.inl rfl))) (xa_nil))))) (xa_nil))))))))) (fun _ _ _ _ _ => x_var (i := 9) rfl (.inl rfl)) (by decide)) (xss_cons (xs_set (i := 8) nd rfl (.inl rfl) (x_if (xt_cmp (o_in (r65 hr)) (x_var (i := 4) rfl (.inr (.inl rfl))) (x_var (i := 3) rfl (.inr (.inl rfl))) (by rfl)) (x_var (i := 4) rfl (.inr (.inl rfl))) (x_callB (o_minL rfl) rfl e_min (by rfl) (xa_cons (x_var (i := 7) rfl (.inl rfl)) (xa_nil))))) (xss_one (xs_if (xt_cmp (o_ne (r64 hr)) (x_callB (o_repr hgd (r100 hr)) rfl e_repr (by rfl) (xa_cons (x_lst (xa_cons (x_call (G_exchange.mono (by decide)) B_exchange K_exchange hr hgd rfl M_exchange (xa_cons (x_var (i := 1) rfl (.inr (.inl rfl))) (xa_cons (x_var (i := 2) rfl (.inr (.inl rfl))) (xa_cons (x_var (i := 3) rfl (.inr (.inl rfl))) (xa_cons (x_var (i := 4) rfl (.inr (.inl rfl))) (xa_nil)))))) (xa_cons (x_callKw (ks := ["tie", "other_tree", "tree", "web"]) [3, 2, 1, 0] (G_exchange.mono (by decide)) (kwb_of U_exchange fun _ _ _ _ _ _ ws hl => match ws, hl with | [_, _, _, _], _ => rfl) K_exchange hr hgd rfl M_exchange (xk_cons (x_var (i := 4) rfl (.inr (.inl rfl))) (xk_cons (x_var (i := 3) rfl (.inr (.inl rfl))) (xk_cons (x_var (i := 2) rfl (.inr (.inl rfl))) (xk_cons (x_var (i := 1) rfl (.inr (.inl rfl))) (xk_nil)))))) (xa_nil)))) (xa_nil))) (x_callB (o_repr hgd (r100 hr)) rfl e_repr (by rfl) (xa_cons (x_lst (xa_cons (x_var (i := 8) rfl (.inl rfl)) (xa_cons (x_var (i := 8) rfl (.inl rfl)) (xa_nil)))) (xa_nil))) (by rfl)) (xss_one (xs_ret (x_bl))) (xss_nil))))))))) (xss_one (xs_ret (x_bl)))))
theorem sc__law_hung : FnScope ["pot", "places", "more", "many", "ties", "turn", "one", "other", "at"] ["pot", "places", "more"] (defScope (top 46)) := ⟨rfl, rfl, rfl, by decide +kernel, rfl, by decide +kernel, by decide +kernel⟩
theorem ok__law_hung (X : K.In base) (G : base.Ns mainGlobals mg) (c : Says K) : ∃ fd, Has P w K mg base "_law_hung" (top 46) 2 ["pot", "places", "more"] F__law_hung fd := by
  obtain ⟨fd, F⟩ := c.def_ 36 (d := d__law_hung) rfl
  have e_range : mg "range" = none := He.free_ok X G (c.fact 43 (f := .free "range") rfl)
  have e_max : mg "max" = none := He.free_ok X G (c.fact 41 (f := .free "max") rfl)
  have e_min : mg "min" = none := He.free_ok X G (c.fact 52 (f := .free "min") rfl)
  have e_sorted : mg "sorted" = none := He.free_ok X G (c.fact 44 (f := .free "sorted") rfl)
  have e_tuple : mg "tuple" = none := He.free_ok X G (c.fact 46 (f := .free "tuple") rfl)
  obtain ⟨fd__law_draw, M__law_draw, U__law_draw, B__law_draw, G__law_draw⟩ := ok__law_draw (P := P) (w := w) X G c
  have K__law_draw := U__law_draw.kp
  refine ⟨fd, He.glo_ok X G (c.fact 36 (f := .glo "_law_hung") rfl), F, F.bindsN fun _ _ _ _ _ _ us hl => match us, hl with | [_, _, _], _ => rfl, L3.FunD.okG F sc__law_hung fun cdv A outer s H E hr hgd => ?_⟩
  have nd := sc__law_hung.nd
  exact xss_cons (xs_set (i := 3) nd rfl (.inl rfl) (x_bin o_add (x_int) (x_call (G__law_draw.mono (by decide)) B__law_draw K__law_draw hr hgd rfl M__law_draw (xa_cons (x_var (i := 0) rfl (.inr (.inl rfl))) (xa_cons (x_bin o_sub (x_var (i := 1) rfl (.inl rfl)) (x_int)) (xa_nil)))))) (xss_cons (xs_setComp (new := true) (i := 4) (own := [("at", 8)]) rfl nd rfl rfl rfl (xi_range2 rfl e_range (x_int) (x_var (i := 3) rfl (.inl rfl))) (blkOk_by (by kernel_rfl)) (fun _ _ _ _ _ => xg_name (i := 8) nd rfl (.inl rfl)) (fun _ _ _ _ _ => xts_nil) (fun _ _ _ _ _ => x_tup (xa_cons (x_call (G__law_draw.mono (by decide)) B__law_draw K__law_draw hr hgd rfl M__law_draw (xa_cons (x_var (i := 0) rfl (.inr (.inl rfl))) (xa_cons (x_var (i := 8) rfl (.inl rfl)) (xa_nil)))) (xa_cons (x_var (i := 8) rfl (.inl rfl)) (xa_nil)))) (by decide)) (xss_cons (xs_for PassesOwn.leaving rfl (xi_range1 rfl e_range (x_call (G__law_draw.mono (by decide)) B__law_draw K__law_draw hr hgd rfl M__law_draw (xa_cons (x_var (i := 0) rfl (.inr (.inl rfl))) (xa_cons (x_bin o_add (x_var (i := 2) rfl (.inl rfl)) (x_int)) (xa_nil))))) (xg_name (i := 5) nd rfl (.inl rfl)) (xss_cons (xs_par2 (i := 6) (j := 7) rfl nd rfl rfl (by decide) rfl rfl (xa_cons (x_call (G__law_draw.mono (by decide)) B__law_draw K__law_draw hr hgd rfl M__law_draw (xa_cons (x_var (i := 0) rfl (.inr (.inl rfl))) (xa_cons (x_var (i := 3) rfl (.inl rfl)) (xa_nil)))) (xa_cons (x_call (G__law_draw.mono (by decide)) B__law_draw K__law_draw hr hgd rfl M__law_draw (xa_cons (x_var (i := 0) rfl (.inr (.inl rfl))) (xa_cons (x_var (i := 3) rfl (.inl rfl)) (xa_nil)))) (xa_nil)))) (xss_one (xs_exp (x_extend (x_var (i := 4) rfl (.inl rfl)) (xa_cons (x_if (xt_cmp (o_ne (r64 hr)) (x_var (i := 6) rfl (.inl rfl)) (x_var (i := 7) rfl (.inl rfl)) (by rfl)) (x_lst (xa_cons (x_tup (xa_cons (x_callB (o_min rfl) rfl e_min (by rfl) (xa_cons (x_var (i := 6) rfl (.inl rfl)) (xa_cons (x_var (i := 7) rfl (.inl rfl)) (xa_nil)))) (xa_cons (x_callB (o_max rfl) rfl e_max (by rfl) (xa_cons (x_var (i := 6) rfl (.inl rfl)) (xa_cons (x_var (i := 7) rfl (.inl rfl)) (xa_nil)))) (xa_nil)))) (xa_nil))) (x_lst (xa_nil))) (xa_nil))))))) (xss_one (xs_ret (x_tup (xa_cons (x_str) (xa_cons (x_var (i := 3) rfl (.inl rfl)) (xa_cons (x_callTy o_tuple rfl e_tuple (by rfl) (xa_cons (x_callB (o_sorted (r100 hr)) rfl e_sorted (by rfl) (xa_cons (x_var (i := 4) rfl (.inl rfl)) (xa_nil))) (xa_nil))) (xa_nil)))))))))
theorem sc_law : FnScope ["script", "pot", "turn"] ["script"] (defScope (top 51)) := ⟨rfl, rfl, rfl, by decide +kernel, rfl, by decide +kernel, by decide +kernel⟩
theorem ok_law (X : K.In base) (G : base.Ns mainGlobals mg) (c : Says K) : ∃ fd, Has P w K mg base "law" (top 51) 9 ["script"] F_law fd := by
  obtain ⟨fd, F⟩ := c.def_ 37 (d := d_law) rfl
  have e_range : mg "range" = none := He.free_ok X G (c.fact 43 (f := .free "range") rfl)
  obtain ⟨fd__law_pot, M__law_pot, U__law_pot, B__law_pot, G__law_pot⟩ := ok__law_pot (P := P) (w := w) X G c
  have K__law_pot := U__law_pot.kp
  obtain ⟨fd__law_right, M__law_right, U__law_right, B__law_right, G__law_right⟩ := ok__law_right (P := P) (w := w) X G c
  have K__law_right := U__law_right.kp
  obtain ⟨fd__law_hung, M__law_hung, U__law_hung, B__law_hung, G__law_hung⟩ := ok__law_hung (P := P) (w := w) X G c
  have K__law_hung := U__law_hung.kp
  refine ⟨fd, He.glo_ok X G (c.fact 37 (f := .glo "law") rfl), F, F.bindsN fun _ _ _ _ _ _ us hl => match us, hl with | [_], _ => rfl, L3.FunD.okG F sc_law fun cdv A outer s H E hr hgd => ?_⟩
  have nd := sc_law.nd
  exact xss_cons (xs_set (i := 1) nd rfl (.inl rfl) (x_call (G__law_pot.mono (by decide)) B__law_pot K__law_pot hr hgd rfl M__law_pot (xa_cons (x_var (i := 0) rfl (.inl rfl)) (xa_cons (x_int) (xa_nil))))) (xss_cons (xs_for PassesOwn.leaving rfl (xi_range1 rfl e_range (x_int)) (xg_name (i := 2) nd rfl (.inl rfl)) (xss_one (xs_if (xt_not (xt_val (x_call (G__law_right.mono (by decide)) B__law_right K__law_right hr hgd rfl M__law_right (xa_cons (x_var (i := 1) rfl (.inl rfl)) (xa_cons (x_call (G__law_hung.mono (by decide)) B__law_hung K__law_hung hr hgd rfl M__law_hung (xa_cons (x_var (i := 1) rfl (.inl rfl)) (xa_cons (x_int) (xa_cons (x_int) (xa_nil))))) (xa_nil)))))) (xss_one (xs_ret (x_bl))) (xss_nil)))) (xss_one (xs_ret (x_bl))))
end
end K18
set_option Elab.async false
set_option linter.all false
set_option maxRecDepth 100000
set_option maxHeartbeats 400000
set_option autoImplicit false
namespace K18
open PySem PySem.Spec PyProof.Rows L2 L3
def loose0 : List Str := ["__name__", "WebError", "MissingError", "InvalidTie", "InvalidWeb", "InvalidTree", "NotIn", "is_integer", "is_count", "is_below", "is_row", "is_rising", "WEB", "MOST_PLACES", "MOST_TIES", "are_ties", "is_many", "is_web_of", "is_tie_of", "is_lot_of", "ties_at", "other_end", "parts_of", "want_web", "want_tie", "span_of", "is_grove_of", "is_tree_lot", "way_in", "ring_with"]
def loose1 : List Str := ["without_tie", "cut_by", "exchange_of", "want_tree", "is_tree", "cut", "exchange", "_law_pot", "_law_draw", "_law_parts", "_law_told", "_law_is_grove", "_law_hung", "_law_tree", "_law_changed", "_law_is_tree", "_law_right"]
def loose : List Str := loose0 ++ loose1
abbrev hk : PySem.W.Hook := He.hookD 4 fa fn
def ob (s : PySem.W.SharedT) : He.AlD := He.obsDG 4 fa fn (HandSHeadRun.getT s)
theorem ob_eq (s : PySem.W.SharedT) : ob s = hk.obs s.abs := He.obsDG_eq (HandSHeadRun.getT_eq s)
theorem run (w : World) : HandSHeadRun.RunEq row (PySem.W.view row.prog [51]) hk ob 4000 loose w := by
  intro os
  kernel_rfl
theorem holds_of (h : ∀ ns : List Int, ns.length ≤ 63 → ∃ st', F_law [wscr ns] [] = some (.dat (.bool true), st')) : PySem.Challenge.rw_grovesapart_k18_whole_exchanges_and_cuts.Holds := by
  w_on; o_law
  refine HandSHeadRun.head_any (r := PySem.W.OpenLaw.row PySem.Challenge.rw_grovesapart_k18_whole_exchanges_and_cuts) (q := PySem.W.view (PySem.W.OpenLaw.row PySem.Challenge.rw_grovesapart_k18_whole_exchanges_and_cuts).prog [51]) (H := hk) (ob := ob) (M := 4000) (loose := loose) (d := HandSHeadRun.topDef (PySem.W.OpenLaw.row PySem.Challenge.rw_grovesapart_k18_whole_exchanges_and_cuts).prog 51) (kwd := []) ob_eq
    (by kernel_rfl) (fun s => by kernel_rfl) run (by kernel_rfl) (by kernel_rfl) (by kernel_rfl) (by rfl) (by first | assumption | decide +kernel) (by decide +kernel) ⟨rfl, rfl, rfl, rfl, rfl, by decide +kernel⟩ ?hw ?hc
  case hw => w_witness2
  case hc =>
    refine walk_G (l := PySem.Challenge.rw_grovesapart_k18_whole_exchanges_and_cuts) (n := 63) (k := 9) (x := "script") (F := F_law) rfl (by decide) (by kernel_rfl) ⟨rfl, by decide, by decide⟩ ?_ h
    intro w mg K h fa X G c hmg0
    have hmg : mg ("law" : Str) = some (.ref fa) := by
      have e : (HandSHeadRun.topDef (PySem.W.OpenLaw.row PySem.Challenge.rw_grovesapart_k18_whole_exchanges_and_cuts).prog 51).name = ("law" : Str) := by kernel_rfl
      rw [← e]
      exact hmg0
    obtain ⟨fd, F⟩ := c.def_ 37 (d := d_law) rfl
    have e := hmg.symm.trans (He.glo_ok X G (c.fact 37 (f := .glo "law") rfl))
    cases e
    have b := FunD.bindsA (ps := ["script"]) F fun _ _ _ _ _ _ us hl => match us, hl with | [_], _ => rfl
    refine ⟨fd, fun s v => b s [v] rfl, fun base X2 G2 => ?_⟩
    obtain ⟨fd2, m2, F2, _, g2⟩ := ok_law (P := (PySem.Challenge.rw_grovesapart_k18_whole_exchanges_and_cuts).prog) (w := w) X2 G2 c
    have e2 : fd = fd2 := fd_one F F2
    subst e2
    exact g2
end K18
set_option Elab.async false
set_option linter.all false
set_option maxRecDepth 100000
set_option maxHeartbeats 400000
set_option autoImplicit false
namespace K18
open PySem PySem.Spec PyProof.Rows L2 L3
local macro_rules | `(tactic| fail "ev") => `(tactic| (first | with_reducible apply wp_asg | with_reducible apply wp_ret | with_reducible apply wp_retN | with_reducible apply wp_pass | with_reducible apply wp_exp | with_reducible apply wp_aug | with_reducible apply wp_par2 | with_reducible apply wp_par3 | with_reducible apply wp_guard | with_reducible apply beh_nx | with_reducible apply beh_rt | with_reducible apply wp_step | ((with_reducible change (!true) = false); rfl) | ((with_reducible change (!false) = true); rfl) | with_reducible apply r_seq | with_reducible apply r_asg | with_reducible apply r_ret | with_reducible exact r_retN | with_reducible exact r_pass | with_reducible apply r_exp | with_reducible apply r_par2 | with_reducible apply r_par3 | ((with_reducible apply r_var); rfl) | with_reducible exact r_dat | with_reducible exact r_ty | with_reducible apply r_b2 | with_reducible apply r_bN | with_reducible apply r_aCons | with_reducible exact r_aNil | with_reducible apply g_nm | with_reducible apply g_tp | with_reducible apply g_cn | with_reducible exact g_nl | ((with_reducible change List.set _ _ _ = _); simp only [wipe3, start3, List.set_cons_zero, List.set_cons_succ, List.map_cons, List.map_nil, List.length_cons, List.length_nil, Nat.reduceAdd, Nat.reduceSub, Nat.sub_zero, Nat.sub_self, List.replicate_succ, List.replicate_zero, List.cons_append, List.nil_append]; exact rfl) | ((with_reducible change wipe3 _ _ = _); simp only [wipe3, start3, List.set_cons_zero, List.set_cons_succ, List.map_cons, List.map_nil, List.length_cons, List.length_nil, Nat.reduceAdd, Nat.reduceSub, Nat.sub_zero, Nat.sub_self, List.replicate_succ, List.replicate_zero, List.cons_append, List.nil_append]; exact rfl) | ((with_reducible change start3 _ _ = _); simp only [wipe3, start3, List.set_cons_zero, List.set_cons_succ, List.map_cons, List.map_nil, List.length_cons, List.length_nil, Nat.reduceAdd, Nat.reduceSub, Nat.sub_zero, Nat.sub_self, List.replicate_succ, List.replicate_zero, List.cons_append, List.nil_append]; exact rfl) | ((with_reducible change List.length (_ :: _) = _); rfl) | ((with_reducible change (_ : E3)[(_ : Nat)]? = _); rfl) | with_reducible apply r_compA | with_reducible apply r_comp | with_reducible apply it_rng | with_reducible apply it_seq | with_reducible apply it_enu | with_reducible exact sc_ti _ | with_reducible exact sc_li _ | with_reducible exact sc_tts _ | with_reducible exact sc_ttl _ | with_reducible exact sc_tp _ | with_reducible exact sc_lp _ | with_reducible exact sc_tup _ _ | with_reducible exact sc_lst _ _ | with_reducible apply i_seq | with_reducible apply i_enu | with_reducible apply i_range | with_reducible apply r_tBl | with_reducible apply r_tAn | with_reducible apply r_tOr | with_reducible apply r_tNo | with_reducible exact r_tAll | with_reducible apply r_tTru | with_reducible apply r_bAnd | with_reducible apply r_bOr | with_reducible apply r_bNot | with_reducible apply r_slice | with_reducible apply r_pSome | with_reducible exact r_pNone | with_reducible apply r_chain | with_reducible apply r_rev | with_reducible apply r_b1 | with_reducible apply r_ifD | with_reducible exact new1 | with_reducible exact s_ti _ | with_reducible exact s_li _ | with_reducible exact s_tts _ | with_reducible exact s_ttl _ | with_reducible exact s_tp _ | with_reducible exact s_lp _ | with_reducible exact s_tt _ | with_reducible exact s_lst _ _ | with_reducible exact s_tup _ _ | with_reducible exact q_tt _ | with_reducible exact q_2 _ _ | with_reducible exact q_3 _ _ _ | with_reducible exact cn_id _ | with_reducible exact cn_ttI _ | with_reducible exact cn_tiI _ | with_reducible exact cn_int _ _ | with_reducible exact cn_ti _ _ | with_reducible exact cn_tt _ _ | (with_reducible change PyData.list _ = _; with_reducible rfl) | with_reducible exact ce_int _ _ _ | with_reducible exact ce_bool _ _ _ | with_reducible exact ce_ti _ _ _ | with_reducible exact ce_li _ _ _ | with_reducible exact ce_ttl _ _ _ | with_reducible exact ce_tt _ _ _ | with_reducible exact ce_lst _ _ _ | with_reducible exact ce_tup _ _ _ | with_reducible exact t_bl _ | with_reducible exact t_int _ | with_reducible exact t_non | with_reducible exact t_lst _ | with_reducible exact t_tup _ | with_reducible exact opEq_int _ _ | with_reducible exact opNe_int _ _ | with_reducible exact opAdd_int _ _ | with_reducible exact opSub_int _ _ | with_reducible exact opGt_int _ _ | with_reducible exact opLt_int _ _ | with_reducible exact opGe_int _ _ | with_reducible exact opLe_int _ _ | with_reducible exact o_w0 _ _ | with_reducible exact o_w02 _ _ | with_reducible exact o_wadd _ _ | with_reducible exact o_w1 _ _ | with_reducible exact o_w2 _ _ | with_reducible exact o_t0 _ | with_reducible exact o_t1 _ | with_reducible exact inF_ti _ _ | with_reducible exact inT_ti _ _ | with_reducible exact inF_li _ _ | with_reducible exact inT_li _ _ | with_reducible exact inF_2 _ _ | with_reducible exact inT_2 _ _ | with_reducible exact inF_tp _ _ | with_reducible exact inT_tp _ _ | with_reducible exact o_lenTi _ | with_reducible exact o_lenLi _ | with_reducible exact o_lenTts _ | with_reducible exact o_lenTtl _ | with_reducible exact o_lenTp _ | with_reducible exact o_lenLp _ | with_reducible exact o_lenT _ _ | with_reducible exact o_lenL _ _ | with_reducible exact o_tupLi _ | with_reducible exact o_tupLp _ | with_reducible exact o_tupTtl _ | with_reducible exact opTuple_lst _ | with_reducible exact o_lstTi _ | with_reducible exact o_lstTp _ | with_reducible exact o_lstTts _ | with_reducible exact opList_tup _ | with_reducible exact o_sortTi _ | with_reducible exact o_sortLi _ | with_reducible exact opEq_ti _ _ | with_reducible exact opNe_ti _ _ | with_reducible exact opEq_li _ _ | with_reducible exact opNe_li _ _ | with_reducible exact opLt_ti _ _ | with_reducible exact opLe_ti _ _ | with_reducible exact opAll_map _ _ | with_reducible exact opAny_map _ _ | with_reducible exact o_neB _ _ | with_reducible exact o_eqB _ _ | with_reducible exact o_minI _ _ | with_reducible exact o_maxI _ _ | with_reducible exact o_tup2 _ _ | with_reducible exact o_tup1 _ | with_reducible exact o_tup0 | with_reducible exact o_tupA1 _ | with_reducible exact o_tupA2 _ _ | with_reducible exact o_tupA3 _ _ _ | with_reducible exact o_lst0 | with_reducible exact o_lst1 _ | with_reducible exact o_lst2 _ _ | with_reducible exact o_lst3 _ _ _ | with_reducible exact o_lst4 _ _ _ _ | with_reducible exact o_lst5 _ _ _ _ _ | with_reducible exact o_isT _ | with_reducible exact o_isnT _ | with_reducible exact o_isN _ | with_reducible exact opInt_int _ | with_reducible apply r_kw | with_reducible exact pk1 _ | with_reducible exact pk2 _ _ | with_reducible exact pk3 _ _ _ | with_reducible exact pk4 _ _ _ _ | with_reducible exact eq_self_str | with_reducible exact ne_self_str | with_reducible apply reprL | with_reducible exact sm_nil | with_reducible refine sm_cons ?_ ?_ | with_reducible apply sm_lst4 | with_reducible exact sm_bool _ | with_reducible exact sm_none | ((with_reducible change List.length _ = List.length _); rfl) | ((with_reducible change List.length (_ :: _) ≤ _); simp only [List.length_cons, List.length_nil]; omega) | with_reducible apply r_meth | ((with_reducible apply isL_0Ik); focus (first | rfl | (simp only [List.length_set]; done))) | ((with_reducible apply isL_1Ik); focus (first | rfl | (simp only [List.length_set]; done))) | ((with_reducible apply isL_0Tk); focus (first | rfl | (simp only [List.length_set]; done))) | ((with_reducible apply isL_0Pk); focus (first | rfl | (simp only [List.length_set]; done))) | ((with_reducible apply isL_1Pk); focus (first | rfl | (simp only [List.length_set]; done))) | ((with_reducible apply app_0Ik); focus (first | rfl | (simp only [List.length_set]; done))) | ((with_reducible apply app_1Ik); focus (first | rfl | (simp only [List.length_set]; done))) | ((with_reducible apply app_0Tk); focus (first | rfl | (simp only [List.length_set]; done))) | ((with_reducible apply app_0Pk); focus (first | rfl | (simp only [List.length_set]; done))) | ((with_reducible apply ext_0Ik); focus (first | rfl | (simp only [List.length_set]; done))) | ((with_reducible apply ext_1Ik); focus (first | rfl | (simp only [List.length_set]; done))) | ((with_reducible apply ext_0Pk); focus (first | rfl | (simp only [List.length_set]; done))) | ((with_reducible apply inF_0Ik); focus (first | rfl | (simp only [List.length_set]; done))) | ((with_reducible apply inT_0Ik); focus (first | rfl | (simp only [List.length_set]; done))) | ((with_reducible apply inF_1Ik); focus (first | rfl | (simp only [List.length_set]; done))) | ((with_reducible apply inT_1Ik); focus (first | rfl | (simp only [List.length_set]; done))) | ((with_reducible apply tup_0Ik); focus (first | rfl | (simp only [List.length_set]; done))) | ((with_reducible apply tup_0Pk); focus (first | rfl | (simp only [List.length_set]; done))) | ((with_reducible apply tup_0Tk); focus (first | rfl | (simp only [List.length_set]; done))) | ((with_reducible apply len_0Pk); focus (first | rfl | (simp only [List.length_set]; done))) | ((with_reducible apply len_1Pk); focus (first | rfl | (simp only [List.length_set]; done))) | ((with_reducible apply pop_1Pk); focus (first | rfl | (simp only [List.length_set]; done))) | with_reducible apply addL_0I | with_reducible apply ssL | with_reducible apply o_rgT | with_reducible apply o_rgL | with_reducible apply o_addTi _ _ | with_reducible apply o_addLi _ _ | with_reducible apply rgOk_small | with_reducible apply o_ssT _ | ((with_reducible change _ ≤ _); omega) | ((with_reducible change _ ≤ _); simp only [List.length_append, List.length_map, List.length_cons, List.length_nil, rgI_len, rg_len]; omega) | ((with_reducible change _ < _); omega) | ((with_reducible change _ < List.length (_ :: _)); simp only [List.length_cons, List.length_nil]; omega) | with_reducible exact opNe_str _ _ | with_reducible exact opEq_str _ _ | with_reducible assumption | ((with_reducible change _ = false); simp only [Bool.not_true, Bool.not_false, Bool.or_false, Bool.false_or, Bool.and_true, Bool.true_and, Bool.or_true, Bool.true_or, Bool.and_false, Bool.false_and, Bool.xor_false, Bool.false_xor, decide_true, decide_false, allT, bne_self_eq_false, beq_self_eq_true]) | ((with_reducible change _ = true); simp only [Bool.not_true, Bool.not_false, Bool.or_false, Bool.false_or, Bool.and_true, Bool.true_and, Bool.or_true, Bool.true_or, Bool.and_false, Bool.false_and, Bool.xor_false, Bool.false_xor, decide_true, decide_false, allT, bne_self_eq_false, beq_self_eq_true])))
theorem v_is_row (ds : List PyData) (n : Int) (st : Store) : F_is_row [.dat (.tuple ds), .dat (.int n)] st = some (.dat (.bool (decide ((ds.length : Int) = n))), st) := by
  have h : opIsinst [.dat (.tuple ds), .ty "tuple"] st = some (.dat (.bool true), st) := rfl
  have h2 : opLen [.dat (.tuple ds)] st = some (.dat (.int ds.length), st) := by simp only [opLen, seqOf, List.length_map]
  apply run_to
  rfl
  repeat (first | with_reducible apply wp_seq | fail "ev" | with_reducible apply wp_if | intro x hx hk | intro x hx | intro hk)
  unfold b_is_row
  repeat (first | with_reducible apply h | with_reducible apply h2 | with_reducible apply wp_seq | fail "ev" | with_reducible apply wp_if | intro x hx hk | intro x hx | intro hk)
  try rfl
theorem v_is_integer (n : Int) (st : Store) : F_is_integer [.dat (.int n)] st = some (.dat (.bool true), st) := run_ret0 (env' := [some (.dat (.int n))]) rfl rfl
theorem v_is_count (n : Int) (st : Store) : F_is_count [.dat (.int n)] st = some (.dat (.bool (decide (0 ≤ n))), st) := by
  apply run_to
  rfl
  repeat (first | with_reducible apply wp_seq | fail "ev" | with_reducible apply wp_if | intro x hx hk | intro x hx | intro hk)
  unfold b_is_count
  repeat (first | with_reducible apply v_is_integer | with_reducible apply wp_seq | fail "ev" | with_reducible apply wp_if | intro x hx hk | intro x hx | intro hk)
  try rfl
theorem v_is_below (n m : Int) (st : Store) : F_is_below [.dat (.int n), .dat (.int m)] st = some (.dat (.bool (decide (0 ≤ n ∧ n < m))), st) := by
  apply run_to
  rfl
  repeat (first | with_reducible apply wp_seq | fail "ev" | with_reducible apply wp_if | intro x hx hk | intro x hx | intro hk)
  unfold b_is_below
  repeat (first | with_reducible apply v_is_count | with_reducible apply wp_seq | fail "ev" | with_reducible apply wp_if | intro x hx hk | intro x hx | intro hk)
  try rfl
  simp
theorem v_is_many (n : Int) (h1 : 1 ≤ n) (h2 : n ≤ 16) (st : Store) : F_is_many [.dat (.int n)] st = some (.dat (.bool true), st) := by
  apply run_to
  rfl
  repeat (first | with_reducible apply wp_seq | fail "ev" | with_reducible apply wp_if | intro x hx hk | intro x hx | intro hk)
  unfold b_is_many
  repeat (first | with_reducible apply v_is_integer | with_reducible apply wp_seq | fail "ev" | with_reducible apply wp_if | intro x hx hk | intro x hx | intro hk)
  try rfl
  simp [h1, h2]
theorem v_is_rising_i (l : List Int) (h : l.Pairwise (· < ·)) (st : Store) : F_is_rising [.dat (ti l)] st = some (.dat (.bool true), st) := by
  have hs : opSlice (.dat (ti l)) (some 1) none st = some (.dat (.tuple (l.tail.map .int)), st) := by unfold ti; simp only [opSlice, cut1, List.map_tail]
  apply run_to
  rfl
  repeat (first | with_reducible apply wp_seq | fail "ev" | with_reducible apply wp_if | intro x hx hk | intro x hx | intro hk)
  unfold b_is_rising
  repeat (first | with_reducible apply hs | with_reducible apply i_zipT (xs := l) (ys := l.tail) (e := .int) (e' := .int) | with_reducible apply wp_seq | fail "ev" | with_reducible apply wp_if | intro x hx hk | intro x hx | intro hk)
  try rfl
  have hz := zip_all (p := fun a b => decide (a < b)) (h.imp fun q => decide_eq_true q)
  rw [hz]
end K18
set_option Elab.async false
set_option linter.all false
set_option maxRecDepth 100000
set_option maxHeartbeats 400000
set_option autoImplicit false
namespace K18
open PySem PySem.Spec PyProof.Rows L2 L3
local macro_rules | `(tactic| fail "ev") => `(tactic| (first | with_reducible apply wp_asg | with_reducible apply wp_ret | with_reducible apply wp_retN | with_reducible apply wp_pass | with_reducible apply wp_exp | with_reducible apply wp_aug | with_reducible apply wp_par2 | with_reducible apply wp_par3 | with_reducible apply wp_guard | with_reducible apply beh_nx | with_reducible apply beh_rt | with_reducible apply wp_step | ((with_reducible change (!true) = false); rfl) | ((with_reducible change (!false) = true); rfl) | with_reducible apply r_seq | with_reducible apply r_asg | with_reducible apply r_ret | with_reducible exact r_retN | with_reducible exact r_pass | with_reducible apply r_exp | with_reducible apply r_par2 | with_reducible apply r_par3 | ((with_reducible apply r_var); rfl) | with_reducible exact r_dat | with_reducible exact r_ty | with_reducible apply r_b2 | with_reducible apply r_bN | with_reducible apply r_aCons | with_reducible exact r_aNil | with_reducible apply g_nm | with_reducible apply g_tp | with_reducible apply g_cn | with_reducible exact g_nl | ((with_reducible change List.set _ _ _ = _); simp only [wipe3, start3, List.set_cons_zero, List.set_cons_succ, List.map_cons, List.map_nil, List.length_cons, List.length_nil, Nat.reduceAdd, Nat.reduceSub, Nat.sub_zero, Nat.sub_self, List.replicate_succ, List.replicate_zero, List.cons_append, List.nil_append]; exact rfl) | ((with_reducible change wipe3 _ _ = _); simp only [wipe3, start3, List.set_cons_zero, List.set_cons_succ, List.map_cons, List.map_nil, List.length_cons, List.length_nil, Nat.reduceAdd, Nat.reduceSub, Nat.sub_zero, Nat.sub_self, List.replicate_succ, List.replicate_zero, List.cons_append, List.nil_append]; exact rfl) | ((with_reducible change start3 _ _ = _); simp only [wipe3, start3, List.set_cons_zero, List.set_cons_succ, List.map_cons, List.map_nil, List.length_cons, List.length_nil, Nat.reduceAdd, Nat.reduceSub, Nat.sub_zero, Nat.sub_self, List.replicate_succ, List.replicate_zero, List.cons_append, List.nil_append]; exact rfl) | ((with_reducible change List.length (_ :: _) = _); rfl) | ((with_reducible change (_ : E3)[(_ : Nat)]? = _); rfl) | with_reducible apply r_compA | with_reducible apply r_comp | with_reducible apply it_rng | with_reducible apply it_seq | with_reducible apply it_enu | with_reducible exact sc_ti _ | with_reducible exact sc_li _ | with_reducible exact sc_tts _ | with_reducible exact sc_ttl _ | with_reducible exact sc_tp _ | with_reducible exact sc_lp _ | with_reducible exact sc_tup _ _ | with_reducible exact sc_lst _ _ | with_reducible apply i_seq | with_reducible apply i_enu | with_reducible apply i_range | with_reducible apply r_tBl | with_reducible apply r_tAn | with_reducible apply r_tOr | with_reducible apply r_tNo | with_reducible exact r_tAll | with_reducible apply r_tTru | with_reducible apply r_bAnd | with_reducible apply r_bOr | with_reducible apply r_bNot | with_reducible apply r_slice | with_reducible apply r_pSome | with_reducible exact r_pNone | with_reducible apply r_chain | with_reducible apply r_rev | with_reducible apply r_b1 | with_reducible apply r_ifD | with_reducible exact new1 | with_reducible exact s_ti _ | with_reducible exact s_li _ | with_reducible exact s_tts _ | with_reducible exact s_ttl _ | with_reducible exact s_tp _ | with_reducible exact s_lp _ | with_reducible exact s_tt _ | with_reducible exact s_lst _ _ | with_reducible exact s_tup _ _ | with_reducible exact q_tt _ | with_reducible exact q_2 _ _ | with_reducible exact q_3 _ _ _ | with_reducible exact cn_id _ | with_reducible exact cn_ttI _ | with_reducible exact cn_tiI _ | with_reducible exact cn_int _ _ | with_reducible exact cn_ti _ _ | with_reducible exact cn_tt _ _ | (with_reducible change PyData.list _ = _; with_reducible rfl) | with_reducible exact ce_int _ _ _ | with_reducible exact ce_bool _ _ _ | with_reducible exact ce_ti _ _ _ | with_reducible exact ce_li _ _ _ | with_reducible exact ce_ttl _ _ _ | with_reducible exact ce_tt _ _ _ | with_reducible exact ce_lst _ _ _ | with_reducible exact ce_tup _ _ _ | with_reducible exact t_bl _ | with_reducible exact t_int _ | with_reducible exact t_non | with_reducible exact t_lst _ | with_reducible exact t_tup _ | with_reducible exact opEq_int _ _ | with_reducible exact opNe_int _ _ | with_reducible exact opAdd_int _ _ | with_reducible exact opSub_int _ _ | with_reducible exact opGt_int _ _ | with_reducible exact opLt_int _ _ | with_reducible exact opGe_int _ _ | with_reducible exact opLe_int _ _ | with_reducible exact o_w0 _ _ | with_reducible exact o_w02 _ _ | with_reducible exact o_wadd _ _ | with_reducible exact o_w1 _ _ | with_reducible exact o_w2 _ _ | with_reducible exact o_t0 _ | with_reducible exact o_t1 _ | with_reducible exact inF_ti _ _ | with_reducible exact inT_ti _ _ | with_reducible exact inF_li _ _ | with_reducible exact inT_li _ _ | with_reducible exact inF_2 _ _ | with_reducible exact inT_2 _ _ | with_reducible exact inF_tp _ _ | with_reducible exact inT_tp _ _ | with_reducible exact o_lenTi _ | with_reducible exact o_lenLi _ | with_reducible exact o_lenTts _ | with_reducible exact o_lenTtl _ | with_reducible exact o_lenTp _ | with_reducible exact o_lenLp _ | with_reducible exact o_lenT _ _ | with_reducible exact o_lenL _ _ | with_reducible exact o_tupLi _ | with_reducible exact o_tupLp _ | with_reducible exact o_tupTtl _ | with_reducible exact opTuple_lst _ | with_reducible exact o_lstTi _ | with_reducible exact o_lstTp _ | with_reducible exact o_lstTts _ | with_reducible exact opList_tup _ | with_reducible exact o_sortTi _ | with_reducible exact o_sortLi _ | with_reducible exact opEq_ti _ _ | with_reducible exact opNe_ti _ _ | with_reducible exact opEq_li _ _ | with_reducible exact opNe_li _ _ | with_reducible exact opLt_ti _ _ | with_reducible exact opLe_ti _ _ | with_reducible exact opAll_map _ _ | with_reducible exact opAny_map _ _ | with_reducible exact o_neB _ _ | with_reducible exact o_eqB _ _ | with_reducible exact o_minI _ _ | with_reducible exact o_maxI _ _ | with_reducible exact o_tup2 _ _ | with_reducible exact o_tup1 _ | with_reducible exact o_tup0 | with_reducible exact o_tupA1 _ | with_reducible exact o_tupA2 _ _ | with_reducible exact o_tupA3 _ _ _ | with_reducible exact o_lst0 | with_reducible exact o_lst1 _ | with_reducible exact o_lst2 _ _ | with_reducible exact o_lst3 _ _ _ | with_reducible exact o_lst4 _ _ _ _ | with_reducible exact o_lst5 _ _ _ _ _ | with_reducible exact o_isT _ | with_reducible exact o_isnT _ | with_reducible exact o_isN _ | with_reducible exact opInt_int _ | with_reducible apply r_kw | with_reducible exact pk1 _ | with_reducible exact pk2 _ _ | with_reducible exact pk3 _ _ _ | with_reducible exact pk4 _ _ _ _ | with_reducible exact eq_self_str | with_reducible exact ne_self_str | with_reducible apply reprL | with_reducible exact sm_nil | with_reducible refine sm_cons ?_ ?_ | with_reducible apply sm_lst4 | with_reducible exact sm_bool _ | with_reducible exact sm_none | ((with_reducible change List.length _ = List.length _); rfl) | ((with_reducible change List.length (_ :: _) ≤ _); simp only [List.length_cons, List.length_nil]; omega) | with_reducible apply r_meth | ((with_reducible apply isL_0Ik); focus (first | rfl | (simp only [List.length_set]; done))) | ((with_reducible apply isL_1Ik); focus (first | rfl | (simp only [List.length_set]; done))) | ((with_reducible apply isL_0Tk); focus (first | rfl | (simp only [List.length_set]; done))) | ((with_reducible apply isL_0Pk); focus (first | rfl | (simp only [List.length_set]; done))) | ((with_reducible apply isL_1Pk); focus (first | rfl | (simp only [List.length_set]; done))) | ((with_reducible apply app_0Ik); focus (first | rfl | (simp only [List.length_set]; done))) | ((with_reducible apply app_1Ik); focus (first | rfl | (simp only [List.length_set]; done))) | ((with_reducible apply app_0Tk); focus (first | rfl | (simp only [List.length_set]; done))) | ((with_reducible apply app_0Pk); focus (first | rfl | (simp only [List.length_set]; done))) | ((with_reducible apply ext_0Ik); focus (first | rfl | (simp only [List.length_set]; done))) | ((with_reducible apply ext_1Ik); focus (first | rfl | (simp only [List.length_set]; done))) | ((with_reducible apply ext_0Pk); focus (first | rfl | (simp only [List.length_set]; done))) | ((with_reducible apply inF_0Ik); focus (first | rfl | (simp only [List.length_set]; done))) | ((with_reducible apply inT_0Ik); focus (first | rfl | (simp only [List.length_set]; done))) | ((with_reducible apply inF_1Ik); focus (first | rfl | (simp only [List.length_set]; done))) | ((with_reducible apply inT_1Ik); focus (first | rfl | (simp only [List.length_set]; done))) | ((with_reducible apply tup_0Ik); focus (first | rfl | (simp only [List.length_set]; done))) | ((with_reducible apply tup_0Pk); focus (first | rfl | (simp only [List.length_set]; done))) | ((with_reducible apply tup_0Tk); focus (first | rfl | (simp only [List.length_set]; done))) | ((with_reducible apply len_0Pk); focus (first | rfl | (simp only [List.length_set]; done))) | ((with_reducible apply len_1Pk); focus (first | rfl | (simp only [List.length_set]; done))) | ((with_reducible apply pop_1Pk); focus (first | rfl | (simp only [List.length_set]; done))) | with_reducible apply addL_0I | with_reducible apply ssL | with_reducible apply o_rgT | with_reducible apply o_rgL | with_reducible apply o_addTi _ _ | with_reducible apply o_addLi _ _ | with_reducible apply rgOk_small | with_reducible apply o_ssT _ | ((with_reducible change _ ≤ _); omega) | ((with_reducible change _ ≤ _); simp only [List.length_append, List.length_map, List.length_cons, List.length_nil, rgI_len, rg_len]; omega) | ((with_reducible change _ < _); omega) | ((with_reducible change _ < List.length (_ :: _)); simp only [List.length_cons, List.length_nil]; omega) | with_reducible exact opNe_str _ _ | with_reducible exact opEq_str _ _ | with_reducible assumption | ((with_reducible change _ = false); simp only [Bool.not_true, Bool.not_false, Bool.or_false, Bool.false_or, Bool.and_true, Bool.true_and, Bool.or_true, Bool.true_or, Bool.and_false, Bool.false_and, Bool.xor_false, Bool.false_xor, decide_true, decide_false, allT, bne_self_eq_false, beq_self_eq_true]) | ((with_reducible change _ = true); simp only [Bool.not_true, Bool.not_false, Bool.or_false, Bool.false_or, Bool.and_true, Bool.true_and, Bool.or_true, Bool.true_or, Bool.and_false, Bool.false_and, Bool.xor_false, Bool.false_xor, decide_true, decide_false, allT, bne_self_eq_false, beq_self_eq_true])))
theorem v_are_ties (n : Int) (ts : List (Int × Int)) (h : Web n ts) (st : Store) : F_are_ties [.dat (.int n), .dat (tts ts)] st = some (.dat (.bool true), st) := by
  have h1 : opIsinst [.dat (tts ts), .ty "tuple"] st = some (.dat (.bool true), st) := rfl
  have hs : opSlice (.dat (tts ts)) (some 1) none st = some (.dat (.tuple (ts.tail.map tt)), st) := by unfold tts; simp only [opSlice, cut1, List.map_tail]
  have hr : ∀ x, F_is_row [.dat (tt x), .dat (.int 2)] st = some (.dat (.bool true), st) := fun x => v_is_row _ _ _
  have hl : ∀ x y, opLe (.dat (tt x)) (.dat (tt y)) st = some (.dat (.bool (leT (pl x) (pl y))), st) := fun x y => opLe_ti (pl x) (pl y)
  have hlen : decide ((40 : Int) < ts.length) = false := decide_eq_false (by have := h.len; omega)
  have e1 : (ts.all fun x => decide (0 ≤ x.1 ∧ x.1 < n) && (decide (0 ≤ x.2 ∧ x.2 < n) && decide (x.1 < x.2))) = true := List.all_eq_true.mpr fun x hx => by
    have := h.ok x hx; simp only [Bool.and_eq_true, decide_eq_true_eq]; omega
  have e2 := zip_all (p := fun a b => leT (pl a) (pl b)) h.ord
  apply run_wp
  rfl
  repeat (first | with_reducible apply wp_seq | fail "ev" | with_reducible apply wp_if | intro x hx hk | intro x hx | intro hk)
  unfold b_are_ties
  repeat (first | with_reducible apply wp_ifF | with_reducible apply h1 | with_reducible apply hs | with_reducible apply hr | with_reducible apply hl | with_reducible apply v_is_below | with_reducible apply i_zipT (xs := ts) (ys := ts.tail) (e := tt) (e' := tt) | with_reducible apply wp_seq | fail "ev" | with_reducible apply wp_if | intro x hx hk | intro x hx | intro hk | ((with_reducible change _ = false); simp only [Bool.not_true, Bool.not_false, Bool.or_false, Bool.false_or, Bool.and_true, Bool.true_and, Bool.or_true, Bool.true_or, Bool.and_false, Bool.false_and, Bool.xor_false, Bool.false_xor, decide_true, decide_false, allT, bne_self_eq_false, beq_self_eq_true, hlen, e1]))
  rw [e2]
  exact ⟨rfl, [], (List.append_nil _).symm⟩
theorem v_is_web_of (n : Int) (ts : List (Int × Int)) (h : Web n ts) (st : Store) : F_is_web_of [.dat (wb n ts)] st = some (.dat (.bool true), st) := by
  have k1 : opIsinst [.dat (.str "web"), .ty "str"] st = some (.dat (.bool true), st) := rfl
  have r3 : F_is_row [.dat (wb n ts), .dat (.int 3)] st = some (.dat (.bool true), st) := v_is_row _ _ _
  apply run_wp
  rfl
  repeat (first | with_reducible apply wp_seq | fail "ev" | with_reducible apply wp_if | intro x hx hk | intro x hx | intro hk)
  unfold b_is_web_of
  repeat (first | with_reducible apply wp_ifF | with_reducible apply r3 | with_reducible apply k1 | with_reducible apply v_is_many n h.lo h.hi | with_reducible apply v_are_ties n ts h | with_reducible apply wp_seq | fail "ev" | with_reducible apply wp_if | intro x hx hk | intro x hx | intro hk | ((with_reducible change _ = false); simp only [Bool.not_true, Bool.not_false, Bool.or_false, Bool.false_or, Bool.and_true, Bool.true_and, Bool.or_true, Bool.true_or, Bool.and_false, Bool.false_and, Bool.xor_false, Bool.false_xor, decide_true, decide_false, allT, bne_self_eq_false, beq_self_eq_true]))
  exact ⟨rfl, [], (List.append_nil _).symm⟩
theorem v_want_web (n : Int) (ts : List (Int × Int)) (h : Web n ts) (st : Store) : F_want_web [.dat (wb n ts)] st = some (.dat (wb n ts), st) := by
  apply run_wp
  rfl
  repeat (first | with_reducible apply wp_seq | fail "ev" | with_reducible apply wp_if | intro x hx hk | intro x hx | intro hk)
  unfold b_want_web
  repeat (first | with_reducible apply v_is_web_of n ts h | with_reducible apply wp_seq | fail "ev" | with_reducible apply wp_if | intro x hx hk | intro x hx | intro hk)
  exact ⟨rfl, [], (List.append_nil _).symm⟩
theorem v_is_tie_of (n : Int) (ts : List (Int × Int)) (x : Int) (st : Store) : F_is_tie_of [.dat (wb n ts), .dat (.int x)] st = some (.dat (.bool (decide (0 ≤ x ∧ x < ts.length))), st) := by
  apply run_to
  rfl
  repeat (first | with_reducible apply wp_seq | fail "ev" | with_reducible apply wp_if | intro x hx hk | intro x hx | intro hk)
  unfold b_is_tie_of
  repeat (first | with_reducible apply v_is_below | with_reducible apply wp_seq | fail "ev" | with_reducible apply wp_if | intro x hx hk | intro x hx | intro hk)
  try rfl
theorem v_is_lot_of (n : Int) (ts : List (Int × Int)) (p : List Int) (h1 : p.Pairwise (· < ·)) (h2 : ∀ x ∈ p, 0 ≤ x ∧ x < ts.length) (st : Store) : F_is_lot_of [.dat (wb n ts), .dat (ti p)] st = some (.dat (.bool true), st) := by
  have k1 : opIsinst [.dat (ti p), .ty "tuple"] st = some (.dat (.bool true), st) := rfl
  have e0 : (p.all fun x => decide (0 ≤ x ∧ x < (ts.length : Int))) = true := List.all_eq_true.mpr fun x hx => decide_eq_true (h2 x hx)
  apply run_to
  rfl
  repeat (first | with_reducible apply wp_seq | fail "ev" | with_reducible apply wp_if | intro x hx hk | intro x hx | intro hk)
  unfold b_is_lot_of
  repeat (first | with_reducible apply k1 | with_reducible apply v_is_tie_of | with_reducible apply v_is_rising_i p h1 | with_reducible apply wp_seq | fail "ev" | with_reducible apply wp_if | intro x hx hk | intro x hx | intro hk)
  try rfl
  rw [e0]; rfl
theorem v_ties_at (n : Int) (ts : List (Int × Int)) (x : Int) (st : Store) : F_ties_at [.dat (wb n ts), .dat (.int x)] st = some (.dat (li (tiesBy (fun t => decide (x ∈ pl t)) ts)), st) := by
  apply run_to
  rfl
  repeat (first | with_reducible apply wp_seq | fail "ev" | with_reducible apply wp_if | intro x hx hk | intro x hx | intro hk)
  unfold b_ties_at
  repeat (first | with_reducible apply wp_seq | fail "ev" | with_reducible apply wp_if | intro x hx hk | intro x hx | intro hk)
  try rfl
end K18
set_option Elab.async false
set_option linter.all false
set_option maxRecDepth 100000
set_option maxHeartbeats 400000
set_option autoImplicit false
namespace K18
open PySem PySem.Spec PyProof.Rows L2 L3
theorem v_draw {n : Nat} {m : Int} (hm : 0 < m) (hm2 : m ≤ 1000000) : Rnd n (F__law_draw [.loc n, .dat (.int m)]) fun d => ∃ i, d = .int i ∧ 0 ≤ i ∧ i < m := Rnd.of fun st a b h ⟨hb, hb2⟩ => by
  have i0 : opIdx (.loc n) (.dat (.int 0)) st = some (.dat (.int a), st) := by simp only [opIdx, seqOf, h, pc]; rfl
  have hnl : n < st.length := (List.getElem?_eq_some_iff.mp h).1
  by_cases ha : 0 < a
  · refine ⟨.int (a % m), a / m, b, ?_, ⟨hb, hb2⟩, _, rfl, Int.emod_nonneg _ (by omega), Int.emod_lt_of_pos _ hm⟩
    refine run_pot (ext := []) (env' := [some (.loc n), some (.dat (.int m)), some (.dat (.int (a % m)))]) rfl ?_
    unfold b__law_draw
    have dm : opDivmod [.dat (.int a), .dat (.int m)] st = some (.dat (.tuple [.int (a / m), .int (a % m)]), st) := by
      unfold opDivmod
      exact if_pos ⟨hm, pylong_no a m (by omega)⟩
    have g0 : opSet (.loc n) (.dat (.int 0)) (.dat (.int (a / m))) st = some (st.set n (pc (a / m) b)) := by simp only [opSet, h, pc]; rfl
    have ha' : decide (0 < a) = true := decide_eq_true ha
    simp only [bSeq, bAsg, bRet, bRetN, bExp, bIfS, bPass, bDat, bVar, bTy, b2, b1, bN, aCons, aNil, bAnd, bOr, bNot, bIf, bChain, tTru, tBl, tNo, tAn, tOr3, tAll, truth, gNm, gTp, gCn, gNl, seqOf, start3, wipe3, bSlice, pSome, pNone, opSlice, Option.bind_some, Option.map_some, Option.bind_eq_bind, List.map_cons, List.map_nil, List.length_cons, List.length_nil, List.set_cons_zero, List.set_cons_succ, List.getElem?_cons_zero, List.getElem?_cons_succ, List.replicate_succ, List.replicate_zero, List.cons_append, List.nil_append, Nat.sub_zero, Nat.sub_self, Nat.reduceAdd, Nat.reduceSub, if_true, if_false, Bool.not_true, Bool.not_false, reduceIte, Bool.false_eq_true, eq_self, i0, opGt, ha', dm, gSb, g0, List.append_nil]
  · have hy1 : 0 ≤ (b * 40692 + 17957) % 2147483399 := Int.emod_nonneg _ (by decide)
    have hy2 : (b * 40692 + 17957) % 2147483399 < 2147483399 := Int.emod_lt_of_pos _ (by decide)
    generalize hy : (b * 40692 + 17957) % 2147483399 = y at hy1 hy2
    refine ⟨.int (y * y % 2147483323 / 19 % m), a, y, ?_, ⟨hy1, by omega⟩, _, rfl, Int.emod_nonneg _ (by omega), Int.emod_lt_of_pos _ hm⟩
    refine run_pot (ext := []) (env' := [some (.loc n), some (.dat (.int m)), none]) rfl ?_
    unfold b__law_draw
    have i1 : opIdx (.loc n) (.dat (.int 1)) st = some (.dat (.int b), st) := by simp only [opIdx, seqOf, h, pc]; rfl
    have j1 : opIdx (.loc n) (.dat (.int 1)) (st.set n (pc a y)) = some (.dat (.int y), st.set n (pc a y)) := by simp only [opIdx, seqOf, List.getElem?_set_self hnl, pc]; rfl
    have g1 : opSet (.loc n) (.dat (.int 1)) (.dat (.int y)) st = some (st.set n (pc a y)) := by simp only [opSet, h, pc]; rfl
    have ha' : decide (0 < a) = false := decide_eq_false ha
    have m1 := opMul_s (st := st) b 40692 (natAbs_s (by omega) (by omega)) (natAbs_s (by omega) (by omega))
    have m2 := opMul_s (st := st.set n (pc a y)) y y (natAbs_s (by omega) (by omega)) (natAbs_s (by omega) (by omega))
    have p1 : opMod (.dat (.int (b * 40692 + 17957))) (.dat (.int 2147483399)) st = some (.dat (.int y), st) := by rw [← hy]; rfl
    have p2 : opMod (.dat (.int (y * y))) (.dat (.int 2147483323)) (st.set n (pc a y)) = some (.dat (.int (y * y % 2147483323)), st.set n (pc a y)) := rfl
    have p3 : opDiv (.dat (.int (y * y % 2147483323))) (.dat (.int 19)) (st.set n (pc a y)) = some (.dat (.int (y * y % 2147483323 / 19)), st.set n (pc a y)) := by
      unfold opDiv L3.opI
      exact if_pos (show (decide ((0 : Int) < 19) && decide (bits 19 < 9000)) = true by decide +kernel)
    have p4 : opMod (.dat (.int (y * y % 2147483323 / 19))) (.dat (.int m)) (st.set n (pc a y)) = some (.dat (.int (y * y % 2147483323 / 19 % m)), st.set n (pc a y)) := if_pos (decide_eq_true hm)
    simp only [bSeq, bAsg, bRet, bRetN, bExp, bIfS, bPass, bDat, bVar, bTy, b2, b1, bN, aCons, aNil, bAnd, bOr, bNot, bIf, bChain, tTru, tBl, tNo, tAn, tOr3, tAll, truth, gNm, gTp, gCn, gNl, seqOf, start3, wipe3, bSlice, pSome, pNone, opSlice, Option.bind_some, Option.map_some, Option.bind_eq_bind, List.map_cons, List.map_nil, List.length_cons, List.length_nil, List.set_cons_zero, List.set_cons_succ, List.getElem?_cons_zero, List.getElem?_cons_succ, List.replicate_succ, List.replicate_zero, List.cons_append, List.nil_append, Nat.sub_zero, Nat.sub_self, Nat.reduceAdd, Nat.reduceSub, if_true, if_false, Bool.not_true, Bool.not_false, reduceIte, Bool.false_eq_true, eq_self, i0, i1, j1, opGt, ha', opInt, opAdd, m1, m2, p1, p2, p3, p4, gSb, g1, List.append_nil]
/-- one number drawn -/
theorem draw {st : Store} (ext : Store) {n : Nat} {a b m : Int} (hn : n < st.length) (hb : Drawn b) (hm : 0 < m) (hm2 : m ≤ 1000000) : ∃ d x y, F__law_draw [.loc n, .dat (.int m)] (st.set n (pc a b) ++ ext) = some (.dat (.int d), st.set n (pc x y) ++ ext) ∧ Drawn y ∧ 0 ≤ d ∧ d < m := by
  obtain ⟨d, x, y, h1, h2, i, rfl, h3, h4⟩ := v_draw (n := n) hm hm2 st ext a b hn hb
  exact ⟨i, x, y, h1, h2, h3, h4⟩
theorem draw0 {st : Store} {n : Nat} {a b m : Int} (hn : n < st.length) (hb : Drawn b) (hm : 0 < m) (hm2 : m ≤ 1000000) : ∃ d x y, F__law_draw [.loc n, .dat (.int m)] (st.set n (pc a b)) = some (.dat (.int d), st.set n (pc x y)) ∧ Drawn y ∧ 0 ≤ d ∧ d < m := by
  obtain ⟨d, x, y, h1, h2⟩ := draw (a := a) [] hn hb hm hm2
  rw [List.append_nil, List.append_nil] at h1
  exact ⟨d, x, y, h1, h2⟩
/-- the pot of a script -/
theorem v_pot (ns : List Int) (k : Int) (h0 : 0 ≤ k) (h1 : k ≤ 4) (st : Store) : ∃ x y, F__law_pot [wscr ns, .dat (.int k)] st = some (.loc st.length, st ++ [pc x y]) ∧ Drawn y := by
  have hl : opLen [wscr ns] st = some (.dat (.int ns.length), st) := by unfold wscr; simp only [opLen, seqOf, List.length_map]
  have fin : ∀ c : Int, ∃ x y, (bRet (bN opLstNew (aCons (bN opMax (aCons (bDat (.int 0)) (aCons (b2 opSub (bVar 2) (b2 opPow (bDat (.int 10)) (bDat (.int 18)))) aNil))) (aCons (b2 opAdd (b2 opMod (bN opInt (aCons (b2 opAdd (b2 opAdd (b2 opMul (b2 opMod (bN opInt (aCons (bVar 2) aNil)) (bDat (.int 2147483549))) (bDat (.int 17729))) (b2 opMul (bDat (.int 17957)) (bVar 1))) (bDat (.int 907))) aNil)) (bDat (.int 2147483563))) (bDat (.int 1))) aNil))))
      [some (wscr ns), some (.dat (.int k)), some (.dat (.int c))] st = some (.rt (.loc st.length), [some (wscr ns), some (.dat (.int k)), some (.dat (.int c))], st ++ [pc x y]) ∧ Drawn y := fun c => by
    have c1 := Int.emod_nonneg c (show (2147483549 : Int) ≠ 0 by decide)
    have c2 := Int.emod_lt_of_pos c (show (0 : Int) < 2147483549 by decide)
    generalize hc : c % 2147483549 = c' at c1 c2
    have m1 := opMul_s (st := st) c' 17729 (natAbs_s (by omega) (by omega)) (natAbs_s (by omega) (by omega))
    have m2 := opMul_s (st := st) 17957 k (natAbs_s (by omega) (by omega)) (natAbs_s (by omega) (by omega))
    have p0 : opPow (.dat (.int 10)) (.dat (.int 18)) st = some (.dat (.int 1000000000000000000), st) := rfl
    have p1 : opMod (.dat (.int c)) (.dat (.int 2147483549)) st = some (.dat (.int c'), st) := by rw [← hc]; rfl
    have p2 : opMod (.dat (.int (c' * 17729 + 17957 * k + 907))) (.dat (.int 2147483563)) st = some (.dat (.int ((c' * 17729 + 17957 * k + 907) % 2147483563)), st) := rfl
    have e1 := Int.emod_nonneg (c' * 17729 + 17957 * k + 907) (show (2147483563 : Int) ≠ 0 by decide)
    have e2 := Int.emod_lt_of_pos (c' * 17729 + 17957 * k + 907) (show (0 : Int) < 2147483563 by decide)
    generalize (c' * 17729 + 17957 * k + 907) % 2147483563 = z at p2 e1 e2
    have nl : ∀ a b : Int, opLstNew [.dat (.int a), .dat (.int b)] st = some (.loc st.length, st ++ [pc a b]) := fun a b => by unfold opLstNew; exact if_pos (small 2 (by decide))
    refine ⟨if c - 1000000000000000000 > 0 then c - 1000000000000000000 else 0, z + 1, ?_, ⟨by omega, by omega⟩⟩
    simp only [bSeq, bAsg, bRet, bRetN, bExp, bIfS, bPass, bDat, bVar, bTy, b2, b1, bN, aCons, aNil, bAnd, bOr, bNot, bIf, bChain, tTru, tBl, tNo, tAn, tOr3, tAll, truth, gNm, gTp, gCn, gNl, seqOf, start3, wipe3, bSlice, pSome, pNone, opSlice, Option.bind_some, Option.map_some, Option.bind_eq_bind, List.map_cons, List.map_nil, List.length_cons, List.length_nil, List.set_cons_zero, List.set_cons_succ, List.getElem?_cons_zero, List.getElem?_cons_succ, List.replicate_succ, List.replicate_zero, List.cons_append, List.nil_append, Nat.sub_zero, Nat.sub_self, Nat.reduceAdd, Nat.reduceSub, if_true, if_false, Bool.not_true, Bool.not_false, reduceIte, Bool.false_eq_true, eq_self, opMax, opSub_int, p0, opInt_int, p1, m1, m2, opAdd_int, p2, nl]
  have m0 := opMul_s (st := st) 19507 k (natAbs_s (by omega) (by omega)) (natAbs_s (by omega) (by omega))
  by_cases hk : k < ns.length
  · obtain ⟨kn, rfl⟩ : ∃ kn : Nat, k = kn := ⟨k.toNat, by omega⟩
    have hkn : kn < ns.length := by omega
    obtain ⟨x, y, h2, h3⟩ := fin (if ns[kn] < 0 then -ns[kn] else ns[kn])
    refine ⟨x, y, run_loc (env' := [some (wscr ns), some (.dat (.int kn)), some (.dat (.int (if ns[kn] < 0 then -ns[kn] else ns[kn])))]) rfl ?_ (Nat.le_refl _), h3⟩
    unfold b__law_pot
    have hi : opIdx (wscr ns) (.dat (.int (kn : Int))) st = some (.dat (.int ns[kn]), st) := by
      have ha : atI ((ns.map PyData.int).map W.dat) (kn : Int) = some (.dat (.int ns[kn])) := by
        unfold atI ixN
        rw [if_pos (by omega), if_pos (by rw [List.length_map, List.length_map]; omega)]
        show ((ns.map PyData.int).map W.dat)[((kn : Int)).toNat]? = _
        rw [Int.toNat_natCast, List.getElem?_map, List.getElem?_map, List.getElem?_eq_getElem hkn]; rfl
      unfold wscr
      simp only [opIdx, seqOf, ha, Option.map_some]
    have hd : decide ((kn : Int) < (ns.length : Int)) = true := decide_eq_true hk
    simp only [bSeq, bAsg, bIfS, tBl, b2, bN, aCons, aNil, bDat, bVar, gNm, start3, bSeq, bAsg, bRet, bRetN, bExp, bIfS, bPass, bDat, bVar, bTy, b2, b1, bN, aCons, aNil, bAnd, bOr, bNot, bIf, bChain, tTru, tBl, tNo, tAn, tOr3, tAll, truth, gNm, gTp, gCn, gNl, seqOf, start3, wipe3, bSlice, pSome, pNone, opSlice, Option.bind_some, Option.map_some, Option.bind_eq_bind, List.map_cons, List.map_nil, List.length_cons, List.length_nil, List.set_cons_zero, List.set_cons_succ, List.getElem?_cons_zero, List.getElem?_cons_succ, List.replicate_succ, List.replicate_zero, List.cons_append, List.nil_append, Nat.sub_zero, Nat.sub_self, Nat.reduceAdd, Nat.reduceSub, if_true, if_false, Bool.not_true, Bool.not_false, reduceIte, Bool.false_eq_true, eq_self, m0, opAdd_int, hl, opLt_int, hd, hi, opAbs] at h2 ⊢
    exact h2
  · obtain ⟨x, y, h2, h3⟩ := fin (19507 * k + 20873)
    refine ⟨x, y, run_loc (env' := [some (wscr ns), some (.dat (.int k)), some (.dat (.int (19507 * k + 20873)))]) rfl ?_ (Nat.le_refl _), h3⟩
    unfold b__law_pot
    have hd : decide (k < (ns.length : Int)) = false := decide_eq_false hk
    simp only [bSeq, bAsg, bRet, bRetN, bExp, bIfS, bPass, bDat, bVar, bTy, b2, b1, bN, aCons, aNil, bAnd, bOr, bNot, bIf, bChain, tTru, tBl, tNo, tAn, tOr3, tAll, truth, gNm, gTp, gCn, gNl, seqOf, start3, wipe3, bSlice, pSome, pNone, opSlice, Option.bind_some, Option.map_some, Option.bind_eq_bind, List.map_cons, List.map_nil, List.length_cons, List.length_nil, List.set_cons_zero, List.set_cons_succ, List.getElem?_cons_zero, List.getElem?_cons_succ, List.replicate_succ, List.replicate_zero, List.cons_append, List.nil_append, Nat.sub_zero, Nat.sub_self, Nat.reduceAdd, Nat.reduceSub, if_true, if_false, Bool.not_true, Bool.not_false, reduceIte, Bool.false_eq_true, eq_self, m0, opAdd_int, hl, opLt_int, hd] at h2 ⊢
    exact h2
end K18
set_option Elab.async false
set_option linter.all false
set_option maxRecDepth 100000
set_option maxHeartbeats 400000
set_option autoImplicit false
namespace K18
open PySem PySem.Spec PyProof.Rows L2 L3
/-- tuple([x for x in range(lo, hi) if _law_draw(pot, c) == 0]) -/
theorem wp_pick {n p v i : Nat} {c lo hi : Int} {f g : Ev} {env : E3} {st ext : Store} {a b : Int} {Q : Fl → E3 → Store → Prop} (hn : n < st.length) (hb : Drawn b) (hc : 0 < c) (hc2 : c ≤ 1000000) (hp : env[p]? = some (some (.loc n))) (hv : v < env.length) (hpv : p ≠ v)
    (hf : f env (st.set n (pc a b) ++ ext) = some (.dat (.int lo), st.set n (pc a b) ++ ext)) (hg : g env (st.set n (pc a b) ++ ext) = some (.dat (.int hi), st.set n (pc a b) ++ ext)) (hr : rgOk lo hi = true)
    (hq : ∀ (sel : List Int) (x y : Int), Drawn y → sel.Sublist (rgI lo hi) → Q .nx (env.set i (some (.dat (ti sel)))) (st.set n (pc x y) ++ ext)) :
    Wp (bAsg (bN opTuple (aCons (bComp (iRange f g) (gNm v) (tBl (b2 opEq (bN F__law_draw (aCons (bVar p) (aCons (bDat (.int c)) aNil))) (bDat (.int 0)))) (bVar v) [v]) aNil)) (gNm i)) env (st.set n (pc a b) ++ ext) Q := by
  refine wp_drawTup (xs := rgI lo hi) (e := fun x => .dat (.int x)) (f := .int) hn hb (it_rng hf hg hr) rfl (fun x hx a b hb => ?_) fun sel x y hy hs => hq sel x y hy hs
  obtain ⟨d, x', y', r1, hy, d1, d2⟩ := draw ext (a := a) hn hb hc hc2
  have hw : (wipe3 env [v]).length = env.length := wipe3_len env [v]
  have hp2 : ((wipe3 env [v]).set v (some (W.dat (.int x))))[p]? = some (some (.loc n)) := by
    rw [List.getElem?_set_ne (Ne.symm hpv)]
    show ((env.set v none))[p]? = _
    rw [List.getElem?_set_ne (Ne.symm hpv)]; exact hp
  refine ⟨(wipe3 env [v]).set v (some (.dat (.int x))), decide (d = 0), x', y', rfl, ?_, hy, fun _ => ?_⟩
  · exact r_tBl (r_b2 (r_bN (r_aCons (r_var hp2) (r_aCons r_dat r_aNil)) r1) r_dat (opEq_int _ _))
  · exact r_var (List.getElem?_set_self (by rw [hw]; exact hv))
end K18
set_option Elab.async false
set_option linter.all false
set_option maxRecDepth 100000
set_option maxHeartbeats 400000
set_option autoImplicit false
namespace K18
open PySem PySem.Spec PyProof.Rows L2 L3
local macro_rules | `(tactic| fail "ev") => `(tactic| (first | with_reducible apply wp_asg | with_reducible apply wp_ret | with_reducible apply wp_retN | with_reducible apply wp_pass | with_reducible apply wp_exp | with_reducible apply wp_aug | with_reducible apply wp_par2 | with_reducible apply wp_par3 | with_reducible apply wp_guard | with_reducible apply beh_nx | with_reducible apply beh_rt | with_reducible apply wp_step | ((with_reducible change (!true) = false); rfl) | ((with_reducible change (!false) = true); rfl) | with_reducible apply r_seq | with_reducible apply r_asg | with_reducible apply r_ret | with_reducible exact r_retN | with_reducible exact r_pass | with_reducible apply r_exp | with_reducible apply r_par2 | with_reducible apply r_par3 | ((with_reducible apply r_var); rfl) | with_reducible exact r_dat | with_reducible exact r_ty | with_reducible apply r_b2 | with_reducible apply r_bN | with_reducible apply r_aCons | with_reducible exact r_aNil | with_reducible apply g_nm | with_reducible apply g_tp | with_reducible apply g_cn | with_reducible exact g_nl | ((with_reducible change List.set _ _ _ = _); simp only [wipe3, start3, List.set_cons_zero, List.set_cons_succ, List.map_cons, List.map_nil, List.length_cons, List.length_nil, Nat.reduceAdd, Nat.reduceSub, Nat.sub_zero, Nat.sub_self, List.replicate_succ, List.replicate_zero, List.cons_append, List.nil_append]; exact rfl) | ((with_reducible change wipe3 _ _ = _); simp only [wipe3, start3, List.set_cons_zero, List.set_cons_succ, List.map_cons, List.map_nil, List.length_cons, List.length_nil, Nat.reduceAdd, Nat.reduceSub, Nat.sub_zero, Nat.sub_self, List.replicate_succ, List.replicate_zero, List.cons_append, List.nil_append]; exact rfl) | ((with_reducible change start3 _ _ = _); simp only [wipe3, start3, List.set_cons_zero, List.set_cons_succ, List.map_cons, List.map_nil, List.length_cons, List.length_nil, Nat.reduceAdd, Nat.reduceSub, Nat.sub_zero, Nat.sub_self, List.replicate_succ, List.replicate_zero, List.cons_append, List.nil_append]; exact rfl) | ((with_reducible change List.length (_ :: _) = _); rfl) | ((with_reducible change (_ : E3)[(_ : Nat)]? = _); rfl) | with_reducible apply r_compA | with_reducible apply r_comp | with_reducible apply it_rng | with_reducible apply it_seq | with_reducible apply it_enu | with_reducible exact sc_ti _ | with_reducible exact sc_li _ | with_reducible exact sc_tts _ | with_reducible exact sc_ttl _ | with_reducible exact sc_tp _ | with_reducible exact sc_lp _ | with_reducible exact sc_tup _ _ | with_reducible exact sc_lst _ _ | with_reducible apply i_seq | with_reducible apply i_enu | with_reducible apply i_range | with_reducible apply r_tBl | with_reducible apply r_tAn | with_reducible apply r_tOr | with_reducible apply r_tNo | with_reducible exact r_tAll | with_reducible apply r_tTru | with_reducible apply r_bAnd | with_reducible apply r_bOr | with_reducible apply r_bNot | with_reducible apply r_slice | with_reducible apply r_pSome | with_reducible exact r_pNone | with_reducible apply r_chain | with_reducible apply r_rev | with_reducible apply r_b1 | with_reducible apply r_ifD | with_reducible exact new1 | with_reducible exact s_ti _ | with_reducible exact s_li _ | with_reducible exact s_tts _ | with_reducible exact s_ttl _ | with_reducible exact s_tp _ | with_reducible exact s_lp _ | with_reducible exact s_tt _ | with_reducible exact s_lst _ _ | with_reducible exact s_tup _ _ | with_reducible exact q_tt _ | with_reducible exact q_2 _ _ | with_reducible exact q_3 _ _ _ | with_reducible exact cn_id _ | with_reducible exact cn_ttI _ | with_reducible exact cn_tiI _ | with_reducible exact cn_int _ _ | with_reducible exact cn_ti _ _ | with_reducible exact cn_tt _ _ | (with_reducible change PyData.list _ = _; with_reducible rfl) | with_reducible exact ce_int _ _ _ | with_reducible exact ce_bool _ _ _ | with_reducible exact ce_ti _ _ _ | with_reducible exact ce_li _ _ _ | with_reducible exact ce_ttl _ _ _ | with_reducible exact ce_tt _ _ _ | with_reducible exact ce_lst _ _ _ | with_reducible exact ce_tup _ _ _ | with_reducible exact t_bl _ | with_reducible exact t_int _ | with_reducible exact t_non | with_reducible exact t_lst _ | with_reducible exact t_tup _ | with_reducible exact opEq_int _ _ | with_reducible exact opNe_int _ _ | with_reducible exact opAdd_int _ _ | with_reducible exact opSub_int _ _ | with_reducible exact opGt_int _ _ | with_reducible exact opLt_int _ _ | with_reducible exact opGe_int _ _ | with_reducible exact opLe_int _ _ | with_reducible exact o_w0 _ _ | with_reducible exact o_w02 _ _ | with_reducible exact o_wadd _ _ | with_reducible exact o_w1 _ _ | with_reducible exact o_w2 _ _ | with_reducible exact o_t0 _ | with_reducible exact o_t1 _ | with_reducible exact inF_ti _ _ | with_reducible exact inT_ti _ _ | with_reducible exact inF_li _ _ | with_reducible exact inT_li _ _ | with_reducible exact inF_2 _ _ | with_reducible exact inT_2 _ _ | with_reducible exact inF_tp _ _ | with_reducible exact inT_tp _ _ | with_reducible exact o_lenTi _ | with_reducible exact o_lenLi _ | with_reducible exact o_lenTts _ | with_reducible exact o_lenTtl _ | with_reducible exact o_lenTp _ | with_reducible exact o_lenLp _ | with_reducible exact o_lenT _ _ | with_reducible exact o_lenL _ _ | with_reducible exact o_tupLi _ | with_reducible exact o_tupLp _ | with_reducible exact o_tupTtl _ | with_reducible exact opTuple_lst _ | with_reducible exact o_lstTi _ | with_reducible exact o_lstTp _ | with_reducible exact o_lstTts _ | with_reducible exact opList_tup _ | with_reducible exact o_sortTi _ | with_reducible exact o_sortLi _ | with_reducible exact opEq_ti _ _ | with_reducible exact opNe_ti _ _ | with_reducible exact opEq_li _ _ | with_reducible exact opNe_li _ _ | with_reducible exact opLt_ti _ _ | with_reducible exact opLe_ti _ _ | with_reducible exact opAll_map _ _ | with_reducible exact opAny_map _ _ | with_reducible exact o_neB _ _ | with_reducible exact o_eqB _ _ | with_reducible exact o_minI _ _ | with_reducible exact o_maxI _ _ | with_reducible exact o_tup2 _ _ | with_reducible exact o_tup1 _ | with_reducible exact o_tup0 | with_reducible exact o_tupA1 _ | with_reducible exact o_tupA2 _ _ | with_reducible exact o_tupA3 _ _ _ | with_reducible exact o_lst0 | with_reducible exact o_lst1 _ | with_reducible exact o_lst2 _ _ | with_reducible exact o_lst3 _ _ _ | with_reducible exact o_lst4 _ _ _ _ | with_reducible exact o_lst5 _ _ _ _ _ | with_reducible exact o_isT _ | with_reducible exact o_isnT _ | with_reducible exact o_isN _ | with_reducible exact opInt_int _ | with_reducible apply r_kw | with_reducible exact pk1 _ | with_reducible exact pk2 _ _ | with_reducible exact pk3 _ _ _ | with_reducible exact pk4 _ _ _ _ | with_reducible exact eq_self_str | with_reducible exact ne_self_str | with_reducible apply reprL | with_reducible exact sm_nil | with_reducible refine sm_cons ?_ ?_ | with_reducible apply sm_lst4 | with_reducible exact sm_bool _ | with_reducible exact sm_none | ((with_reducible change List.length _ = List.length _); rfl) | ((with_reducible change List.length (_ :: _) ≤ _); simp only [List.length_cons, List.length_nil]; omega) | with_reducible apply r_meth | ((with_reducible apply isL_0Ik); focus (first | rfl | (simp only [List.length_set]; done))) | ((with_reducible apply isL_1Ik); focus (first | rfl | (simp only [List.length_set]; done))) | ((with_reducible apply isL_0Tk); focus (first | rfl | (simp only [List.length_set]; done))) | ((with_reducible apply isL_0Pk); focus (first | rfl | (simp only [List.length_set]; done))) | ((with_reducible apply isL_1Pk); focus (first | rfl | (simp only [List.length_set]; done))) | ((with_reducible apply app_0Ik); focus (first | rfl | (simp only [List.length_set]; done))) | ((with_reducible apply app_1Ik); focus (first | rfl | (simp only [List.length_set]; done))) | ((with_reducible apply app_0Tk); focus (first | rfl | (simp only [List.length_set]; done))) | ((with_reducible apply app_0Pk); focus (first | rfl | (simp only [List.length_set]; done))) | ((with_reducible apply ext_0Ik); focus (first | rfl | (simp only [List.length_set]; done))) | ((with_reducible apply ext_1Ik); focus (first | rfl | (simp only [List.length_set]; done))) | ((with_reducible apply ext_0Pk); focus (first | rfl | (simp only [List.length_set]; done))) | ((with_reducible apply inF_0Ik); focus (first | rfl | (simp only [List.length_set]; done))) | ((with_reducible apply inT_0Ik); focus (first | rfl | (simp only [List.length_set]; done))) | ((with_reducible apply inF_1Ik); focus (first | rfl | (simp only [List.length_set]; done))) | ((with_reducible apply inT_1Ik); focus (first | rfl | (simp only [List.length_set]; done))) | ((with_reducible apply tup_0Ik); focus (first | rfl | (simp only [List.length_set]; done))) | ((with_reducible apply tup_0Pk); focus (first | rfl | (simp only [List.length_set]; done))) | ((with_reducible apply tup_0Tk); focus (first | rfl | (simp only [List.length_set]; done))) | ((with_reducible apply len_0Pk); focus (first | rfl | (simp only [List.length_set]; done))) | ((with_reducible apply len_1Pk); focus (first | rfl | (simp only [List.length_set]; done))) | ((with_reducible apply pop_1Pk); focus (first | rfl | (simp only [List.length_set]; done))) | with_reducible apply addL_0I | with_reducible apply ssL | with_reducible apply o_rgT | with_reducible apply o_rgL | with_reducible apply o_addTi _ _ | with_reducible apply o_addLi _ _ | with_reducible apply rgOk_small | with_reducible apply o_ssT _ | ((with_reducible change _ ≤ _); omega) | ((with_reducible change _ ≤ _); simp only [List.length_append, List.length_map, List.length_cons, List.length_nil, rgI_len, rg_len]; omega) | ((with_reducible change _ < _); omega) | ((with_reducible change _ < List.length (_ :: _)); simp only [List.length_cons, List.length_nil]; omega) | with_reducible exact opNe_str _ _ | with_reducible exact opEq_str _ _ | with_reducible assumption | ((with_reducible change _ = false); simp only [Bool.not_true, Bool.not_false, Bool.or_false, Bool.false_or, Bool.and_true, Bool.true_and, Bool.or_true, Bool.true_or, Bool.and_false, Bool.false_and, Bool.xor_false, Bool.false_xor, decide_true, decide_false, allT, bne_self_eq_false, beq_self_eq_true]) | ((with_reducible change _ = true); simp only [Bool.not_true, Bool.not_false, Bool.or_false, Bool.false_or, Bool.and_true, Bool.true_and, Bool.or_true, Bool.true_or, Bool.and_false, Bool.false_and, Bool.xor_false, Bool.false_xor, decide_true, decide_false, allT, bne_self_eq_false, beq_self_eq_true])))
theorem near_snoc (p : List Int) (ts : List (Int × Int)) (t : Int × Int) : near (ts ++ [t]) p = near ts p ++ ((if t.1 ∈ p then [t.2] else []) ++ (if t.2 ∈ p then [t.1] else [])) := by
  unfold near; rw [List.flatMap_append, List.flatMap_cons, List.flatMap_nil, List.append_nil]
theorem near_len (p : List Int) (ts : List (Int × Int)) : (near ts p).length ≤ 2 * ts.length := by
  induction ts with
  | nil => exact Nat.le_refl _
  | cons t ts ih =>
    unfold near at ih ⊢
    rw [List.flatMap_cons, List.length_append, List.length_append, List.length_cons]
    have h1 : (if t.1 ∈ p then [t.2] else []).length ≤ 1 := by split <;> simp
    have h2 : (if t.2 ∈ p then [t.1] else []).length ≤ 1 := by split <;> simp
    omega
theorem lawP_len {ts : List (Int × Int)} {n : Nat} : ∀ k, (lawP ts n k).length ≤ k
  | 0 => Nat.le_refl _
  | k + 1 => by
    have := lawP_len (ts := ts) (n := n) k
    unfold lawP
    split
    · omega
    · rw [List.length_append, List.length_singleton]; omega
theorem lawP_flat {ts : List (Int × Int)} {n : Nat} (h : ∀ s : Nat, s < n → (growN ts s n).length ≤ n) : ∀ k, k ≤ n → (lawP ts n k).flatten.length ≤ k * n
  | 0, _ => Nat.zero_le _
  | k + 1, hk => by
    have ih := lawP_flat h k (by omega)
    unfold lawP
    rw [Nat.succ_mul]
    split
    · omega
    · rw [List.flatten_append, List.length_append, List.flatten_cons, List.flatten_nil, List.append_nil]
      have := h k (by omega); omega
theorem v__law_parts (n : Nat) (ts : List (Int × Int)) (w : PyData) (hw : w = tts ts ∨ w = ttl ts) (hn : n ≤ 16) (hl : n + 2 * ts.length < 64) (ht : ∀ t ∈ ts, (0 ≤ t.1 ∧ t.1 < n) ∧ 0 ≤ t.2 ∧ t.2 < n) (st : Store) :
    F__law_parts [.dat (.int n), .dat w] st = some (.dat (lp (lawP ts n n)), st) := by
  have hrg : rgOk 0 (n : Int) = true := rgOk_small (by omega) (by omega) (by omega) (by omega)
  have hgl : ∀ (s : Int) (j : Nat), 0 ≤ s → s < n → (growN ts s j).length ≤ n := fun s j h1 h2 => by
    have h := nd_le (p := growN ts s j) (q := rgN n) ((growN_nd ts s j).imp fun q => Int.ne_of_lt q) fun x hx => by
      have hc := growN_conn hx
      rw [mem_rgN]
      clear hx
      induction hc with
      | refl => exact ⟨h1, h2⟩
      | step _ e _ => rcases e with e | e
                      · exact (ht _ e).2
                      · exact (ht _ e).1
    unfold rgN at h; rw [List.length_map, List.length_range] at h; exact h
  apply run_cellT
  rfl
  repeat (first | with_reducible apply wp_seq | fail "ev" | with_reducible apply wp_if | intro x hx hk | intro x hx | intro hk)
  unfold b__law_parts
  repeat (first | with_reducible apply new2TI | with_reducible apply wp_seq | fail "ev" | with_reducible apply wp_if | intro x hx hk | intro x hx | intro hk)
  refine wp_for (it_rng (i := 0) (j := n) rfl rfl hrg) (fun k env s => ∃ o4 o5 o6 o7 o8 o9 rest, env = [some (W.dat (PyData.int n)), some (W.dat w), some (W.loc st.length), some (W.loc (st.length + 1)), o4, o5, o6, o7, o8, o9] ∧ s = st ++ (cellT (lawP ts n k) :: cellI (lawP ts n k).flatten :: rest)) (fun _ _ _ _ => trivial)
    ⟨_, _, _, _, _, _, [], rfl, rfl⟩ (fun k x env s hx ⟨o4, o5, o6, o7, o8, o9, rest, h1, h2⟩ => ?_) (fun env1 s1 ⟨o4, o5, o6, o7, o8, o9, rest, h1, h2⟩ => ?_)
  · subst h1 h2
    obtain ⟨rfl, hk⟩ := rgI_get hx
    rw [Int.zero_add] at hk ⊢
    have hkn : k < n := by omega
    repeat (first | with_reducible apply wp_if | with_reducible apply wp_seq | fail "ev" | with_reducible apply wp_if | intro x hx hk | intro x hx | intro hk)
    rename_i hin
    refine wp_for (it_rng (i := 0) (j := n) rfl rfl hrg) (fun j env s => ∃ o6 o7 o8 o9 rest, env = [some (W.dat (PyData.int n)), some (W.dat w), some (W.loc st.length), some (W.loc (st.length + 1)), some (.dat (.int k)), some (.dat (li (growN ts k j))), o6, o7, o8, o9] ∧ s = st ++ (cellT (lawP ts n k) :: cellI (lawP ts n k).flatten :: rest)) (fun _ _ _ _ => trivial)
      ⟨_, _, _, _, _, rfl, rfl⟩ (fun j x env s hx ⟨o6, o7, o8, o9, rest, h1, h2⟩ => ?_) (fun env1 s1 ⟨o6, o7, o8, o9, rest, h1, h2⟩ => ?_)
    · subst h1 h2
      have hb : ∃ base, st ++ (cellT (lawP ts n k) :: cellI (lawP ts n k).flatten :: rest) = base := ⟨_, rfl⟩
      obtain ⟨base, hb⟩ := hb
      rw [hb]
      repeat (first | with_reducible apply wp_seq | fail "ev" | with_reducible apply wp_if | intro x hx hk | intro x hx | intro hk)
      have hp := hgl k j (by omega) (by omega)
      refine wp_for (it_w hw rfl) (fun i env s => ∃ o8 o9, env = [some (W.dat (PyData.int n)), some (W.dat w), some (W.loc st.length), some (W.loc (st.length + 1)), some (.dat (.int k)), some (.dat (li (growN ts k j))), some (W.dat (PyData.int x)), some (W.loc base.length), o8, o9] ∧ s = base ++ [cellI (near (ts.take i) (growN ts k j))])
        (fun _ _ _ _ => trivial) ⟨_, _, rfl, rfl⟩ (fun i t env s ht ⟨o8, o9, h1, h2⟩ => ?_) (fun env1 s1 ⟨o8, o9, h1, h2⟩ => ?_)
      · subst h1 h2
        have hlen := near_len (growN ts k j) (ts.take i)
        rw [List.length_take] at hlen
        have c1 : (if decide (t.1 ∈ growN ts k j) = true then [t.2] else []).length ≤ 1 := by split <;> simp
        have c2 : (if decide (t.2 ∈ growN ts k j) = true then [t.1] else []).length ≤ 1 := by split <;> simp
        repeat (first | with_reducible apply o_lstI1 | with_reducible apply o_lstI0 | with_reducible apply wp_seq | fail "ev" | with_reducible apply wp_if | intro x hx hk | intro x hx | intro hk)
        refine ⟨.inl rfl, _, _, rfl, ?_⟩
        rw [take_next ht, near_snoc]
        simp only [decide_eq_true_eq, List.append_assoc]
      · subst h1 h2
        rw [List.take_length]
        have hlen := near_len (growN ts k j) ts
        repeat (first | with_reducible apply wp_seq | fail "ev" | with_reducible apply wp_if | intro x hx hk | intro x hx | intro hk)
        rw [List.length_append]; omega
        repeat (first | with_reducible apply wp_seq | fail "ev" | with_reducible apply wp_if | intro x hx hk | intro x hx | intro hk)
        · refine ⟨.inl rfl, _, _, _, _, rest ++ [cellI (near ts (growN ts k j))], rfl, ?_⟩
          rw [← hb]; simp
    · subst h1 h2
      have hPl := lawP_len (ts := ts) (n := n) k
      have hfl : (lawP ts n k).flatten.length ≤ 16 * 16 := Nat.le_trans (lawP_flat (fun s hs => hgl s n (by omega) (by omega)) k (by omega)) (Nat.mul_le_mul (by omega) hn)
      have hp := hgl k n (by omega) (by omega)
      rw [rgI_len, show ((n : Int) - 0).toNat = n by omega]
      repeat (first | with_reducible apply wp_seq | fail "ev" | with_reducible apply wp_if | intro x hx hk | intro x hx | intro hk)
      · have e : lawP ts n (k + 1) = lawP ts n k ++ [growN ts k n] := by
          show (if _ then _ else _) = _
          rw [if_neg (by simpa using hk)]
        rw [e]
        refine ⟨.inl rfl, _, _, _, _, _, _, rest, rfl, ?_⟩
        simp
    · repeat (first | with_reducible apply wp_seq | fail "ev" | with_reducible apply wp_if | intro x hx hk | intro x hx | intro hk)
      have e : lawP ts n (k + 1) = lawP ts n k := by
        show (if _ then _ else _) = _
        rename_i hk
        rw [if_pos (by simpa using hk)]
      rw [e]
      exact ⟨.inl rfl, _, _, _, _, _, _, _, rfl, rfl⟩
  · subst h1 h2
    rw [rgI_len, show ((n : Int) - 0).toNat = n by omega]
    repeat (first | with_reducible apply wp_seq | fail "ev" | with_reducible apply wp_if | intro x hx hk | intro x hx | intro hk)
    exact ⟨rfl, _, rfl⟩
end K18
set_option Elab.async false
set_option linter.all false
set_option maxRecDepth 100000
set_option maxHeartbeats 400000
set_option autoImplicit false
namespace K18
open PySem PySem.Spec PyProof.Rows L2 L3
local macro_rules | `(tactic| fail "ev") => `(tactic| (first | with_reducible apply wp_asg | with_reducible apply wp_ret | with_reducible apply wp_retN | with_reducible apply wp_pass | with_reducible apply wp_exp | with_reducible apply wp_aug | with_reducible apply wp_par2 | with_reducible apply wp_par3 | with_reducible apply wp_guard | with_reducible apply beh_nx | with_reducible apply beh_rt | with_reducible apply wp_step | ((with_reducible change (!true) = false); rfl) | ((with_reducible change (!false) = true); rfl) | with_reducible apply r_seq | with_reducible apply r_asg | with_reducible apply r_ret | with_reducible exact r_retN | with_reducible exact r_pass | with_reducible apply r_exp | with_reducible apply r_par2 | with_reducible apply r_par3 | ((with_reducible apply r_var); rfl) | with_reducible exact r_dat | with_reducible exact r_ty | with_reducible apply r_b2 | with_reducible apply r_bN | with_reducible apply r_aCons | with_reducible exact r_aNil | with_reducible apply g_nm | with_reducible apply g_tp | with_reducible apply g_cn | with_reducible exact g_nl | ((with_reducible change List.set _ _ _ = _); simp only [wipe3, start3, List.set_cons_zero, List.set_cons_succ, List.map_cons, List.map_nil, List.length_cons, List.length_nil, Nat.reduceAdd, Nat.reduceSub, Nat.sub_zero, Nat.sub_self, List.replicate_succ, List.replicate_zero, List.cons_append, List.nil_append]; exact rfl) | ((with_reducible change wipe3 _ _ = _); simp only [wipe3, start3, List.set_cons_zero, List.set_cons_succ, List.map_cons, List.map_nil, List.length_cons, List.length_nil, Nat.reduceAdd, Nat.reduceSub, Nat.sub_zero, Nat.sub_self, List.replicate_succ, List.replicate_zero, List.cons_append, List.nil_append]; exact rfl) | ((with_reducible change start3 _ _ = _); simp only [wipe3, start3, List.set_cons_zero, List.set_cons_succ, List.map_cons, List.map_nil, List.length_cons, List.length_nil, Nat.reduceAdd, Nat.reduceSub, Nat.sub_zero, Nat.sub_self, List.replicate_succ, List.replicate_zero, List.cons_append, List.nil_append]; exact rfl) | ((with_reducible change List.length (_ :: _) = _); rfl) | ((with_reducible change (_ : E3)[(_ : Nat)]? = _); rfl) | with_reducible apply r_compA | with_reducible apply r_comp | with_reducible apply it_rng | with_reducible apply it_seq | with_reducible apply it_enu | with_reducible exact sc_ti _ | with_reducible exact sc_li _ | with_reducible exact sc_tts _ | with_reducible exact sc_ttl _ | with_reducible exact sc_tp _ | with_reducible exact sc_lp _ | with_reducible exact sc_tup _ _ | with_reducible exact sc_lst _ _ | with_reducible apply i_seq | with_reducible apply i_enu | with_reducible apply i_range | with_reducible apply r_tBl | with_reducible apply r_tAn | with_reducible apply r_tOr | with_reducible apply r_tNo | with_reducible exact r_tAll | with_reducible apply r_tTru | with_reducible apply r_bAnd | with_reducible apply r_bOr | with_reducible apply r_bNot | with_reducible apply r_slice | with_reducible apply r_pSome | with_reducible exact r_pNone | with_reducible apply r_chain | with_reducible apply r_rev | with_reducible apply r_b1 | with_reducible apply r_ifD | with_reducible exact new1 | with_reducible exact s_ti _ | with_reducible exact s_li _ | with_reducible exact s_tts _ | with_reducible exact s_ttl _ | with_reducible exact s_tp _ | with_reducible exact s_lp _ | with_reducible exact s_tt _ | with_reducible exact s_lst _ _ | with_reducible exact s_tup _ _ | with_reducible exact q_tt _ | with_reducible exact q_2 _ _ | with_reducible exact q_3 _ _ _ | with_reducible exact cn_id _ | with_reducible exact cn_ttI _ | with_reducible exact cn_tiI _ | with_reducible exact cn_int _ _ | with_reducible exact cn_ti _ _ | with_reducible exact cn_tt _ _ | (with_reducible change PyData.list _ = _; with_reducible rfl) | with_reducible exact ce_int _ _ _ | with_reducible exact ce_bool _ _ _ | with_reducible exact ce_ti _ _ _ | with_reducible exact ce_li _ _ _ | with_reducible exact ce_ttl _ _ _ | with_reducible exact ce_tt _ _ _ | with_reducible exact ce_lst _ _ _ | with_reducible exact ce_tup _ _ _ | with_reducible exact t_bl _ | with_reducible exact t_int _ | with_reducible exact t_non | with_reducible exact t_lst _ | with_reducible exact t_tup _ | with_reducible exact opEq_int _ _ | with_reducible exact opNe_int _ _ | with_reducible exact opAdd_int _ _ | with_reducible exact opSub_int _ _ | with_reducible exact opGt_int _ _ | with_reducible exact opLt_int _ _ | with_reducible exact opGe_int _ _ | with_reducible exact opLe_int _ _ | with_reducible exact o_w0 _ _ | with_reducible exact o_w02 _ _ | with_reducible exact o_wadd _ _ | with_reducible exact o_w1 _ _ | with_reducible exact o_w2 _ _ | with_reducible exact o_t0 _ | with_reducible exact o_t1 _ | with_reducible exact inF_ti _ _ | with_reducible exact inT_ti _ _ | with_reducible exact inF_li _ _ | with_reducible exact inT_li _ _ | with_reducible exact inF_2 _ _ | with_reducible exact inT_2 _ _ | with_reducible exact inF_tp _ _ | with_reducible exact inT_tp _ _ | with_reducible exact o_lenTi _ | with_reducible exact o_lenLi _ | with_reducible exact o_lenTts _ | with_reducible exact o_lenTtl _ | with_reducible exact o_lenTp _ | with_reducible exact o_lenLp _ | with_reducible exact o_lenT _ _ | with_reducible exact o_lenL _ _ | with_reducible exact o_tupLi _ | with_reducible exact o_tupLp _ | with_reducible exact o_tupTtl _ | with_reducible exact opTuple_lst _ | with_reducible exact o_lstTi _ | with_reducible exact o_lstTp _ | with_reducible exact o_lstTts _ | with_reducible exact opList_tup _ | with_reducible exact o_sortTi _ | with_reducible exact o_sortLi _ | with_reducible exact opEq_ti _ _ | with_reducible exact opNe_ti _ _ | with_reducible exact opEq_li _ _ | with_reducible exact opNe_li _ _ | with_reducible exact opLt_ti _ _ | with_reducible exact opLe_ti _ _ | with_reducible exact opAll_map _ _ | with_reducible exact opAny_map _ _ | with_reducible exact o_neB _ _ | with_reducible exact o_eqB _ _ | with_reducible exact o_minI _ _ | with_reducible exact o_maxI _ _ | with_reducible exact o_tup2 _ _ | with_reducible exact o_tup1 _ | with_reducible exact o_tup0 | with_reducible exact o_tupA1 _ | with_reducible exact o_tupA2 _ _ | with_reducible exact o_tupA3 _ _ _ | with_reducible exact o_lst0 | with_reducible exact o_lst1 _ | with_reducible exact o_lst2 _ _ | with_reducible exact o_lst3 _ _ _ | with_reducible exact o_lst4 _ _ _ _ | with_reducible exact o_lst5 _ _ _ _ _ | with_reducible exact o_isT _ | with_reducible exact o_isnT _ | with_reducible exact o_isN _ | with_reducible exact opInt_int _ | with_reducible apply r_kw | with_reducible exact pk1 _ | with_reducible exact pk2 _ _ | with_reducible exact pk3 _ _ _ | with_reducible exact pk4 _ _ _ _ | with_reducible exact eq_self_str | with_reducible exact ne_self_str | with_reducible apply reprL | with_reducible exact sm_nil | with_reducible refine sm_cons ?_ ?_ | with_reducible apply sm_lst4 | with_reducible exact sm_bool _ | with_reducible exact sm_none | ((with_reducible change List.length _ = List.length _); rfl) | ((with_reducible change List.length (_ :: _) ≤ _); simp only [List.length_cons, List.length_nil]; omega) | with_reducible apply r_meth | ((with_reducible apply isL_0Ik); focus (first | rfl | (simp only [List.length_set]; done))) | ((with_reducible apply isL_1Ik); focus (first | rfl | (simp only [List.length_set]; done))) | ((with_reducible apply isL_0Tk); focus (first | rfl | (simp only [List.length_set]; done))) | ((with_reducible apply isL_0Pk); focus (first | rfl | (simp only [List.length_set]; done))) | ((with_reducible apply isL_1Pk); focus (first | rfl | (simp only [List.length_set]; done))) | ((with_reducible apply app_0Ik); focus (first | rfl | (simp only [List.length_set]; done))) | ((with_reducible apply app_1Ik); focus (first | rfl | (simp only [List.length_set]; done))) | ((with_reducible apply app_0Tk); focus (first | rfl | (simp only [List.length_set]; done))) | ((with_reducible apply app_0Pk); focus (first | rfl | (simp only [List.length_set]; done))) | ((with_reducible apply ext_0Ik); focus (first | rfl | (simp only [List.length_set]; done))) | ((with_reducible apply ext_1Ik); focus (first | rfl | (simp only [List.length_set]; done))) | ((with_reducible apply ext_0Pk); focus (first | rfl | (simp only [List.length_set]; done))) | ((with_reducible apply inF_0Ik); focus (first | rfl | (simp only [List.length_set]; done))) | ((with_reducible apply inT_0Ik); focus (first | rfl | (simp only [List.length_set]; done))) | ((with_reducible apply inF_1Ik); focus (first | rfl | (simp only [List.length_set]; done))) | ((with_reducible apply inT_1Ik); focus (first | rfl | (simp only [List.length_set]; done))) | ((with_reducible apply tup_0Ik); focus (first | rfl | (simp only [List.length_set]; done))) | ((with_reducible apply tup_0Pk); focus (first | rfl | (simp only [List.length_set]; done))) | ((with_reducible apply tup_0Tk); focus (first | rfl | (simp only [List.length_set]; done))) | ((with_reducible apply len_0Pk); focus (first | rfl | (simp only [List.length_set]; done))) | ((with_reducible apply len_1Pk); focus (first | rfl | (simp only [List.length_set]; done))) | ((with_reducible apply pop_1Pk); focus (first | rfl | (simp only [List.length_set]; done))) | with_reducible apply addL_0I | with_reducible apply ssL | with_reducible apply o_rgT | with_reducible apply o_rgL | with_reducible apply o_addTi _ _ | with_reducible apply o_addLi _ _ | with_reducible apply rgOk_small | with_reducible apply o_ssT _ | ((with_reducible change _ ≤ _); omega) | ((with_reducible change _ ≤ _); simp only [List.length_append, List.length_map, List.length_cons, List.length_nil, rgI_len, rg_len]; omega) | ((with_reducible change _ < _); omega) | ((with_reducible change _ < List.length (_ :: _)); simp only [List.length_cons, List.length_nil]; omega) | with_reducible exact opNe_str _ _ | with_reducible exact opEq_str _ _ | with_reducible assumption | ((with_reducible change _ = false); simp only [Bool.not_true, Bool.not_false, Bool.or_false, Bool.false_or, Bool.and_true, Bool.true_and, Bool.or_true, Bool.true_or, Bool.and_false, Bool.false_and, Bool.xor_false, Bool.false_xor, decide_true, decide_false, allT, bne_self_eq_false, beq_self_eq_true]) | ((with_reducible change _ = true); simp only [Bool.not_true, Bool.not_false, Bool.or_false, Bool.false_or, Bool.and_true, Bool.true_and, Bool.or_true, Bool.true_or, Bool.and_false, Bool.false_and, Bool.xor_false, Bool.false_xor, decide_true, decide_false, allT, bne_self_eq_false, beq_self_eq_true])))
theorem v_parts_of (n : Int) (ts : List (Int × Int)) (h : Web n ts) (lot : List Int) (h2 : ∀ x ∈ lot, 0 ≤ x ∧ x < ts.length) (st : Store) : F_parts_of [.dat (wb n ts), .dat (ti lot)] st = some (.dat (lp (groups (labF (toldL ts lot)) n.toNat)), st) := by
  have hlo := h.lo
  have hhi := h.hi
  have hrg : rgOk 0 n = true := rgOk_small (by omega) (by omega) (by omega) (by omega)
  apply run_wp
  rfl
  repeat (first | with_reducible apply wp_seq | fail "ev" | with_reducible apply wp_if | intro x hx hk | intro x hx | intro hk)
  unfold b_parts_of
  repeat (first | with_reducible apply wp_seq | fail "ev" | with_reducible apply wp_if | intro x hx hk | intro x hx | intro hk)
  refine wp_fold (fun (f : Int → Int) env s => ∃ o3 o4 o5, env = [some (W.dat (wb n ts)), some (W.dat (ti lot)), some (W.dat (li ((rg n).map f))), o3, o4, o5, none, none, none] ∧ s = st) (fun f x => relab (ts.getD x.toNat (0, 0)).1 (ts.getD x.toNat (0, 0)).2 f) id (it_ti rfl) ⟨_, _, _, by rw [List.map_id, ← rgI_zero], rfl⟩ (fun ys x zs env s he ⟨o3, o4, o5, e1, e2⟩ => ?_) (fun env1 s1 ⟨o3, o4, o5, e1, e2⟩ => ?_)
  · subst e1 e2
    generalize List.foldl _ id ys = f
    have hx := h2 x (by rw [he]; simp)
    have ht := h.ok _ (getD_mem hx.1 hx.2)
    have i1 := idx_ttsI (st := s) hx.1 hx.2
    generalize ts.getD x.toNat (0, 0) = t at ht i1 ⊢
    have i2 : ∀ y ∈ pl t, opIdx (.dat (li ((rg n).map f))) (.dat (.int y)) s = some (.dat (.int (f y)), s) := fun y hy => by
      simp only [pl, List.mem_cons, List.mem_nil_iff, or_false] at hy
      exact idx_rg f (by omega) (by omega)
    repeat (first | with_reducible apply i1 | with_reducible apply i2 | with_reducible apply q_liM | with_reducible apply o_tup2 | with_reducible apply wp_seq | fail "ev" | with_reducible apply wp_if | intro x hx hk | intro x hx | intro hk)
    have : ((fun x => if decide (x ∈ pl (f t.1, f t.2)) = true then if f t.2 < f t.1 then f t.2 else f t.1 else x) ∘ f) = relab t.1 t.2 f := by
      funext y
      unfold relab
      simp only [Function.comp, Bool.false_xor, decide_eq_true_eq, pl, List.mem_cons, List.mem_nil_iff, or_false]
    rw [List.map_map]
    rw [this]
    exact ⟨.inl rfl, _, _, _, rfl, rfl⟩
  · subst e1 e2
    have hf : lot.foldl (fun f x => relab (ts.getD x.toNat (0, 0)).1 (ts.getD x.toNat (0, 0)).2 f) id = labF (toldL ts lot) := by
      unfold labF toldL; rw [List.foldl_map]
    rw [hf]
    have hp := told_parts h h2
    generalize labF (toldL ts lot) = f at hp
    repeat (first | with_reducible apply dict0 | with_reducible apply wp_seq | fail "ev" | with_reducible apply wp_if | intro x hx hk | intro x hx | intro hk)
    have hN : ((rg n).map f).length = n.toNat := by rw [List.length_map, rg_len]
    refine wp_for (it_enuL (xs := (rg n).map f) (e := .int) rfl) (fun k env s => ∃ o7 o8, env = [some (W.dat (wb n ts)), some (W.dat (ti lot)), some (W.dat (li ((rg n).map f))), o3, o4, o5, some (.loc s1.length), o7, o8] ∧ s = s1 ++ (.dict (gKvs f s1.length k) :: gCells f k))
      (fun _ _ _ _ => trivial) ⟨_, _, rfl, rfl⟩ (fun k x env s hx ⟨o7, o8, e1, e2⟩ => ?_) (fun env2 s2 ⟨o7, o8, e1, e2⟩ => ?_)
    · subst e1 e2
      obtain ⟨hx1, rfl⟩ := enum_get hx
      repeat (first | with_reducible apply setd_app (k := k) | with_reducible apply wp_seq | fail "ev" | with_reducible apply wp_if | intro x hx hk | intro x hx | intro hk)
      exact ⟨.inl rfl, _, _, rfl, rfl⟩
    · subst e1 e2
      rw [List.length_zipIdx, hN]
      repeat (first | with_reducible apply vals_tup | with_reducible apply opSorted_tis (l := groups f n.toNat) rfl | with_reducible apply wp_seq | fail "ev" | with_reducible apply wp_if | intro x hx hk | intro x hx | intro hk)
      · exact groups_ne x hx hk
      · repeat (first | with_reducible apply wp_seq | fail "ev" | with_reducible apply wp_if | intro x hx hk | intro x hx | intro hk)
        rw [sT_id hp.sorted]
        exact ⟨rfl, _, rfl⟩
theorem v__law_told (n : Int) (ts : List (Int × Int)) (lot : List Int) (h2 : ∀ x ∈ lot, 0 ≤ x ∧ x < ts.length) (st : Store) : F__law_told [.dat (wb n ts), .dat (ti lot)] st = some (.dat (ttl (toldL ts lot)), st) := by
  have i1 : ∀ x ∈ lot, opIdx (.dat (tts ts)) (.dat (.int x)) st = some (.dat (tt (ts.getD x.toNat (0, 0))), st) := fun x hx => idx_ttsI (h2 x hx).1 (h2 x hx).2
  apply run_to
  rfl
  repeat (first | with_reducible apply wp_seq | fail "ev" | with_reducible apply wp_if | intro x hx hk | intro x hx | intro hk)
  unfold b__law_told
  repeat (first | with_reducible apply i1 _ | with_reducible apply wp_seq | fail "ev" | with_reducible apply wp_if | intro x hx hk | intro x hx | intro hk)
  try rfl
end K18
set_option Elab.async false
set_option linter.all false
set_option maxRecDepth 100000
set_option maxHeartbeats 400000
set_option autoImplicit false
namespace K18
open PySem PySem.Spec PyProof.Rows L2 L3
local macro_rules | `(tactic| fail "ev") => `(tactic| (first | with_reducible apply wp_asg | with_reducible apply wp_ret | with_reducible apply wp_retN | with_reducible apply wp_pass | with_reducible apply wp_exp | with_reducible apply wp_aug | with_reducible apply wp_par2 | with_reducible apply wp_par3 | with_reducible apply wp_guard | with_reducible apply beh_nx | with_reducible apply beh_rt | with_reducible apply wp_step | ((with_reducible change (!true) = false); rfl) | ((with_reducible change (!false) = true); rfl) | with_reducible apply r_seq | with_reducible apply r_asg | with_reducible apply r_ret | with_reducible exact r_retN | with_reducible exact r_pass | with_reducible apply r_exp | with_reducible apply r_par2 | with_reducible apply r_par3 | ((with_reducible apply r_var); rfl) | with_reducible exact r_dat | with_reducible exact r_ty | with_reducible apply r_b2 | with_reducible apply r_bN | with_reducible apply r_aCons | with_reducible exact r_aNil | with_reducible apply g_nm | with_reducible apply g_tp | with_reducible apply g_cn | with_reducible exact g_nl | ((with_reducible change List.set _ _ _ = _); simp only [wipe3, start3, List.set_cons_zero, List.set_cons_succ, List.map_cons, List.map_nil, List.length_cons, List.length_nil, Nat.reduceAdd, Nat.reduceSub, Nat.sub_zero, Nat.sub_self, List.replicate_succ, List.replicate_zero, List.cons_append, List.nil_append]; exact rfl) | ((with_reducible change wipe3 _ _ = _); simp only [wipe3, start3, List.set_cons_zero, List.set_cons_succ, List.map_cons, List.map_nil, List.length_cons, List.length_nil, Nat.reduceAdd, Nat.reduceSub, Nat.sub_zero, Nat.sub_self, List.replicate_succ, List.replicate_zero, List.cons_append, List.nil_append]; exact rfl) | ((with_reducible change start3 _ _ = _); simp only [wipe3, start3, List.set_cons_zero, List.set_cons_succ, List.map_cons, List.map_nil, List.length_cons, List.length_nil, Nat.reduceAdd, Nat.reduceSub, Nat.sub_zero, Nat.sub_self, List.replicate_succ, List.replicate_zero, List.cons_append, List.nil_append]; exact rfl) | ((with_reducible change List.length (_ :: _) = _); rfl) | ((with_reducible change (_ : E3)[(_ : Nat)]? = _); rfl) | with_reducible apply r_compA | with_reducible apply r_comp | with_reducible apply it_rng | with_reducible apply it_seq | with_reducible apply it_enu | with_reducible exact sc_ti _ | with_reducible exact sc_li _ | with_reducible exact sc_tts _ | with_reducible exact sc_ttl _ | with_reducible exact sc_tp _ | with_reducible exact sc_lp _ | with_reducible exact sc_tup _ _ | with_reducible exact sc_lst _ _ | with_reducible apply i_seq | with_reducible apply i_enu | with_reducible apply i_range | with_reducible apply r_tBl | with_reducible apply r_tAn | with_reducible apply r_tOr | with_reducible apply r_tNo | with_reducible exact r_tAll | with_reducible apply r_tTru | with_reducible apply r_bAnd | with_reducible apply r_bOr | with_reducible apply r_bNot | with_reducible apply r_slice | with_reducible apply r_pSome | with_reducible exact r_pNone | with_reducible apply r_chain | with_reducible apply r_rev | with_reducible apply r_b1 | with_reducible apply r_ifD | with_reducible exact new1 | with_reducible exact s_ti _ | with_reducible exact s_li _ | with_reducible exact s_tts _ | with_reducible exact s_ttl _ | with_reducible exact s_tp _ | with_reducible exact s_lp _ | with_reducible exact s_tt _ | with_reducible exact s_lst _ _ | with_reducible exact s_tup _ _ | with_reducible exact q_tt _ | with_reducible exact q_2 _ _ | with_reducible exact q_3 _ _ _ | with_reducible exact cn_id _ | with_reducible exact cn_ttI _ | with_reducible exact cn_tiI _ | with_reducible exact cn_int _ _ | with_reducible exact cn_ti _ _ | with_reducible exact cn_tt _ _ | (with_reducible change PyData.list _ = _; with_reducible rfl) | with_reducible exact ce_int _ _ _ | with_reducible exact ce_bool _ _ _ | with_reducible exact ce_ti _ _ _ | with_reducible exact ce_li _ _ _ | with_reducible exact ce_ttl _ _ _ | with_reducible exact ce_tt _ _ _ | with_reducible exact ce_lst _ _ _ | with_reducible exact ce_tup _ _ _ | with_reducible exact t_bl _ | with_reducible exact t_int _ | with_reducible exact t_non | with_reducible exact t_lst _ | with_reducible exact t_tup _ | with_reducible exact opEq_int _ _ | with_reducible exact opNe_int _ _ | with_reducible exact opAdd_int _ _ | with_reducible exact opSub_int _ _ | with_reducible exact opGt_int _ _ | with_reducible exact opLt_int _ _ | with_reducible exact opGe_int _ _ | with_reducible exact opLe_int _ _ | with_reducible exact o_w0 _ _ | with_reducible exact o_w02 _ _ | with_reducible exact o_wadd _ _ | with_reducible exact o_w1 _ _ | with_reducible exact o_w2 _ _ | with_reducible exact o_t0 _ | with_reducible exact o_t1 _ | with_reducible exact inF_ti _ _ | with_reducible exact inT_ti _ _ | with_reducible exact inF_li _ _ | with_reducible exact inT_li _ _ | with_reducible exact inF_2 _ _ | with_reducible exact inT_2 _ _ | with_reducible exact inF_tp _ _ | with_reducible exact inT_tp _ _ | with_reducible exact o_lenTi _ | with_reducible exact o_lenLi _ | with_reducible exact o_lenTts _ | with_reducible exact o_lenTtl _ | with_reducible exact o_lenTp _ | with_reducible exact o_lenLp _ | with_reducible exact o_lenT _ _ | with_reducible exact o_lenL _ _ | with_reducible exact o_tupLi _ | with_reducible exact o_tupLp _ | with_reducible exact o_tupTtl _ | with_reducible exact opTuple_lst _ | with_reducible exact o_lstTi _ | with_reducible exact o_lstTp _ | with_reducible exact o_lstTts _ | with_reducible exact opList_tup _ | with_reducible exact o_sortTi _ | with_reducible exact o_sortLi _ | with_reducible exact opEq_ti _ _ | with_reducible exact opNe_ti _ _ | with_reducible exact opEq_li _ _ | with_reducible exact opNe_li _ _ | with_reducible exact opLt_ti _ _ | with_reducible exact opLe_ti _ _ | with_reducible exact opAll_map _ _ | with_reducible exact opAny_map _ _ | with_reducible exact o_neB _ _ | with_reducible exact o_eqB _ _ | with_reducible exact o_minI _ _ | with_reducible exact o_maxI _ _ | with_reducible exact o_tup2 _ _ | with_reducible exact o_tup1 _ | with_reducible exact o_tup0 | with_reducible exact o_tupA1 _ | with_reducible exact o_tupA2 _ _ | with_reducible exact o_tupA3 _ _ _ | with_reducible exact o_lst0 | with_reducible exact o_lst1 _ | with_reducible exact o_lst2 _ _ | with_reducible exact o_lst3 _ _ _ | with_reducible exact o_lst4 _ _ _ _ | with_reducible exact o_lst5 _ _ _ _ _ | with_reducible exact o_isT _ | with_reducible exact o_isnT _ | with_reducible exact o_isN _ | with_reducible exact opInt_int _ | with_reducible apply r_kw | with_reducible exact pk1 _ | with_reducible exact pk2 _ _ | with_reducible exact pk3 _ _ _ | with_reducible exact pk4 _ _ _ _ | with_reducible exact eq_self_str | with_reducible exact ne_self_str | with_reducible apply reprL | with_reducible exact sm_nil | with_reducible refine sm_cons ?_ ?_ | with_reducible apply sm_lst4 | with_reducible exact sm_bool _ | with_reducible exact sm_none | ((with_reducible change List.length _ = List.length _); rfl) | ((with_reducible change List.length (_ :: _) ≤ _); simp only [List.length_cons, List.length_nil]; omega) | with_reducible apply r_meth | ((with_reducible apply isL_0Ik); focus (first | rfl | (simp only [List.length_set]; done))) | ((with_reducible apply isL_1Ik); focus (first | rfl | (simp only [List.length_set]; done))) | ((with_reducible apply isL_0Tk); focus (first | rfl | (simp only [List.length_set]; done))) | ((with_reducible apply isL_0Pk); focus (first | rfl | (simp only [List.length_set]; done))) | ((with_reducible apply isL_1Pk); focus (first | rfl | (simp only [List.length_set]; done))) | ((with_reducible apply app_0Ik); focus (first | rfl | (simp only [List.length_set]; done))) | ((with_reducible apply app_1Ik); focus (first | rfl | (simp only [List.length_set]; done))) | ((with_reducible apply app_0Tk); focus (first | rfl | (simp only [List.length_set]; done))) | ((with_reducible apply app_0Pk); focus (first | rfl | (simp only [List.length_set]; done))) | ((with_reducible apply ext_0Ik); focus (first | rfl | (simp only [List.length_set]; done))) | ((with_reducible apply ext_1Ik); focus (first | rfl | (simp only [List.length_set]; done))) | ((with_reducible apply ext_0Pk); focus (first | rfl | (simp only [List.length_set]; done))) | ((with_reducible apply inF_0Ik); focus (first | rfl | (simp only [List.length_set]; done))) | ((with_reducible apply inT_0Ik); focus (first | rfl | (simp only [List.length_set]; done))) | ((with_reducible apply inF_1Ik); focus (first | rfl | (simp only [List.length_set]; done))) | ((with_reducible apply inT_1Ik); focus (first | rfl | (simp only [List.length_set]; done))) | ((with_reducible apply tup_0Ik); focus (first | rfl | (simp only [List.length_set]; done))) | ((with_reducible apply tup_0Pk); focus (first | rfl | (simp only [List.length_set]; done))) | ((with_reducible apply tup_0Tk); focus (first | rfl | (simp only [List.length_set]; done))) | ((with_reducible apply len_0Pk); focus (first | rfl | (simp only [List.length_set]; done))) | ((with_reducible apply len_1Pk); focus (first | rfl | (simp only [List.length_set]; done))) | ((with_reducible apply pop_1Pk); focus (first | rfl | (simp only [List.length_set]; done))) | with_reducible apply addL_0I | with_reducible apply ssL | with_reducible apply o_rgT | with_reducible apply o_rgL | with_reducible apply o_addTi _ _ | with_reducible apply o_addLi _ _ | with_reducible apply rgOk_small | with_reducible apply o_ssT _ | ((with_reducible change _ ≤ _); omega) | ((with_reducible change _ ≤ _); simp only [List.length_append, List.length_map, List.length_cons, List.length_nil, rgI_len, rg_len]; omega) | ((with_reducible change _ < _); omega) | ((with_reducible change _ < List.length (_ :: _)); simp only [List.length_cons, List.length_nil]; omega) | with_reducible exact opNe_str _ _ | with_reducible exact opEq_str _ _ | with_reducible assumption | ((with_reducible change _ = false); simp only [Bool.not_true, Bool.not_false, Bool.or_false, Bool.false_or, Bool.and_true, Bool.true_and, Bool.or_true, Bool.true_or, Bool.and_false, Bool.false_and, Bool.xor_false, Bool.false_xor, decide_true, decide_false, allT, bne_self_eq_false, beq_self_eq_true]) | ((with_reducible change _ = true); simp only [Bool.not_true, Bool.not_false, Bool.or_false, Bool.false_or, Bool.and_true, Bool.true_and, Bool.or_true, Bool.true_or, Bool.and_false, Bool.false_and, Bool.xor_false, Bool.false_xor, decide_true, decide_false, allT, bne_self_eq_false, beq_self_eq_true])))
theorem v_span_of (n : Int) (ts : List (Int × Int)) (h : Web n ts) (lot : List Int) (h2 : ∀ x ∈ lot, 0 ≤ x ∧ x < ts.length) (st : Store) : F_span_of [.dat (wb n ts), .dat (ti lot)] st = some (.dat (.int (n - (cnt n.toNat (toldL ts lot) : Nat))), st) := by
  apply run_to
  rfl
  repeat (first | with_reducible apply wp_seq | fail "ev" | with_reducible apply wp_if | intro x hx hk | intro x hx | intro hk)
  unfold b_span_of
  repeat (first | with_reducible apply v_parts_of n ts h lot h2 | with_reducible apply wp_seq | fail "ev" | with_reducible apply wp_if | intro x hx hk | intro x hx | intro hk)
  try rfl
theorem v_is_grove_of (n : Int) (ts : List (Int × Int)) (h : Web n ts) (lot : List Int) (h2 : ∀ x ∈ lot, 0 ≤ x ∧ x < ts.length) (st : Store) : F_is_grove_of [.dat (wb n ts), .dat (ti lot)] st = some (.dat (.bool (decide (n - (cnt n.toNat (toldL ts lot) : Nat) = (lot.length : Int)))), st) := by
  apply run_to
  rfl
  repeat (first | with_reducible apply wp_seq | fail "ev" | with_reducible apply wp_if | intro x hx hk | intro x hx | intro hk)
  unfold b_is_grove_of
  repeat (first | with_reducible apply v_span_of n ts h lot h2 | with_reducible apply wp_seq | fail "ev" | with_reducible apply wp_if | intro x hx hk | intro x hx | intro hk)
  try rfl
theorem v_is_tree_lot (n : Int) (ts : List (Int × Int)) (h : Web n ts) (lot : List Int) (h2 : ∀ x ∈ lot, 0 ≤ x ∧ x < ts.length) (st : Store) : F_is_tree_lot [.dat (wb n ts), .dat (ti lot)] st = some (.dat (.bool (decide ((lot.length : Int) = n - 1) && decide (n - (cnt n.toNat (toldL ts lot) : Nat) = (lot.length : Int)))), st) := by
  apply run_to
  rfl
  repeat (first | with_reducible apply wp_seq | fail "ev" | with_reducible apply wp_if | intro x hx hk | intro x hx | intro hk)
  unfold b_is_tree_lot
  repeat (first | with_reducible apply v_is_grove_of n ts h lot h2 | with_reducible apply wp_seq | fail "ev" | with_reducible apply wp_if | intro x hx hk | intro x hx | intro hk)
  try rfl
theorem v_is_tree (n : Int) (ts : List (Int × Int)) (h : Web n ts) (lot : List Int) (ht : TreeLot n.toNat ts lot) (st : Store) : F_is_tree [.dat (wb n ts), .dat (ti lot)] st = some (.dat (.bool true), st) := by
  have hlo := h.lo
  have e1 : decide ((lot.length : Int) = n - 1) = true := decide_eq_true (by have := ht.len; omega)
  have e2 : decide (n - (cnt n.toNat (toldL ts lot) : Nat) = (lot.length : Int)) = true := decide_eq_true (by have := ht.len; have := ht.one; omega)
  apply run_to
  rfl
  repeat (first | with_reducible apply wp_seq | fail "ev" | with_reducible apply wp_if | intro x hx hk | intro x hx | intro hk)
  unfold b_is_tree
  repeat (first | with_reducible apply v_want_web n ts h | with_reducible apply v_is_lot_of n ts lot ht.inc ht.rng | with_reducible apply v_is_tree_lot n ts h lot ht.rng | with_reducible apply wp_seq | fail "ev" | with_reducible apply wp_if | intro x hx hk | intro x hx | intro hk)
  try rfl
  rw [e1, e2]; rfl
theorem v_want_tree (n : Int) (ts : List (Int × Int)) (h : Web n ts) (lot : List Int) (ht : TreeLot n.toNat ts lot) (st : Store) : F_want_tree [.dat (wb n ts), .dat (ti lot)] st = some (.dat (ti lot), st) := by
  have hlo := h.lo
  have e1 : decide ((lot.length : Int) = n - 1) = true := decide_eq_true (by have := ht.len; omega)
  have e2 : decide (n - (cnt n.toNat (toldL ts lot) : Nat) = (lot.length : Int)) = true := decide_eq_true (by have := ht.len; have := ht.one; omega)
  apply run_wp
  rfl
  repeat (first | with_reducible apply wp_seq | fail "ev" | with_reducible apply wp_if | intro x hx hk | intro x hx | intro hk)
  unfold b_want_tree
  repeat (first | with_reducible apply v_is_lot_of n ts lot ht.inc ht.rng | with_reducible apply v_is_tree_lot n ts h lot ht.rng | with_reducible apply wp_seq | fail "ev" | with_reducible apply wp_if | intro x hx hk | intro x hx | intro hk | ((with_reducible change _ = false); simp only [Bool.not_true, Bool.not_false, Bool.or_false, Bool.false_or, Bool.and_true, Bool.true_and, Bool.or_true, Bool.true_or, Bool.and_false, Bool.false_and, Bool.xor_false, Bool.false_xor, decide_true, decide_false, allT, bne_self_eq_false, beq_self_eq_true, e1, e2]))
  exact ⟨rfl, [], (List.append_nil _).symm⟩
theorem v_without_tie (lot : List Int) (x : Int) (st : Store) : F_without_tie [.dat (ti lot), .dat (.int x)] st = some (.dat (ti (lot.filter fun y => !decide (y = x))), st) := by
  apply run_to
  rfl
  repeat (first | with_reducible apply wp_seq | fail "ev" | with_reducible apply wp_if | intro x hx hk | intro x hx | intro hk)
  unfold b_without_tie
  repeat (first | with_reducible apply wp_seq | fail "ev" | with_reducible apply wp_if | intro x hx hk | intro x hx | intro hk)
  try rfl
theorem v_cut_by (n : Int) (ts : List (Int × Int)) (h : Web n ts) (lot : List Int) (x : Int) (h2 : ∀ x ∈ lot, 0 ≤ x ∧ x < ts.length) (p : List Int) (hp : (groups (labF (toldL ts (lot.filter fun y => !decide (y = x)))) n.toNat)[0]? = some p) (st : Store) :
    F_cut_by [.dat (wb n ts), .dat (ti lot), .dat (.int x)] st = some (.dat (ti (tiesBy (fun t => decide (t.1 ∈ p) != decide (t.2 ∈ p)) ts)), st) := by
  have i1 : opIdx (.dat (lp (groups (labF (toldL ts (lot.filter fun y => !decide (y = x)))) n.toNat))) (.dat (.int 0)) st = some (.dat (ti p), st) := idx_lp 0 hp
  apply run_wp
  rfl
  repeat (first | with_reducible apply wp_seq | fail "ev" | with_reducible apply wp_if | intro x hx hk | intro x hx | intro hk)
  unfold b_cut_by
  repeat (first | with_reducible apply v_without_tie | with_reducible apply v_parts_of n ts h (lot.filter fun y => !decide (y = x)) (fun y hy => h2 y (List.mem_filter.mp hy).1) | with_reducible apply i1 | with_reducible apply wp_seq | fail "ev" | with_reducible apply wp_if | intro x hx hk | intro x hx | intro hk)
  exact ⟨rfl, [], (List.append_nil _).symm⟩
theorem v_want_tie (n : Int) (ts : List (Int × Int)) (x : Int) (h : 0 ≤ x ∧ x < ts.length) (st : Store) : F_want_tie [.dat (wb n ts), .dat (.int x)] st = some (.dat (.int x), st) := by
  have k1 : decide (0 ≤ x ∧ x < (ts.length : Int)) = true := decide_eq_true h
  apply run_wp
  rfl
  repeat (first | with_reducible apply wp_seq | fail "ev" | with_reducible apply wp_if | intro x hx hk | intro x hx | intro hk)
  unfold b_want_tie
  repeat (first | with_reducible apply v_is_tie_of n ts x | with_reducible apply wp_seq | fail "ev" | with_reducible apply wp_if | intro x hx hk | intro x hx | intro hk | ((with_reducible change _ = false); simp only [Bool.not_true, Bool.not_false, Bool.or_false, Bool.false_or, Bool.and_true, Bool.true_and, Bool.or_true, Bool.true_or, Bool.and_false, Bool.false_and, Bool.xor_false, Bool.false_xor, decide_true, decide_false, allT, bne_self_eq_false, beq_self_eq_true, k1]))
  exact ⟨rfl, [], (List.append_nil _).symm⟩
theorem v_cut (n : Int) (ts : List (Int × Int)) (h : Web n ts) (lot : List Int) (ht : TreeLot n.toNat ts lot) (x : Int) (hx : x ∈ lot) (p : List Int) (hp : (groups (labF (toldL ts (lot.filter fun y => !decide (y = x)))) n.toNat)[0]? = some p) (st : Store) :
    F_cut [.dat (wb n ts), .dat (ti lot), .dat (.int x)] st = some (.dat (ti (tiesBy (fun t => decide (t.1 ∈ p) != decide (t.2 ∈ p)) ts)), st) := by
  have k1 : decide (x ∈ lot) = true := decide_eq_true hx
  apply run_wp
  rfl
  repeat (first | with_reducible apply wp_seq | fail "ev" | with_reducible apply wp_if | intro x hx hk | intro x hx | intro hk)
  unfold b_cut
  repeat (first | with_reducible apply v_want_web n ts h | with_reducible apply v_want_tree n ts h lot ht | with_reducible apply v_want_tie n ts x (ht.rng x hx) | with_reducible apply v_cut_by n ts h lot x ht.rng p hp | with_reducible apply wp_seq | fail "ev" | with_reducible apply wp_if | intro x hx hk | intro x hx | intro hk | ((with_reducible change _ = false); simp only [Bool.not_true, Bool.not_false, Bool.or_false, Bool.false_or, Bool.and_true, Bool.true_and, Bool.or_true, Bool.true_or, Bool.and_false, Bool.false_and, Bool.xor_false, Bool.false_xor, decide_true, decide_false, allT, bne_self_eq_false, beq_self_eq_true, k1]))
  exact ⟨rfl, [], (List.append_nil _).symm⟩
theorem v_other_end (n : Int) (ts : List (Int × Int)) (x y : Int) (hx : 0 ≤ x ∧ x < ts.length) (st : Store) : F_other_end [.dat (wb n ts), .dat (.int x), .dat (.int y)] st = some (.dat (.int (if y = (ts.getD x.toNat (0, 0)).1 then (ts.getD x.toNat (0, 0)).2 else (ts.getD x.toNat (0, 0)).1)), st) := by
  have i1 := idx_ttsI (st := st) hx.1 hx.2
  apply run_wp
  rfl
  repeat (first | with_reducible apply wp_seq | fail "ev" | with_reducible apply wp_if | intro x hx hk | intro x hx | intro hk)
  unfold b_other_end
  repeat (first | with_reducible apply i1 | with_reducible apply wp_seq | fail "ev" | with_reducible apply wp_if | intro x hx hk | intro x hx | intro hk)
  simp only [decide_eq_true_eq]
  exact ⟨trivial, [], (List.append_nil _).symm⟩
end K18
set_option Elab.async false
set_option linter.all false
set_option maxRecDepth 100000
set_option maxHeartbeats 1000000
set_option autoImplicit false
namespace K18
open PySem PySem.Spec PyProof.Rows L2 L3
local macro_rules | `(tactic| fail "ev") => `(tactic| (first | with_reducible apply wp_asg | with_reducible apply wp_ret | with_reducible apply wp_retN | with_reducible apply wp_pass | with_reducible apply wp_exp | with_reducible apply wp_aug | with_reducible apply wp_par2 | with_reducible apply wp_par3 | with_reducible apply wp_guard | with_reducible apply beh_nx | with_reducible apply beh_rt | with_reducible apply wp_step | ((with_reducible change (!true) = false); rfl) | ((with_reducible change (!false) = true); rfl) | with_reducible apply r_seq | with_reducible apply r_asg | with_reducible apply r_ret | with_reducible exact r_retN | with_reducible exact r_pass | with_reducible apply r_exp | with_reducible apply r_par2 | with_reducible apply r_par3 | ((with_reducible apply r_var); rfl) | with_reducible exact r_dat | with_reducible exact r_ty | with_reducible apply r_b2 | with_reducible apply r_bN | with_reducible apply r_aCons | with_reducible exact r_aNil | with_reducible apply g_nm | with_reducible apply g_tp | with_reducible apply g_cn | with_reducible exact g_nl | ((with_reducible change List.set _ _ _ = _); simp only [wipe3, start3, List.set_cons_zero, List.set_cons_succ, List.map_cons, List.map_nil, List.length_cons, List.length_nil, Nat.reduceAdd, Nat.reduceSub, Nat.sub_zero, Nat.sub_self, List.replicate_succ, List.replicate_zero, List.cons_append, List.nil_append]; exact rfl) | ((with_reducible change wipe3 _ _ = _); simp only [wipe3, start3, List.set_cons_zero, List.set_cons_succ, List.map_cons, List.map_nil, List.length_cons, List.length_nil, Nat.reduceAdd, Nat.reduceSub, Nat.sub_zero, Nat.sub_self, List.replicate_succ, List.replicate_zero, List.cons_append, List.nil_append]; exact rfl) | ((with_reducible change start3 _ _ = _); simp only [wipe3, start3, List.set_cons_zero, List.set_cons_succ, List.map_cons, List.map_nil, List.length_cons, List.length_nil, Nat.reduceAdd, Nat.reduceSub, Nat.sub_zero, Nat.sub_self, List.replicate_succ, List.replicate_zero, List.cons_append, List.nil_append]; exact rfl) | ((with_reducible change List.length (_ :: _) = _); rfl) | ((with_reducible change (_ : E3)[(_ : Nat)]? = _); rfl) | with_reducible apply r_compA | with_reducible apply r_comp | with_reducible apply it_rng | with_reducible apply it_seq | with_reducible apply it_enu | with_reducible exact sc_ti _ | with_reducible exact sc_li _ | with_reducible exact sc_tts _ | with_reducible exact sc_ttl _ | with_reducible exact sc_tp _ | with_reducible exact sc_lp _ | with_reducible exact sc_tup _ _ | with_reducible exact sc_lst _ _ | with_reducible apply i_seq | with_reducible apply i_enu | with_reducible apply i_range | with_reducible apply r_tBl | with_reducible apply r_tAn | with_reducible apply r_tOr | with_reducible apply r_tNo | with_reducible exact r_tAll | with_reducible apply r_tTru | with_reducible apply r_bAnd | with_reducible apply r_bOr | with_reducible apply r_bNot | with_reducible apply r_slice | with_reducible apply r_pSome | with_reducible exact r_pNone | with_reducible apply r_chain | with_reducible apply r_rev | with_reducible apply r_b1 | with_reducible apply r_ifD | with_reducible exact new1 | with_reducible exact s_ti _ | with_reducible exact s_li _ | with_reducible exact s_tts _ | with_reducible exact s_ttl _ | with_reducible exact s_tp _ | with_reducible exact s_lp _ | with_reducible exact s_tt _ | with_reducible exact s_lst _ _ | with_reducible exact s_tup _ _ | with_reducible exact q_tt _ | with_reducible exact q_2 _ _ | with_reducible exact q_3 _ _ _ | with_reducible exact cn_id _ | with_reducible exact cn_ttI _ | with_reducible exact cn_tiI _ | with_reducible exact cn_int _ _ | with_reducible exact cn_ti _ _ | with_reducible exact cn_tt _ _ | (with_reducible change PyData.list _ = _; with_reducible rfl) | with_reducible exact ce_int _ _ _ | with_reducible exact ce_bool _ _ _ | with_reducible exact ce_ti _ _ _ | with_reducible exact ce_li _ _ _ | with_reducible exact ce_ttl _ _ _ | with_reducible exact ce_tt _ _ _ | with_reducible exact ce_lst _ _ _ | with_reducible exact ce_tup _ _ _ | with_reducible exact t_bl _ | with_reducible exact t_int _ | with_reducible exact t_non | with_reducible exact t_lst _ | with_reducible exact t_tup _ | with_reducible exact opEq_int _ _ | with_reducible exact opNe_int _ _ | with_reducible exact opAdd_int _ _ | with_reducible exact opSub_int _ _ | with_reducible exact opGt_int _ _ | with_reducible exact opLt_int _ _ | with_reducible exact opGe_int _ _ | with_reducible exact opLe_int _ _ | with_reducible exact o_w0 _ _ | with_reducible exact o_w02 _ _ | with_reducible exact o_wadd _ _ | with_reducible exact o_w1 _ _ | with_reducible exact o_w2 _ _ | with_reducible exact o_t0 _ | with_reducible exact o_t1 _ | with_reducible exact inF_ti _ _ | with_reducible exact inT_ti _ _ | with_reducible exact inF_li _ _ | with_reducible exact inT_li _ _ | with_reducible exact inF_2 _ _ | with_reducible exact inT_2 _ _ | with_reducible exact inF_tp _ _ | with_reducible exact inT_tp _ _ | with_reducible exact o_lenTi _ | with_reducible exact o_lenLi _ | with_reducible exact o_lenTts _ | with_reducible exact o_lenTtl _ | with_reducible exact o_lenTp _ | with_reducible exact o_lenLp _ | with_reducible exact o_lenT _ _ | with_reducible exact o_lenL _ _ | with_reducible exact o_tupLi _ | with_reducible exact o_tupLp _ | with_reducible exact o_tupTtl _ | with_reducible exact opTuple_lst _ | with_reducible exact o_lstTi _ | with_reducible exact o_lstTp _ | with_reducible exact o_lstTts _ | with_reducible exact opList_tup _ | with_reducible exact o_sortTi _ | with_reducible exact o_sortLi _ | with_reducible exact opEq_ti _ _ | with_reducible exact opNe_ti _ _ | with_reducible exact opEq_li _ _ | with_reducible exact opNe_li _ _ | with_reducible exact opLt_ti _ _ | with_reducible exact opLe_ti _ _ | with_reducible exact opAll_map _ _ | with_reducible exact opAny_map _ _ | with_reducible exact o_neB _ _ | with_reducible exact o_eqB _ _ | with_reducible exact o_minI _ _ | with_reducible exact o_maxI _ _ | with_reducible exact o_tup2 _ _ | with_reducible exact o_tup1 _ | with_reducible exact o_tup0 | with_reducible exact o_tupA1 _ | with_reducible exact o_tupA2 _ _ | with_reducible exact o_tupA3 _ _ _ | with_reducible exact o_lst0 | with_reducible exact o_lst1 _ | with_reducible exact o_lst2 _ _ | with_reducible exact o_lst3 _ _ _ | with_reducible exact o_lst4 _ _ _ _ | with_reducible exact o_lst5 _ _ _ _ _ | with_reducible exact o_isT _ | with_reducible exact o_isnT _ | with_reducible exact o_isN _ | with_reducible exact opInt_int _ | with_reducible apply r_kw | with_reducible exact pk1 _ | with_reducible exact pk2 _ _ | with_reducible exact pk3 _ _ _ | with_reducible exact pk4 _ _ _ _ | with_reducible exact eq_self_str | with_reducible exact ne_self_str | with_reducible apply reprL | with_reducible exact sm_nil | with_reducible refine sm_cons ?_ ?_ | with_reducible apply sm_lst4 | with_reducible exact sm_bool _ | with_reducible exact sm_none | ((with_reducible change List.length _ = List.length _); rfl) | ((with_reducible change List.length (_ :: _) ≤ _); simp only [List.length_cons, List.length_nil]; omega) | with_reducible apply r_meth | ((with_reducible apply isL_0Ik); focus (first | rfl | (simp only [List.length_set]; done))) | ((with_reducible apply isL_1Ik); focus (first | rfl | (simp only [List.length_set]; done))) | ((with_reducible apply isL_0Tk); focus (first | rfl | (simp only [List.length_set]; done))) | ((with_reducible apply isL_0Pk); focus (first | rfl | (simp only [List.length_set]; done))) | ((with_reducible apply isL_1Pk); focus (first | rfl | (simp only [List.length_set]; done))) | ((with_reducible apply app_0Ik); focus (first | rfl | (simp only [List.length_set]; done))) | ((with_reducible apply app_1Ik); focus (first | rfl | (simp only [List.length_set]; done))) | ((with_reducible apply app_0Tk); focus (first | rfl | (simp only [List.length_set]; done))) | ((with_reducible apply app_0Pk); focus (first | rfl | (simp only [List.length_set]; done))) | ((with_reducible apply ext_0Ik); focus (first | rfl | (simp only [List.length_set]; done))) | ((with_reducible apply ext_1Ik); focus (first | rfl | (simp only [List.length_set]; done))) | ((with_reducible apply ext_0Pk); focus (first | rfl | (simp only [List.length_set]; done))) | ((with_reducible apply inF_0Ik); focus (first | rfl | (simp only [List.length_set]; done))) | ((with_reducible apply inT_0Ik); focus (first | rfl | (simp only [List.length_set]; done))) | ((with_reducible apply inF_1Ik); focus (first | rfl | (simp only [List.length_set]; done))) | ((with_reducible apply inT_1Ik); focus (first | rfl | (simp only [List.length_set]; done))) | ((with_reducible apply tup_0Ik); focus (first | rfl | (simp only [List.length_set]; done))) | ((with_reducible apply tup_0Pk); focus (first | rfl | (simp only [List.length_set]; done))) | ((with_reducible apply tup_0Tk); focus (first | rfl | (simp only [List.length_set]; done))) | ((with_reducible apply len_0Pk); focus (first | rfl | (simp only [List.length_set]; done))) | ((with_reducible apply len_1Pk); focus (first | rfl | (simp only [List.length_set]; done))) | ((with_reducible apply pop_1Pk); focus (first | rfl | (simp only [List.length_set]; done))) | with_reducible apply addL_0I | with_reducible apply ssL | with_reducible apply o_rgT | with_reducible apply o_rgL | with_reducible apply o_addTi _ _ | with_reducible apply o_addLi _ _ | with_reducible apply rgOk_small | with_reducible apply o_ssT _ | ((with_reducible change _ ≤ _); omega) | ((with_reducible change _ ≤ _); simp only [List.length_append, List.length_map, List.length_cons, List.length_nil, rgI_len, rg_len]; omega) | ((with_reducible change _ < _); omega) | ((with_reducible change _ < List.length (_ :: _)); simp only [List.length_cons, List.length_nil]; omega) | with_reducible exact opNe_str _ _ | with_reducible exact opEq_str _ _ | with_reducible assumption | ((with_reducible change _ = false); simp only [Bool.not_true, Bool.not_false, Bool.or_false, Bool.false_or, Bool.and_true, Bool.true_and, Bool.or_true, Bool.true_or, Bool.and_false, Bool.false_and, Bool.xor_false, Bool.false_xor, decide_true, decide_false, allT, bne_self_eq_false, beq_self_eq_true]) | ((with_reducible change _ = true); simp only [Bool.not_true, Bool.not_false, Bool.or_false, Bool.false_or, Bool.and_true, Bool.true_and, Bool.or_true, Bool.true_or, Bool.and_false, Bool.false_and, Bool.xor_false, Bool.false_xor, decide_true, decide_false, allT, bne_self_eq_false, beq_self_eq_true])))
theorem v_way_in (n : Int) (ts : List (Int × Int)) (h : Web n ts) (lot : List Int) (h2 : ∀ x ∈ lot, 0 ≤ x ∧ x < ts.length) (a b : Int) (ha : 0 ≤ a ∧ a < n) (st : Store) : ∃ d, F_way_in [.dat (wb n ts), .dat (ti lot), .dat (.int a), .dat (.int b)] st = some (.dat d, st) ∧
    ((d = .none ∧ ¬ Conn (toldL ts lot) a b) ∨ ∃ o i W, d = ti W ∧ Reach ts lot a o.length o ∧ Tr o i b W) := by
  have hlo := h.lo
  have hhi := h.hi
  have key : Wp b_way_in (start3 11 [.dat (wb n ts), .dat (ti lot), .dat (.int a), .dat (.int b)]) st fun fl _ s => ∃ d ext, fl = .rt (.dat d) ∧ s = st ++ ext ∧
    ((d = .none ∧ ¬ Conn (toldL ts lot) a b) ∨ ∃ o i W, d = ti W ∧ Reach ts lot a o.length o ∧ Tr o i b W) := by
    unfold b_way_in
    simp only [start3, List.map_cons, List.map_nil, List.length_cons, List.length_nil, Nat.reduceAdd, Nat.reduceSub, List.replicate_succ, List.replicate_zero, List.cons_append, List.nil_append]
    apply wp_seq
    repeat (first | with_reducible apply newWay | fail "ev" | with_reducible apply wp_if | intro x hx hk | intro x hx | intro hk)
    apply wp_seq
    apply wp_while (fun k env s => ∃ (turn : Nat) (o : Ord) (o7 o8 o9 : Option W), k + turn = 17 ∧ env = [some (.dat (wb n ts)), some (.dat (ti lot)), some (.dat (.int a)), some (.dat (.int b)), some (.loc st.length), some (.loc (st.length + 1)), some (.dat (.int turn)), o7, o8, o9, none] ∧ s = st ++ [.dict (kvsB o), cellI (o.map (·.1))] ∧ Reach ts lot a turn o ∧ ∀ x ∈ o.map (·.1), 0 ≤ x ∧ x < n) 17 (by decide)
    · exact ⟨0, [(a, none)], _, _, _, rfl, rfl, rfl, Reach.start, fun x hx => by
        have : x = a := by simpa using hx
        subst this; exact ha⟩
    · rintro k env s ⟨turn, o, o7, o8, o9, e1, e2, e3, e4, e5⟩
      subst e2 e3
      have hol : o.length ≤ 16 := by
        have := ord_len (n := n.toNat) e4.nd (fun x hx => by have := e5 x hx; omega)
        omega
      refine ⟨decide ((turn : Int) < (o.map (·.1)).length), st ++ [.dict (kvsB o), cellI (o.map (·.1))], ?_, fun hk => ?_, fun hk => ?_⟩
      · repeat (first | with_reducible apply len_1I | with_reducible apply wp_seq | fail "ev" | with_reducible apply wp_if | intro x hx hk | intro x hx | intro hk)
      · -- all looked at
        have hte : turn = o.length := by
          have h1 := e4.le
          have h2 : ¬ (turn : Int) < (o.map (·.1)).length := of_decide_eq_false hk
          rw [List.length_map] at h2
          omega
        subst hte
        by_cases hb : b ∈ o.map (·.1)
        · obtain ⟨⟨b', q0⟩, hq0, e⟩ := List.mem_map.mp hb
          change b' = b at e
          subst e
          obtain ⟨i0, hi0⟩ := List.getElem?_of_mem hq0
          have hil := (List.getElem?_eq_some_iff.mp hi0).1
          have k1 : decide (b' ∈ o.map (·.1)) = true := decide_eq_true hb
          apply beh_nx
          apply wp_seq
          apply wp_ifF
          repeat (first | with_reducible apply din_B | fail "ev" | with_reducible apply wp_if | intro x hx hk | intro x hx | intro hk | ((with_reducible change _ = false); simp only [Bool.not_true, Bool.not_false, Bool.or_false, Bool.false_or, Bool.and_true, Bool.true_and, Bool.or_true, Bool.true_or, Bool.and_false, Bool.false_and, Bool.xor_false, Bool.false_xor, decide_true, decide_false, allT, bne_self_eq_false, beq_self_eq_true, k1]))
          apply wp_seq
          repeat (first | fail "ev" | with_reducible apply wp_if | intro x hx hk | intro x hx | intro hk)
          generalize hB : st ++ [.dict (kvsB o), cellI (o.map (·.1))] = base
          have hg : ∀ (i : Nat) (x : Int) (q : Option (Int × Int)) (F : List Int), o[i]? = some (x, q) → opGetD (.loc st.length) (.dat (.int x)) (base ++ [cellI F]) = some (.dat (encB q), base ++ [cellI F]) := fun i x q F hx => by
            rw [← hB, List.append_assoc]; exact getD_B e4.nd hx
          apply wp_seq
          apply wp_while (fun k env s => ∃ (x : Int) (q : Option (Int × Int)) (F : List Int) (o7 o8 o9 : Option W), o[k]? = some (x, q) ∧ env = [some (.dat (wb n ts)), some (.dat (ti lot)), some (.dat (.int a)), some (.dat (.int x)), some (.loc st.length), some (.loc (st.length + 1)), some (.dat (.int (o.length : Nat))), o7, o8, o9, some (.loc base.length)] ∧ s = base ++ [cellI F] ∧ F.length + k ≤ 16 ∧ ∀ W, Tr o k x W → ∃ i', Tr o i' b' (W ++ F.reverse)) i0 (by omega)
          · exact ⟨b', q0, [], _, _, _, hi0, rfl, rfl, by simp; omega, fun W t => ⟨i0, by simpa using t⟩⟩
          · rintro k env s ⟨x, q, F, o7, o8, o9, g1, g2, g3, g4, g5⟩
            subst g2 g3
            have hgk := hg k x q F g1
            refine ⟨q.isSome, base ++ [cellI F], ?_, fun hk => ?_, fun hk => ?_⟩
            · repeat (first | with_reducible apply hgk | with_reducible apply isN_B | with_reducible apply wp_seq | fail "ev" | with_reducible apply wp_if | intro x hx hk | intro x hx | intro hk)
            · have hq : q = none := by cases q with | none => rfl | some _ => cases hk
              subst hq
              have hk0 : k = 0 := by
                by_cases h0 : k = 0
                · exact h0
                · obtain ⟨e, u, z, _⟩ := e4.beh k _ g1 (by omega)
                  cases z
              subst hk0
              have hxa : x = a := by rw [e4.root] at g1; cases g1; rfl
              subst hxa
              obtain ⟨i', hi'⟩ := g5 [] (.root e4.root)
              repeat (first | with_reducible apply rev_0I | with_reducible apply wp_seq | fail "ev" | with_reducible apply wp_if | intro x hx hk | intro x hx | intro hk)
              exact ⟨_, [.dict (kvsB o), cellI (o.map (·.1)), cellI F], rfl, by rw [← hB]; simp, .inr ⟨o, i', _, rfl, e4, hi'⟩⟩
            · obtain ⟨⟨e, u⟩, rfl⟩ : ∃ t, q = some t := by cases q with | none => cases hk | some t => exact ⟨t, rfl⟩
              have h0 : 0 < k := by
                by_cases h0 : k = 0
                · subst h0; rw [e4.root] at g1; cases g1
                · omega
              obtain ⟨e', u', z, _, _, j, ⟨u2, q2⟩, hj, hjo, hu⟩ := e4.beh k _ g1 h0
              cases z
              change u2 = u at hu
              subst hu
              change opGetD _ _ _ = some (W.dat (tt (e, u2)), _) at hgk
              repeat (first | with_reducible apply hgk | with_reducible apply wp_seq | fail "ev" | with_reducible apply wp_if | intro x hx hk | intro x hx | intro hk)
              · refine .inl ⟨.inl rfl, j, hj, u2, q2, F ++ [e], _, _, _, hjo, rfl, rfl, by simp; omega, fun W t => ?_⟩
                obtain ⟨i', hi'⟩ := g5 (W ++ [e]) (.step g1 hjo hj t)
                exact ⟨i', by rw [List.reverse_append]; simpa using hi'⟩
        · have k1 : decide (b ∈ o.map (·.1)) = false := decide_eq_false hb
          apply beh_nx
          apply wp_seq
          apply wp_ifT
          repeat (first | with_reducible apply din_B | fail "ev" | with_reducible apply wp_if | intro x hx hk | intro x hx | intro hk | ((with_reducible change _ = true); simp only [Bool.not_true, Bool.not_false, Bool.or_false, Bool.false_or, Bool.and_true, Bool.true_and, Bool.or_true, Bool.true_or, Bool.and_false, Bool.false_and, Bool.xor_false, Bool.false_xor, decide_true, decide_false, allT, bne_self_eq_false, beq_self_eq_true, k1]))
          exact ⟨_, _, rfl, rfl, .inl ⟨rfl, fun c => hb (e4.all c)⟩⟩
      · -- one more place
        have hlt : turn < o.length := by have := of_decide_eq_true hk; rw [List.length_map] at this; omega
        obtain ⟨⟨u, q⟩, hu⟩ : ∃ p, o[turn]? = some p := ⟨_, List.getElem?_eq_getElem hlt⟩
        have hu1 : (o.map (·.1))[turn]? = some u := by rw [List.getElem?_map, hu]; rfl
        have huo : u ∈ o.map (·.1) := List.mem_of_getElem? hu1
        refine Wp.imp (Q := fun fl env2 st2 => (fl = .nx ∨ fl = .ct) ∧ ∃ n', n' < k ∧ ∃ (turn : Nat) (o : Ord) (o7 o8 o9 : Option W), n' + turn = 17 ∧ env2 = [some (.dat (wb n ts)), some (.dat (ti lot)), some (.dat (.int a)), some (.dat (.int b)), some (.loc st.length), some (.loc (st.length + 1)), some (.dat (.int turn)), o7, o8, o9, none] ∧ st2 = st ++ [.dict (kvsB o), cellI (o.map (·.1))] ∧ Reach ts lot a turn o ∧ ∀ x ∈ o.map (·.1), 0 ≤ x ∧ x < n) ?_ fun fl e s hq => .inl hq
        apply wp_seq
        repeat (first | with_reducible apply idx_1I hu1 | fail "ev" | with_reducible apply wp_if | intro x hx hk | intro x hx | intro hk)
        apply wp_seq
        apply wp_each2 8 9 (fun i s => ∃ o' : Ord, s = st ++ [.dict (kvsB o'), cellI (o'.map (·.1))] ∧ Reach ts lot a turn o' ∧ (∀ x ∈ o'.map (·.1), 0 ≤ x ∧ x < n) ∧ o <+: o' ∧ ∀ (j : Nat) (e : Int), j < i → (tiesBy (fun t => decide (u ∈ pl t)) ts)[j]? = some e → e ∈ lot → otherE ts e u ∈ o'.map (·.1))
        repeat (first | with_reducible apply v_ties_at n ts u | with_reducible apply wp_seq | fail "ev" | with_reducible apply wp_if | intro x hx hk | intro x hx | intro hk)
        · exact ⟨o, rfl, e4, e5, List.prefix_refl _, fun j e hj => by omega⟩
        · rintro i e o8 o9 s he ⟨o', f1, f2, f3, f4, f5⟩
          subst f1
          simp only [List.set_cons_succ, List.set_cons_zero]
          obtain ⟨her, heu⟩ := mem_tiesBy.mp (List.mem_of_getElem? he)
          have hE : Ends ts e u (otherE ts e u) := otherE_ends (of_decide_eq_true heu)
          have hvr : 0 ≤ otherE ts e u ∧ otherE ts e u < n := by
            have := h.ok _ (getD_mem her.1 her.2)
            unfold otherE tieAt
            split <;> omega
          have hoe := fun s => v_other_end n ts e u her s
          change ∀ s, _ = some (W.dat (.int (otherE ts e u)), s) at hoe
          have hol' : o'.length ≤ 16 := by
            have := ord_len (n := n.toNat) f2.nd (fun x hx => by have := f3 x hx; omega)
            omega
          have hu' : u ∈ o'.map (·.1) := by
            obtain ⟨t, rfl⟩ := f4
            rw [List.map_append]; exact List.mem_append_left _ huo
          generalize hv : otherE ts e u = v at hE hvr hoe
          by_cases hc : e ∈ lot ∧ v ∉ o'.map (·.1)
          · have hp := put_B (st := st) (rest := [cellI (o'.map (·.1))]) (t := (e, u)) hc.2 (by omega)
            have t1 : decide (e ∈ lot) = true := decide_eq_true hc.1
            have t2 : decide (v ∈ o'.map (·.1)) = false := decide_eq_false hc.2
            have hz : (o'.map (·.1)).length < 1000000 := by rw [List.length_map]; omega
            repeat (first | with_reducible apply hoe | with_reducible apply din_B | with_reducible apply wp_dput | with_reducible apply hp | with_reducible apply wp_ifT | with_reducible apply wp_seq | fail "ev" | intro x hx hk | intro x hx | intro hk | ((with_reducible change _ = true); simp only [Bool.not_true, Bool.not_false, Bool.or_false, Bool.false_or, Bool.and_true, Bool.true_and, Bool.or_true, Bool.true_or, Bool.and_false, Bool.false_and, Bool.xor_false, Bool.false_xor, decide_true, decide_false, allT, bne_self_eq_false, beq_self_eq_true, t1, t2]))
            refine ⟨.inl rfl, ⟨_, _, rfl⟩, o' ++ [(v, some (e, u))], by simp, f2.put hc.1 hE hu' hc.2, fun x hx => ?_, f4.trans (List.prefix_append _ _), fun j e' hj hje hl => ?_⟩
            · rw [List.map_append] at hx
              rcases List.mem_append.mp hx with hx | hx
              · exact f3 x hx
              · have : x = v := by simpa using hx
                subst this; exact hvr
            · rw [List.map_append]
              by_cases hji : j = i
              · subst hji
                rw [he] at hje
                cases hje
                rw [hv]; simp
              · exact List.mem_append_left _ (f5 j e' (by omega) hje hl)
          · have t3 : (decide (e ∈ lot) && (true ^^ decide (v ∈ o'.map (·.1)))) = false := by
              by_cases q1 : e ∈ lot <;> by_cases q2 : v ∈ o'.map (·.1)
              · simp [q2]
              · exact absurd ⟨q1, q2⟩ hc
              · simp [q1]
              · simp [q1]
            repeat (first | with_reducible apply hoe | with_reducible apply din_B | with_reducible apply wp_ifF | with_reducible apply t3 | with_reducible apply wp_seq | fail "ev" | intro x hx hk | intro x hx | intro hk)
            refine ⟨.inl rfl, ⟨_, _, rfl⟩, o', rfl, f2, f3, f4, fun j e' hj hje hl => ?_⟩
            by_cases hji : j = i
            · subst hji
              rw [he] at hje
              cases hje
              rw [hv]
              exact Classical.byContradiction fun q => hc ⟨hl, q⟩
            · exact f5 j e' (by omega) hje hl
        · rintro o8 o9 s ⟨o', f1, f2, f3, f4, f5⟩
          subst f1
          simp only [List.set_cons_succ, List.set_cons_zero]
          have hu' : o'[turn]? = some (u, q) := by
            obtain ⟨t, rfl⟩ := f4
            rw [List.getElem?_append_left hlt]; exact hu
          have hnx := f2.next hu' fun e he v hv => by
            have hm : e ∈ tiesBy (fun t => decide (u ∈ pl t)) ts := mem_tiesBy.mpr ⟨h2 e he, decide_eq_true hv.mem⟩
            obtain ⟨j, hj⟩ := List.getElem?_of_mem hm
            have := f5 j e (List.getElem?_eq_some_iff.mp hj).1 hj he
            rwa [otherE_of hv] at this
          apply beh_nx
          apply wp_aug
          · rfl
          · repeat (first | with_reducible apply wp_seq | fail "ev" | with_reducible apply wp_if | intro x hx hk | intro x hx | intro hk)
          · exact iadd_int _ _
          repeat (first | with_reducible apply wp_seq | fail "ev" | with_reducible apply wp_if | intro x hx hk | intro x hx | intro hk)
          have hol' : o'.length ≤ 16 := by
            have := ord_len (n := n.toNat) f2.nd (fun x hx => by have := f3 x hx; omega)
            omega
          have := hnx.le
          exact ⟨.inl rfl, k - 1, by omega, turn + 1, o', _, _, _, by omega, rfl, rfl, hnx, f3⟩
  obtain ⟨fl, e, s, h1, d, ext, h2, h3, h4⟩ := key
  subst h2 h3
  exact ⟨d, run_ret rfl h1, h4⟩
end K18
set_option Elab.async false
set_option linter.all false
set_option maxRecDepth 100000
set_option maxHeartbeats 1000000
set_option autoImplicit false
namespace K18
open PySem PySem.Spec PyProof.Rows L2 L3
local macro_rules | `(tactic| fail "ev") => `(tactic| (first | with_reducible apply wp_asg | with_reducible apply wp_ret | with_reducible apply wp_retN | with_reducible apply wp_pass | with_reducible apply wp_exp | with_reducible apply wp_aug | with_reducible apply wp_par2 | with_reducible apply wp_par3 | with_reducible apply wp_guard | with_reducible apply beh_nx | with_reducible apply beh_rt | with_reducible apply wp_step | ((with_reducible change (!true) = false); rfl) | ((with_reducible change (!false) = true); rfl) | with_reducible apply r_seq | with_reducible apply r_asg | with_reducible apply r_ret | with_reducible exact r_retN | with_reducible exact r_pass | with_reducible apply r_exp | with_reducible apply r_par2 | with_reducible apply r_par3 | ((with_reducible apply r_var); rfl) | with_reducible exact r_dat | with_reducible exact r_ty | with_reducible apply r_b2 | with_reducible apply r_bN | with_reducible apply r_aCons | with_reducible exact r_aNil | with_reducible apply g_nm | with_reducible apply g_tp | with_reducible apply g_cn | with_reducible exact g_nl | ((with_reducible change List.set _ _ _ = _); simp only [wipe3, start3, List.set_cons_zero, List.set_cons_succ, List.map_cons, List.map_nil, List.length_cons, List.length_nil, Nat.reduceAdd, Nat.reduceSub, Nat.sub_zero, Nat.sub_self, List.replicate_succ, List.replicate_zero, List.cons_append, List.nil_append]; exact rfl) | ((with_reducible change wipe3 _ _ = _); simp only [wipe3, start3, List.set_cons_zero, List.set_cons_succ, List.map_cons, List.map_nil, List.length_cons, List.length_nil, Nat.reduceAdd, Nat.reduceSub, Nat.sub_zero, Nat.sub_self, List.replicate_succ, List.replicate_zero, List.cons_append, List.nil_append]; exact rfl) | ((with_reducible change start3 _ _ = _); simp only [wipe3, start3, List.set_cons_zero, List.set_cons_succ, List.map_cons, List.map_nil, List.length_cons, List.length_nil, Nat.reduceAdd, Nat.reduceSub, Nat.sub_zero, Nat.sub_self, List.replicate_succ, List.replicate_zero, List.cons_append, List.nil_append]; exact rfl) | ((with_reducible change List.length (_ :: _) = _); rfl) | ((with_reducible change (_ : E3)[(_ : Nat)]? = _); rfl) | with_reducible apply r_compA | with_reducible apply r_comp | with_reducible apply it_rng | with_reducible apply it_seq | with_reducible apply it_enu | with_reducible exact sc_ti _ | with_reducible exact sc_li _ | with_reducible exact sc_tts _ | with_reducible exact sc_ttl _ | with_reducible exact sc_tp _ | with_reducible exact sc_lp _ | with_reducible exact sc_tup _ _ | with_reducible exact sc_lst _ _ | with_reducible apply i_seq | with_reducible apply i_enu | with_reducible apply i_range | with_reducible apply r_tBl | with_reducible apply r_tAn | with_reducible apply r_tOr | with_reducible apply r_tNo | with_reducible exact r_tAll | with_reducible apply r_tTru | with_reducible apply r_bAnd | with_reducible apply r_bOr | with_reducible apply r_bNot | with_reducible apply r_slice | with_reducible apply r_pSome | with_reducible exact r_pNone | with_reducible apply r_chain | with_reducible apply r_rev | with_reducible apply r_b1 | with_reducible apply r_ifD | with_reducible exact new1 | with_reducible exact s_ti _ | with_reducible exact s_li _ | with_reducible exact s_tts _ | with_reducible exact s_ttl _ | with_reducible exact s_tp _ | with_reducible exact s_lp _ | with_reducible exact s_tt _ | with_reducible exact s_lst _ _ | with_reducible exact s_tup _ _ | with_reducible exact q_tt _ | with_reducible exact q_2 _ _ | with_reducible exact q_3 _ _ _ | with_reducible exact cn_id _ | with_reducible exact cn_ttI _ | with_reducible exact cn_tiI _ | with_reducible exact cn_int _ _ | with_reducible exact cn_ti _ _ | with_reducible exact cn_tt _ _ | (with_reducible change PyData.list _ = _; with_reducible rfl) | with_reducible exact ce_int _ _ _ | with_reducible exact ce_bool _ _ _ | with_reducible exact ce_ti _ _ _ | with_reducible exact ce_li _ _ _ | with_reducible exact ce_ttl _ _ _ | with_reducible exact ce_tt _ _ _ | with_reducible exact ce_lst _ _ _ | with_reducible exact ce_tup _ _ _ | with_reducible exact t_bl _ | with_reducible exact t_int _ | with_reducible exact t_non | with_reducible exact t_lst _ | with_reducible exact t_tup _ | with_reducible exact opEq_int _ _ | with_reducible exact opNe_int _ _ | with_reducible exact opAdd_int _ _ | with_reducible exact opSub_int _ _ | with_reducible exact opGt_int _ _ | with_reducible exact opLt_int _ _ | with_reducible exact opGe_int _ _ | with_reducible exact opLe_int _ _ | with_reducible exact o_w0 _ _ | with_reducible exact o_w02 _ _ | with_reducible exact o_wadd _ _ | with_reducible exact o_w1 _ _ | with_reducible exact o_w2 _ _ | with_reducible exact o_t0 _ | with_reducible exact o_t1 _ | with_reducible exact inF_ti _ _ | with_reducible exact inT_ti _ _ | with_reducible exact inF_li _ _ | with_reducible exact inT_li _ _ | with_reducible exact inF_2 _ _ | with_reducible exact inT_2 _ _ | with_reducible exact inF_tp _ _ | with_reducible exact inT_tp _ _ | with_reducible exact o_lenTi _ | with_reducible exact o_lenLi _ | with_reducible exact o_lenTts _ | with_reducible exact o_lenTtl _ | with_reducible exact o_lenTp _ | with_reducible exact o_lenLp _ | with_reducible exact o_lenT _ _ | with_reducible exact o_lenL _ _ | with_reducible exact o_tupLi _ | with_reducible exact o_tupLp _ | with_reducible exact o_tupTtl _ | with_reducible exact opTuple_lst _ | with_reducible exact o_lstTi _ | with_reducible exact o_lstTp _ | with_reducible exact o_lstTts _ | with_reducible exact opList_tup _ | with_reducible exact o_sortTi _ | with_reducible exact o_sortLi _ | with_reducible exact opEq_ti _ _ | with_reducible exact opNe_ti _ _ | with_reducible exact opEq_li _ _ | with_reducible exact opNe_li _ _ | with_reducible exact opLt_ti _ _ | with_reducible exact opLe_ti _ _ | with_reducible exact opAll_map _ _ | with_reducible exact opAny_map _ _ | with_reducible exact o_neB _ _ | with_reducible exact o_eqB _ _ | with_reducible exact o_minI _ _ | with_reducible exact o_maxI _ _ | with_reducible exact o_tup2 _ _ | with_reducible exact o_tup1 _ | with_reducible exact o_tup0 | with_reducible exact o_tupA1 _ | with_reducible exact o_tupA2 _ _ | with_reducible exact o_tupA3 _ _ _ | with_reducible exact o_lst0 | with_reducible exact o_lst1 _ | with_reducible exact o_lst2 _ _ | with_reducible exact o_lst3 _ _ _ | with_reducible exact o_lst4 _ _ _ _ | with_reducible exact o_lst5 _ _ _ _ _ | with_reducible exact o_isT _ | with_reducible exact o_isnT _ | with_reducible exact o_isN _ | with_reducible exact opInt_int _ | with_reducible apply r_kw | with_reducible exact pk1 _ | with_reducible exact pk2 _ _ | with_reducible exact pk3 _ _ _ | with_reducible exact pk4 _ _ _ _ | with_reducible exact eq_self_str | with_reducible exact ne_self_str | with_reducible apply reprL | with_reducible exact sm_nil | with_reducible refine sm_cons ?_ ?_ | with_reducible apply sm_lst4 | with_reducible exact sm_bool _ | with_reducible exact sm_none | ((with_reducible change List.length _ = List.length _); rfl) | ((with_reducible change List.length (_ :: _) ≤ _); simp only [List.length_cons, List.length_nil]; omega) | with_reducible apply r_meth | ((with_reducible apply isL_0Ik); focus (first | rfl | (simp only [List.length_set]; done))) | ((with_reducible apply isL_1Ik); focus (first | rfl | (simp only [List.length_set]; done))) | ((with_reducible apply isL_0Tk); focus (first | rfl | (simp only [List.length_set]; done))) | ((with_reducible apply isL_0Pk); focus (first | rfl | (simp only [List.length_set]; done))) | ((with_reducible apply isL_1Pk); focus (first | rfl | (simp only [List.length_set]; done))) | ((with_reducible apply app_0Ik); focus (first | rfl | (simp only [List.length_set]; done))) | ((with_reducible apply app_1Ik); focus (first | rfl | (simp only [List.length_set]; done))) | ((with_reducible apply app_0Tk); focus (first | rfl | (simp only [List.length_set]; done))) | ((with_reducible apply app_0Pk); focus (first | rfl | (simp only [List.length_set]; done))) | ((with_reducible apply ext_0Ik); focus (first | rfl | (simp only [List.length_set]; done))) | ((with_reducible apply ext_1Ik); focus (first | rfl | (simp only [List.length_set]; done))) | ((with_reducible apply ext_0Pk); focus (first | rfl | (simp only [List.length_set]; done))) | ((with_reducible apply inF_0Ik); focus (first | rfl | (simp only [List.length_set]; done))) | ((with_reducible apply inT_0Ik); focus (first | rfl | (simp only [List.length_set]; done))) | ((with_reducible apply inF_1Ik); focus (first | rfl | (simp only [List.length_set]; done))) | ((with_reducible apply inT_1Ik); focus (first | rfl | (simp only [List.length_set]; done))) | ((with_reducible apply tup_0Ik); focus (first | rfl | (simp only [List.length_set]; done))) | ((with_reducible apply tup_0Pk); focus (first | rfl | (simp only [List.length_set]; done))) | ((with_reducible apply tup_0Tk); focus (first | rfl | (simp only [List.length_set]; done))) | ((with_reducible apply len_0Pk); focus (first | rfl | (simp only [List.length_set]; done))) | ((with_reducible apply len_1Pk); focus (first | rfl | (simp only [List.length_set]; done))) | ((with_reducible apply pop_1Pk); focus (first | rfl | (simp only [List.length_set]; done))) | with_reducible apply addL_0I | with_reducible apply ssL | with_reducible apply o_rgT | with_reducible apply o_rgL | with_reducible apply o_addTi _ _ | with_reducible apply o_addLi _ _ | with_reducible apply rgOk_small | with_reducible apply o_ssT _ | ((with_reducible change _ ≤ _); omega) | ((with_reducible change _ ≤ _); simp only [List.length_append, List.length_map, List.length_cons, List.length_nil, rgI_len, rg_len]; omega) | ((with_reducible change _ < _); omega) | ((with_reducible change _ < List.length (_ :: _)); simp only [List.length_cons, List.length_nil]; omega) | with_reducible exact opNe_str _ _ | with_reducible exact opEq_str _ _ | with_reducible assumption | ((with_reducible change _ = false); simp only [Bool.not_true, Bool.not_false, Bool.or_false, Bool.false_or, Bool.and_true, Bool.true_and, Bool.or_true, Bool.true_or, Bool.and_false, Bool.false_and, Bool.xor_false, Bool.false_xor, decide_true, decide_false, allT, bne_self_eq_false, beq_self_eq_true]) | ((with_reducible change _ = true); simp only [Bool.not_true, Bool.not_false, Bool.or_false, Bool.false_or, Bool.and_true, Bool.true_and, Bool.or_true, Bool.true_or, Bool.and_false, Bool.false_and, Bool.xor_false, Bool.false_xor, decide_true, decide_false, allT, bne_self_eq_false, beq_self_eq_true])))
theorem v_ring_with (n : Int) (ts : List (Int × Int)) (h : Web n ts) (lot : List Int) (ht : TreeLot n.toNat ts lot) (x : Int) (hx : 0 ≤ x ∧ x < ts.length) (st : Store) : ∃ Z, F_ring_with [.dat (wb n ts), .dat (ti lot), .dat (.int x)] st = some (.dat (ti (sI (Z ++ [x]))), st) ∧ RingW ts lot x Z := by
  have hlo := h.lo
  have hr := h.wr
  have hE := h.ok _ (getD_mem hx.1 hx.2)
  obtain ⟨d, h1, h2⟩ := v_way_in n ts h lot ht.rng (tieAt ts x).1 (tieAt ts x).2 (by unfold tieAt; omega) st
  rcases h2 with ⟨_, hc⟩ | ⟨o, i, Z, rfl, hR, hT⟩
  · refine absurd ((cnt_one (told_rngN hr ht.rng) (by omega)).mp ht.one _ _ ?_ ?_) hc <;> (unfold tieAt; omega)
  · have hW := ringW hr ht hR hT
    refine ⟨Z, ?_, hW⟩
    have i1 := idx_ttsI (st := st) hx.1 hx.2
    change _ = some (W.dat (tt (tieAt ts x)), st) at i1
    have hl : Z.length ≤ 40 := by
      have := hW.nd
      have h3 := nd_le this (q := lot) hW.sub
      have := ht.len
      have := h.hi
      omega
    have hne : opIs false (.dat (ti Z)) (.dat .none) st = some (.dat (.bool false), st) := rfl
    apply run_wp
    rfl
    repeat (first | with_reducible apply wp_seq | fail "ev" | with_reducible apply wp_if | intro x hx hk | intro x hx | intro hk)
    unfold b_ring_with
    repeat (first | with_reducible apply i1 | with_reducible apply h1 | with_reducible apply r_ifF | with_reducible apply hne | with_reducible apply o_addTi | with_reducible apply wp_seq | fail "ev" | with_reducible apply wp_if | intro x hx hk | intro x hx | intro hk)
    exact ⟨rfl, [], (List.append_nil _).symm⟩
theorem v_exchange_of (n : Int) (ts : List (Int × Int)) (h : Web n ts) (tree other : List Int) (ht : TreeLot n.toNat ts tree) (ho : TreeLot n.toNat ts other) (x : Int) (hx : x ∈ tree) (st : Store) :
    ∃ y r, F_exchange_of [.dat (wb n ts), .dat (ti tree), .dat (ti other), .dat (.int x)] st = some (.dat (.int y), st) ∧ (x ∈ other → y = x) ∧
      (x ∉ other → (y :: r).Pairwise (· < ·) ∧ ∀ e, e ∈ y :: r ↔ e ∈ other ∧ (¬ Conn (toldL ts (lessE tree x)) (tieAt ts e).1 (tieAt ts e).2) ∧ ¬ Conn (toldL ts (lessE other e)) (tieAt ts x).1 (tieAt ts x).2) := by
  have hr := h.wr
  obtain ⟨h2, hapart⟩ := tree_less hr ht hx
  obtain ⟨p, q, hg, hsep⟩ := two_parts (told_rngN hr fun y hy => ht.rng y (mem_lessE.mp hy).1 : Rng n.toNat (toldL ts (lessE tree x))) h2
  have hcut := fun s => v_cut_by n ts h tree x ht.rng p (by
    show (groups (labF (toldL ts (lessE tree x))) n.toNat)[0]? = some p
    rw [hg]; rfl) s
  have hci := fun e => cut_iff (e := e) hr ht hx hg hsep
  have hinc := tiesBy_inc ts fun t => decide (t.1 ∈ p) != decide (t.2 ∈ p)
  generalize tiesBy (fun t => decide (t.1 ∈ p) != decide (t.2 ∈ p)) ts = C at hcut hci hinc
  have fin : ∀ (ring : List Int) (y : Int) (r : List Int), (C.filter fun e => decide (e ∈ ring) && decide (e ∈ other)) = y :: r → opIdx (.dat (li (C.filter fun e => decide (e ∈ ring) && decide (e ∈ other)))) (.dat (.int 0)) st = some (.dat (.int y), st) := fun ring y r e => by
    rw [e]; exact idx_lst 0 rfl
  by_cases hxo : x ∈ other
  · have k1 : decide (x ∈ other) = true := decide_eq_true hxo
    have hf : (C.filter fun e => decide (e ∈ [x]) && decide (e ∈ other)) = [x] := by
      refine sorted_unique (hinc.filter _) (List.pairwise_singleton _ _) fun e => ?_
      rw [List.mem_filter, Bool.and_eq_true, decide_eq_true_eq, decide_eq_true_eq, hci]
      constructor
      · rintro ⟨_, h1, _⟩; exact h1
      · intro he
        have : e = x := by simpa using he
        subst this
        exact ⟨⟨ht.rng _ hx, hapart⟩, he, hxo⟩
    refine ⟨x, [], ?_, fun _ => rfl, fun q => absurd hxo q⟩
    have hin : opIn true (.dat (.int x)) (.dat (ti other)) st = some (.dat (.bool false), st) := by rw [inT_ti, k1]; rfl
    apply run_wp
    rfl
    repeat (first | with_reducible apply wp_seq | fail "ev" | with_reducible apply wp_if | intro x hx hk | intro x hx | intro hk)
    unfold b_exchange_of
    repeat (first | with_reducible apply hin | with_reducible apply r_ifF | with_reducible apply hcut | with_reducible apply fin [x] x [] hf | with_reducible apply wp_seq | fail "ev" | with_reducible apply wp_if | intro x hx hk | intro x hx | intro hk)
    exact ⟨rfl, [], (List.append_nil _).symm⟩
  · have k1 : decide (x ∈ other) = false := decide_eq_false hxo
    obtain ⟨Z, h3, hW⟩ := v_ring_with n ts h other ho x (ht.rng x hx) st
    obtain ⟨e0, he0, hc0⟩ := cut_way hr ht hx hW
    have hmem : ∀ e, e ∈ (C.filter fun e => decide (e ∈ sI (Z ++ [x])) && decide (e ∈ other)) ↔ e ∈ other ∧ (¬ Conn (toldL ts (lessE tree x)) (tieAt ts e).1 (tieAt ts e).2) ∧ ¬ Conn (toldL ts (lessE other e)) (tieAt ts x).1 (tieAt ts x).2 := fun e => by
      rw [List.mem_filter, Bool.and_eq_true, decide_eq_true_eq, decide_eq_true_eq, hci, (sI_perm _).mem_iff, List.mem_append, List.mem_singleton]
      constructor
      · rintro ⟨⟨_, h4⟩, h5, h6⟩
        refine ⟨h6, h4, (hW.iff e h6).mp (h5.resolve_right fun z => by subst z; exact hxo h6)⟩
      · rintro ⟨h4, h5, h6⟩
        exact ⟨⟨ho.rng e h4, h5⟩, .inl ((hW.iff e h4).mpr h6), h4⟩
    have hpw := hinc.filter fun e => decide (e ∈ sI (Z ++ [x])) && decide (e ∈ other)
    have hfin := fin (sI (Z ++ [x]))
    have hn : e0 ∈ C.filter fun e => decide (e ∈ sI (Z ++ [x])) && decide (e ∈ other) := (hmem e0).mpr ⟨hW.sub e0 he0, hc0, (hW.iff e0 (hW.sub e0 he0)).mp he0⟩
    cases hF : C.filter fun e => decide (e ∈ sI (Z ++ [x])) && decide (e ∈ other) with
    | nil => rw [hF] at hn; cases hn
    | cons y r =>
      rw [hF] at hmem hpw
      refine ⟨y, r, ?_, fun q => absurd q hxo, fun _ => ⟨hpw, hmem⟩⟩
      have hin : opIn true (.dat (.int x)) (.dat (ti other)) st = some (.dat (.bool true), st) := by rw [inT_ti, k1]; rfl
      apply run_wp
      rfl
      repeat (first | with_reducible apply wp_seq | fail "ev" | with_reducible apply wp_if | intro x hx hk | intro x hx | intro hk)
      unfold b_exchange_of
      repeat (first | with_reducible apply hin | with_reducible apply r_ifT | with_reducible apply h3 | with_reducible apply hcut | with_reducible apply hfin y r hF | with_reducible apply wp_seq | fail "ev" | with_reducible apply wp_if | intro x hx hk | intro x hx | intro hk)
      exact ⟨rfl, [], (List.append_nil _).symm⟩
theorem v_exchange (n : Int) (ts : List (Int × Int)) (h : Web n ts) (tree other : List Int) (ht : TreeLot n.toNat ts tree) (ho : TreeLot n.toNat ts other) (x : Int) (hx : x ∈ tree) (st : Store) (y : Int) (hy : F_exchange_of [.dat (wb n ts), .dat (ti tree), .dat (ti other), .dat (.int x)] st = some (.dat (.int y), st)) :
    F_exchange [.dat (wb n ts), .dat (ti tree), .dat (ti other), .dat (.int x)] st = some (.dat (.int y), st) := by
  have k1 : decide (x ∈ tree) = true := decide_eq_true hx
  apply run_wp
  rfl
  repeat (first | with_reducible apply wp_seq | fail "ev" | with_reducible apply wp_if | intro x hx hk | intro x hx | intro hk)
  unfold b_exchange
  repeat (first | with_reducible apply v_want_web n ts h | with_reducible apply v_want_tree n ts h tree ht | with_reducible apply v_want_tree n ts h other ho | with_reducible apply v_want_tie n ts x (ht.rng x hx) | with_reducible apply hy | with_reducible apply wp_seq | fail "ev" | with_reducible apply wp_if | intro x hx hk | intro x hx | intro hk | ((with_reducible change _ = false); simp only [Bool.not_true, Bool.not_false, Bool.or_false, Bool.false_or, Bool.and_true, Bool.true_and, Bool.or_true, Bool.true_or, Bool.and_false, Bool.false_and, Bool.xor_false, Bool.false_xor, decide_true, decide_false, allT, bne_self_eq_false, beq_self_eq_true, k1]))
  exact ⟨rfl, [], (List.append_nil _).symm⟩
/-! ### the law's own -/
theorem v__law_is_grove (n : Int) (ts : List (Int × Int)) (h : Web n ts) (lot : List Int) (h2 : ∀ x ∈ lot, 0 ≤ x ∧ x < ts.length) (hz : n + 2 * lot.length < 64) (st : Store) : F__law_is_grove [.dat (wb n ts), .dat (ti lot)] st = some (.dat (.bool (decide (((cnt n.toNat (toldL ts lot) : Nat) : Int) = n - lot.length))), st) := by
  have hlo := h.lo
  have hhi := h.hi
  have hmN : ((n.toNat : Nat) : Int) = n := by omega
  have hr := told_rngN h.wr h2
  have f8 : F__law_parts [.dat (.int n), .dat (ttl (toldL ts lot))] st = some (.dat (lp (groups (labF (toldL ts lot)) n.toNat)), st) := by
    have := v__law_parts n.toNat (toldL ts lot) _ (.inr rfl) (by omega) (by unfold toldL; rw [List.length_map]; omega) hr st
    rw [hmN, ← parts_same hr] at this
    exact this
  apply run_to
  rfl
  repeat (first | with_reducible apply wp_seq | fail "ev" | with_reducible apply wp_if | intro x hx hk | intro x hx | intro hk)
  unfold b__law_is_grove
  repeat (first | with_reducible apply v__law_told n ts lot h2 | with_reducible apply f8 | with_reducible apply wp_seq | fail "ev" | with_reducible apply wp_if | intro x hx hk | intro x hx | intro hk)
  try rfl
theorem v__law_changed (tree : List Int) (gone come : Int) (hl : tree.length ≤ 1000) (st : Store) : F__law_changed [.dat (ti tree), .dat (.int gone), .dat (.int come)] st = some (.dat (ti (sI (lessE tree gone ++ [come]))), st) := by
  have hz : (lessE tree gone).length + [come].length ≤ 1000000 := by
    have := List.length_filter_le (fun y => !decide (y = gone)) tree
    unfold lessE
    simp only [List.length_cons, List.length_nil]; omega
  have ha : ∀ s, opAdd (.dat (li (tree.filter fun y => !decide (y = gone)))) (.dat (.list [.int come])) s = some (.dat (li (lessE tree gone ++ [come])), s) := fun s => o_addLi _ [come] hz
  apply run_to
  rfl
  repeat (first | with_reducible apply wp_seq | fail "ev" | with_reducible apply wp_if | intro x hx hk | intro x hx | intro hk)
  unfold b__law_changed
  repeat (first | with_reducible apply ha | with_reducible apply wp_seq | fail "ev" | with_reducible apply wp_if | intro x hx hk | intro x hx | intro hk)
  try rfl
theorem v__law_is_tree (n : Int) (ts : List (Int × Int)) (h : Web n ts) (lot : List Int) (h2 : ∀ x ∈ lot, 0 ≤ x ∧ x < ts.length) (hz : n + 2 * lot.length < 64) (st : Store) : F__law_is_tree [.dat (wb n ts), .dat (ti lot)] st = some (.dat (.bool (treeB n.toNat ts lot)), st) := by
  have hlo := h.lo
  have hmN : ((n.toNat : Nat) : Int) = n := by omega
  have hs : opLenSetT (.dat (ti lot)) st = some (.dat (.int ((sset lot).length : Nat)), st) := by
    unfold ti opLenSetT
    simp only [L3.ints_of]
    rw [if_pos (show lot.length < 64 by omega)]
  apply run_to
  rfl
  repeat (first | with_reducible apply wp_seq | fail "ev" | with_reducible apply wp_if | intro x hx hk | intro x hx | intro hk)
  unfold b__law_is_tree
  repeat (first | with_reducible apply hs | with_reducible apply v__law_is_grove n ts h lot h2 hz | with_reducible apply wp_seq | fail "ev" | with_reducible apply wp_if | intro x hx hk | intro x hx | intro hk)
  try rfl
  unfold treeB
  rw [hmN]
end K18
set_option Elab.async false
set_option linter.all false
set_option maxRecDepth 100000
set_option maxHeartbeats 1000000
set_option autoImplicit false
namespace K18
open PySem PySem.Spec PyProof.Rows L2 L3
local macro_rules | `(tactic| fail "ev") => `(tactic| (first | with_reducible apply wp_asg | with_reducible apply wp_ret | with_reducible apply wp_retN | with_reducible apply wp_pass | with_reducible apply wp_exp | with_reducible apply wp_aug | with_reducible apply wp_par2 | with_reducible apply wp_par3 | with_reducible apply wp_guard | with_reducible apply beh_nx | with_reducible apply beh_rt | with_reducible apply wp_step | ((with_reducible change (!true) = false); rfl) | ((with_reducible change (!false) = true); rfl) | with_reducible apply r_seq | with_reducible apply r_asg | with_reducible apply r_ret | with_reducible exact r_retN | with_reducible exact r_pass | with_reducible apply r_exp | with_reducible apply r_par2 | with_reducible apply r_par3 | ((with_reducible apply r_var); rfl) | with_reducible exact r_dat | with_reducible exact r_ty | with_reducible apply r_b2 | with_reducible apply r_bN | with_reducible apply r_aCons | with_reducible exact r_aNil | with_reducible apply g_nm | with_reducible apply g_tp | with_reducible apply g_cn | with_reducible exact g_nl | ((with_reducible change List.set _ _ _ = _); simp only [wipe3, start3, List.set_cons_zero, List.set_cons_succ, List.map_cons, List.map_nil, List.length_cons, List.length_nil, Nat.reduceAdd, Nat.reduceSub, Nat.sub_zero, Nat.sub_self, List.replicate_succ, List.replicate_zero, List.cons_append, List.nil_append]; exact rfl) | ((with_reducible change wipe3 _ _ = _); simp only [wipe3, start3, List.set_cons_zero, List.set_cons_succ, List.map_cons, List.map_nil, List.length_cons, List.length_nil, Nat.reduceAdd, Nat.reduceSub, Nat.sub_zero, Nat.sub_self, List.replicate_succ, List.replicate_zero, List.cons_append, List.nil_append]; exact rfl) | ((with_reducible change start3 _ _ = _); simp only [wipe3, start3, List.set_cons_zero, List.set_cons_succ, List.map_cons, List.map_nil, List.length_cons, List.length_nil, Nat.reduceAdd, Nat.reduceSub, Nat.sub_zero, Nat.sub_self, List.replicate_succ, List.replicate_zero, List.cons_append, List.nil_append]; exact rfl) | ((with_reducible change List.length (_ :: _) = _); rfl) | ((with_reducible change (_ : E3)[(_ : Nat)]? = _); rfl) | with_reducible apply r_compA | with_reducible apply r_comp | with_reducible apply it_rng | with_reducible apply it_seq | with_reducible apply it_enu | with_reducible exact sc_ti _ | with_reducible exact sc_li _ | with_reducible exact sc_tts _ | with_reducible exact sc_ttl _ | with_reducible exact sc_tp _ | with_reducible exact sc_lp _ | with_reducible exact sc_tup _ _ | with_reducible exact sc_lst _ _ | with_reducible apply i_seq | with_reducible apply i_enu | with_reducible apply i_range | with_reducible apply r_tBl | with_reducible apply r_tAn | with_reducible apply r_tOr | with_reducible apply r_tNo | with_reducible exact r_tAll | with_reducible apply r_tTru | with_reducible apply r_bAnd | with_reducible apply r_bOr | with_reducible apply r_bNot | with_reducible apply r_slice | with_reducible apply r_pSome | with_reducible exact r_pNone | with_reducible apply r_chain | with_reducible apply r_rev | with_reducible apply r_b1 | with_reducible apply r_ifD | with_reducible exact new1 | with_reducible exact s_ti _ | with_reducible exact s_li _ | with_reducible exact s_tts _ | with_reducible exact s_ttl _ | with_reducible exact s_tp _ | with_reducible exact s_lp _ | with_reducible exact s_tt _ | with_reducible exact s_lst _ _ | with_reducible exact s_tup _ _ | with_reducible exact q_tt _ | with_reducible exact q_2 _ _ | with_reducible exact q_3 _ _ _ | with_reducible exact cn_id _ | with_reducible exact cn_ttI _ | with_reducible exact cn_tiI _ | with_reducible exact cn_int _ _ | with_reducible exact cn_ti _ _ | with_reducible exact cn_tt _ _ | (with_reducible change PyData.list _ = _; with_reducible rfl) | with_reducible exact ce_int _ _ _ | with_reducible exact ce_bool _ _ _ | with_reducible exact ce_ti _ _ _ | with_reducible exact ce_li _ _ _ | with_reducible exact ce_ttl _ _ _ | with_reducible exact ce_tt _ _ _ | with_reducible exact ce_lst _ _ _ | with_reducible exact ce_tup _ _ _ | with_reducible exact t_bl _ | with_reducible exact t_int _ | with_reducible exact t_non | with_reducible exact t_lst _ | with_reducible exact t_tup _ | with_reducible exact opEq_int _ _ | with_reducible exact opNe_int _ _ | with_reducible exact opAdd_int _ _ | with_reducible exact opSub_int _ _ | with_reducible exact opGt_int _ _ | with_reducible exact opLt_int _ _ | with_reducible exact opGe_int _ _ | with_reducible exact opLe_int _ _ | with_reducible exact o_w0 _ _ | with_reducible exact o_w02 _ _ | with_reducible exact o_wadd _ _ | with_reducible exact o_w1 _ _ | with_reducible exact o_w2 _ _ | with_reducible exact o_t0 _ | with_reducible exact o_t1 _ | with_reducible exact inF_ti _ _ | with_reducible exact inT_ti _ _ | with_reducible exact inF_li _ _ | with_reducible exact inT_li _ _ | with_reducible exact inF_2 _ _ | with_reducible exact inT_2 _ _ | with_reducible exact inF_tp _ _ | with_reducible exact inT_tp _ _ | with_reducible exact o_lenTi _ | with_reducible exact o_lenLi _ | with_reducible exact o_lenTts _ | with_reducible exact o_lenTtl _ | with_reducible exact o_lenTp _ | with_reducible exact o_lenLp _ | with_reducible exact o_lenT _ _ | with_reducible exact o_lenL _ _ | with_reducible exact o_tupLi _ | with_reducible exact o_tupLp _ | with_reducible exact o_tupTtl _ | with_reducible exact opTuple_lst _ | with_reducible exact o_lstTi _ | with_reducible exact o_lstTp _ | with_reducible exact o_lstTts _ | with_reducible exact opList_tup _ | with_reducible exact o_sortTi _ | with_reducible exact o_sortLi _ | with_reducible exact opEq_ti _ _ | with_reducible exact opNe_ti _ _ | with_reducible exact opEq_li _ _ | with_reducible exact opNe_li _ _ | with_reducible exact opLt_ti _ _ | with_reducible exact opLe_ti _ _ | with_reducible exact opAll_map _ _ | with_reducible exact opAny_map _ _ | with_reducible exact o_neB _ _ | with_reducible exact o_eqB _ _ | with_reducible exact o_minI _ _ | with_reducible exact o_maxI _ _ | with_reducible exact o_tup2 _ _ | with_reducible exact o_tup1 _ | with_reducible exact o_tup0 | with_reducible exact o_tupA1 _ | with_reducible exact o_tupA2 _ _ | with_reducible exact o_tupA3 _ _ _ | with_reducible exact o_lst0 | with_reducible exact o_lst1 _ | with_reducible exact o_lst2 _ _ | with_reducible exact o_lst3 _ _ _ | with_reducible exact o_lst4 _ _ _ _ | with_reducible exact o_lst5 _ _ _ _ _ | with_reducible exact o_isT _ | with_reducible exact o_isnT _ | with_reducible exact o_isN _ | with_reducible exact opInt_int _ | with_reducible apply r_kw | with_reducible exact pk1 _ | with_reducible exact pk2 _ _ | with_reducible exact pk3 _ _ _ | with_reducible exact pk4 _ _ _ _ | with_reducible exact eq_self_str | with_reducible exact ne_self_str | with_reducible apply reprL | with_reducible exact sm_nil | with_reducible refine sm_cons ?_ ?_ | with_reducible apply sm_lst4 | with_reducible exact sm_bool _ | with_reducible exact sm_none | ((with_reducible change List.length _ = List.length _); rfl) | ((with_reducible change List.length _ = List.length _); simp only [List.length_set]) | ((with_reducible change List.length (_ :: _) ≤ _); simp only [List.length_cons, List.length_nil]; omega) | with_reducible apply r_meth | ((with_reducible apply isL_0Ik); focus (first | rfl | (simp only [List.length_set]; done))) | ((with_reducible apply isL_1Ik); focus (first | rfl | (simp only [List.length_set]; done))) | ((with_reducible apply isL_0Tk); focus (first | rfl | (simp only [List.length_set]; done))) | ((with_reducible apply isL_0Pk); focus (first | rfl | (simp only [List.length_set]; done))) | ((with_reducible apply isL_1Pk); focus (first | rfl | (simp only [List.length_set]; done))) | ((with_reducible apply app_0Ik); focus (first | rfl | (simp only [List.length_set]; done))) | ((with_reducible apply app_1Ik); focus (first | rfl | (simp only [List.length_set]; done))) | ((with_reducible apply app_0Tk); focus (first | rfl | (simp only [List.length_set]; done))) | ((with_reducible apply app_0Pk); focus (first | rfl | (simp only [List.length_set]; done))) | ((with_reducible apply ext_0Ik); focus (first | rfl | (simp only [List.length_set]; done))) | ((with_reducible apply ext_1Ik); focus (first | rfl | (simp only [List.length_set]; done))) | ((with_reducible apply ext_0Pk); focus (first | rfl | (simp only [List.length_set]; done))) | ((with_reducible apply inF_0Ik); focus (first | rfl | (simp only [List.length_set]; done))) | ((with_reducible apply inT_0Ik); focus (first | rfl | (simp only [List.length_set]; done))) | ((with_reducible apply inF_1Ik); focus (first | rfl | (simp only [List.length_set]; done))) | ((with_reducible apply inT_1Ik); focus (first | rfl | (simp only [List.length_set]; done))) | ((with_reducible apply tup_0Ik); focus (first | rfl | (simp only [List.length_set]; done))) | ((with_reducible apply tup_0Pk); focus (first | rfl | (simp only [List.length_set]; done))) | ((with_reducible apply tup_0Tk); focus (first | rfl | (simp only [List.length_set]; done))) | ((with_reducible apply len_0Pk); focus (first | rfl | (simp only [List.length_set]; done))) | ((with_reducible apply len_1Pk); focus (first | rfl | (simp only [List.length_set]; done))) | ((with_reducible apply pop_1Pk); focus (first | rfl | (simp only [List.length_set]; done))) | with_reducible apply addL_0I | with_reducible apply ssL | with_reducible apply o_rgT | with_reducible apply o_rgL | with_reducible apply o_addTi _ _ | with_reducible apply o_addLi _ _ | with_reducible apply rgOk_small | with_reducible apply o_ssT _ | ((with_reducible change _ ≤ _); omega) | ((with_reducible change _ ≤ _); simp only [List.length_append, List.length_map, List.length_cons, List.length_nil, rgI_len, rg_len]; omega) | ((with_reducible change _ < _); omega) | ((with_reducible change _ < List.length (_ :: _)); simp only [List.length_cons, List.length_nil]; omega) | with_reducible exact opNe_str _ _ | with_reducible exact opEq_str _ _ | with_reducible assumption | ((with_reducible change _ = false); simp only [Bool.not_true, Bool.not_false, Bool.or_false, Bool.false_or, Bool.and_true, Bool.true_and, Bool.or_true, Bool.true_or, Bool.and_false, Bool.false_and, Bool.xor_false, Bool.false_xor, decide_true, decide_false, allT, bne_self_eq_false, beq_self_eq_true]) | ((with_reducible change _ = true); simp only [Bool.not_true, Bool.not_false, Bool.or_false, Bool.false_or, Bool.and_true, Bool.true_and, Bool.or_true, Bool.true_or, Bool.and_false, Bool.false_and, Bool.xor_false, Bool.false_xor, decide_true, decide_false, allT, bne_self_eq_false, beq_self_eq_true])))
theorem v__law_tree {n : Nat} {m : Int} {ts : List (Int × Int)} (h : Web m ts) (h1 : cnt m.toNat ts = 1) : Rnd n (F__law_tree [.loc n, .dat (wb m ts)]) fun d => ∃ F, d = ti F ∧ TreeLot m.toNat ts F := by
  refine Rnd.ofWp rfl rfl fun st a b hn hb => ?_
  unfold b__law_tree
  simp only [start3, List.map_cons, List.map_nil, List.length_cons, List.length_nil, Nat.reduceAdd, Nat.reduceSub, List.replicate_succ, List.replicate_zero, List.cons_append, List.nil_append]
  have hlen := h.len
  have hlo := h.lo
  have hhi := h.hi
  have hr := h.wr
  have hl : ∀ x y, (st.set n (pc x y)).length = st.length := fun x y => List.length_set
  apply wp_seq
  repeat (first | with_reducible apply newRg | fail "ev" | with_reducible apply wp_if | intro x hx hk | intro x hx | intro hk)
  apply wp_seq
  apply wp_each (fun i env s => ∃ (x y : Int) (F L : List Int) (o4 o5 o6 : Option W), env = [some (.loc n), some (.dat (wb m ts)), some (.loc (st.set n (pc a b)).length), some (.dat (ti F)), o4, o5, o6] ∧ s = st.set n (pc x y) ++ [cellI L] ∧ Drawn y ∧ Grow m.toNat ts F L ∧ L.length + i = ts.length)
  repeat (first | with_reducible apply len_0I _ | with_reducible apply wp_seq | fail "ev" | with_reducible apply wp_if | intro x hx hk | intro x hx | intro hk)
  · exact ⟨a, b, [], _, _, _, _, rfl, rfl, hb, Grow.start _ _, by rw [rgI_len]; omega⟩
  · rintro i z env s hz ⟨x, y, F, L, o4, o5, o6, e1, e2, e3, e4, e5⟩
    subst e1 e2
    have hz2 := (rgI_get hz).2
    rw [rgI_len] at hz2
    obtain ⟨d, x1, y1, r1, hy1, d1, d2⟩ := draw [cellI L] (a := x) hn e3 (m := (L.length : Int)) (by omega) (by omega)
    obtain ⟨k, rfl⟩ : ∃ k : Nat, d = k := ⟨d.toNat, by omega⟩
    have hk : k < L.length := by omega
    obtain ⟨t, ht⟩ : ∃ t, L[k]? = some t := ⟨_, List.getElem?_eq_getElem hk⟩
    have hsm := e4.small hr (by omega)
    have hel : (L.eraseIdx k).length + (i + 1) = ts.length := by have := (erase_perm ht).length_eq; rw [List.length_cons] at this; omega
    have hst := e4.step hr ht hsm
    have hval : ∀ y ∈ sI (F ++ [t]), 0 ≤ y ∧ y < ts.length := fun y hy => by
      rcases List.mem_append.mp ((sI_perm _).mem_iff.mp hy) with hy | hy
      · exact e4.rng y hy
      · rw [List.mem_singleton.mp hy]; exact e4.lrng t (List.mem_of_getElem? ht)
    have hlt : (sI (F ++ [t])).length = F.length + 1 := by rw [(sI_perm _).length_eq, List.length_append]; rfl
    have hg := fun s => v__law_is_grove m ts h (sI (F ++ [t])) hval (by omega) s
    have hml : ((m.toNat : Nat) : Int) = m := by omega
    rw [hml] at hst
    rcases hst with ⟨q1, q2⟩ | ⟨q1, q2⟩
    · rw [q1] at hg
      repeat (first | with_reducible apply len_0I _ | with_reducible apply pop_0I | with_reducible apply r1 | with_reducible apply ht | with_reducible apply o_addTi | with_reducible apply hg | with_reducible apply r_ifT | with_reducible apply wp_seq | fail "ev" | with_reducible apply wp_if | intro x hx hk | intro x hx | intro hk)
      exact ⟨.inl rfl, x1, y1, _, _, _, _, _, rfl, rfl, hy1, q2, hel⟩
    · rw [q1] at hg
      repeat (first | with_reducible apply len_0I _ | with_reducible apply pop_0I | with_reducible apply r1 | with_reducible apply ht | with_reducible apply o_addTi | with_reducible apply hg | with_reducible apply r_ifF | with_reducible apply wp_seq | fail "ev" | with_reducible apply wp_if | intro x hx hk | intro x hx | intro hk)
      exact ⟨.inl rfl, x1, y1, _, _, _, _, _, rfl, rfl, hy1, q2, hel⟩
  · rintro env1 s1 ⟨x, y, F, L, o4, o5, o6, e1, e2, e3, e4, e5⟩
    subst e1 e2
    simp only [rgI_len] at e5
    obtain rfl : L = [] := List.eq_nil_of_length_eq_zero (by omega)
    repeat (first | with_reducible apply wp_seq | fail "ev" | with_reducible apply wp_if | intro x hx hk | intro x hx | intro hk)
    exact ⟨_, x, y, _, rfl, rfl, e3, F, rfl, e4.tree hr (by omega) h1⟩
end K18
set_option Elab.async false
set_option linter.all false
set_option maxRecDepth 100000
set_option maxHeartbeats 1000000
set_option autoImplicit false
namespace K18
open PySem PySem.Spec PyProof.Rows L2 L3
local macro_rules | `(tactic| fail "ev") => `(tactic| (first | with_reducible apply wp_asg | with_reducible apply wp_ret | with_reducible apply wp_retN | with_reducible apply wp_pass | with_reducible apply wp_exp | with_reducible apply wp_aug | with_reducible apply wp_par2 | with_reducible apply wp_par3 | with_reducible apply wp_guard | with_reducible apply beh_nx | with_reducible apply beh_rt | with_reducible apply wp_step | ((with_reducible change (!true) = false); rfl) | ((with_reducible change (!false) = true); rfl) | with_reducible apply r_seq | with_reducible apply r_asg | with_reducible apply r_ret | with_reducible exact r_retN | with_reducible exact r_pass | with_reducible apply r_exp | with_reducible apply r_par2 | with_reducible apply r_par3 | ((with_reducible apply r_var); rfl) | with_reducible exact r_dat | with_reducible exact r_ty | with_reducible apply r_b2 | with_reducible apply r_bN | with_reducible apply r_aCons | with_reducible exact r_aNil | with_reducible apply g_nm | with_reducible apply g_tp | with_reducible apply g_cn | with_reducible exact g_nl | ((with_reducible change List.set _ _ _ = _); simp only [wipe3, start3, List.set_cons_zero, List.set_cons_succ, List.map_cons, List.map_nil, List.length_cons, List.length_nil, Nat.reduceAdd, Nat.reduceSub, Nat.sub_zero, Nat.sub_self, List.replicate_succ, List.replicate_zero, List.cons_append, List.nil_append]; exact rfl) | ((with_reducible change wipe3 _ _ = _); simp only [wipe3, start3, List.set_cons_zero, List.set_cons_succ, List.map_cons, List.map_nil, List.length_cons, List.length_nil, Nat.reduceAdd, Nat.reduceSub, Nat.sub_zero, Nat.sub_self, List.replicate_succ, List.replicate_zero, List.cons_append, List.nil_append]; exact rfl) | ((with_reducible change start3 _ _ = _); simp only [wipe3, start3, List.set_cons_zero, List.set_cons_succ, List.map_cons, List.map_nil, List.length_cons, List.length_nil, Nat.reduceAdd, Nat.reduceSub, Nat.sub_zero, Nat.sub_self, List.replicate_succ, List.replicate_zero, List.cons_append, List.nil_append]; exact rfl) | ((with_reducible change List.length (_ :: _) = _); rfl) | ((with_reducible change (_ : E3)[(_ : Nat)]? = _); rfl) | with_reducible apply r_compA | with_reducible apply r_comp | with_reducible apply it_rng | with_reducible apply it_seq | with_reducible apply it_enu | with_reducible exact sc_ti _ | with_reducible exact sc_li _ | with_reducible exact sc_tts _ | with_reducible exact sc_ttl _ | with_reducible exact sc_tp _ | with_reducible exact sc_lp _ | with_reducible exact sc_tup _ _ | with_reducible exact sc_lst _ _ | with_reducible apply i_seq | with_reducible apply i_enu | with_reducible apply i_range | with_reducible apply r_tBl | with_reducible apply r_tAn | with_reducible apply r_tOr | with_reducible apply r_tNo | with_reducible exact r_tAll | with_reducible apply r_tTru | with_reducible apply r_bAnd | with_reducible apply r_bOr | with_reducible apply r_bNot | with_reducible apply r_slice | with_reducible apply r_pSome | with_reducible exact r_pNone | with_reducible apply r_chain | with_reducible apply r_rev | with_reducible apply r_b1 | with_reducible apply r_ifD | with_reducible exact new1 | with_reducible exact s_ti _ | with_reducible exact s_li _ | with_reducible exact s_tts _ | with_reducible exact s_ttl _ | with_reducible exact s_tp _ | with_reducible exact s_lp _ | with_reducible exact s_tt _ | with_reducible exact s_lst _ _ | with_reducible exact s_tup _ _ | with_reducible exact q_tt _ | with_reducible exact q_2 _ _ | with_reducible exact q_3 _ _ _ | with_reducible exact cn_id _ | with_reducible exact cn_ttI _ | with_reducible exact cn_tiI _ | with_reducible exact cn_int _ _ | with_reducible exact cn_ti _ _ | with_reducible exact cn_tt _ _ | (with_reducible change PyData.list _ = _; with_reducible rfl) | with_reducible exact ce_int _ _ _ | with_reducible exact ce_bool _ _ _ | with_reducible exact ce_ti _ _ _ | with_reducible exact ce_li _ _ _ | with_reducible exact ce_ttl _ _ _ | with_reducible exact ce_tt _ _ _ | with_reducible exact ce_lst _ _ _ | with_reducible exact ce_tup _ _ _ | with_reducible exact t_bl _ | with_reducible exact t_int _ | with_reducible exact t_non | with_reducible exact t_lst _ | with_reducible exact t_tup _ | with_reducible exact opEq_int _ _ | with_reducible exact opNe_int _ _ | with_reducible exact opAdd_int _ _ | with_reducible exact opSub_int _ _ | with_reducible exact opGt_int _ _ | with_reducible exact opLt_int _ _ | with_reducible exact opGe_int _ _ | with_reducible exact opLe_int _ _ | with_reducible exact o_w0 _ _ | with_reducible exact o_w02 _ _ | with_reducible exact o_wadd _ _ | with_reducible exact o_w1 _ _ | with_reducible exact o_w2 _ _ | with_reducible exact o_t0 _ | with_reducible exact o_t1 _ | with_reducible exact inF_ti _ _ | with_reducible exact inT_ti _ _ | with_reducible exact inF_li _ _ | with_reducible exact inT_li _ _ | with_reducible exact inF_2 _ _ | with_reducible exact inT_2 _ _ | with_reducible exact inF_tp _ _ | with_reducible exact inT_tp _ _ | with_reducible exact o_lenTi _ | with_reducible exact o_lenLi _ | with_reducible exact o_lenTts _ | with_reducible exact o_lenTtl _ | with_reducible exact o_lenTp _ | with_reducible exact o_lenLp _ | with_reducible exact o_lenT _ _ | with_reducible exact o_lenL _ _ | with_reducible exact o_tupLi _ | with_reducible exact o_tupLp _ | with_reducible exact o_tupTtl _ | with_reducible exact opTuple_lst _ | with_reducible exact o_lstTi _ | with_reducible exact o_lstTp _ | with_reducible exact o_lstTts _ | with_reducible exact opList_tup _ | with_reducible exact o_sortTi _ | with_reducible exact o_sortLi _ | with_reducible exact opEq_ti _ _ | with_reducible exact opNe_ti _ _ | with_reducible exact opEq_li _ _ | with_reducible exact opNe_li _ _ | with_reducible exact opLt_ti _ _ | with_reducible exact opLe_ti _ _ | with_reducible exact opAll_map _ _ | with_reducible exact opAny_map _ _ | with_reducible exact o_neB _ _ | with_reducible exact o_eqB _ _ | with_reducible exact o_minI _ _ | with_reducible exact o_maxI _ _ | with_reducible exact o_tup2 _ _ | with_reducible exact o_tup1 _ | with_reducible exact o_tup0 | with_reducible exact o_tupA1 _ | with_reducible exact o_tupA2 _ _ | with_reducible exact o_tupA3 _ _ _ | with_reducible exact o_lst0 | with_reducible exact o_lst1 _ | with_reducible exact o_lst2 _ _ | with_reducible exact o_lst3 _ _ _ | with_reducible exact o_lst4 _ _ _ _ | with_reducible exact o_lst5 _ _ _ _ _ | with_reducible exact o_isT _ | with_reducible exact o_isnT _ | with_reducible exact o_isN _ | with_reducible exact opInt_int _ | with_reducible apply r_kw | with_reducible exact pk1 _ | with_reducible exact pk2 _ _ | with_reducible exact pk3 _ _ _ | with_reducible exact pk4 _ _ _ _ | with_reducible exact eq_self_str | with_reducible exact ne_self_str | with_reducible apply reprL | with_reducible exact sm_nil | with_reducible refine sm_cons ?_ ?_ | with_reducible apply sm_lst4 | with_reducible exact sm_bool _ | with_reducible exact sm_none | ((with_reducible change List.length _ = List.length _); rfl) | ((with_reducible change List.length _ = List.length _); simp only [List.length_set]) | ((with_reducible change List.length (_ :: _) ≤ _); simp only [List.length_cons, List.length_nil]; omega) | with_reducible apply r_meth | ((with_reducible apply isL_0Ik); focus (first | rfl | (simp only [List.length_set]; done))) | ((with_reducible apply isL_1Ik); focus (first | rfl | (simp only [List.length_set]; done))) | ((with_reducible apply isL_0Tk); focus (first | rfl | (simp only [List.length_set]; done))) | ((with_reducible apply isL_0Pk); focus (first | rfl | (simp only [List.length_set]; done))) | ((with_reducible apply isL_1Pk); focus (first | rfl | (simp only [List.length_set]; done))) | ((with_reducible apply app_0Ik); focus (first | rfl | (simp only [List.length_set]; done))) | ((with_reducible apply app_1Ik); focus (first | rfl | (simp only [List.length_set]; done))) | ((with_reducible apply app_0Tk); focus (first | rfl | (simp only [List.length_set]; done))) | ((with_reducible apply app_0Pk); focus (first | rfl | (simp only [List.length_set]; done))) | ((with_reducible apply ext_0Ik); focus (first | rfl | (simp only [List.length_set]; done))) | ((with_reducible apply ext_1Ik); focus (first | rfl | (simp only [List.length_set]; done))) | ((with_reducible apply ext_0Pk); focus (first | rfl | (simp only [List.length_set]; done))) | ((with_reducible apply inF_0Ik); focus (first | rfl | (simp only [List.length_set]; done))) | ((with_reducible apply inT_0Ik); focus (first | rfl | (simp only [List.length_set]; done))) | ((with_reducible apply inF_1Ik); focus (first | rfl | (simp only [List.length_set]; done))) | ((with_reducible apply inT_1Ik); focus (first | rfl | (simp only [List.length_set]; done))) | ((with_reducible apply tup_0Ik); focus (first | rfl | (simp only [List.length_set]; done))) | ((with_reducible apply tup_0Pk); focus (first | rfl | (simp only [List.length_set]; done))) | ((with_reducible apply tup_0Tk); focus (first | rfl | (simp only [List.length_set]; done))) | ((with_reducible apply len_0Pk); focus (first | rfl | (simp only [List.length_set]; done))) | ((with_reducible apply len_1Pk); focus (first | rfl | (simp only [List.length_set]; done))) | ((with_reducible apply pop_1Pk); focus (first | rfl | (simp only [List.length_set]; done))) | with_reducible apply addL_0I | with_reducible apply ssL | with_reducible apply o_rgT | with_reducible apply o_rgL | with_reducible apply o_addTi _ _ | with_reducible apply o_addLi _ _ | with_reducible apply rgOk_small | with_reducible apply o_ssT _ | ((with_reducible change _ ≤ _); omega) | ((with_reducible change _ ≤ _); simp only [List.length_append, List.length_map, List.length_cons, List.length_nil, rgI_len, rg_len]; omega) | ((with_reducible change _ < _); omega) | ((with_reducible change _ < List.length (_ :: _)); simp only [List.length_cons, List.length_nil]; omega) | with_reducible exact opNe_str _ _ | with_reducible exact opEq_str _ _ | with_reducible assumption | ((with_reducible change _ = false); simp only [Bool.not_true, Bool.not_false, Bool.or_false, Bool.false_or, Bool.and_true, Bool.true_and, Bool.or_true, Bool.true_or, Bool.and_false, Bool.false_and, Bool.xor_false, Bool.false_xor, decide_true, decide_false, allT, bne_self_eq_false, beq_self_eq_true]) | ((with_reducible change _ = true); simp only [Bool.not_true, Bool.not_false, Bool.or_false, Bool.false_or, Bool.and_true, Bool.true_and, Bool.or_true, Bool.true_or, Bool.and_false, Bool.false_and, Bool.xor_false, Bool.false_xor, decide_true, decide_false, allT, bne_self_eq_false, beq_self_eq_true])))
theorem v__law_hung {n : Nat} {P M : Int} (hP : 2 ≤ P) (hP2 : P ≤ 16) (hM : 0 ≤ M) (hM2 : M + P ≤ 40) : Rnd n (F__law_hung [.loc n, .dat (.int P), .dat (.int M)]) fun d => ∃ m ts, d = wb m ts ∧ Web m ts ∧ 2 ≤ m ∧ m ≤ P ∧ (ts.length : Int) ≤ M + P ∧ cnt m.toNat ts = 1 := by
  refine Rnd.ofWp rfl rfl fun st a b hn hb => ?_
  unfold b__law_hung
  simp only [start3, List.map_cons, List.map_nil, List.length_cons, List.length_nil, Nat.reduceAdd, Nat.reduceSub, List.replicate_succ, List.replicate_zero, List.cons_append, List.nil_append]
  obtain ⟨m0, x1, y1, r1, hy1, m1, m2⟩ := draw0 (a := a) hn hb (m := P - 1) (by omega) (by omega)
  obtain ⟨m, hm⟩ : ∃ m, 2 + m0 = m := ⟨_, rfl⟩
  have ha : ∀ s, opAdd (.dat (.int 2)) (.dat (.int m0)) s = some (.dat (.int m), s) := fun s => by rw [← hm]; rfl
  apply wp_seq
  repeat (first | with_reducible apply r1 | with_reducible apply ha | fail "ev" | with_reducible apply wp_if | intro x hx hk | intro x hx | intro hk)
  have e0 : st.set n (pc x1 y1) = st.set n (pc x1 y1) ++ [] := (List.append_nil _).symm
  rw [e0]
  apply wp_seq
  apply wp_compNewR hn hy1 (xs := rgI 1 m) (e := fun x => .dat (.int x)) (G := fun at_ d => ∃ u : Int, (0 ≤ u ∧ u < at_) ∧ d = tt (u, at_))
  · repeat (first | with_reducible apply wp_seq | fail "ev" | with_reducible apply wp_if | intro x hx hk | intro x hx | intro hk)
  · repeat (first | with_reducible apply wp_seq | fail "ev" | with_reducible apply wp_if | intro x hx hk | intro x hx | intro hk)
  · intro x hx a b hb
    have hx := mem_rgI.mp hx
    obtain ⟨d, x', y', r2, hy2, d1, d2⟩ := draw [] (a := a) hn hb (m := x) (by omega) (by omega)
    refine ⟨[some (.loc n), some (.dat (.int P)), some (.dat (.int M)), some (.dat (.int m)), none, none, none, none, some (.dat (.int x))], tt (d, x), x', y', ?_, ?_, hy2, d, ⟨d1, d2⟩, rfl⟩
    · rfl
    · repeat (first | with_reducible apply r2 | with_reducible apply wp_seq | fail "ev" | with_reducible apply wp_if | intro x hx hk | intro x hx | intro hk)
  · intro ds x2 y2 hy2 hdl hds
    -- the ties of the first row
    obtain ⟨row, hrow, hr2, hr3⟩ : ∃ row : List (Int × Int), ds = row.map tt ∧ (∀ t ∈ row, 0 ≤ t.1 ∧ t.1 < t.2 ∧ t.2 < m) ∧ ∀ x : Int, 1 ≤ x → x < m → ∃ u, (0 ≤ u ∧ u < x) ∧ (u, x) ∈ row := rowOf hdl hds
    subst hrow
    have hrl : row.length ≤ 16 := by rw [List.length_map, rgI_len] at hdl; omega
    simp only [List.append_nil, List.set_cons_succ, List.set_cons_zero]
    change Beh _ _ _ _ (st.set n (pc x2 y2) ++ [cellP row])
    apply wp_seq
    obtain ⟨k, x3, y3, r3, hy3, k1, k2⟩ := draw [cellP row] (a := x2) hn hy2 (m := M + 1) (by omega) (by omega)
    apply wp_each (fun i env s => ∃ (x y : Int) (more : List (Int × Int)) (o5 o6 o7 : Option W), env = [some (.loc n), some (.dat (.int P)), some (.dat (.int M)), some (.dat (.int m)), some (.loc (st.set n (pc x2 y2)).length), o5, o6, o7, none] ∧ s = st.set n (pc x y) ++ [cellP (row ++ more)] ∧ Drawn y ∧ more.length ≤ i ∧ ∀ t ∈ more, 0 ≤ t.1 ∧ t.1 < t.2 ∧ t.2 < m)
    repeat (first | with_reducible apply r3 | with_reducible apply wp_seq | fail "ev" | with_reducible apply wp_if | intro x hx hk | intro x hx | intro hk)
    · exact ⟨x3, y3, [], _, _, _, rfl, by rw [List.append_nil], hy3, Nat.le_refl _, fun t h => by cases h⟩
    · rintro i z env s hz ⟨x, y, more, o5, o6, o7, e1, e2, e3, e4, e5⟩
      subst e1 e2
      have hz2 := (rgI_get hz).2
      obtain ⟨one, x4, y4, r4, hy4, p1, p2⟩ := draw [cellP (row ++ more)] (a := x) hn e3 (m := m) (by omega) (by omega)
      obtain ⟨other, x5, y5, r5, hy5, q1, q2⟩ := draw [cellP (row ++ more)] (a := x4) hn hy4 (m := m) (by omega) (by omega)
      have hle : (if (!decide (one = other)) = true then [(if other < one then other else one, if other > one then other else one)] else []).length ≤ 1 := by split <;> simp
      have hz3 : (row ++ more).length ≤ 1000 := by rw [List.length_append]; omega
      repeat (first | with_reducible apply r4 | with_reducible apply r5 | with_reducible apply o_lstP1 | with_reducible apply o_lstP0 | with_reducible apply wp_seq | fail "ev" | with_reducible apply wp_if | intro x hx hk | intro x hx | intro hk)
      by_cases hoo : one = other
      · refine ⟨.inl rfl, x5, y5, more, _, _, _, rfl, by simp [hoo], hy5, by omega, e5⟩
      · refine ⟨.inl rfl, x5, y5, more ++ [(if other < one then other else one, if other > one then other else one)], _, _, _, rfl, by simp [hoo], hy5, by simp; omega, fun t ht => ?_⟩
        rcases List.mem_append.mp ht with ht | ht
        · exact e5 t ht
        · rw [List.mem_singleton.mp ht]
          simp only
          split <;> split <;> omega
    · rintro env1 s1 ⟨x, y, more, o5, o6, o7, e1, e2, e3, e4, e5⟩
      subst e1 e2
      rw [rgI_len] at e4
      have hL2 : (st.set n (pc x2 y2)).length = (st.set n (pc x y)).length := by rw [List.length_set, List.length_set]
      rw [hL2]
      repeat (first | with_reducible apply o_sortC | with_reducible apply o_web | with_reducible apply wp_seq | fail "ev" | with_reducible apply wp_if | intro x hx hk | intro x hx | intro hk)
      have hok : ∀ t ∈ row ++ more, 0 ≤ t.1 ∧ t.1 < t.2 ∧ t.2 < m := fun t ht => by
        rcases List.mem_append.mp ht with ht | ht
        · exact hr2 t ht
        · exact e5 t ht
      have hrl2 : row.length + 1 ≤ P.toNat := by rw [List.length_map, rgI_len] at hdl; omega
      have hll : (row ++ more).length ≤ 40 := by rw [List.length_append]; omega
      have hW := web_sP (by omega) (by omega) hll hok
      have hR : Rng m.toNat (row ++ more) := fun t ht => by have := hok t ht; omega
      refine ⟨_, x, y, _, rfl, rfl, e3, m, sP (row ++ more), rfl, hW, by omega, by omega, ?_, ?_⟩
      · rw [(sP_perm _).length_eq, List.length_append]; omega
      · rw [web_perm_cnt hR]
        refine hung_one hR (by omega) fun x h1 h2 => ?_
        obtain ⟨u, hu, hm⟩ := hr3 x h1 (by omega)
        exact ⟨u, hu, List.mem_append_left _ hm⟩
end K18
set_option Elab.async false
set_option linter.all false
set_option maxRecDepth 100000
set_option maxHeartbeats 2000000
set_option autoImplicit false
namespace K18
open PySem PySem.Spec PyProof.Rows L2 L3
local macro_rules | `(tactic| fail "ev") => `(tactic| (first | with_reducible apply wp_asg | with_reducible apply wp_ret | with_reducible apply wp_retN | with_reducible apply wp_pass | with_reducible apply wp_exp | with_reducible apply wp_aug | with_reducible apply wp_par2 | with_reducible apply wp_par3 | with_reducible apply wp_guard | with_reducible apply beh_nx | with_reducible apply beh_rt | with_reducible apply wp_step | ((with_reducible change (!true) = false); rfl) | ((with_reducible change (!false) = true); rfl) | with_reducible apply r_seq | with_reducible apply r_asg | with_reducible apply r_ret | with_reducible exact r_retN | with_reducible exact r_pass | with_reducible apply r_exp | with_reducible apply r_par2 | with_reducible apply r_par3 | ((with_reducible apply r_var); rfl) | with_reducible exact r_dat | with_reducible exact r_ty | with_reducible apply r_b2 | with_reducible apply r_bN | with_reducible apply r_aCons | with_reducible exact r_aNil | with_reducible apply g_nm | with_reducible apply g_tp | with_reducible apply g_cn | with_reducible exact g_nl | ((with_reducible change List.set _ _ _ = _); simp only [wipe3, start3, List.set_cons_zero, List.set_cons_succ, List.map_cons, List.map_nil, List.length_cons, List.length_nil, Nat.reduceAdd, Nat.reduceSub, Nat.sub_zero, Nat.sub_self, List.replicate_succ, List.replicate_zero, List.cons_append, List.nil_append]; exact rfl) | ((with_reducible change wipe3 _ _ = _); simp only [wipe3, start3, List.set_cons_zero, List.set_cons_succ, List.map_cons, List.map_nil, List.length_cons, List.length_nil, Nat.reduceAdd, Nat.reduceSub, Nat.sub_zero, Nat.sub_self, List.replicate_succ, List.replicate_zero, List.cons_append, List.nil_append]; exact rfl) | ((with_reducible change start3 _ _ = _); simp only [wipe3, start3, List.set_cons_zero, List.set_cons_succ, List.map_cons, List.map_nil, List.length_cons, List.length_nil, Nat.reduceAdd, Nat.reduceSub, Nat.sub_zero, Nat.sub_self, List.replicate_succ, List.replicate_zero, List.cons_append, List.nil_append]; exact rfl) | ((with_reducible change List.length (_ :: _) = _); rfl) | ((with_reducible change (_ : E3)[(_ : Nat)]? = _); rfl) | with_reducible apply r_compA | with_reducible apply r_comp | with_reducible apply it_rng | with_reducible apply it_seq | with_reducible apply it_enu | with_reducible exact sc_ti _ | with_reducible exact sc_li _ | with_reducible exact sc_tts _ | with_reducible exact sc_ttl _ | with_reducible exact sc_tp _ | with_reducible exact sc_lp _ | with_reducible exact sc_tup _ _ | with_reducible exact sc_lst _ _ | with_reducible apply i_seq | with_reducible apply i_enu | with_reducible apply i_range | with_reducible apply r_tBl | with_reducible apply r_tAn | with_reducible apply r_tOr | with_reducible apply r_tNo | with_reducible exact r_tAll | with_reducible apply r_tTru | with_reducible apply r_bAnd | with_reducible apply r_bOr | with_reducible apply r_bNot | with_reducible apply r_slice | with_reducible apply r_pSome | with_reducible exact r_pNone | with_reducible apply r_chain | with_reducible apply r_rev | with_reducible apply r_b1 | with_reducible apply r_ifD | with_reducible exact new1 | with_reducible exact s_ti _ | with_reducible exact s_li _ | with_reducible exact s_tts _ | with_reducible exact s_ttl _ | with_reducible exact s_tp _ | with_reducible exact s_lp _ | with_reducible exact s_tt _ | with_reducible exact s_lst _ _ | with_reducible exact s_tup _ _ | with_reducible exact q_tt _ | with_reducible exact q_2 _ _ | with_reducible exact q_3 _ _ _ | with_reducible exact cn_id _ | with_reducible exact cn_ttI _ | with_reducible exact cn_tiI _ | with_reducible exact cn_int _ _ | with_reducible exact cn_ti _ _ | with_reducible exact cn_tt _ _ | (with_reducible change PyData.list _ = _; with_reducible rfl) | with_reducible exact ce_int _ _ _ | with_reducible exact ce_bool _ _ _ | with_reducible exact ce_ti _ _ _ | with_reducible exact ce_li _ _ _ | with_reducible exact ce_ttl _ _ _ | with_reducible exact ce_tt _ _ _ | with_reducible exact ce_lst _ _ _ | with_reducible exact ce_tup _ _ _ | with_reducible exact t_bl _ | with_reducible exact t_int _ | with_reducible exact t_non | with_reducible exact t_lst _ | with_reducible exact t_tup _ | with_reducible exact opEq_int _ _ | with_reducible exact opNe_int _ _ | with_reducible exact opAdd_int _ _ | with_reducible exact opSub_int _ _ | with_reducible exact opGt_int _ _ | with_reducible exact opLt_int _ _ | with_reducible exact opGe_int _ _ | with_reducible exact opLe_int _ _ | with_reducible exact o_w0 _ _ | with_reducible exact o_w02 _ _ | with_reducible exact o_wadd _ _ | with_reducible exact o_w1 _ _ | with_reducible exact o_w2 _ _ | with_reducible exact o_t0 _ | with_reducible exact o_t1 _ | with_reducible exact inF_ti _ _ | with_reducible exact inT_ti _ _ | with_reducible exact inF_li _ _ | with_reducible exact inT_li _ _ | with_reducible exact inF_2 _ _ | with_reducible exact inT_2 _ _ | with_reducible exact inF_tp _ _ | with_reducible exact inT_tp _ _ | with_reducible exact o_lenTi _ | with_reducible exact o_lenLi _ | with_reducible exact o_lenTts _ | with_reducible exact o_lenTtl _ | with_reducible exact o_lenTp _ | with_reducible exact o_lenLp _ | with_reducible exact o_lenT _ _ | with_reducible exact o_lenL _ _ | with_reducible exact o_tupLi _ | with_reducible exact o_tupLp _ | with_reducible exact o_tupTtl _ | with_reducible exact opTuple_lst _ | with_reducible exact o_lstTi _ | with_reducible exact o_lstTp _ | with_reducible exact o_lstTts _ | with_reducible exact opList_tup _ | with_reducible exact o_sortTi _ | with_reducible exact o_sortLi _ | with_reducible exact opEq_ti _ _ | with_reducible exact opNe_ti _ _ | with_reducible exact opEq_li _ _ | with_reducible exact opNe_li _ _ | with_reducible exact opLt_ti _ _ | with_reducible exact opLe_ti _ _ | with_reducible exact opAll_map _ _ | with_reducible exact opAny_map _ _ | with_reducible exact o_neB _ _ | with_reducible exact o_eqB _ _ | with_reducible exact o_minI _ _ | with_reducible exact o_maxI _ _ | with_reducible exact o_tup2 _ _ | with_reducible exact o_tup1 _ | with_reducible exact o_tup0 | with_reducible exact o_tupA1 _ | with_reducible exact o_tupA2 _ _ | with_reducible exact o_tupA3 _ _ _ | with_reducible exact o_lst0 | with_reducible exact o_lst1 _ | with_reducible exact o_lst2 _ _ | with_reducible exact o_lst3 _ _ _ | with_reducible exact o_lst4 _ _ _ _ | with_reducible exact o_lst5 _ _ _ _ _ | with_reducible exact o_isT _ | with_reducible exact o_isnT _ | with_reducible exact o_isN _ | with_reducible exact opInt_int _ | with_reducible apply r_kw | with_reducible exact pk1 _ | with_reducible exact pk2 _ _ | with_reducible exact pk3 _ _ _ | with_reducible exact pk4 _ _ _ _ | with_reducible exact eq_self_str | with_reducible exact ne_self_str | with_reducible apply reprL | with_reducible exact sm_nil | with_reducible refine sm_cons ?_ ?_ | with_reducible apply sm_lst4 | with_reducible exact sm_bool _ | with_reducible exact sm_none | ((with_reducible change List.length _ = List.length _); rfl) | ((with_reducible change List.length _ = List.length _); simp only [List.length_set]) | ((with_reducible change List.length (_ :: _) ≤ _); simp only [List.length_cons, List.length_nil]; omega) | with_reducible apply r_meth | ((with_reducible apply isL_0Ik); focus (first | rfl | (simp only [List.length_set]; done))) | ((with_reducible apply isL_1Ik); focus (first | rfl | (simp only [List.length_set]; done))) | ((with_reducible apply isL_0Tk); focus (first | rfl | (simp only [List.length_set]; done))) | ((with_reducible apply isL_0Pk); focus (first | rfl | (simp only [List.length_set]; done))) | ((with_reducible apply isL_1Pk); focus (first | rfl | (simp only [List.length_set]; done))) | ((with_reducible apply app_0Ik); focus (first | rfl | (simp only [List.length_set]; done))) | ((with_reducible apply app_1Ik); focus (first | rfl | (simp only [List.length_set]; done))) | ((with_reducible apply app_0Tk); focus (first | rfl | (simp only [List.length_set]; done))) | ((with_reducible apply app_0Pk); focus (first | rfl | (simp only [List.length_set]; done))) | ((with_reducible apply ext_0Ik); focus (first | rfl | (simp only [List.length_set]; done))) | ((with_reducible apply ext_1Ik); focus (first | rfl | (simp only [List.length_set]; done))) | ((with_reducible apply ext_0Pk); focus (first | rfl | (simp only [List.length_set]; done))) | ((with_reducible apply inF_0Ik); focus (first | rfl | (simp only [List.length_set]; done))) | ((with_reducible apply inT_0Ik); focus (first | rfl | (simp only [List.length_set]; done))) | ((with_reducible apply inF_1Ik); focus (first | rfl | (simp only [List.length_set]; done))) | ((with_reducible apply inT_1Ik); focus (first | rfl | (simp only [List.length_set]; done))) | ((with_reducible apply tup_0Ik); focus (first | rfl | (simp only [List.length_set]; done))) | ((with_reducible apply tup_0Pk); focus (first | rfl | (simp only [List.length_set]; done))) | ((with_reducible apply tup_0Tk); focus (first | rfl | (simp only [List.length_set]; done))) | ((with_reducible apply len_0Pk); focus (first | rfl | (simp only [List.length_set]; done))) | ((with_reducible apply len_1Pk); focus (first | rfl | (simp only [List.length_set]; done))) | ((with_reducible apply pop_1Pk); focus (first | rfl | (simp only [List.length_set]; done))) | with_reducible apply addL_0I | with_reducible apply ssL | with_reducible apply o_rgT | with_reducible apply o_rgL | with_reducible apply o_addTi _ _ | with_reducible apply o_addLi _ _ | with_reducible apply rgOk_small | with_reducible apply o_ssT _ | ((with_reducible change _ ≤ _); omega) | ((with_reducible change _ ≤ _); simp only [List.length_append, List.length_map, List.length_cons, List.length_nil, rgI_len, rg_len]; omega) | ((with_reducible change _ < _); omega) | ((with_reducible change _ < List.length (_ :: _)); simp only [List.length_cons, List.length_nil]; omega) | with_reducible exact opNe_str _ _ | with_reducible exact opEq_str _ _ | with_reducible assumption | ((with_reducible change _ = false); simp only [Bool.not_true, Bool.not_false, Bool.or_false, Bool.false_or, Bool.and_true, Bool.true_and, Bool.or_true, Bool.true_or, Bool.and_false, Bool.false_and, Bool.xor_false, Bool.false_xor, decide_true, decide_false, allT, bne_self_eq_false, beq_self_eq_true, eq_self]) | ((with_reducible change _ = true); simp only [Bool.not_true, Bool.not_false, Bool.or_false, Bool.false_or, Bool.and_true, Bool.true_and, Bool.or_true, Bool.true_or, Bool.and_false, Bool.false_and, Bool.xor_false, Bool.false_xor, decide_true, decide_false, allT, bne_self_eq_false, beq_self_eq_true, eq_self])))
theorem v__law_told_li (n : Int) (ts : List (Int × Int)) (lot : List Int) (h2 : ∀ x ∈ lot, 0 ≤ x ∧ x < ts.length) (st : Store) : F__law_told [.dat (wb n ts), .dat (li lot)] st = some (.dat (ttl (toldL ts lot)), st) := by
  have i1 : ∀ x ∈ lot, opIdx (.dat (tts ts)) (.dat (.int x)) st = some (.dat (tt (ts.getD x.toNat (0, 0))), st) := fun x hx => idx_ttsI (h2 x hx).1 (h2 x hx).2
  apply run_to
  rfl
  repeat (first | with_reducible apply wp_seq | fail "ev" | with_reducible apply wp_if | intro x hx hk | intro x hx | intro hk)
  unfold b__law_told
  repeat (first | with_reducible apply i1 _ | with_reducible apply wp_seq | fail "ev" | with_reducible apply wp_if | intro x hx hk | intro x hx | intro hk)
  try rfl
theorem v__law_right {n : Nat} {m : Int} {ts : List (Int × Int)} (h : Web m ts) (h8 : m ≤ 8) (h1 : cnt m.toNat ts = 1) : Rnd n (F__law_right [.loc n, .dat (wb m ts)]) fun d => d = .bool true := by
  refine Rnd.ofWp rfl rfl fun st a b hn hb => ?_
  unfold b__law_right
  simp only [start3, List.map_cons, List.map_nil, List.length_cons, List.length_nil, Nat.reduceAdd, Nat.reduceSub, List.replicate_succ, List.replicate_zero, List.cons_append, List.nil_append]
  have hlo := h.lo
  have hr := h.wr
  have hmN : ((m.toNat : Nat) : Int) = m := by omega
  obtain ⟨_, x1, y1, r1, hy1, tree, rfl, ht⟩ := v__law_tree (n := n) h h1 st [] a b hn hb
  obtain ⟨_, x2, y2, r2, hy2, other, rfl, ho⟩ := v__law_tree (n := n) h h1 st [] x1 y1 hn hy1
  simp only [List.append_nil] at r1 r2
  generalize hS : st.set n (pc x2 y2) = s0 at r2
  have f1 := fun s => v_is_tree m ts h tree ht s
  have f2 := fun s => v_is_tree m ts h other ho s
  have q2 : ∀ (a b : PyData) s, seqOf s (.dat (.tuple [a, b])) = some [.dat a, .dat b] := fun _ _ _ => rfl
  apply wp_seq
  repeat (first | with_reducible apply r1 | with_reducible apply r2 | with_reducible apply o_tupA2 | with_reducible apply q2 | fail "ev" | with_reducible apply wp_if | intro x hx hk | intro x hx | intro hk)
  apply wp_seq
  apply wp_ifF
  repeat (first | with_reducible apply f1 | with_reducible apply f2 | fail "ev" | intro x hx hk | intro x hx | intro hk)
  apply wp_seq
  apply wp_each (fun k env s => ∃ o4 o5 o6 o7 o8, env = [some (.loc n), some (.dat (wb m ts)), some (.dat (ti tree)), some (.dat (ti other)), o4, o5, o6, o7, o8, none, none] ∧ s = s0)
  repeat (first | with_reducible apply wp_seq | fail "ev" | with_reducible apply wp_if | intro x hx hk | intro x hx | intro hk)
  · exact ⟨_, _, _, _, _, rfl, rfl⟩
  · rintro i tie env s hi ⟨o4, o5, o6, o7, o8, e1, e2⟩
    subst e1 e2
    have htie := List.mem_of_getElem? hi
    have htr := ht.rng tie htie
    have ndt : tree.Nodup := ht.inc.imp fun q => Int.ne_of_lt q
    have ndo : other.Nodup := ho.inc.imp fun q => Int.ne_of_lt q
    obtain ⟨h2, hapart⟩ := tree_less hr ht htie
    have hlr : Rng m.toNat (toldL ts (lessE tree tie)) := told_rngN hr fun y hy => ht.rng y (mem_lessE.mp hy).1
    obtain ⟨p, q, hg, hsep⟩ := two_parts hlr h2
    have hg' : groups (labF (toldL ts (tree.filter fun y => !decide (y = tie)))) m.toNat = [p, q] := hg
    have htl := ht.len
    have hol := ho.len
    have hll := lessE_len ndt htie
    have c0 : ∀ s, F__law_told [.dat (wb m ts), .dat (li (tree.filter fun y => !decide (y = tie)))] s = some (.dat (ttl (toldL ts (lessE tree tie))), s) := fun s => v__law_told_li m ts (lessE tree tie) (fun y hy => ht.rng y (mem_lessE.mp hy).1) s
    have c1 : ∀ s, F__law_parts [.dat (.int m), .dat (ttl (toldL ts (lessE tree tie)))] s = some (.dat (lp [p, q]), s) := fun s => by
      have := v__law_parts m.toNat (toldL ts (lessE tree tie)) _ (.inr rfl) (by omega) (by unfold toldL; rw [List.length_map]; omega) hlr s
      rw [hmN, ← parts_same hlr, hg] at this
      exact this
    have c2 : ∀ s, opLen [.dat (lp [p, q])] s = some (.dat (.int 2), s) := fun _ => rfl
    have c3 : ∀ s, opIdx (.dat (lp [p, q])) (.dat (.int 0)) s = some (.dat (ti p), s) := fun _ => idx_lp 0 rfl
    have c4 := fun s => v_cut m ts h tree ht tie htie p (by rw [hg']; rfl) s
    have s1 := sm_ties h.len fun t => decide (t.1 ∈ p) != decide (t.2 ∈ p)
    have c5 := fun (e : Int) s => v__law_changed tree tie e (by omega) s
    have c6 := fun (e : Int) s => v__law_changed other e tie (by omega) s
    have val : ∀ {l : List Int} {x : Int}, (∀ y ∈ l, 0 ≤ y ∧ y < (ts.length : Int)) → (0 ≤ x ∧ x < ts.length) → ∀ y ∈ sI (l ++ [x]), 0 ≤ y ∧ y < (ts.length : Int) := fun {l x} h1 h2 y hy => by
      rcases List.mem_append.mp ((sI_perm _).mem_iff.mp hy) with hy | hy
      · exact h1 y hy
      · rw [List.mem_singleton.mp hy]; exact h2
    have len1 : ∀ (l : List Int) (x : Int), (sI (l ++ [x])).length = l.length + 1 := fun l x => by rw [(sI_perm _).length_eq, List.length_append]; rfl
    have c7 : ∀ e ∈ other, ∀ s, F__law_is_tree [.dat (wb m ts), .dat (ti (sI (lessE tree tie ++ [e])))] s = some (.dat (.bool (treeB m.toNat ts (sI (lessE tree tie ++ [e])))), s) := fun e he s => v__law_is_tree m ts h _ (val (fun y hy => ht.rng y (mem_lessE.mp hy).1) (ho.rng e he)) (by rw [len1]; omega) s
    have c8 : ∀ e ∈ other, ∀ s, F__law_is_tree [.dat (wb m ts), .dat (ti (sI (lessE other e ++ [tie])))] s = some (.dat (.bool (treeB m.toNat ts (sI (lessE other e ++ [tie])))), s) := fun e he s => by
      have := lessE_len ndo he
      exact v__law_is_tree m ts h _ (val (fun y hy => ho.rng y (mem_lessE.mp hy).1) htr) (by rw [len1]; omega) s
    obtain ⟨y, r, e1, e2, e3⟩ := v_exchange_of m ts h tree other ht ho tie htie s
    have c9 := v_exchange m ts h tree other ht ho tie htie s y e1
    have hm : ∀ e, e ∈ (other.filter fun e => treeB m.toNat ts (sI (lessE tree tie ++ [e])) && treeB m.toNat ts (sI (lessE other e ++ [tie]))) ↔ e ∈ other ∧ (¬ Conn (toldL ts (lessE tree tie)) (tieAt ts e).1 (tieAt ts e).2) ∧ ¬ Conn (toldL ts (lessE other e)) (tieAt ts tie).1 (tieAt ts tie).2 := fun e => by
      rw [List.mem_filter, Bool.and_eq_true]
      refine and_congr_right fun he => ?_
      have hle := lessE_len ndo he
      rw [treeB_iff (t' := lessE tree tie) hr (ndt.sublist List.filter_sublist) (fun y hy => ht.rng y (mem_lessE.mp hy).1) (by omega) h2 (ho.rng e he),
        treeB_iff (t' := lessE other e) hr (ndo.sublist List.filter_sublist) (fun y hy => ho.rng y (mem_lessE.mp hy).1) (by omega) (tree_less hr ho he).1 htr]
    have hsmy : ∀ z : Int, z = y → -999999999999 < y ∧ y < 999999999999 → Sm (.int y) := fun _ _ h => sm_int h.1 h.2
    by_cases hto : tie ∈ other
    · have hin : opIn false (.dat (.int tie)) (.dat (ti other)) s = some (.dat (.bool true), s) := by rw [inF_ti, decide_eq_true hto]
      obtain rfl := e2 hto
      have hbad := h.len
      have s2 : Sm (.int y) := sm_int (by omega) (by omega)
      repeat (first | with_reducible apply c0 | with_reducible apply c1 | with_reducible apply c2 | with_reducible apply c3 | with_reducible apply c4 | with_reducible apply s1 | with_reducible apply c5 | with_reducible apply c6 | with_reducible apply c7 _ _ | with_reducible apply c8 _ _ | with_reducible apply c9 | with_reducible apply hin | with_reducible apply r_ifT | with_reducible apply s2 | with_reducible apply wp_ifF | with_reducible apply wp_seq | fail "ev" | intro x hx hk | intro x hx | intro hk)
      exact ⟨.inl rfl, _, _, _, _, _, rfl, rfl⟩
    · have hin : opIn false (.dat (.int tie)) (.dat (ti other)) s = some (.dat (.bool false), s) := by rw [inF_ti, decide_eq_false hto]
      obtain ⟨e4, e5⟩ := e3 hto
      obtain ⟨z, zs, hz1, hz2⟩ := min_first (m := other.filter fun e => treeB m.toNat ts (sI (lessE tree tie ++ [e])) && treeB m.toNat ts (sI (lessE other e ++ [tie]))) e4 rfl fun e => (hm e).trans (e5 e).symm
      have hmin : opMinL [.dat (li (other.filter fun e => treeB m.toNat ts (sI (lessE tree tie ++ [e])) && treeB m.toNat ts (sI (lessE other e ++ [tie]))))] s = some (.dat (.int y), s) := by
        rw [hz1]
        show ((((z :: zs).map PyData.int).mapM intOf).bind _) = _
        rw [L3.ints_of, Option.bind_some]
        simp only [hz2]
      have hyo := ho.rng y ((e5 y).mp List.mem_cons_self).1
      have hbad := h.len
      have s2 : Sm (.int y) := sm_int (by omega) (by omega)
      repeat (first | with_reducible apply c0 | with_reducible apply c1 | with_reducible apply c2 | with_reducible apply c3 | with_reducible apply c4 | with_reducible apply s1 | with_reducible apply c5 | with_reducible apply c6 | with_reducible apply c7 _ _ | with_reducible apply c8 _ _ | with_reducible apply c9 | with_reducible apply hin | with_reducible apply hmin | with_reducible apply r_ifF | with_reducible apply s2 | with_reducible apply wp_ifF | with_reducible apply wp_seq | fail "ev" | intro x hx hk | intro x hx | intro hk)
      exact ⟨.inl rfl, _, _, _, _, _, rfl, rfl⟩
  · rintro env s ⟨o4, o5, o6, o7, o8, e1, e2⟩
    subst e1 e2
    repeat (first | with_reducible apply wp_seq | fail "ev" | with_reducible apply wp_if | intro x hx hk | intro x hx | intro hk)
    exact ⟨_, x2, y2, [], rfl, by rw [hS, List.append_nil], hy2, rfl⟩
theorem v_law (ns : List Int) (st : Store) : ∃ st', F_law [wscr ns] st = some (.dat (.bool true), st') := by
  obtain ⟨x, y, r1, hy⟩ := v_pot ns 0 (by decide) (by decide) st
  refine ⟨st, run_wp rfl rfl ?_⟩
  unfold b_law
  simp only [start3, List.map_cons, List.map_nil, List.length_cons, List.length_nil, Nat.reduceAdd, Nat.reduceSub, List.replicate_succ, List.replicate_zero, List.cons_append, List.nil_append]
  apply wp_seq
  repeat (first | with_reducible apply r1 | fail "ev" | with_reducible apply wp_if | intro x hx hk | intro x hx | intro hk)
  apply wp_seq
  apply wp_each1 2 (fun k s => ∃ x y, s = st ++ [pc x y] ∧ Drawn y)
  repeat (first | with_reducible apply wp_seq | fail "ev" | with_reducible apply wp_if | intro x hx hk | intro x hx | intro hk)
  · exact ⟨x, y, rfl, hy⟩
  · rintro k z o s hz ⟨x, y, e1, e2⟩
    subst e1
    simp only [List.set_cons_succ, List.set_cons_zero]
    have hset : ∀ x y : Int, st ++ [pc x y] = (st ++ [pc 0 0]).set st.length (pc x y) ++ [] := fun x y => by
      rw [List.append_nil]; exact s_0.symm
    have hl : st.length < (st ++ [pc 0 0]).length := by rw [List.length_append]; simp
    rw [hset]
    obtain ⟨d1, x1, y1, w1, hy1, m, ts, rfl, hW, hm2, hm, ht, hc⟩ := v__law_hung (n := st.length) (P := 8) (M := 9) (by decide) (by decide) (by decide) (by decide) (st ++ [pc 0 0]) [] x y hl e2
    obtain ⟨d2, x2, y2, w2, hy2, rfl⟩ := v__law_right (n := st.length) hW (by omega) hc (st ++ [pc 0 0]) [] x1 y1 hl hy1
    apply wp_step
    repeat (first | with_reducible apply wp_seq | fail "ev" | intro x hx hk | intro x hx | intro hk)
    apply wp_ifF
    repeat (first | with_reducible apply w1 | with_reducible apply w2 | with_reducible apply wp_seq | fail "ev" | with_reducible apply wp_if | intro x hx hk | intro x hx | intro hk)
    exact ⟨.inl rfl, ⟨_, rfl⟩, x2, y2, (hset x2 y2).symm, hy2⟩
  · rintro o s ⟨x, y, e1, e2⟩
    subst e1
    simp only [List.set_cons_succ, List.set_cons_zero]
    repeat (first | with_reducible apply wp_seq | fail "ev" | with_reducible apply wp_if | intro x hx hk | intro x hx | intro hk)
    exact ⟨rfl, _, rfl⟩
end K18
theorem PySem.Challenge.cw_grovesapart_k18_whole_exchanges_and_cuts_holds : PySem.Challenge.rw_grovesapart_k18_whole_exchanges_and_cuts.Holds := by
  exact K18.holds_of fun ns _ => K18.v_law ns []
