import PyProof.Rows.All
import Wide.All
import OpenK.AllK
import Wide.FinOn
import HandS.ForMost
import HandS.IsInst
import HandS.Flow
import HandS.TupAny
import HandS.Wide
import HandS.WideBits
import HandS.Deep
import HandS.TupLe
import KE.SortData
import HandS.Conv
import HandS.SetFor
import HandS.Strs
import HandS.NoneIn
import HandS.Small
import HandS.Zip
import HandS.Comp
import KE.GoesMore
import KE.GoesEnum
import HandS.Defaults
import HandS.HeadEnd
import HandS.HeadHook1
import HandS.HeadHook2
import HandS.DictComp
import HandS.WordsDict
import HandS.Head0
import HandS.Head1
import HandS.Head2
import HandS.Style
import KE.DatumOrd
import KE.KStateDown
import PySem.Challenge.RW_grovesapart_k38_whole_partings_met
set_option Elab.async false
set_option linter.all false
set_option maxRecDepth 100000
set_option maxHeartbeats 4000000
set_option autoImplicit false
/-! L3: a pure reading of the hand layer. Core: values, cells, worlds. -/
namespace L3
open PySem PySem.Spec PyProof.Rows L2

/-- a value of the reading: data, a cell that may change, a set of ints -/
inductive W where
  | dat (d : PyData) | loc (n : Nat) | iset (ks : List Int) | frz (ds : List PyData) | ty (n : String) | tys (ns : List String)
inductive Cell where
  | list (xs : List W) | dict (kvs : List (Key × W))
abbrev Store := List Cell
abbrev E3 := List (Option W)

def mask (H : Hp) (l : List Addr) : Hp := fun b => if b ∈ l then none else H b
theorem mask_some {H : Hp} {l : List Addr} {a : Addr} {o : HO} : mask H l a = some o ↔ a ∉ l ∧ H a = some o := by
  unfold mask
  by_cases h : a ∈ l
  · simp [h]
  · simp [h]
theorem mask_le {H : Hp} {l : List Addr} : Same (mask H l) H := fun b o e => (mask_some.mp e).2
theorem mask_none {H : Hp} {l : List Addr} {a : Addr} (h : H a = none) : mask H l a = none := by
  unfold mask; split <;> first | rfl | exact h
theorem mask_upd_in {H : Hp} {l : List Addr} {a : Addr} {o : HO} (h : a ∈ l) : mask (upd H a o) l = mask H l := by
  funext b
  unfold mask upd
  by_cases hb : b ∈ l
  · rw [if_pos hb, if_pos hb]
  · rw [if_neg hb, if_neg hb, if_neg (fun e : b = a => hb (by rw [e]; exact h))]
theorem mask_upd_out {H : Hp} {l : List Addr} {a : Addr} {o : HO} (h : a ∉ l) : mask (upd H a o) l = upd (mask H l) a o := by
  funext b
  unfold mask upd
  by_cases hb : b = a
  · subst hb; rw [if_neg h, if_pos rfl, if_pos rfl]
  · rw [if_neg hb, if_neg hb]
theorem mask_upd_new {H : Hp} {l : List Addr} {a : Addr} {o : HO} (h : H a = none) (h' : ∀ b ∈ l, H b ≠ none) : mask (upd H a o) (l ++ [a]) = mask H l := by
  funext b
  unfold mask upd
  by_cases hb : b = a
  · subst hb
    rw [if_pos (by simp)]
    by_cases hl : b ∈ l
    · exact absurd h (h' _ hl)
    · rw [if_neg hl, h]
  · rw [if_neg hb]
    by_cases hl : b ∈ l
    · rw [if_pos hl, if_pos (List.mem_append_left _ hl)]
    · rw [if_neg hl, if_neg (by simp [hl, hb])]

mutual
/-- data that no one changes -/
inductive RD (K : PySem.W.Frag) (M : Hp) : V → PyData → Prop
  | non : RD K M .non .none
  | bl (b : Bool) : RD K M (.bl b) (.bool b)
  | int (i : Int) : RD K M (.int i) (.int i)
  | str (x : Str) : RD K M (.str x) (.str x)
  | lst {a : Addr} {xs : List V} {ds : List PyData} : M a = some (.lst xs) → ds.length ≤ sizeLine → RDs K M xs ds → RD K M (.ref a) (.list ds)
  | tup {a : Addr} {xs : List V} {ds : List PyData} : SqT K M a xs → ds.length ≤ sizeLine → RDs K M xs ds → RD K M (.ref a) (.tuple ds)
inductive RDs (K : PySem.W.Frag) (M : Hp) : List V → List PyData → Prop
  | nil : RDs K M [] []
  | cons {v : V} {vs : List V} {d : PyData} {ds : List PyData} : RD K M v d → RDs K M vs ds → RDs K M (v :: vs) (d :: ds)
end
theorem Same.sqL {K : PySem.W.Frag} {M M' : Hp} (s : Same M M') {a : Addr} {xs : List V} (h : SqL K M a xs) : SqL K M' a xs := L2.Same.seq s h
theorem sameT {K : PySem.W.Frag} {M M' : Hp} (s : Same M M') {a : Addr} {xs : List V} (h : SqT K M a xs) : SqT K M' a xs := by
  rcases h with h | h
  · rcases h with h | ⟨o, h⟩
    · exact .inl (.inl (s _ _ h))
    · exact .inl (.inr ⟨o, s _ _ h⟩)
  · exact .inr h
mutual
theorem RD.mono {K : PySem.W.Frag} {M M' : Hp} (s : Same M M') : ∀ {v : V} {d : PyData}, RD K M v d → RD K M' v d
  | _, _, .non => .non
  | _, _, .bl b => .bl b
  | _, _, .int i => .int i
  | _, _, .str x => .str x
  | _, _, .lst h z r => .lst (s _ _ h) z (RDs.mono s r)
  | _, _, .tup h z r => .tup (sameT s h) z (RDs.mono s r)
theorem RDs.mono {K : PySem.W.Frag} {M M' : Hp} (s : Same M M') : ∀ {vs : List V} {ds : List PyData}, RDs K M vs ds → RDs K M' vs ds
  | _, _, .nil => .nil
  | _, _, .cons a b => .cons (RD.mono s a) (RDs.mono s b)
end
mutual
theorem RD.dp {K : PySem.W.Frag} {M : Hp} : ∀ {v : V} {d : PyData}, RD K M v d → Dp K M v d
  | _, _, .non => .non
  | _, _, .bl b => .bl b
  | _, _, .int i => .int i
  | _, _, .str x => .str x
  | _, _, .lst h z r => .lst (SqL.of h) (RDs.dp r)
  | _, _, .tup h z r => .tup h (RDs.dp r)
theorem RDs.dp {K : PySem.W.Frag} {M : Hp} : ∀ {vs : List V} {ds : List PyData}, RDs K M vs ds → DpAll K M vs ds
  | _, _, .nil => .nil
  | _, _, .cons a b => .cons (RD.dp a) (RDs.dp b)
end
theorem RDs.length {K : PySem.W.Frag} {M : Hp} : ∀ {vs : List V} {ds : List PyData}, RDs K M vs ds → vs.length = ds.length
  | _, _, .nil => rfl
  | _, _, .cons _ b => by rw [List.length_cons, List.length_cons, RDs.length b]
theorem RDs.append {K : PySem.W.Frag} {M : Hp} : ∀ {vs us : List V} {ds es : List PyData}, RDs K M vs ds → RDs K M us es → RDs K M (vs ++ us) (ds ++ es)
  | _, _, _, _, .nil, s => s
  | _, _, _, _, .cons a b, s => .cons a (RDs.append b s)
theorem RDs.get {K : PySem.W.Frag} {M : Hp} : ∀ {vs : List V} {ds : List PyData} {i : Nat} {d : PyData}, RDs K M vs ds → ds[i]? = some d → ∃ v, vs[i]? = some v ∧ RD K M v d
  | _, _, i, _, .nil, e => by simp at e
  | _, _, 0, _, .cons a _, e => by simp at e; subst e; exact ⟨_, rfl, a⟩
  | _, _, i + 1, d, .cons _ b, e => by
    obtain ⟨v, h1, h2⟩ := RDs.get (i := i) (d := d) b (by simpa using e)
    exact ⟨v, by simpa using h1, h2⟩
theorem RDs.get_none {K : PySem.W.Frag} {M : Hp} {vs : List V} {ds : List PyData} {i : Nat} (r : RDs K M vs ds) (e : ds[i]? = none) : vs[i]? = none := by
  have := r.length
  rw [List.getElem?_eq_none_iff] at e ⊢
  omega

/-- a value of the reading: M what no one changes, μ where the cells stand -/
inductive RW (K : PySem.W.Frag) (M : Hp) (μ : List Addr) : V → W → Prop
  | dat {v : V} {d : PyData} : RD K M v d → RW K M μ v (.dat d)
  | loc {a : Addr} {n : Nat} : μ[n]? = some a → RW K M μ (.ref a) (.loc n)
  | iset {a : Addr} {ks : List Int} : M a = some (.set (fun i => decide (i ∈ ks)) ks.length) → ks.Nodup → RW K M μ (.ref a) (.iset ks)
  | frz {a : Addr} {xs : List V} {ds : List PyData} : SqL K M a xs → ds.length ≤ sizeLine → RDs K M xs ds → RW K M μ (.ref a) (.frz ds)
  | ty (n : String) : RW K M μ (.ty n) (.ty n)
  | tys {a : Addr} {ns : List String} : M a = some (.tup (ns.map V.ty)) → RW K M μ (.ref a) (.tys ns)
abbrev RWs (K : PySem.W.Frag) (M : Hp) (μ : List Addr) : List V → List W → Prop := Paired (RW K M μ)
theorem RW.mono {K : PySem.W.Frag} {M M' : Hp} {μ μ' : List Addr} (s : Same M M') (p : μ <+: μ') {v : V} {w : W} (r : RW K M μ v w) : RW K M' μ' v w := by
  cases r with
  | dat h => exact .dat (h.mono s)
  | loc h => exact .loc (by obtain ⟨t, rfl⟩ := p; rw [List.getElem?_append_left (by have := List.getElem?_eq_some_iff.mp h; exact this.1)]; exact h)
  | iset h n => exact .iset (s _ _ h) n
  | frz h z r => exact .frz (Same.sqL s h) z (r.mono s)
  | ty n => exact .ty n
  | tys h => exact .tys (s _ _ h)
theorem RWs.mono {K : PySem.W.Frag} {M M' : Hp} {μ μ' : List Addr} (s : Same M M') (p : μ <+: μ') {v : List V} {w : List W} (r : RWs K M μ v w) : RWs K M' μ' v w := Paired.mapP r fun _ _ q => q.mono s p
inductive COk (K : PySem.W.Frag) (M : Hp) (μ : List Addr) (H : Hp) (a : Addr) : Cell → Prop
  | list {vs : List V} {ws : List W} : H a = some (.lst vs) → ws.length ≤ sizeLine → RWs K M μ vs ws → COk K M μ H a (.list ws)
  | dict {vs : List (Key × V)} {ws : List (Key × W)} : H a = some (.dK vs) → ws.length ≤ sizeLine → Paired (fun (p : Key × V) (q : Key × W) => p.1 = q.1 ∧ RW K M μ p.2 q.2) vs ws → COk K M μ H a (.dict ws)
theorem COk.mono {K : PySem.W.Frag} {M M' : Hp} {μ μ' : List Addr} {H H' : Hp} {a : Addr} (s : Same M M') (p : μ <+: μ') (e : H' a = H a) {c : Cell} (r : COk K M μ H a c) : COk K M' μ' H' a c := by
  cases r with
  | list h z r => exact .list (e.trans h) z (RWs.mono s p r)
  | dict h z r => exact .dict (e.trans h) z (Paired.mapP r fun _ _ q => ⟨q.1, q.2.mono s p⟩)
theorem COk.some {K : PySem.W.Frag} {M : Hp} {μ : List Addr} {H : Hp} {a : Addr} {c : Cell} (r : COk K M μ H a c) : H a ≠ none := by
  cases r with
  | list h _ _ => rw [h]; simp
  | dict h _ _ => rw [h]; simp

/-- the heap's state: cells at μ, what others may change at hid -/
structure Sd (K : PySem.W.Frag) (H : Hp) (st : Store) (μ hid : List Addr) : Prop where
  len : μ.length = st.length
  cell : ∀ (n : Nat) (c : Cell) (a : Addr), st[n]? = some c → μ[n]? = some a → COk K (mask H (μ ++ hid)) μ H a c
  hds : ∀ a ∈ hid, H a ≠ none
  nd : (μ ++ hid).Nodup
theorem Sd.there {K : PySem.W.Frag} {H : Hp} {st : Store} {μ hid : List Addr} (s : Sd K H st μ hid) : ∀ a ∈ μ ++ hid, H a ≠ none := fun a h => by
  rcases List.mem_append.mp h with h | h
  · obtain ⟨n, hn, e⟩ := List.getElem_of_mem h
    have h1 : n < st.length := by have := s.len; omega
    exact (s.cell n st[n] a (List.getElem?_eq_getElem h1) (by rw [List.getElem?_eq_getElem hn, e])).some
  · exact s.hds a h
/-- from one heap to a later one -/
structure Nx (H : Hp) (μ : List Addr) (H' : Hp) (μ' hid : List Addr) : Prop where
  same : Same (mask H (μ ++ hid)) (mask H' (μ' ++ hid))
  pre : μ <+: μ'
  keep : ∀ a ∈ hid, H' a = H a
theorem Nx.refl {H : Hp} {μ hid : List Addr} : Nx H μ H μ hid := ⟨fun _ _ e => e, List.prefix_refl _, fun _ _ => rfl⟩
theorem Nx.trans {H H1 H2 : Hp} {μ μ1 μ2 hid : List Addr} (a : Nx H μ H1 μ1 hid) (b : Nx H1 μ1 H2 μ2 hid) : Nx H μ H2 μ2 hid :=
  ⟨fun x o e => b.same x o (a.same x o e), a.pre.trans b.pre, fun x h => (b.keep x h).trans (a.keep x h)⟩
/-- a new object that no one changes -/
theorem Nx.new {K : PySem.W.Frag} {H : Hp} {st : Store} {μ hid : List Addr} (s : Sd K H st μ hid) {p : Addr} {o : HO} (h : H p = none) : Nx H μ (upd H p o) μ hid := by
  have hp : p ∉ μ ++ hid := fun q => s.there p q h
  refine ⟨fun b u e => ?_, List.prefix_refl _, fun a ha => upd_ne fun e => hp (e ▸ List.mem_append_right _ ha)⟩
  rw [mask_upd_out hp]
  have : b ≠ p := fun z => by subst z; rw [mask_none h] at e; cases e
  rw [upd_ne this]; exact e
theorem Sd.new {K : PySem.W.Frag} {H : Hp} {st : Store} {μ hid : List Addr} (s : Sd K H st μ hid) {p : Addr} {o : HO} (h : H p = none) : Sd K (upd H p o) st μ hid where
  len := s.len
  cell := fun n c a h1 h2 => (s.cell n c a h1 h2).mono (Nx.new s h).same (List.prefix_refl _) (upd_ne fun (e : a = p) => s.there a (List.mem_append_left _ (List.mem_of_getElem? h2)) (by rw [e]; exact h))
  hds := fun a ha => by
    by_cases e : a = p
    · subst e; rw [upd_same]; simp
    · rw [upd_ne e]; exact s.hds a ha
  nd := s.nd
theorem mask_new_at {K : PySem.W.Frag} {H : Hp} {st : Store} {μ hid : List Addr} (s : Sd K H st μ hid) {p : Addr} {o : HO} (h : H p = none) : mask (upd H p o) (μ ++ hid) p = some o :=
  mask_some.mpr ⟨fun q => s.there p q h, upd_same⟩
/-- a new cell -/
theorem mask_cons_new {H : Hp} {μ hid : List Addr} {p : Addr} {o : HO} (h : H p = none) (hs : ∀ b ∈ μ ++ hid, H b ≠ none) : mask (upd H p o) ((μ ++ [p]) ++ hid) = mask H (μ ++ hid) := by
  have e := mask_upd_new (o := o) h hs
  rw [← e]
  funext b
  unfold mask
  simp only [List.mem_append, List.mem_singleton]
  by_cases h1 : b ∈ μ <;> by_cases h2 : b ∈ hid <;> by_cases h3 : b = p <;> simp [h1, h2, h3]
theorem Nx.cell {K : PySem.W.Frag} {H : Hp} {st : Store} {μ hid : List Addr} (s : Sd K H st μ hid) {p : Addr} {o : HO} (h : H p = none) : Nx H μ (upd H p o) (μ ++ [p]) hid := by
  have hp : p ∉ μ ++ hid := fun q => s.there p q h
  refine ⟨fun b u e => ?_, List.prefix_append _ _, fun a ha => upd_ne fun e => hp (e ▸ List.mem_append_right _ ha)⟩
  rw [mask_cons_new h s.there]; exact e
theorem Sd.newCell {K : PySem.W.Frag} {H : Hp} {st : Store} {μ hid : List Addr} (s : Sd K H st μ hid) {p : Addr} {o : HO} {c : Cell} (h : H p = none)
    (hc : COk K (mask H (μ ++ hid)) (μ ++ [p]) (upd H p o) p c) : Sd K (upd H p o) (st ++ [c]) (μ ++ [p]) hid where
  len := by simp [s.len]
  cell := fun n c' a h1 h2 => by
    rw [mask_cons_new h s.there]
    by_cases hn : n < st.length
    · rw [List.getElem?_append_left hn] at h1
      rw [List.getElem?_append_left (by rw [s.len]; exact hn)] at h2
      exact (s.cell n c' a h1 h2).mono (fun _ _ e => e) (List.prefix_append _ _) (upd_ne fun (e : a = p) => s.there a (List.mem_append_left _ (List.mem_of_getElem? h2)) (by rw [e]; exact h))
    · have hn' : n = st.length := by
        have := (List.getElem?_eq_some_iff.mp h1).1
        rw [List.length_append, List.length_singleton] at this
        omega
      subst hn'
      rw [List.getElem?_append_right (Nat.le_refl _), Nat.sub_self] at h1
      rw [List.getElem?_append_right (by rw [s.len]; exact Nat.le_refl _), s.len, Nat.sub_self] at h2
      simp at h1 h2
      subst h1 h2
      exact hc
  hds := fun a ha => by
    by_cases e : a = p
    · subst e; rw [upd_same]; simp
    · rw [upd_ne e]; exact s.hds a ha
  nd := by
    have hp : p ∉ μ ++ hid := fun q => s.there p q h
    have nd := s.nd
    rw [List.append_assoc, List.nodup_append]
    rw [List.nodup_append] at nd
    refine ⟨nd.1, ?_, fun a ha b hb e => ?_⟩
    · rw [List.singleton_append, List.nodup_cons]
      exact ⟨fun q => hp (List.mem_append_right _ q), nd.2.1⟩
    · subst e
      rw [List.singleton_append, List.mem_cons] at hb
      rcases hb with e | hb
      · subst e; exact hp (List.mem_append_left _ ha)
      · exact nd.2.2 a ha a hb rfl
/-- a cell is changed -/
theorem Nx.put {H : Hp} {μ hid : List Addr} {n : Nat} {a : Addr} {o : HO} (ha : μ[n]? = some a) (nd : (μ ++ hid).Nodup) : Nx H μ (upd H a o) μ hid := by
  have hm : a ∈ μ := List.mem_of_getElem? ha
  refine ⟨fun b u e => ?_, List.prefix_refl _, fun b hb => upd_ne fun e => ?_⟩
  · rw [mask_upd_in (List.mem_append_left _ hm)]; exact e
  · subst e; rw [List.nodup_append] at nd; exact nd.2.2 b hm b hb rfl
theorem Sd.put {K : PySem.W.Frag} {H : Hp} {st : Store} {μ hid : List Addr} (s : Sd K H st μ hid) {n : Nat} {a : Addr} {o : HO} {c : Cell} (ha : μ[n]? = some a)
    (hc : COk K (mask H (μ ++ hid)) μ (upd H a o) a c) : Sd K (upd H a o) (st.set n c) μ hid where
  len := by rw [List.length_set]; exact s.len
  cell := fun m c' b h1 h2 => by
    have hm : a ∈ μ := List.mem_of_getElem? ha
    rw [mask_upd_in (List.mem_append_left _ hm)]
    by_cases e : m = n
    · subst e
      rw [ha] at h2; cases h2
      have hl : m < st.length := by have := (List.getElem?_eq_some_iff.mp ha).1; rw [s.len] at this; exact this
      rw [List.getElem?_set_self hl] at h1; cases h1
      exact hc
    · rw [List.getElem?_set_ne (Ne.symm e)] at h1
      refine (s.cell m c' b h1 h2).mono (fun _ _ e => e) (List.prefix_refl _) (upd_ne fun z => ?_)
      subst z
      have nd := s.nd
      rw [List.nodup_append] at nd
      obtain ⟨l1, e1⟩ := List.getElem?_eq_some_iff.mp h2
      obtain ⟨l2, e2⟩ := List.getElem?_eq_some_iff.mp ha
      exact e ((List.getElem_inj nd.1).mp (e1.trans e2.symm))
  hds := fun b hb => by
    by_cases e : b = a
    · subst e; rw [upd_same]; simp
    · rw [upd_ne e]; exact s.hds b hb
  nd := s.nd

/-- the frame's names -/
def RE (K : PySem.W.Frag) (M : Hp) (μ : List Addr) (σ : L2.St) (env : E3) : Prop :=
  σ.length = env.length ∧ ∀ (i : Nat) (w : W), env[i]? = some (some w) → ∃ v, σ[i]? = some (some v) ∧ RW K M μ v w
theorem RE.mono {K : PySem.W.Frag} {M M' : Hp} {μ μ' : List Addr} {σ : L2.St} {env : E3} (s : Same M M') (p : μ <+: μ') (r : RE K M μ σ env) : RE K M' μ' σ env :=
  ⟨r.1, fun i w e => let ⟨v, h1, h2⟩ := r.2 i w e; ⟨v, h1, h2.mono s p⟩⟩
theorem RE.set {K : PySem.W.Frag} {M : Hp} {μ : List Addr} {σ : L2.St} {env : E3} {i : Nat} {v : V} {w : W} (r : RE K M μ σ env) (q : RW K M μ v w) : RE K M μ (σ.set i (some v)) (env.set i (some w)) := by
  refine ⟨by rw [List.length_set, List.length_set]; exact r.1, fun j u e => ?_⟩
  by_cases h : i = j
  · subst h
    by_cases hl : i < env.length
    · rw [List.getElem?_set_self hl] at e
      have e' := Option.some.inj (Option.some.inj e)
      subst e'
      exact ⟨v, List.getElem?_set_self (by rw [r.1]; exact hl), q⟩
    · rw [List.getElem?_eq_none (by rw [List.length_set]; omega)] at e; cases e
  · rw [List.getElem?_set_ne h] at e
    obtain ⟨u', h1, h2⟩ := r.2 j u e
    exact ⟨u', by rw [List.getElem?_set_ne h]; exact h1, h2⟩
structure Wd (K : PySem.W.Frag) (σ : L2.St) (H : Hp) (env : E3) (st : Store) (μ hid : List Addr) : Prop where
  ev : RE K (mask H (μ ++ hid)) μ σ env
  sd : Sd K H st μ hid
theorem Wd.next {K : PySem.W.Frag} {σ : L2.St} {H H' : Hp} {env : E3} {st st' : Store} {μ μ' hid : List Addr} (w : Wd K σ H env st μ hid) (n : Nx H μ H' μ' hid) (s : Sd K H' st' μ' hid) : Wd K σ H' env st' μ' hid :=
  ⟨w.ev.mono n.same n.pre, s⟩

abbrev Ev := E3 → Store → Option (W × Store)
/-- an expression's reading -/
def TX (K : PySem.W.Frag) (f : Ev) : TE := fun σ H Q => ∃ env st μ hid w st', Wd K σ H env st μ hid ∧ f env st = some (w, st') ∧
  ∀ v H' μ', Nx H μ H' μ' hid → Sd K H' st' μ' hid → RW K (mask H' (μ' ++ hid)) μ' v w → Q v H'
theorem TX.go {K : PySem.W.Frag} {f : Ev} {σ : L2.St} {H : Hp} {env : E3} {st st' : Store} {μ hid : List Addr} {w : W} {Q : VK} (W0 : Wd K σ H env st μ hid) (e : f env st = some (w, st'))
    (k : ∀ v H' μ', Nx H μ H' μ' hid → Wd K σ H' env st' μ' hid → RW K (mask H' (μ' ++ hid)) μ' v w → Q v H') : TX K f σ H Q :=
  ⟨env, st, μ, hid, w, st', W0, e, fun v H' μ' n s r => k v H' μ' n (W0.next n s) r⟩
end L3
set_option Elab.async false
set_option linter.all false
set_option maxRecDepth 100000
set_option maxHeartbeats 4000000
set_option autoImplicit false
/-! L3: expressions. -/
namespace L3
open PySem PySem.Spec PyProof.Rows L2

def Out (K : PySem.W.Frag) (H : Hp) (μ hid : List Addr) (w : W) (st' : Store) (Q : VK) : Prop :=
  ∀ v H' μ', Nx H μ H' μ' hid → Sd K H' st' μ' hid → RW K (mask H' (μ' ++ hid)) μ' v w → Q v H'
theorem Out.here {K : PySem.W.Frag} {H : Hp} {μ hid : List Addr} {w : W} {st : Store} {Q : VK} (o : Out K H μ hid w st Q) (s : Sd K H st μ hid) {v : V} (r : RW K (mask H (μ ++ hid)) μ v w) : Q v H := o v H μ Nx.refl s r
theorem Out.new {K : PySem.W.Frag} {H : Hp} {μ hid : List Addr} {w : W} {st : Store} {Q : VK} (o : Out K H μ hid w st Q) (s : Sd K H st μ hid) {p : Addr} {u : HO} (h : H p = none)
    (r : RW K (mask (upd H p u) (μ ++ hid)) μ (.ref p) w) : Q (.ref p) (upd H p u) := o _ _ μ (Nx.new s h) (s.new h) r
abbrev Op2 := W → W → Store → Option (W × Store)
abbrev OpN := List W → Store → Option (W × Store)
def T2 (K : PySem.W.Frag) (op : Op2) : R2 := fun x y H Q => ∃ st μ hid wx wy w st', Sd K H st μ hid ∧ RW K (mask H (μ ++ hid)) μ x wx ∧ RW K (mask H (μ ++ hid)) μ y wy ∧ op wx wy st = some (w, st') ∧ Out K H μ hid w st' Q
def T1 (K : PySem.W.Frag) (op : W → Store → Option (W × Store)) : V → Hp → VK → Prop := fun x H Q => ∃ st μ hid wx w st', Sd K H st μ hid ∧ RW K (mask H (μ ++ hid)) μ x wx ∧ op wx st = some (w, st') ∧ Out K H μ hid w st' Q
def TN (K : PySem.W.Frag) (op : OpN) : List V → Hp → VK → Prop := fun xs H Q => ∃ st μ hid ws w st', Sd K H st μ hid ∧ RWs K (mask H (μ ++ hid)) μ xs ws ∧ op ws st = some (w, st') ∧ Out K H μ hid w st' Q

theorem PE.imp {X : Cx} {e : Expr} {t t' : TE} (h : PE X e t) (k : ∀ σ H Q, t' σ H Q → t σ H Q) : PE X e t' := ⟨fun pins s σ H Q I q => h.run pins s σ H Q I (k _ _ _ q)⟩
theorem PT.imp {X : Cx} {e : Expr} {t t' : TT} (h : PT X e t) (k : ∀ σ H Q, t' σ H Q → t σ H Q) : PT X e t' := ⟨fun pins s σ H Q I q => h.run pins s σ H Q I (k _ _ _ q)⟩
theorem PW.imp {X : Cx} {e : Expr} {t t' : TT} (h : PW X e t) (k : ∀ σ H Q, t' σ H Q → t σ H Q) : PW X e t' := ⟨fun wh pins s σ H Q I q => h.run wh pins s σ H Q I (k _ _ _ q)⟩
theorem PA.imp {X : Cx} {e : List Expr} {t t' : TA} (h : PA X e t) (k : ∀ σ H Q, t' σ H Q → t σ H Q) : PA X e t' := ⟨fun pos pins s σ H Q I q => h.run pos pins s σ H Q I (k _ _ _ q)⟩
theorem PS.imp {X : Cx} {e : Stmt} {t t' : TS} (h : PS X e t) (k : ∀ D σ H, t' D σ H → t D σ H) : PS X e t' := ⟨fun pins s σ H Q I q => h.run pins s σ H Q I (k _ _ _ q)⟩
theorem PSs.imp {X : Cx} {e : List Stmt} {t t' : TS} (h : PSs X e t) (k : ∀ D σ H, t' D σ H → t D σ H) : PSs X e t' := ⟨fun pins s σ H Q I q => h.run pins s σ H Q I (k _ _ _ q)⟩

/-! ### names, constants -/
def bDat (d : PyData) : Ev := fun _ st => some (.dat d, st)
def bVar (i : Nat) : Ev := fun env st => match env[i]? with
  | some (some w) => some (w, st)
  | _ => none
def bTy (n : String) : Ev := fun _ st => some (.ty n, st)
section
variable {X : Cx} {a b c : Expr} {pos : Pos} {f g : Ev}
theorem x_var {i : Nat} {x : Str} (hN : X.N[i]? = some x) (hv : Vis X.env.scope x) (hd : (x == ("__debug__" : Str)) = false := by decide) (hcd : (x == ("__classdict__" : Str)) = false := by decide) : PE X (.Name x pos) (TX X.K (bVar i)) := by
  refine PE.imp (pe_var hN hv hd hcd) fun σ H Q ⟨env, st, μ, hid, w, st', W0, e, q⟩ => ?_
  unfold bVar at e
  split at e
  · rename_i w' he
    cases e
    obtain ⟨v, h1, h2⟩ := W0.ev.2 i w he
    exact ⟨v, h1, q v H μ Nx.refl W0.sd h2⟩
  · cases e
theorem x_dat {v : V} {d : PyData} (h : PE X a (tC v)) (r : ∀ M, RD X.K M v d) : PE X a (TX X.K (bDat d)) :=
  PE.imp h fun σ H Q ⟨env, st, μ, hid, w, st', W0, e, q⟩ => by cases e; exact q v H μ Nx.refl W0.sd (.dat (r _))
theorem x_int {i : Int} {j : Nat} : PE X (.Constant (.int i) j pos) (TX X.K (bDat (.int i))) := x_dat pe_int fun _ => .int i
theorem x_bl {i : Bool} {j : Nat} : PE X (.Constant (.bool i) j pos) (TX X.K (bDat (.bool i))) := x_dat pe_bl fun _ => .bl i
theorem x_non {j : Nat} : PE X (.Constant .none j pos) (TX X.K (bDat .none)) := x_dat pe_non fun _ => .non
theorem x_str {i : Str} {j : Nat} : PE X (.Constant (.str i) j pos) (TX X.K (bDat (.str i))) := x_dat pe_str fun _ => .str i
theorem x_globI {x : Str} {i : Int} {t : Tok} (hg : Gl X x) (hm : X.mg x = some (.int i t)) (hd : (x == ("__debug__" : Str)) = false := by decide) : PE X (.Name x pos) (TX X.K (bDat (.int i))) := x_dat (pe_glob (v := .int i) hg hm ⟨_, rfl⟩ hd) fun _ => .int i
theorem x_globS {x : Str} {i : Str} {t : Tok} (hg : Gl X x) (hm : X.mg x = some (.str i t)) (hd : (x == ("__debug__" : Str)) = false := by decide) : PE X (.Name x pos) (TX X.K (bDat (.str i))) := x_dat (pe_glob (v := .str i) hg hm ⟨_, rfl⟩ hd) fun _ => .str i
theorem x_ty {x : Str} {n : String} (hg : Gl X x) (hm : X.mg x = none) (hv : bootBuiltins x = some (.type n)) (hn : x ≠ "__name__" := by decide) (hd : (x == ("__debug__" : Str)) = false := by decide) : PE X (.Name x pos) (TX X.K (bTy n)) :=
  PE.imp (pe_bltn (v := .ty n) hg hm hv rfl hn hd) fun σ H Q ⟨env, st, μ, hid, w, st', W0, e, q⟩ => by cases e; exact q _ H μ Nx.refl W0.sd (.ty n)

/-! ### two places -/
def b2 (o : Op2) (f g : Ev) : Ev := fun env st => (f env st).bind fun r => (g env r.2).bind fun t => o r.1 t.1 t.2
theorem TX.two {o : Op2} {K : PySem.W.Frag} {σ : L2.St} {H : Hp} {Q : VK} (h : TX K (b2 o f g) σ H Q) : tOp (T2 K o) (TX K f) (TX K g) σ H Q := by
  obtain ⟨env, st, μ, hid, w, st', W0, e, q⟩ := h
  unfold b2 at e
  cases hf : f env st with
  | none => rw [hf] at e; cases e
  | some r =>
    obtain ⟨x, s1⟩ := r
    rw [hf] at e
    simp only [Option.bind_some] at e
    cases hg : g env s1 with
    | none => rw [hg] at e; cases e
    | some t =>
      obtain ⟨y, s2⟩ := t
      rw [hg] at e
      exact TX.go W0 hf fun vx H1 μ1 n1 W1 rx => TX.go W1 hg fun vy H2 μ2 n2 W2 ry => ⟨s2, μ2, hid, x, y, w, st', W2.sd, rx.mono n2.same n2.pre, ry, e, fun v H' μ' n s r => q v H' μ' ((n1.trans n2).trans n) s r⟩
theorem x_bin {op : Operator} {o : Op2} (ho : OpR X (binaryOp op) (T2 X.K o)) (ha : PE X a (TX X.K f)) (hb : PE X b (TX X.K g)) : PE X (.BinOp a op b pos) (TX X.K (b2 o f g)) :=
  PE.imp (pe_op ho ha hb) fun σ H Q h => TX.two h
theorem x_cmp {op : CmpOp} {o : Op2} (ho : OpR X (compareOp op) (T2 X.K o)) (ha : PE X a (TX X.K f)) (hb : PE X b (TX X.K g)) (hm : behindInMarks op b = false) : PE X (.Compare a [op] [b] pos) (TX X.K (b2 o f g)) :=
  PE.imp (pe_cmpR ho ha hb hm) fun σ H Q h => TX.two h
theorem x_ix {o : Op2} (ho : IxR X (T2 X.K o)) (ha : PE X a (TX X.K f)) (hb : PE X b (TX X.K g)) (hs : PlainIx b) : PE X (.Subscript a b pos) (TX X.K (b2 o f g)) :=
  PE.imp (pe_ix ho ha hb hs) fun σ H Q h => TX.two h
def b1 (o : W → Store → Option (W × Store)) (f : Ev) : Ev := fun env st => (f env st).bind fun r => o r.1 r.2
theorem TX.one {o : W → Store → Option (W × Store)} {K : PySem.W.Frag} {σ : L2.St} {H : Hp} {Q : VK} (h : TX K (b1 o f) σ H Q) : TX K f σ H fun x H1 => T1 K o x H1 Q := by
  obtain ⟨env, st, μ, hid, w, st', W0, e, q⟩ := h
  unfold b1 at e
  cases hf : f env st with
  | none => rw [hf] at e; cases e
  | some r =>
    obtain ⟨x, s1⟩ := r
    rw [hf] at e
    exact TX.go W0 hf fun vx H1 μ1 n1 W1 rx => ⟨s1, μ1, hid, x, w, st', W1.sd, rx, e, fun v H' μ' n s r => q v H' μ' (n1.trans n) s r⟩
theorem x_un {op : UnaryOp} {o : W → Store → Option (W × Store)} (ho : UnR X (unaryOp op) (T1 X.K o)) (ha : PE X a (TX X.K f)) : PE X (.UnaryOp op a pos) (TX X.K (b1 o f)) :=
  PE.imp (pe_un ho ha) fun σ H Q h => TX.one h

/-! ### arguments -/
abbrev Ea := E3 → Store → Option (List W × Store)
def TAx (K : PySem.W.Frag) (f : Ea) : TA := fun σ H Q => ∃ env st μ hid ws st', Wd K σ H env st μ hid ∧ f env st = some (ws, st') ∧
  ∀ vs H' μ', Nx H μ H' μ' hid → Sd K H' st' μ' hid → RWs K (mask H' (μ' ++ hid)) μ' vs ws → Q vs H'
def aNil : Ea := fun _ st => some ([], st)
def aCons (f : Ev) (g : Ea) : Ea := fun env st => (f env st).bind fun r => (g env r.2).bind fun t => some (r.1 :: t.1, t.2)
theorem xa_nil : PA X [] (TAx X.K aNil) := PA.imp pa_nil fun σ H Q ⟨env, st, μ, hid, w, st', W0, e, q⟩ => by cases e; exact q [] H μ Nx.refl W0.sd .nil
theorem TAx.go {K : PySem.W.Frag} {f : Ea} {σ : L2.St} {H : Hp} {env : E3} {st st' : Store} {μ hid : List Addr} {w : List W} {Q : List V → Hp → Prop} (W0 : Wd K σ H env st μ hid) (e : f env st = some (w, st'))
    (k : ∀ v H' μ', Nx H μ H' μ' hid → Wd K σ H' env st' μ' hid → RWs K (mask H' (μ' ++ hid)) μ' v w → Q v H') : TAx K f σ H Q :=
  ⟨env, st, μ, hid, w, st', W0, e, fun v H' μ' n s r => k v H' μ' n (W0.next n s) r⟩
theorem xa_cons {es : List Expr} {t : Ea} (ha : PE X a (TX X.K f)) (hr : PA X es (TAx X.K t)) (hs : starEach (a :: es) X.env = (false, eval a X.env) :: starEach es X.env := by rfl) : PA X (a :: es) (TAx X.K (aCons f t)) := by
  refine PA.imp (pa_cons ha hr hs) fun σ H Q ⟨env, st, μ, hid, ws, st', W0, e, q⟩ => ?_
  unfold aCons at e
  cases hf : f env st with
  | none => rw [hf] at e; cases e
  | some r =>
    obtain ⟨x, s1⟩ := r
    rw [hf] at e
    simp only [Option.bind_some] at e
    cases hg : t env s1 with
    | none => rw [hg] at e; cases e
    | some u =>
      obtain ⟨y, s2⟩ := u
      rw [hg] at e
      cases e
      exact TX.go W0 hf fun vx H1 μ1 n1 W1 rx => TAx.go W1 hg fun vy H2 μ2 n2 W2 ry => q _ _ μ2 (n1.trans n2) W2.sd (.cons (rx.mono n2.same n2.pre) ry)
def bN (o : OpN) (f : Ea) : Ev := fun env st => (f env st).bind fun r => o r.1 r.2
theorem TX.args {o : OpN} {f : Ea} {K : PySem.W.Frag} {σ : L2.St} {H : Hp} {Q : VK} (h : TX K (bN o f) σ H Q) : tCB (TN K o) (TAx K f) σ H Q := by
  obtain ⟨env, st, μ, hid, w, st', W0, e, q⟩ := h
  unfold bN at e
  cases hf : f env st with
  | none => rw [hf] at e; cases e
  | some r =>
    obtain ⟨x, s1⟩ := r
    rw [hf] at e
    exact TAx.go W0 hf fun vx H1 μ1 n1 W1 rx => ⟨s1, μ1, hid, x, w, st', W1.sd, rx, e, fun v H' μ' n s r => q v H' μ' (n1.trans n) s r⟩
theorem x_callB {es : List Expr} {o : OpN} {t : Ea} {id : String} {x : Str} {p : Pos} (hc : CallR X (.builtin id) (TN X.K o)) (hg : Gl X x) (hm : X.mg x = none) (hv : bootBuiltins x = some (.builtin id)) (ha : PA X (a :: es) (TAx X.K t)) (hn : x ≠ "__name__" := by decide) (hdb : (x == ("__debug__" : Str)) = false := by decide)
    (he : starEach (a :: es) X.env = (false, eval a X.env) :: starEach es X.env := by rfl) (hpl : (backTo pos (starEach es X.env)).any (·.1) = false := by rfl) : PE X (.Call (.Name x p) (a :: es) [] pos) (TX X.K (bN o t)) :=
  PE.imp (pe_callB hc hg hm hv ha hn hdb he hpl) fun σ H Q h => TX.args h
theorem x_callTy {es : List Expr} {o : OpN} {t : Ea} {T : String} {x : Str} {p : Pos} (hc : CallR X (.type T) (TN X.K o)) (hg : Gl X x) (hm : X.mg x = none) (hv : bootBuiltins x = some (.type T)) (ha : PA X (a :: es) (TAx X.K t)) (hn : x ≠ "__name__" := by decide) (hdb : (x == ("__debug__" : Str)) = false := by decide)
    (he : starEach (a :: es) X.env = (false, eval a X.env) :: starEach es X.env := by rfl) (hpl : (backTo pos (starEach es X.env)).any (·.1) = false := by rfl) : PE X (.Call (.Name x p) (a :: es) [] pos) (TX X.K (bN o t)) :=
  PE.imp (pe_callTy hc hg hm hv ha hn hdb he hpl) fun σ H Q h => TX.args h

/-! ### displays -/
def datOf : W → Option PyData
  | .dat d => some d
  | _ => none
def tyOf : W → Option String
  | .ty d => some d
  | _ => none
def opTup : OpN := fun ws st => match ws.mapM datOf with
  | some ds => if ds.length ≤ sizeLine then some (.dat (.tuple ds), st) else none
  | none => match ws.mapM tyOf with
    | some ns => if ns.length ≤ 1000 then some (.tys ns, st) else none
    | none => none
def opLst : OpN := fun ws st => match ws.mapM datOf with
  | some ds => if ds.length ≤ sizeLine then some (.dat (.list ds), st) else none
  | none => none
def opLstNew : OpN := fun ws st => if ws.length ≤ sizeLine then some (.loc st.length, st ++ [.list ws]) else none
theorem RWs.dat {K : PySem.W.Frag} {M : Hp} {μ : List Addr} : ∀ {vs : List V} {ws : List W} {ds : List PyData}, RWs K M μ vs ws → ws.mapM datOf = some ds → RDs K M vs ds
  | _, _, _, .nil, e => by
    have e' : some ([] : List PyData) = some _ := e
    cases e'; exact .nil
  | _, _, _, .cons (a := v) (b := w) r t, e => by
    rw [List.mapM_cons] at e
    cases w with
    | dat d =>
      simp only [datOf, Option.bind_eq_bind, Option.bind_some] at e
      rw [Option.bind_eq_some_iff] at e
      obtain ⟨ds, h1, h2⟩ := e
      cases h2
      cases r with
      | dat h => exact .cons h (RWs.dat t h1)
    | _ => simp [datOf] at e
theorem RWs.tys {K : PySem.W.Frag} {M : Hp} {μ : List Addr} : ∀ {vs : List V} {ws : List W} {ds : List String}, RWs K M μ vs ws → ws.mapM tyOf = some ds → vs = ds.map V.ty
  | _, _, _, .nil, e => by
    have e' : some ([] : List String) = some _ := e
    cases e'; rfl
  | _, _, _, .cons (a := v) (b := w) r t, e => by
    rw [List.mapM_cons] at e
    cases w with
    | ty d =>
      simp only [tyOf, Option.bind_eq_bind, Option.bind_some] at e
      rw [Option.bind_eq_some_iff] at e
      obtain ⟨ds, h1, h2⟩ := e
      cases h2
      cases r with
      | ty h => rw [RWs.tys t h1]; rfl
    | _ => simp [tyOf] at e
theorem RD.tupNew {K : PySem.W.Frag} {H : Hp} {st : Store} {μ hid : List Addr} (s : Sd K H st μ hid) {p : Addr} (h : H p = none) {vs : List V} {ds : List PyData} (z : ds.length ≤ sizeLine) (r : RDs K (mask H (μ ++ hid)) vs ds) :
    RD K (mask (upd H p (.tup vs)) (μ ++ hid)) (.ref p) (.tuple ds) := .tup (.inl (.inl (mask_new_at s h))) z (r.mono (Nx.new s h).same)
theorem RD.lstNew {K : PySem.W.Frag} {H : Hp} {st : Store} {μ hid : List Addr} (s : Sd K H st μ hid) {p : Addr} (h : H p = none) {vs : List V} {ds : List PyData} (z : ds.length ≤ sizeLine) (r : RDs K (mask H (μ ++ hid)) vs ds) :
    RD K (mask (upd H p (.lst vs)) (μ ++ hid)) (.ref p) (.list ds) := .lst (mask_new_at s h) z (r.mono (Nx.new s h).same)
theorem x_tup {es : List Expr} {t : Ea} {k : Nat} (ha : PA X es (TAx X.K t)) (hl : es.length ≤ 1000 := by decide) : PE X (.Tuple es k pos) (TX X.K (bN opTup t)) := by
  refine PE.imp (pe_tup ha) fun σ H Q h => ?_
  obtain ⟨env, st, μ, hid, w, st', W0, e, q⟩ := h
  unfold bN at e
  cases hf : t env st with
  | none => rw [hf] at e; cases e
  | some r =>
    obtain ⟨ws, s1⟩ := r
    rw [hf] at e
    refine TAx.go W0 hf fun vs H1 μ1 n1 W1 rx => ?_
    simp only [Option.bind_some, opTup] at e
    have hz : (1000 : Nat) ≤ sizeLine := by rw [sizeLine_eq]; decide
    split at e
    · rename_i ds hd
      split at e
      · rename_i hz
        cases e
        have rd := RWs.dat rx hd
        refine ⟨by rw [rd.length]; exact hz, fun p hp => ?_⟩
        exact q _ _ μ1 (n1.trans (Nx.new W1.sd hp)) (W1.sd.new hp) (.dat (RD.tupNew W1.sd hp hz rd))
      · cases e
    · split at e
      · rename_i ns hd
        split at e
        · rename_i hz1
          cases e
          have rd := RWs.tys rx hd
          subst rd
          refine ⟨by rw [List.length_map]; omega, fun p hp => ?_⟩
          exact q _ _ μ1 (n1.trans (Nx.new W1.sd hp)) (W1.sd.new hp) (.tys (mask_new_at W1.sd hp))
        · cases e
      · cases e
theorem x_lst {es : List Expr} {t : Ea} (ha : PA X es (TAx X.K t)) : PE X (.List es pos) (TX X.K (bN opLst t)) := by
  refine PE.imp (pe_lst ha) fun σ H Q h => ?_
  obtain ⟨env, st, μ, hid, w, st', W0, e, q⟩ := h
  unfold bN at e
  cases hf : t env st with
  | none => rw [hf] at e; cases e
  | some r =>
    obtain ⟨ws, s1⟩ := r
    rw [hf] at e
    refine TAx.go W0 hf fun vs H1 μ1 n1 W1 rx => ?_
    simp only [Option.bind_some, opLst] at e
    split at e
    · rename_i ds hd
      split at e
      · rename_i hz
        cases e
        have rd := RWs.dat rx hd
        refine ⟨by rw [rd.length]; exact hz, fun p hp => ?_⟩
        exact q _ _ μ1 (n1.trans (Nx.new W1.sd hp)) (W1.sd.new hp) (.dat (RD.lstNew W1.sd hp hz rd))
      · cases e
    · cases e
theorem x_lstNew {es : List Expr} {t : Ea} (ha : PA X es (TAx X.K t)) : PE X (.List es pos) (TX X.K (bN opLstNew t)) := by
  refine PE.imp (pe_lst ha) fun σ H Q h => ?_
  obtain ⟨env, st, μ, hid, w, st', W0, e, q⟩ := h
  unfold bN at e
  cases hf : t env st with
  | none => rw [hf] at e; cases e
  | some r =>
    obtain ⟨ws, s1⟩ := r
    rw [hf] at e
    refine TAx.go W0 hf fun vs H1 μ1 n1 W1 rx => ?_
    simp only [Option.bind_some, opLstNew] at e
    split at e
    · rename_i hz
      cases e
      have rl : vs.length = ws.length := Paired.length rx
      refine ⟨by rw [rl]; exact hz, fun p hp => ?_⟩
      have hh := W1.sd.there
      refine q _ _ (μ1 ++ [p]) (n1.trans (Nx.cell W1.sd hp)) (W1.sd.newCell hp (.list upd_same hz (rx.mono (fun _ _ e => e) (List.prefix_append _ _)))) (.loc ?_)
      rw [← W1.sd.len, List.getElem?_append_right (Nat.le_refl _), Nat.sub_self]; rfl
    · cases e
end
end L3
set_option Elab.async false
set_option linter.all false
set_option maxRecDepth 100000
set_option maxHeartbeats 4000000
set_option autoImplicit false
/-! L3: operations by values. -/
namespace L3
open PySem PySem.Spec PyProof.Rows L2
section
variable {X : Cx}
theorem sz1000 {n : Nat} (h : n ≤ 1000) : n ≤ sizeLine := by have : sizeLine = 16777216 := sizeLine_eq; omega

def opAdd : Op2
  | .dat (.int i), .dat (.int j), st => some (.dat (.int (i + j)), st)
  | .dat (.str x), .dat (.str y), st => if x.length + y.length ≤ sizeLine then some (.dat (.str (x ++ y)), st) else none
  | .dat (.tuple xs), .dat (.tuple ys), st => if xs.length + ys.length ≤ sizeLine then some (.dat (.tuple (xs ++ ys)), st) else none
  | .dat (.list xs), .dat (.list ys), st => if xs.length + ys.length ≤ sizeLine then some (.dat (.list (xs ++ ys)), st) else none
  | _, _, _ => none
theorem o_add : OpR X (binaryOp .Add) (T2 X.K opAdd) := by
  intro pins s σ H x y v u Q I rx ry ⟨st, μ, hid, wx, wy, w, st', sd, hx, hy, e, q⟩
  unfold opAdd at e
  split at e
  · rename_i i j st
    cases hx with | dat hx => cases hx; cases hy with | dat hy => cases hy; cases e; exact op_add pins s σ H _ _ v u Q I rx ry ⟨_, _, rfl, rfl, q.here sd (.dat (.int _))⟩
  · rename_i i j st
    split at e
    · rename_i hz
      cases hx with | dat hx => cases hx; cases hy with | dat hy => cases hy; cases e; exact op_add_str pins s σ H _ _ v u Q I rx ry ⟨_, _, rfl, rfl, hz, q.here sd (.dat (.str _))⟩
    · cases e
  · rename_i i j st
    split at e
    · rename_i hz
      cases hx with
      | dat hx => cases hx with
        | tup ax _ rxs => cases hy with
          | dat hy => cases hy with
            | tup ay _ rys =>
              cases e
              have l1 := rxs.length
              have l2 := rys.length
              refine op_catA pins s σ H _ _ v u Q I rx ry ⟨_, _, _, _, rfl, rfl, sameT mask_le ax, sameT mask_le ay, by omega, fun ez => ?_, fun _ ez => ?_, fun _ _ p hp => ?_⟩
              · subst ez; cases rxs; exact q.here sd (.dat (.tup ay (by simpa using hz) rys))
              · subst ez; cases rys; exact q.here sd (.dat (.tup ax (by simpa using hz) (by simpa using rxs)))
              · exact q.new sd hp (.dat (RD.tupNew sd hp (by rw [List.length_append]; exact hz) (rxs.append rys)))
    · cases e
  · rename_i i j st
    split at e
    · rename_i hz
      cases hx with
      | dat hx => cases hx with
        | lst ax _ rxs => cases hy with
          | dat hy => cases hy with
            | lst ay _ rys =>
              cases e
              have l1 := rxs.length
              have l2 := rys.length
              exact op_cat pins s σ H _ _ v u Q I rx ry ⟨_, _, _, _, rfl, rfl, mask_le _ _ ax, mask_le _ _ ay, by omega, fun p hp => q.new sd hp (.dat (RD.lstNew sd hp (by rw [List.length_append]; exact hz) (rxs.append rys)))⟩
    · cases e
  · cases e

/-- ints -/
def opI (C : Int → Int → Bool) (g : Int → Int → Int) : Op2
  | .dat (.int i), .dat (.int j), st => if C i j = true then some (.dat (.int (g i j)), st) else none
  | _, _, _ => none
theorem o_I {F : Value → Value → Sem Value} {C : Int → Int → Bool} {D : Int → Int → Prop} {g : Int → Int → Int} (h : OpR X F (rI D fun i j => .int (g i j))) (hc : ∀ i j, C i j = true → D i j) : OpR X F (T2 X.K (opI C g)) := by
  intro pins s σ H x y v u Q I rx ry ⟨st, μ, hid, wx, wy, w, st', sd, hx, hy, e, q⟩
  unfold opI at e
  split at e
  · rename_i i j st
    split at e
    · rename_i hz
      cases hx with | dat hx => cases hx; cases hy with | dat hy => cases hy; cases e; exact h pins s σ H _ _ v u Q I rx ry ⟨_, _, rfl, rfl, hc _ _ hz, q.here sd (.dat (.int _))⟩
    · cases e
  · cases e
def opSub : Op2 := opI (fun _ _ => true) fun i j => i - j
theorem o_sub : OpR X (binaryOp .Sub) (T2 X.K opSub) := o_I (D := fun _ _ => True) (fun pins s σ H x y v u Q I rx ry ⟨i, j, h1, h2, _, h4⟩ => op_sub pins s σ H x y v u Q I rx ry ⟨i, j, h1, h2, h4⟩) fun _ _ _ => trivial
def bits (i : Int) : Nat := i.natAbs.log2
def opMul : Op2
  | .dat (.int i), .dat (.int j), st => if bits i + bits j < 1000000 then some (.dat (.int (i * j)), st) else none
  | _, _, _ => none
theorem o_mul : OpR X (binaryOp .Mult) (T2 X.K opMul) := by
  intro pins s σ H x y v u Q I rx ry ⟨st, μ, hid, wx, wy, w, st', sd, hx, hy, e, q⟩
  unfold opMul at e
  split at e
  · rename_i i j st
    split at e
    · rename_i hz
      cases hx with | dat hx => cases hx; cases hy with | dat hy => cases hy; cases e; exact op_mulW pins s σ H _ _ v u Q I rx ry ⟨_, _, rfl, rfl, hz, q.here sd (.dat (.int _))⟩
    · cases e
  · cases e
def opMod : Op2 := opI (fun _ j => decide (0 < j)) fun i j => i % j
theorem o_mod : OpR X (binaryOp .Mod) (T2 X.K opMod) := o_I op_mod fun _ _ h => of_decide_eq_true h
def opDiv : Op2 := opI (fun _ j => decide (0 < j) && decide (bits j < 9000)) fun i j => i / j
theorem o_div : OpR X (binaryOp .FloorDiv) (T2 X.K opDiv) := o_I op_fdivW fun i j h => by
  rw [Bool.and_eq_true] at h
  exact ⟨of_decide_eq_true h.1, of_decide_eq_true h.2⟩
def opPow : Op2 := opI (fun i j => decide (0 ≤ j) && decide (j ≤ 1000000) && decide (i.natAbs < 2 ^ 64)) fun i j => i ^ j.toNat
theorem o_pow : OpR X (binaryOp .Pow) (T2 X.K opPow) := o_I op_pow fun i j h => by
  rw [Bool.and_eq_true, Bool.and_eq_true] at h
  exact ⟨of_decide_eq_true h.1.1, of_decide_eq_true h.1.2, of_decide_eq_true h.2⟩
def opNeg : W → Store → Option (W × Store)
  | .dat (.int i), st => some (.dat (.int (-i)), st)
  | _, _ => none
theorem o_neg : UnR X (unaryOp .USub) (T1 X.K opNeg) := by
  intro pins s σ H x v Q I rx ⟨st, μ, hid, wx, w, st', sd, hx, e, q⟩
  unfold opNeg at e
  split at e
  · cases hx with | dat hx => cases hx; cases e; exact un_neg pins s σ H _ v Q I rx ⟨_, rfl, q.here sd (.dat (.int _))⟩
  · cases e

/-! ### reading whole lists -/
def dataOf (st : Store) : W → Option PyData
  | .dat d => some d
  | .frz ds => some (.list ds)
  | .loc n => match st[n]? with
    | some (.list ws) => (ws.mapM datOf).map .list
    | _ => none
  | _ => none
theorem Sd.at {K : PySem.W.Frag} {H : Hp} {st : Store} {μ hid : List Addr} (sd : Sd K H st μ hid) {n : Nat} {c : Cell} {a : Addr} (h : st[n]? = some c) (ha : μ[n]? = some a) : COk K (mask H (μ ++ hid)) μ H a c := sd.cell n c a h ha
theorem dp_of {K : PySem.W.Frag} {H : Hp} {st : Store} {μ hid : List Addr} (sd : Sd K H st μ hid) {v : V} {w : W} {d : PyData} (r : RW K (mask H (μ ++ hid)) μ v w) (e : dataOf st w = some d) : Dp K H v d := by
  cases r with
  | dat h => cases e; exact (h.mono mask_le).dp
  | frz h z r => cases e; exact .lst (Same.sqL mask_le h) (r.mono mask_le).dp
  | loc h =>
    rename_i a n
    simp only [dataOf] at e
    split at e
    · rename_i ws hw
      obtain ⟨ds, h1, rfl⟩ := Option.map_eq_some_iff.mp e
      cases sd.at hw h with
      | list h2 h3 h4 => exact .lst (SqL.of h2) ((RWs.dat h4 h1).mono mask_le).dp
    · cases e
  | _ => cases e
/-- a sequence's items -/
def seqOf (st : Store) : W → Option (List W)
  | .dat (.list ds) => some (ds.map .dat)
  | .dat (.tuple ds) => some (ds.map .dat)
  | .frz ds => some (ds.map .dat)
  | .loc n => match st[n]? with
    | some (.list ws) => some ws
    | _ => none
  | _ => none
theorem RDs.ws {K : PySem.W.Frag} {M : Hp} {μ : List Addr} : ∀ {vs : List V} {ds : List PyData}, RDs K M vs ds → RWs K M μ vs (ds.map .dat)
  | _, _, .nil => .nil
  | _, _, .cons a b => .cons (.dat a) b.ws
theorem seq_of {K : PySem.W.Frag} {H : Hp} {st : Store} {μ hid : List Addr} (sd : Sd K H st μ hid) {v : V} {w : W} {ws : List W} (r : RW K (mask H (μ ++ hid)) μ v w) (e : seqOf st w = some ws) :
    ws.length ≤ sizeLine ∧ ∃ a xs, v = .ref a ∧ (SqL K H a xs ∨ SqT K H a xs) ∧ RWs K (mask H (μ ++ hid)) μ xs ws := by
  cases r with
  | dat h => cases h with
    | lst h z r => cases e; exact ⟨by rw [List.length_map]; exact z, _, _, rfl, .inl (SqL.of (mask_le _ _ h)), r.ws⟩
    | tup h z r => cases e; exact ⟨by rw [List.length_map]; exact z, _, _, rfl, .inr (sameT mask_le h), r.ws⟩
    | _ => cases e
  | frz h z r => cases e; exact ⟨by rw [List.length_map]; exact z, _, _, rfl, .inl (Same.sqL mask_le h), r.ws⟩
  | loc h =>
    simp only [seqOf] at e
    split at e
    · rename_i ws' hw
      cases e
      cases sd.at hw h with
      | list h2 h3 h4 => exact ⟨h3, _, _, rfl, .inl (SqL.of h2), h4⟩
    · cases e
  | _ => cases e

/-! ### comparisons -/
def txts : W → W → Option Bool
  | .dat (.str a), .dat (.str b) => some (decide (a = b))
  | _, _ => none
def opEq : Op2 := fun x y st => match txts x y with
  | some b => some (.dat (.bool b), st)
  | none => match dataOf st x, dataOf st y with
    | some d, some e => if SeqAt.shaped d && SeqAt.shaped e then some (.dat (.bool (PyData.eqv d e)), st) else none
    | _, _ => none
def opNe : Op2 := fun x y st => match txts x y with
  | some b => some (.dat (.bool (!b)), st)
  | none => match dataOf st x, dataOf st y with
    | some d, some e => if SeqAt.shaped d && SeqAt.shaped e then some (.dat (.bool (!PyData.eqv d e)), st) else none
    | _, _ => none
theorem txts_some {x y : W} {b : Bool} (h : txts x y = some b) : ∃ a c, x = .dat (.str a) ∧ y = .dat (.str c) ∧ b = decide (a = c) := by
  unfold txts at h
  split at h
  · cases h; exact ⟨_, _, rfl, rfl, rfl⟩
  · cases h
theorem dec_vstr (a c : Str) : decide (V.str a = V.str c) = decide (a = c) := decide_eq_decide.mpr ⟨fun e => V.str.inj e, fun e => by rw [e]⟩
theorem o_eq (hu : X.A.units + 64 < cLine) : OpR X (compareOp .Eq) (T2 X.K opEq) := by
  intro pins s σ H x y v u Q I rx ry ⟨st, μ, hid, wx, wy, w, st', sd, hx, hy, e, q⟩
  unfold opEq at e
  split at e
  · rename_i b hb
    obtain ⟨a, c, rfl, rfl, rfl⟩ := txts_some hb
    cases e
    cases hx with | dat hx => cases hx; cases hy with | dat hy => cases hy; exact op_eq pins s σ H _ _ v u Q I rx ry ⟨rfl, by rw [dec_vstr]; exact q.here sd (.dat (.bl _))⟩
  · split at e
    · rename_i d d' h1 h2
      split at e
      · rename_i hs
        rw [Bool.and_eq_true] at hs
        cases e
        exact op_eqD hu pins s σ H x y v u Q I rx ry ⟨d, d', dp_of sd hx h1, dp_of sd hy h2, hs.1, hs.2, q.here sd (.dat (.bl _))⟩
      · cases e
    · cases e
theorem o_ne (hu : X.A.units + 64 < cLine) : OpR X (compareOp .NotEq) (T2 X.K opNe) := by
  intro pins s σ H x y v u Q I rx ry ⟨st, μ, hid, wx, wy, w, st', sd, hx, hy, e, q⟩
  unfold opNe at e
  split at e
  · rename_i b hb
    obtain ⟨a, c, rfl, rfl, rfl⟩ := txts_some hb
    cases e
    cases hx with | dat hx => cases hx; cases hy with | dat hy => cases hy; exact op_ne pins s σ H _ _ v u Q I rx ry ⟨rfl, by rw [dec_vstr]; exact q.here sd (.dat (.bl _))⟩
  · split at e
    · rename_i d d' h1 h2
      split at e
      · rename_i hs
        rw [Bool.and_eq_true] at hs
        cases e
        exact op_neD hu pins s σ H x y v u Q I rx ry ⟨d, d', dp_of sd hx h1, dp_of sd hy h2, hs.1, hs.2, q.here sd (.dat (.bl _))⟩
      · cases e
    · cases e
/-- `in` -/
def opIn (neg : Bool) : Op2 := fun x y st => match dataOf st x, dataOf st y with
  | some d, some (.list ds) => if SeqAt.shaped d && SeqAt.shaped (.list ds) then some (.dat (.bool (neg ^^ ds.any fun z => PyData.eqv z d)), st) else none
  | some d, some (.tuple ds) => if SeqAt.shaped d && SeqAt.shaped (.tuple ds) then some (.dat (.bool (neg ^^ ds.any fun z => PyData.eqv z d)), st) else none
  | _, _ => none
theorem room_tup {d : PyData} {ds : List PyData} {u : Nat} (h : SeqAt.shaped d = true) (hu : u + 65 < cLine) : u + 1 + min (PyData.depthAll ds) d.depth < cLine := by
  have h1 := SeqAt.depth_of_shaped h
  have h2 : min (PyData.depthAll ds) d.depth ≤ d.depth := Nat.min_le_right _ _
  omega
theorem o_in (hu : X.A.units + 65 < cLine) : OpR X (compareOp .In) (T2 X.K (opIn false)) := by
  intro pins s σ H x y v u Q I rx ry ⟨st, μ, hid, wx, wy, w, st', sd, hx, hy, e, q⟩
  unfold opIn at e
  split at e
  · rename_i d ds h1 h2
    split at e
    · rename_i hs
      rw [Bool.and_eq_true] at hs
      cases e
      exact op_inD hu pins s σ H x y v u Q I rx ry ⟨d, ds, dp_of sd hx h1, dp_of sd hy h2, hs.1, hs.2, by have := q.here sd (.dat (.bl _)); simpa using this⟩
    · cases e
  · rename_i d ds h1 h2
    split at e
    · rename_i hs
      rw [Bool.and_eq_true] at hs
      cases e
      obtain ⟨as, r1⟩ := Dp.reads I d x v (dp_of sd hx h1) rx
      obtain ⟨bs, r2⟩ := Dp.reads I (.tuple ds) y u (dp_of sd hy h2) ry
      exact SeqAt.in_tuple_reads r2 r1 (SeqAt.canLay_of_shaped hs.2) (SeqAt.canLay_of_shaped hs.1) (room_tup hs.1 hu) ⟨.bl _, H, I, rfl, by have := q.here sd (.dat (.bl _)); simpa using this⟩
    · cases e
  · cases e
theorem o_notIn (hu : X.A.units + 65 < cLine) : OpR X (compareOp .NotIn) (T2 X.K (opIn true)) := by
  intro pins s σ H x y v u Q I rx ry ⟨st, μ, hid, wx, wy, w, st', sd, hx, hy, e, q⟩
  unfold opIn at e
  split at e
  · rename_i d ds h1 h2
    split at e
    · rename_i hs
      rw [Bool.and_eq_true] at hs
      cases e
      exact op_notInD hu pins s σ H x y v u Q I rx ry ⟨d, ds, dp_of sd hx h1, dp_of sd hy h2, hs.1, hs.2, by have := q.here sd (.dat (.bl _)); simpa using this⟩
    · cases e
  · rename_i d ds h1 h2
    split at e
    · rename_i hs
      rw [Bool.and_eq_true] at hs
      cases e
      obtain ⟨as, r1⟩ := Dp.reads I d x v (dp_of sd hx h1) rx
      obtain ⟨bs, r2⟩ := Dp.reads I (.tuple ds) y u (dp_of sd hy h2) ry
      exact SeqAt.notIn_tuple_reads r2 r1 (SeqAt.canLay_of_shaped hs.2) (SeqAt.canLay_of_shaped hs.1) (room_tup hs.1 hu) ⟨.bl _, H, I, rfl, by have := q.here sd (.dat (.bl _)); simpa using this⟩
    · cases e
  · cases e
/-- order of ints, of tuples of ints -/
def intOf : PyData → Option Int
  | .int i => some i
  | _ => none
theorem RDs.ints {K : PySem.W.Frag} {M : Hp} : ∀ {vs : List V} {ds : List PyData} {ns : List Int}, RDs K M vs ds → ds.mapM intOf = some ns → vs = ns.map V.int
  | _, _, _, .nil, e => by
    have e' : some ([] : List Int) = some _ := e
    cases e'; rfl
  | _, _, _, .cons (v := v) (d := d) r t, e => by
    rw [List.mapM_cons] at e
    cases d with
    | int d =>
      simp only [intOf, Option.bind_eq_bind, Option.bind_some] at e
      rw [Option.bind_eq_some_iff] at e
      obtain ⟨ds, h1, h2⟩ := e
      cases h2
      cases r
      rw [RDs.ints t h1]; rfl
    | _ => simp [intOf] at e
def opLt : Op2
  | .dat (.int i), .dat (.int j), st => some (.dat (.bool (decide (i < j))), st)
  | .dat (.tuple xs), .dat (.tuple ys), st => match xs.mapM intOf, ys.mapM intOf with
    | some ns, some ms => some (.dat (.bool (HT.lexLt ns ms)), st)
    | _, _ => none
  | _, _, _ => none
theorem o_lt (hu : X.A.units < cLine) : OpR X (compareOp .Lt) (T2 X.K opLt) := by
  intro pins s σ H x y v u Q I rx ry ⟨st, μ, hid, wx, wy, w, st', sd, hx, hy, e, q⟩
  unfold opLt at e
  split at e
  · cases hx with | dat hx => cases hx; cases hy with | dat hy => cases hy; cases e; exact op_lt pins s σ H _ _ v u Q I rx ry ⟨_, _, rfl, rfl, q.here sd (.dat (.bl _))⟩
  · split at e
    · rename_i ns ms h1 h2
      cases hx with
      | dat hx => cases hx with
        | tup ax _ rxs => cases hy with
          | dat hy => cases hy with
            | tup ay _ rys =>
              cases e
              have e1 := rxs.ints h1
              have e2 := rys.ints h2
              subst e1 e2
              exact op_ltT hu pins s σ H _ _ v u Q I rx ry ⟨_, _, ns, ms, rfl, rfl, sameT mask_le ax, sameT mask_le ay, q.here sd (.dat (.bl _))⟩
    · cases e
  · cases e
def opLe : Op2
  | .dat (.int i), .dat (.int j), st => some (.dat (.bool (decide (i ≤ j))), st)
  | .dat (.tuple xs), .dat (.tuple ys), st => match xs.mapM intOf, ys.mapM intOf with
    | some ns, some ms => some (.dat (.bool (!HT.lexLt ms ns)), st)
    | _, _ => none
  | _, _, _ => none
theorem lexAt_shift (e r : Nat → Bool) (z : Bool) : ∀ (k i : Nat), Ob.lexAt e r z (i + 1) k = Ob.lexAt (fun j => e (j + 1)) (fun j => r (j + 1)) z i k
  | 0, _ => rfl
  | k + 1, i => by
    rw [Ob.lexAt_succ, Ob.lexAt_succ, lexAt_shift e r z k (i + 1)]
theorem lexAt_le : ∀ (ns ms : List Int), Ob.lexAt (fun j => decide (ns.getD j 0 = ms.getD j 0)) (fun j => decide (ns.getD j 0 ≤ ms.getD j 0)) (decide (ns.length ≤ ms.length)) 0 (min ns.length ms.length) = !HT.lexLt ms ns
  | [], [] => rfl
  | [], m :: ms => by simp [Ob.lexAt, HT.lexLt]
  | n :: ns, [] => by simp [Ob.lexAt, HT.lexLt]
  | n :: ns, m :: ms => by
    have ih := lexAt_le ns ms
    rw [show min (n :: ns).length (m :: ms).length = min ns.length ms.length + 1 by simp only [List.length_cons]; omega, Ob.lexAt_succ, lexAt_shift]
    simp only [List.getD_cons_zero, List.getD_cons_succ, List.length_cons, Nat.add_le_add_iff_right, HT.lexLt]
    by_cases h : n = m
    · subst h; simp; exact ih
    · have h' : ¬ m = n := fun z => h z.symm
      simp only [h, h', decide_false, Bool.false_eq_true, if_false]
      by_cases h2 : n ≤ m
      · have : ¬ m < n := by omega
        simp [h2, this]
      · have : m < n := by omega
        simp [h2, this]
theorem o_le (hu : X.A.units < cLine) : OpR X (compareOp .LtE) (T2 X.K opLe) := by
  intro pins s σ H x y v u Q I rx ry ⟨st, μ, hid, wx, wy, w, st', sd, hx, hy, e, q⟩
  unfold opLe at e
  split at e
  · cases hx with | dat hx => cases hx; cases hy with | dat hy => cases hy; cases e; exact op_le pins s σ H _ _ v u Q I rx ry ⟨_, _, rfl, rfl, q.here sd (.dat (.bl _))⟩
  · split at e
    · rename_i ns ms h1 h2
      cases hx with
      | dat hx => cases hx with
        | tup ax _ rxs => cases hy with
          | dat hy => cases hy with
            | tup ay _ rys =>
              cases e
              have e1 := rxs.ints h1
              have e2 := rys.ints h2
              subst e1 e2
              refine op_leT hu pins s σ H _ _ v u Q I rx ry ⟨_, _, ns, ms, rfl, rfl, sameT mask_le ax, sameT mask_le ay, ?_⟩
              rw [lexAt_le]
              exact q.here sd (.dat (.bl _))
    · cases e
  · cases e
def opGt : Op2
  | .dat (.int i), .dat (.int j), st => some (.dat (.bool (decide (j < i))), st)
  | _, _, _ => none
theorem o_gt : OpR X (compareOp .Gt) (T2 X.K opGt) := by
  intro pins s σ H x y v u Q I rx ry ⟨st, μ, hid, wx, wy, w, st', sd, hx, hy, e, q⟩
  unfold opGt at e
  split at e
  · cases hx with | dat hx => cases hx; cases hy with | dat hy => cases hy; cases e; exact op_gt pins s σ H _ _ v u Q I rx ry ⟨_, _, rfl, rfl, q.here sd (.dat (.bl _))⟩
  · cases e
def opGe : Op2
  | .dat (.int i), .dat (.int j), st => some (.dat (.bool (decide (j ≤ i))), st)
  | _, _, _ => none
theorem o_ge : OpR X (compareOp .GtE) (T2 X.K opGe) := by
  intro pins s σ H x y v u Q I rx ry ⟨st, μ, hid, wx, wy, w, st', sd, hx, hy, e, q⟩
  unfold opGe at e
  split at e
  · cases hx with | dat hx => cases hx; cases hy with | dat hy => cases hy; cases e; exact op_ge pins s σ H _ _ v u Q I rx ry ⟨_, _, rfl, rfl, q.here sd (.dat (.bl _))⟩
  · cases e
/-- is, is not: of None and of bools -/
def opIs (neg : Bool) : Op2
  | .dat (.bool a), .dat (.bool b), st => some (.dat (.bool (neg ^^ decide (a = b))), st)
  | .dat d, .dat .none, st => some (.dat (.bool (neg ^^ (match d with | .none => true | _ => false))), st)
  | .loc _, .dat .none, st => some (.dat (.bool neg), st)
  | _, _, _ => none
theorem o_is : OpR X (compareOp .Is) (T2 X.K (opIs false)) := by
  intro pins s σ H x y v u Q I rx ry ⟨st, μ, hid, wx, wy, w, st', sd, hx, hy, e, q⟩
  unfold opIs at e
  split at e
  · cases hx with | dat hx => cases hx; cases hy with | dat hy => cases hy; cases e; exact op_is_bl pins s σ H _ _ v u Q I rx ry ⟨_, _, rfl, rfl, by have := q.here sd (.dat (.bl _)); simpa using this⟩
  · cases hy with | dat hy => cases hy; cases e; refine op_isN pins s σ H _ _ v u Q I rx ry ⟨rfl, ?_⟩; (cases hx with | dat hx => cases hx <;> (have := q.here sd (.dat (.bl _)); simpa using this))
  · cases hy with | dat hy => cases hy; cases e; refine op_isN pins s σ H _ _ v u Q I rx ry ⟨rfl, ?_⟩; cases hx; have := q.here sd (.dat (.bl _)); simpa using this
  · cases e
theorem o_isNot : OpR X (compareOp .IsNot) (T2 X.K (opIs true)) := by
  intro pins s σ H x y v u Q I rx ry ⟨st, μ, hid, wx, wy, w, st', sd, hx, hy, e, q⟩
  unfold opIs at e
  split at e
  · cases hx with | dat hx => cases hx; cases hy with | dat hy => cases hy; cases e; exact op_isnot_bl pins s σ H _ _ v u Q I rx ry ⟨_, _, rfl, rfl, by have := q.here sd (.dat (.bl _)); simpa using this⟩
  · cases hy with | dat hy => cases hy; cases e; refine op_notN pins s σ H _ _ v u Q I rx ry ⟨rfl, ?_⟩; (cases hx with | dat hx => cases hx <;> (have := q.here sd (.dat (.bl _)); simpa using this))
  · cases hy with | dat hy => cases hy; cases e; refine op_notN pins s σ H _ _ v u Q I rx ry ⟨rfl, ?_⟩; cases hx; have := q.here sd (.dat (.bl _)); simpa using this
  · cases e
end
end L3
set_option Elab.async false
set_option linter.all false
set_option maxRecDepth 100000
set_option maxHeartbeats 4000000
set_option autoImplicit false
/-! L3: built-in calls by values, subscripts, tests. -/
namespace L3
open PySem PySem.Spec PyProof.Rows L2
section
variable {X : Cx}

theorem rw1 {K : PySem.W.Frag} {M : Hp} {μ : List Addr} {xs : List V} {w : W} (r : RWs K M μ xs [w]) : ∃ x, xs = [x] ∧ RW K M μ x w := by
  cases r with
  | cons a b => cases b; exact ⟨_, rfl, a⟩
theorem rw2 {K : PySem.W.Frag} {M : Hp} {μ : List Addr} {xs : List V} {w w' : W} (r : RWs K M μ xs [w, w']) : ∃ x y, xs = [x, y] ∧ RW K M μ x w ∧ RW K M μ y w' := by
  cases r with
  | cons a b => cases b with
    | cons c d => cases d; exact ⟨_, _, rfl, a, c⟩

def opLen : OpN
  | [.dat (.str x)], st => if x.length ≤ sizeLine then some (.dat (.int x.length), st) else none
  | [.loc n], st => match st[n]? with
    | some (.list ws) => some (.dat (.int ws.length), st)
    | some (.dict ws) => some (.dat (.int ws.length), st)
    | none => none
  | [w], st => match seqOf st w with
    | some ws => some (.dat (.int ws.length), st)
    | none => none
  | _, _ => none
theorem o_len : CallR X (.builtin "len") (TN X.K opLen) := by
  intro pins s σ H xs us Q I r ⟨st, μ, hid, ws, w, st', sd, hx, e, q⟩
  unfold opLen at e
  split at e
  · obtain ⟨x, rfl, rx⟩ := rw1 hx
    split at e
    · rename_i hz
      cases rx with | dat rx => cases rx; cases e; exact call_len_str pins s σ H _ us Q I r ⟨_, rfl, hz, q.here sd (.dat (.int _))⟩
    · cases e
  · obtain ⟨x, rfl, rx⟩ := rw1 hx
    cases rx with
    | loc ha =>
      split at e
      · rename_i hw
        cases e
        cases sd.at hw ha with
        | list h2 h3 h4 =>
          have hl : _ = _ := Paired.length h4
          exact call_len_seq pins s σ H _ us Q I r ⟨_, _, rfl, .inl (SqL.of h2), by rw [hl]; exact q.here sd (.dat (.int _))⟩
      · rename_i hw
        cases e
        cases sd.at hw ha with
        | dict h2 h3 h4 =>
          have hl : _ = _ := Paired.length h4
          exact call_lenD pins s σ H _ us Q I r ⟨_, _, rfl, h2, by rw [hl]; exact q.here sd (.dat (.int _))⟩
      · cases e
  · obtain ⟨x, rfl, rx⟩ := rw1 hx
    split at e
    · rename_i ws hw
      cases e
      obtain ⟨_, a, vs, rfl, hq, hr⟩ := seq_of sd rx hw
      have hl : vs.length = ws.length := Paired.length hr
      exact call_len_seq pins s σ H _ us Q I r ⟨_, _, rfl, hq, by rw [hl]; exact q.here sd (.dat (.int _))⟩
    · cases e
  · cases e
/-- tuple(x), list(x) -/
def tupOf : W → Option (List PyData)
  | .dat (.tuple ds) => some ds
  | _ => none
def opTuple : OpN
  | [w], st => match tupOf w with
    | some ds => some (.dat (.tuple ds), st)
    | none => match seqOf st w with
      | some ws => match ws.mapM datOf with
        | some ds => some (.dat (.tuple ds), st)
        | none => none
      | none => none
  | _, _ => none
theorem mapM_len {ws : List W} : ∀ {ds : List PyData}, ws.mapM datOf = some ds → ds.length = ws.length := by
  induction ws with
  | nil => intro ds e; have e' : some ([] : List PyData) = some ds := e; cases e'; rfl
  | cons w ws ih =>
    intro ds e
    rw [List.mapM_cons] at e
    cases w with
    | dat d =>
      simp only [datOf, Option.bind_eq_bind, Option.bind_some] at e
      rw [Option.bind_eq_some_iff] at e
      obtain ⟨ds', h1, h2⟩ := e
      cases h2
      rw [List.length_cons, List.length_cons, ih h1]
    | _ => simp [datOf] at e
theorem seqL_of {K : PySem.W.Frag} {H : Hp} {st : Store} {μ hid : List Addr} (sd : Sd K H st μ hid) {v : V} {w : W} {ws : List W} (r : RW K (mask H (μ ++ hid)) μ v w) (e : seqOf st w = some ws) (hn : ∀ ds, w ≠ .dat (.tuple ds)) :
    ws.length ≤ sizeLine ∧ ∃ a xs, v = .ref a ∧ SqL K H a xs ∧ RWs K (mask H (μ ++ hid)) μ xs ws := by
  cases r with
  | dat h => cases h with
    | lst h z r => cases e; exact ⟨by rw [List.length_map]; exact z, _, _, rfl, SqL.of (mask_le _ _ h), r.ws⟩
    | tup h z r => exact absurd rfl (hn _)
    | _ => cases e
  | frz h z r => cases e; exact ⟨by rw [List.length_map]; exact z, _, _, rfl, Same.sqL mask_le h, r.ws⟩
  | loc h =>
    simp only [seqOf] at e
    split at e
    · rename_i ws' hw
      cases e
      cases sd.at hw h with
      | list h2 h3 h4 => exact ⟨h3, _, _, rfl, SqL.of h2, h4⟩
    · cases e
  | _ => cases e
theorem o_tuple : CallR X (.type "tuple") (TN X.K opTuple) := by
  intro pins s σ H xs us Q I r ⟨st, μ, hid, ws, w, st', sd, hx, e, q⟩
  unfold opTuple at e
  split at e
  · obtain ⟨x, rfl, rx⟩ := rw1 hx
    split at e
    · rename_i ds ht
      cases e
      cases rx with
      | dat rx =>
        cases rx with
        | tup h z rr => cases ht; exact call_tuple_of pins s σ H _ us Q I r ⟨_, _, rfl, .inr ⟨sameT mask_le h, q.here sd (.dat (.tup h z rr))⟩⟩
        | _ => cases ht
      | _ => cases ht
    · rename_i ht
      split at e
      · rename_i ws hw
        split at e
        · rename_i ds hd
          cases e
          have hn := mapM_len hd
          obtain ⟨hz, a, vs, rfl, hq, hr⟩ := seqL_of sd rx hw (by
            intro ds hd
            rw [hd] at ht
            cases ht)
          exact call_tuple_of pins s σ H _ us Q I r ⟨_, _, rfl, .inl ⟨hq, fun p hp => q.new sd hp (.dat (RD.tupNew sd hp (by omega) (hr.dat hd)))⟩⟩
        · cases e
      · cases e
  · cases e
def opList : OpN
  | [w], st => match seqOf st w with
    | some ws => match ws.mapM datOf with
      | some ds => some (.dat (.list ds), st)
      | none => none
    | none => none
  | _, _ => none
theorem o_list : CallR X (.type "list") (TN X.K opList) := by
  intro pins s σ H xs us Q I r ⟨st, μ, hid, ws, w, st', sd, hx, e, q⟩
  unfold opList at e
  split at e
  · obtain ⟨x, rfl, rx⟩ := rw1 hx
    split at e
    · rename_i ws hw
      split at e
      · rename_i ds hd
        cases e
        obtain ⟨hz, a, vs, rfl, hq, hr⟩ := seq_of sd rx hw
        have hn := mapM_len hd
        exact call_list_of pins s σ H _ us Q I r ⟨_, _, rfl, hq, fun p hp => q.new sd hp (.dat (RD.lstNew sd hp (by omega) (hr.dat hd)))⟩
      · cases e
    · cases e
  · cases e
def opListNew : OpN
  | [w], st => match seqOf st w with
    | some ws => some (.loc st.length, st ++ [.list ws])
    | none => none
  | _, _ => none
theorem Out.cell {K : PySem.W.Frag} {H : Hp} {μ hid : List Addr} {st : Store} {c : Cell} {Q : VK} (o : Out K H μ hid (.loc st.length) (st ++ [c]) Q) (s : Sd K H st μ hid) {p : Addr} {u : HO} (h : H p = none)
    (r : COk K (mask H (μ ++ hid)) (μ ++ [p]) (upd H p u) p c) : Q (.ref p) (upd H p u) :=
  o _ _ (μ ++ [p]) (Nx.cell s h) (s.newCell h r) (.loc (by rw [← s.len, List.getElem?_append_right (Nat.le_refl _), Nat.sub_self]; rfl))
theorem o_listNew : CallR X (.type "list") (TN X.K opListNew) := by
  intro pins s σ H xs us Q I r ⟨st, μ, hid, ws, w, st', sd, hx, e, q⟩
  unfold opListNew at e
  split at e
  · obtain ⟨x, rfl, rx⟩ := rw1 hx
    split at e
    · rename_i ws hw
      cases e
      obtain ⟨hz, a, vs, rfl, hq, hr⟩ := seq_of sd rx hw
      exact call_list_of pins s σ H _ us Q I r ⟨_, _, rfl, hq, fun p hp => q.cell sd hp (.list upd_same hz (hr.mono (fun _ _ e => e) (List.prefix_append _ _)))⟩
    · cases e
  · cases e
/-- of ints -/
def opAbs : OpN
  | [.dat (.int i)], st => some (.dat (.int (if i < 0 then -i else i)), st)
  | _, _ => none
theorem o_abs : CallR X (.builtin "abs") (TN X.K opAbs) := by
  intro pins s σ H xs us Q I r ⟨st, μ, hid, ws, w, st', sd, hx, e, q⟩
  unfold opAbs at e
  split at e
  · obtain ⟨x, rfl, rx⟩ := rw1 hx
    cases rx with | dat rx => cases rx; cases e; exact call_abs pins s σ H _ us Q I r ⟨_, rfl, q.here sd (.dat (.int _))⟩
  · cases e
def opInt : OpN
  | [.dat (.int i)], st => some (.dat (.int i), st)
  | _, _ => none
theorem o_int : CallR X (.type "int") (TN X.K opInt) := by
  intro pins s σ H xs us Q I r ⟨st, μ, hid, ws, w, st', sd, hx, e, q⟩
  unfold opInt at e
  split at e
  · obtain ⟨x, rfl, rx⟩ := rw1 hx
    cases rx with | dat rx => cases rx; cases e; exact call_int1 pins s σ H _ us Q I r (.inl ⟨_, rfl, q.here sd (.dat (.int _))⟩)
  · cases e
def opMax : OpN
  | [.dat (.int i), .dat (.int j)], st => some (.dat (.int (if j > i then j else i)), st)
  | _, _ => none
theorem o_max (hc : X.calm = true) : CallR X (.builtin "max") (TN X.K opMax) := by
  intro pins s σ H xs us Q I r ⟨st, μ, hid, ws, w, st', sd, hx, e, q⟩
  unfold opMax at e
  split at e
  · obtain ⟨x, y, rfl, rx, ry⟩ := rw2 hx
    cases rx with | dat rx => cases rx; cases ry with | dat ry => cases ry; cases e; exact call_max2 hc pins s σ H _ us Q I r ⟨_, _, rfl, q.here sd (.dat (.int _))⟩
  · cases e
def opMin : OpN
  | [.dat (.int i), .dat (.int j)], st => some (.dat (.int (if j < i then j else i)), st)
  | _, _ => none
theorem o_min (hc : X.calm = true) : CallR X (.builtin "min") (TN X.K opMin) := by
  intro pins s σ H xs us Q I r ⟨st, μ, hid, ws, w, st', sd, hx, e, q⟩
  unfold opMin at e
  split at e
  · obtain ⟨x, y, rfl, rx, ry⟩ := rw2 hx
    cases rx with | dat rx => cases rx; cases ry with | dat ry => cases ry; cases e; exact call_min2 hc pins s σ H _ us Q I r ⟨_, _, rfl, q.here sd (.dat (.int _))⟩
  · cases e
def opDivmod : OpN
  | [.dat (.int i), .dat (.int j)], st => if 0 < j ∧ Builtin.divisionGoesByPylong i j = false then some (.dat (.tuple [.int (i / j), .int (i % j)]), st) else none
  | _, _ => none
theorem o_divmod : CallR X (.builtin "divmod") (TN X.K opDivmod) := by
  intro pins s σ H xs us Q I r ⟨st, μ, hid, ws, w, st', sd, hx, e, q⟩
  unfold opDivmod at e
  split at e
  · obtain ⟨x, y, rfl, rx, ry⟩ := rw2 hx
    split at e
    · rename_i hj
      cases rx with | dat rx => cases rx; cases ry with | dat ry => cases ry; cases e; exact call_divmodW pins s σ H _ us Q I r ⟨_, _, rfl, hj, fun p hp => q.new sd hp (.dat (RD.tupNew sd hp (by show 2 ≤ sizeLine; decide) (.cons (.int _) (.cons (.int _) .nil))))⟩
    · cases e
  · cases e
/-- lists of bools -/
def boolOf : PyData → Option Bool
  | .bool i => some i
  | _ => none
theorem RDs.bools {K : PySem.W.Frag} {M : Hp} : ∀ {vs : List V} {ds : List PyData} {ns : List Bool}, RDs K M vs ds → ds.mapM boolOf = some ns → vs = ns.map V.bl
  | _, _, _, .nil, e => by
    have e' : some ([] : List Bool) = some _ := e
    cases e'; rfl
  | _, _, _, .cons (v := v) (d := d) r t, e => by
    rw [List.mapM_cons] at e
    cases d with
    | bool d =>
      simp only [boolOf, Option.bind_eq_bind, Option.bind_some] at e
      rw [Option.bind_eq_some_iff] at e
      obtain ⟨ds, h1, h2⟩ := e
      cases h2
      cases r
      rw [RDs.bools t h1]; rfl
    | _ => simp [boolOf] at e
def opAll : OpN
  | [.dat (.list ds)], st => match ds.mapM boolOf with
    | some bs => some (.dat (.bool (bs.all id)), st)
    | none => none
  | _, _ => none
def opAny : OpN
  | [.dat (.list ds)], st => match ds.mapM boolOf with
    | some bs => some (.dat (.bool (bs.any id)), st)
    | none => none
  | _, _ => none
theorem o_all (hc : X.calm = true) : CallR X (.builtin "all") (TN X.K opAll) := by
  intro pins s σ H xs us Q I r ⟨st, μ, hid, ws, w, st', sd, hx, e, q⟩
  unfold opAll at e
  split at e
  · obtain ⟨x, rfl, rx⟩ := rw1 hx
    split at e
    · rename_i bs hb
      cases e
      cases rx with
      | dat rx => cases rx with
        | lst h _ rr =>
          have := rr.bools hb
          subst this
          exact cr_all hc pins s σ H _ us Q I r ⟨_, bs, rfl, SqL.of (mask_le _ _ h), q.here sd (.dat (.bl _))⟩
    · cases e
  · cases e
theorem o_any (hc : X.calm = true) : CallR X (.builtin "any") (TN X.K opAny) := by
  intro pins s σ H xs us Q I r ⟨st, μ, hid, ws, w, st', sd, hx, e, q⟩
  unfold opAny at e
  split at e
  · obtain ⟨x, rfl, rx⟩ := rw1 hx
    split at e
    · rename_i bs hb
      cases e
      cases rx with
      | dat rx => cases rx with
        | lst h _ rr =>
          have := rr.bools hb
          subst this
          exact cr_any hc pins s σ H _ us Q I r ⟨_, bs, rfl, SqL.of (mask_le _ _ h), q.here sd (.dat (.bl _))⟩
    · cases e
  · cases e
def opSum : OpN
  | [.dat (.list ds)], st => match ds.mapM intOf with
    | some bs => some (.dat (.int bs.sum), st)
    | none => none
  | _, _ => none
theorem o_sum (hc : X.calm = true) : CallR X (.builtin "sum") (TN X.K opSum) := by
  intro pins s σ H xs us Q I r ⟨st, μ, hid, ws, w, st', sd, hx, e, q⟩
  unfold opSum at e
  split at e
  · obtain ⟨x, rfl, rx⟩ := rw1 hx
    split at e
    · rename_i bs hb
      cases e
      cases rx with
      | dat rx => cases rx with
        | lst h _ rr =>
          have := rr.ints hb
          subst this
          exact cr_sum hc pins s σ H _ us Q I r ⟨_, bs, rfl, SqL.of (mask_le _ _ h), q.here sd (.dat (.int _))⟩
    · cases e
  · cases e
/-- repr -/
def opRepr : OpN
  | [w], st => match w with
    | .dat d => if d.showable = true ∧ d.hasDict = false ∧ d.depth ≤ 64 ∧ d.shown.length ≤ sizeLine then some (.dat (.str d.shown), st) else none
    | _ => none
  | _, _ => none
theorem o_repr (hg : X.A.guards = some []) (hu : X.A.units + 100 < cLine) : CallR X (.builtin "repr") (TN X.K opRepr) := by
  intro pins s σ H xs us Q I r ⟨st, μ, hid, ws, w, st', sd, hx, e, q⟩
  unfold opRepr at e
  split at e
  · obtain ⟨x, rfl, rx⟩ := rw1 hx
    split at e
    · rename_i d
      split at e
      · rename_i hc
        obtain ⟨h1, h2, h3, h4⟩ := hc
        cases e
        obtain ⟨u, rfl, ru⟩ := vals1 r
        obtain ⟨as, rr⟩ := Dp.reads I d x u (dp_of sd rx rfl) ru
        have fin : ∀ h' t tk, (∀ b o, s.heap.get? b = some o → h'.get? b = some o) → EP X pins σ Q (.str d.shown t) { s with heap := h', toks := tk } := fun h' t tk hk =>
          ⟨.str d.shown, H, I.kept hk, ⟨_, rfl⟩, q.here sd (.dat (.str _))⟩
        cases rx with
        | dat rx =>
          cases rx with
          | non => cases ru; exact PySem.P.repr_of_none (fin s.heap _ _ fun _ _ e => e)
          | bl b => cases ru; exact PySem.P.repr_of_bool (fin s.heap _ _ fun _ _ e => e)
          | int i => obtain ⟨t, hh⟩ := ru; cases hh; exact PySem.P.repr_of_int (of_decide_eq_true h1) (fin s.heap _ _ fun _ _ e => e)
          | str i => obtain ⟨t, hh⟩ := ru; cases hh; exact PySem.P.repr_of_str (fin s.heap _ _ fun _ _ e => e) h4
          | lst _ _ _ => cases ru; exact repr_of_reads' rr h1 (fun h => by rw [h2] at h; cases h) hg (by omega) (fun _ _ e => e) (fun h' t tk hk => fin h' t tk hk) h4
          | tup _ _ _ => cases ru; exact repr_of_reads' rr h1 (fun h => by rw [h2] at h; cases h) hg (by omega) (fun _ _ e => e) (fun h' t tk hk => fin h' t tk hk) h4
      · cases e
    · cases e
  · cases e
end
end L3
set_option Elab.async false
set_option linter.all false
set_option maxRecDepth 100000
set_option maxHeartbeats 4000000
set_option autoImplicit false
/-! L3: isinstance, sorted, sets, subscripts, ranges, tests. -/
namespace L3
open PySem PySem.Spec PyProof.Rows L2
section
variable {X : Cx} {a b c : Expr} {pos : Pos} {f g : Ev}

/-! ### isinstance -/
def tyName (st : Store) : W → Option String
  | .dat .none => some "NoneType"
  | .dat (.bool _) => some "bool"
  | .dat (.int _) => some "int"
  | .dat (.str _) => some "str"
  | .dat (.list _) => some "list"
  | .dat (.tuple _) => some "tuple"
  | .loc n => match st[n]? with
    | some (.list _) => some "list"
    | some (.dict _) => some "dict"
    | none => none
  | _ => none
theorem ty_of {K : PySem.W.Frag} {H : Hp} {st : Store} {μ hid : List Addr} (sd : Sd K H st μ hid) (I : True) {v : V} {w : W} {n : String} (r : RW K (mask H (μ ++ hid)) μ v w) (e : tyName st w = some n) : TyX K H v (.type n) := by
  cases r with
  | dat h =>
    cases h with
    | non => cases e; exact .base .non
    | bl b => cases e; exact .base (.bl b)
    | int i => cases e; exact .base (.int i)
    | str x => cases e; exact .base (.str x)
    | lst h _ _ => cases e; exact .base (.lst (mask_le _ _ h))
    | tup h _ _ =>
      cases e
      rcases sameT (mask_le (H := H) (l := μ ++ hid)) h with (h | ⟨o, h⟩) | ⟨o, its, n, h1, h2, _⟩
      · exact .base (.tup h)
      · exact .fTuple h
      · exact .kTuple h1 h2
  | loc ha =>
    simp only [tyName] at e
    split at e
    · rename_i hw; cases e; cases sd.at hw ha with | list h2 _ _ => exact .base (.lst h2)
    · rename_i hw; cases e; cases sd.at hw ha with | dict h2 _ _ => exact .base (.dK h2)
    · cases e
  | _ => cases e
def kitAnyB (t : String) : List String → Option Bool
  | [] => some false
  | n :: r => match kitB t n with
    | some true => some true
    | some false => kitAnyB t r
    | none => none
theorem kitAny_of {K : PySem.W.Frag} {t : String} : ∀ {ns : List String} {b : Bool}, kitAnyB t ns = some b → PySem.W.kitAny K (.type t) (ns.map Value.type) = some b
  | [], _, e => by cases e; rfl
  | n :: r, b, e => by
    unfold kitAnyB at e
    cases h : kitB t n with
    | none => rw [h] at e; cases e
    | some x =>
      rw [h] at e
      refine kitAny_cons (kit_ty h) (fun hb => ?_) fun hb => ?_
      · subst hb; exact kitAny_of e
      · subst hb; cases e; rfl
def opIsinst : OpN
  | [w, .ty n], st => match tyName st w with
    | some t => match kitB t n with
      | some b => some (.dat (.bool b), st)
      | none => none
    | none => none
  | [w, .tys ns], st => match tyName st w with
    | some t => match kitAnyB t ns with
      | some b => some (.dat (.bool b), st)
      | none => none
    | none => none
  | _, _ => none
theorem clsTys : ∀ ns : List String, Paired ClsV (ns.map V.ty) (ns.map Value.type)
  | [] => .nil
  | n :: r => .cons (.ty n) (clsTys r)
theorem o_isinst : CallR X (.builtin "isinstance") (TN X.K opIsinst) := by
  intro pins s σ H xs us Q I r ⟨st, μ, hid, ws, w, st', sd, hx, e, q⟩
  unfold opIsinst at e
  split at e
  · obtain ⟨x, y, rfl, rx, ry⟩ := rw2 hx
    split at e
    · rename_i t ht
      split at e
      · rename_i b hb
        cases e
        cases ry
        exact call_isi pins s σ H _ us Q I r ⟨_, _, _, _, b, rfl, .ty _, ty_of sd trivial rx ht, kit_ty hb, q.here sd (.dat (.bl _))⟩
      · cases e
    · cases e
  · obtain ⟨x, y, rfl, rx, ry⟩ := rw2 hx
    split at e
    · rename_i t ht
      split at e
      · rename_i b hb
        cases e
        cases ry with
        | tys h => exact call_isiT pins s σ H _ us Q I r ⟨_, _, _, _, _, b, rfl, mask_le _ _ h, clsTys _, ty_of sd trivial rx ht, kitAny_of hb, q.here sd (.dat (.bl _))⟩
      · cases e
    · cases e
  · cases e

/-! ### sorted -/
def allAlike (ds : List PyData) : Bool := ds.all fun d => ds.all fun d' => PySem.W.alike d d'
def isTupC : PyData → Bool
  | .tuple (_ :: _) => true
  | _ => false
def isFlatC : PyData → Bool
  | .tuple _ => false
  | .none => false
  | _ => true
def sortable (ds : List PyData) : Bool := ds.all isTupC || ds.all isFlatC
def srt (ds : List PyData) : List PyData := ds.mergeSort (PySem.W.dataLe false id)
def opSorted : OpN
  | [w], st => match seqOf st w with
    | some ws => match ws.mapM datOf with
      | some ds => if allAlike ds = true ∧ sortable ds = true ∧ (ds.all fun d => decide (d.depth ≤ 64)) = true then some (.dat (.list (srt ds)), st) else none
      | none => none
    | none => none
  | _, _ => none
theorem each_of {K : PySem.W.Frag} {M : Hp} : ∀ {vs : List V} {us : List Value} {ds : List PyData}, Vals vs us → RDs K M vs ds → PySem.W.EachIs (fun (u : Value) (d : PyData) => ∃ v, RelV v u ∧ RD K M v d) us ds
  | _, _, _, .nil, .nil => .nil
  | _, _, _, .cons r t, .cons r' t' => .cons ⟨_, r, r'⟩ (each_of t t')
theorem of_each {K : PySem.W.Frag} {M : Hp} : ∀ {us : List Value} {ds : List PyData}, PySem.W.EachIs (fun (u : Value) (d : PyData) => ∃ v, RelV v u ∧ RD K M v d) us ds → ∃ vs, Vals vs us ∧ RDs K M vs ds
  | _, _, .nil => ⟨[], .nil, .nil⟩
  | _, _, .cons ⟨v, r, r'⟩ t => by
    obtain ⟨vs, h1, h2⟩ := of_each t
    exact ⟨v :: vs, .cons r h1, .cons r' h2⟩
theorem each_reads {K : PySem.W.Frag} {H : Hp} {hid : List Addr} {pins : List (Addr × Obj)} {σ : L2.St} {s : Shared} (I : Inv X pins σ H s) (hK : K = X.K) : ∀ {us : List Value} {ds : List PyData}, PySem.W.EachIs (fun (u : Value) (d : PyData) => ∃ v, RelV v u ∧ RD K (mask H hid) v d) us ds →
    PySem.W.EachIs (fun (u : Value) (d : PyData) => ∃ as, Reads s.heap u (id d) as) us ds
  | _, _, .nil => .nil
  | _, _, .cons (b := d) ⟨v, r, r'⟩ t => .cons (by subst hK; exact Dp.reads I d v _ (r'.mono mask_le).dp r) (each_reads I hK t)
/-- sorted(t) of a tuple -/
theorem sorted_tupD {prog : Program} {w : World} {A : Around} {E : Value → Shared → Prop} {s : Shared} {t : Addr} {vs : List Value} {ds : List PyData} {R : Value → PyData → Prop} {Q : Value → Shared → Prop} (ht : s.heap.IsTuple t vs.toArray) (e : PySem.W.EachIs R vs ds)
    (er : PySem.W.EachIs (fun (v : Value) (d : PyData) => ∃ as, Reads s.heap v (id d) as) vs ds) (hal : PySem.W.AllAlike (ds.map id)) (hk : PySem.W.Sortable (ds.map id)) (hL : vs.length ≤ sizeLine) (hu : ∀ d, d ∈ ds → A.units + 2 + (id d).depth < cLine)
    (h : ∀ (h' H2 : Heap) (out : List Value), (∀ b o, s.heap.get? b = some o → h'.get? b = some o) → (∀ b o, h'.get? b = some o → H2.get? b = some o) → (∃ ep, H2.get? h'.objs.size = some (seqObj "list" out.toArray ep)) → out.length = vs.length → PySem.W.EachIs R out (srt ds) → Q (.ref h'.objs.size) { s with heap := H2 }) :
    wpAny (model prog w) A (call (.builtin "sorted") [.ref t]) Q E s := by
  obtain ⟨o, ho, hc, n, hd⟩ := id ht
  refine Calls.call_function_entry PyProof.Rows.kind_sorted PyProof.Rows.plain_sorted PyProof.Rows.entry_sorted (PyProof.Rows.args_sorted1 _) ?_
  unfold Builtin.«sorted»
  refine wpAny_bind (m := checkCount "sorted" 1 1 _) (wpAny_pure (wpAny_bind (wpAny_collect_seq (n := n) t (.inr rfl) ho hc hd (fun h' hk' => ?_) (by rw [List.size_toArray]; exact hL))))
  refine wpAny_bind (wpAny_newList ?_ hL)
  have hoL : (h'.push (seqObj "list" vs.toArray 0)).get? h'.objs.size = some (seqObj "list" vs.toArray 0) := Heap.get?_push_size _ rfl
  have old : ∀ b o, s.heap.get? b = some o → b ≠ h'.objs.size ∧ (h'.push (seqObj "list" vs.toArray 0)).get? b = some o := fun b o q => ⟨Nat.ne_of_lt (Heap.lt_size (hk' b o q)), Heap.get?_push_of_some _ (hk' b o q)⟩
  have er' : PySem.W.EachIs (fun (v : Value) (d : PyData) => ∃ as, Reads (PySem.W.sortingHeap (h'.push (seqObj "list" vs.toArray 0)) h'.objs.size vs) v (id d) as) vs ds := er.mono fun _ _ ⟨as, r⟩ => ⟨as, PyProof.Rows.Reads.keeps (fun b o q => PySem.W.sortingHeap_old (old b o q).1 (old b o q).2) r⟩
  show wpAny _ _ _ _ _ { s with heap := h'.push (seqObj "list" vs.toArray 0) }
  refine wpAny_bind (wpAny_holding (wpAny_call_entry PyProof.Rows.slot_list_sort ⟨_, hoL, rfl⟩ PyProof.Rows.entry_list_sort (PySem.W.list_sort_vals (s := { s with heap := h'.push (seqObj "list" vs.toArray 0) }) hoL
    (PySem.W.SortsAt.data (s := { s with heap := PySem.W.sortingHeap (h'.push (seqObj "list" vs.toArray 0)) h'.objs.size vs }) (PySem.W.each_map (R := fun v d => ∃ as, Reads (PySem.W.sortingHeap (h'.push (seqObj "list" vs.toArray 0)) h'.objs.size vs) v d as) id er') hal hk (PySem.W.bound_map hu)) hL ⟨_, rfl, ?_⟩) (PyProof.Rows.args_list_sort _)))
  refine wpAny_pure ⟨_, rfl, ?_⟩
  exact h h' _ (PySem.W.sortVals _ false vs vs) hk' (fun b o q => (PyProof.Rows.sortedHeap_old (Nat.ne_of_lt (Heap.lt_size q)) (by rw [size_push']; exact Nat.lt_succ_of_lt (Heap.lt_size q))).trans (Heap.get?_push_of_some _ q)) (PyProof.Rows.sortedHeap_at hoL) (PySem.W.sortVals_length false rfl) (PySem.W.sortVals_data false e er' hal)
theorem o_sorted (hu : X.A.units + 100 < cLine) : CallR X (.builtin "sorted") (TN X.K opSorted) := by
  intro pins s σ H xs us Q I r ⟨st, μ, hid, ws, w, st', sd, hx, e, q⟩
  unfold opSorted at e
  split at e
  · obtain ⟨x, rfl, rx⟩ := rw1 hx
    split at e
    · rename_i ws hw
      split at e
      · rename_i ds hd
        split at e
        · rename_i hc
          obtain ⟨h1, h2, h3⟩ := hc
          cases e
          obtain ⟨hz, a, vs, rfl, hq, hr⟩ := seq_of sd rx hw
          have rd := hr.dat hd
          obtain ⟨its, rv, pl, hzv⟩ : ∃ its : List Value, Vals vs its ∧ (s.heap.IsList a its.toArray ∨ s.heap.IsTuple a its.toArray) ∧ its.length ≤ sizeLine := by
            rcases hq with hq | hq
            · obtain ⟨its, a1, a2, a3⟩ := I.list hq
              exact ⟨its, a1, .inl a2.isList, by rw [← a1.length]; exact a3⟩
            · obtain ⟨its, a1, a2, a3⟩ := I.tuple hq
              exact ⟨its, a1, .inr a2, by rw [← a1.length]; exact a3⟩
          obtain ⟨u, rfl, ru⟩ := vals1 r
          cases ru
          have ea := each_of rv rd
          have hn := mapM_len hd
          have al : PySem.W.AllAlike (ds.map id) := by
            rw [List.map_id]
            intro d hd d' hd'
            exact List.all_eq_true.mp (List.all_eq_true.mp h1 d hd) d' hd'
          have so : PySem.W.Sortable (ds.map id) := by
            rw [List.map_id]
            rcases Bool.or_eq_true_iff.mp h2 with h | h
            · refine .inl fun d hd => ?_
              have := List.all_eq_true.mp h d hd
              unfold isTupC at this
              split at this
              · exact ⟨_, _, rfl⟩
              · cases this
            · refine .inr fun d hd => ?_
              have := List.all_eq_true.mp h d hd
              unfold isFlatC at this
              split at this
              · cases this
              · cases this
              · rename_i h1 h2
                exact ⟨h2, h1⟩
          have hb : ∀ d, d ∈ ds → X.A.units + 2 + (id d).depth < cLine := fun d hd => by
            have := of_decide_eq_true (List.all_eq_true.mp h3 d hd)
            simp only [id]; omega
          have hlen2 : (srt ds).length ≤ sizeLine := by unfold srt; rw [List.length_mergeSort]; omega
          rcases pl with pl | pl
          · refine PySem.W.sorted_data pl ea (each_reads I rfl ea) al so (by omega) hb fun out ho eo => ?_
            obtain ⟨vs', k1, k2⟩ := of_each eo
            obtain ⟨ep, he'⟩ := PyProof.Rows.sortedAll_at s.heap its out.toArray
            have hlen : vs'.length ≤ sizeLine := by have := k1.length; omega
            have hp : H (s.heap.objs.size + 1) = none := I.hok.fresh (Nat.le_succ _)
            exact ⟨.ref _, upd H (s.heap.objs.size + 1) (.lst vs'), I.laid (t' := s.toks) (fun _ _ => PyProof.Rows.sortedAll_old) (Nat.le_succ _) ⟨hlen, out, ep, k1, he'⟩, rfl, q.new sd hp (.dat (RD.lstNew sd hp hlen2 k2))⟩
          · refine sorted_tupD pl ea (each_reads I rfl ea) al so hzv hb fun h' H2 out o1 o2 ⟨ep, he'⟩ ho eo => ?_
            obtain ⟨vs', k1, k2⟩ := of_each eo
            have hlen : vs'.length ≤ sizeLine := by have := k1.length; omega
            have I1 : Inv X pins σ H { s with heap := h' } := I.kept (t' := s.toks) o1
            have hp : H h'.objs.size = none := I1.hok.fresh (Nat.le_refl _)
            exact ⟨.ref _, upd H h'.objs.size (.lst vs'), I1.laid (t' := s.toks) o2 (Nat.le_refl _) ⟨hlen, out, ep, k1, he'⟩, rfl, q.new sd hp (.dat (RD.lstNew sd hp hlen2 k2))⟩
        · cases e
      · cases e
    · cases e
  · cases e
/-- sorted(set(t)), t a tuple of ints -/
def insI (x : Int) : List Int → List Int
  | [] => [x]
  | y :: ys => if x < y then x :: y :: ys else if x = y then y :: ys else y :: insI x ys
def sset : List Int → List Int
  | [] => []
  | x :: xs => insI x (sset xs)
theorem mem_insI {x y : Int} : ∀ {l : List Int}, y ∈ insI x l ↔ y = x ∨ y ∈ l
  | [] => by simp [insI]
  | z :: l => by
    unfold insI
    split
    · simp
    · split
      · rename_i h; subst h; simp
      · simp only [List.mem_cons, mem_insI (l := l)]
        constructor
        · rintro (h | h | h) <;> simp [h]
        · rintro (h | h | h) <;> simp [h]
theorem mem_sset {y : Int} : ∀ {l : List Int}, y ∈ sset l ↔ y ∈ l
  | [] => by simp [sset]
  | x :: l => by unfold sset; rw [mem_insI, mem_sset (l := l), List.mem_cons]
theorem insI_sorted {x : Int} : ∀ {l : List Int}, l.Pairwise (· < ·) → (insI x l).Pairwise (· < ·)
  | [], _ => by simp [insI]
  | z :: l, h => by
    rw [List.pairwise_cons] at h
    unfold insI
    split
    · rename_i h1
      refine List.pairwise_cons.mpr ⟨fun y hy => ?_, List.pairwise_cons.mpr h⟩
      rcases List.mem_cons.mp hy with e | hy
      · omega
      · have := h.1 y hy; omega
    · split
      · exact List.pairwise_cons.mpr h
      · refine List.pairwise_cons.mpr ⟨fun y hy => ?_, insI_sorted h.2⟩
        rcases mem_insI.mp hy with e | hy
        · omega
        · exact h.1 y hy
theorem sset_sorted : ∀ l : List Int, (sset l).Pairwise (· < ·)
  | [] => .nil
  | x :: l => insI_sorted (sset_sorted l)
theorem sorted_unique : ∀ {l m : List Int}, l.Pairwise (· < ·) → m.Pairwise (· < ·) → (∀ x, x ∈ l ↔ x ∈ m) → l = m
  | [], [], _, _, _ => rfl
  | [], y :: m, _, _, h => absurd ((h y).mpr List.mem_cons_self) (by simp)
  | x :: l, [], _, _, h => absurd ((h x).mp List.mem_cons_self) (by simp)
  | x :: l, y :: m, h1, h2, h => by
    rw [List.pairwise_cons] at h1 h2
    have e : x = y := by
      have a := (h x).mp List.mem_cons_self
      have b := (h y).mpr List.mem_cons_self
      rcases List.mem_cons.mp a with a | a
      · exact a
      · rcases List.mem_cons.mp b with b | b
        · exact b.symm
        · have := h2.1 x a; have := h1.1 y b; omega
    subst e
    rw [sorted_unique h1.2 h2.2 fun z => ⟨fun hz => ?_, fun hz => ?_⟩]
    · rcases List.mem_cons.mp ((h z).mp (List.mem_cons_of_mem _ hz)) with e | q
      · subst e; have := h1.1 z hz; omega
      · exact q
    · rcases List.mem_cons.mp ((h z).mpr (List.mem_cons_of_mem _ hz)) with e | q
      · subst e; have := h2.1 z hz; omega
      · exact q
theorem sset_len : ∀ l : List Int, (sset l).length ≤ l.length
  | [] => Nat.le_refl _
  | x :: l => by
    have h := sset_len l
    have : ∀ m : List Int, (insI x m).length ≤ m.length + 1 := fun m => by
      induction m with
      | nil => simp [insI]
      | cons z m ih => unfold insI; split <;> (try split) <;> simp <;> omega
    have := this (sset l)
    unfold sset; rw [List.length_cons]; omega
def opSortSetT : W → Store → Option (W × Store)
  | .dat (.tuple ds), st => match ds.mapM intOf with
    | some ns => if ns.length < 64 then some (.dat (.list ((sset ns).map .int)), st) else none
    | none => none
  | _, _ => none
theorem rds_ints {K : PySem.W.Frag} {M : Hp} : ∀ ns : List Int, RDs K M (ns.map V.int) (ns.map .int)
  | [] => .nil
  | n :: ns => .cons (.int n) (rds_ints ns)
theorem x_sortSetT {p p2 p3 p4 : Pos} (hc : X.calm = true) (hg : Gl X "sorted") (hm : X.mg "sorted" = none) (hg2 : Gl X "set") (hm2 : X.mg "set" = none) (ha : PE X a (TX X.K f))
    (na : starEach [a] X.env = (false, eval a X.env) :: starEach [] X.env := by rfl) : PE X (.Call (.Name "sorted" p) [.Call (.Name "set" p2) [a] [] p3] [] p4) (TX X.K (b1 opSortSetT f)) := by
  refine ⟨fun pins s σ H Q I h => ?_⟩
  refine Call_ (ld_blt I hg hm PyProof.Rows.boot_sorted ?_)
  refine PyProof.Rows.callWith_builtin1 (PyProof.Rows.args_cons ?_ rfl) rfl rfl
  refine Call_ (ld_blt I hg2 hm2 PyProof.Rows.boot_set ?_)
  refine PyProof.Rows.callWith_type1 (PyProof.Rows.args_cons (thn (ha.run pins s σ H _ I (TX.one h)) fun v s1 ⟨x, H1, I1, r1, q1⟩ => PyProof.Rows.args_nil ?_) na) na rfl
  obtain ⟨st, μ, hid, wx, w, st', sd, rx, e, q⟩ := q1
  unfold opSortSetT at e
  split at e
  · rename_i ds st
    split at e
    · rename_i ns hns
      split at e
      · rename_i hl
        cases e
        cases rx with
        | dat rx =>
          cases rx with
          | tup hq _ rr =>
            cases r1
            have := rr.ints hns
            subst this
            obtain ⟨its, rv, pl, hz⟩ := I1.tuple (sameT mask_le hq)
            refine call_set_tupI ns (I1.ok.hd hc) (show s1.heap.IsTuple _ its.toArray from pl) (by simpa using rv.ints) (by unfold scanBound; omega) fun h' tk c R hcn hk => ?_
            refine PyProof.Rows.args_nil ?_
            have I2 : Inv X pins σ H1 { s1 with heap := h', toks := tk } := I1.kept hk
            have R2 : SetR X.w ({ s1 with heap := h', toks := tk } : Shared).heap s1.heap.objs.size (fun j => decide (j ∈ ns)) c := R
            generalize ({ s1 with heap := h', toks := tk } : Shared) = s2 at R2 I2 ⊢
            refine sorted_set R2 (I2.ok.hd hc) (by omega) fun s' p out c' ns' k g' o' hp hg' hi hs hm hlen => ?_
            have hn : H1 p = none := I2.hok.fresh hp
            have en : ns' = sset ns := sorted_unique hs (sset_sorted ns) fun z => by rw [hm z, mem_sset]; simp
            subst en
            have hlen2 : ((sset ns).map V.int).length ≤ sizeLine := by rw [List.length_map]; have := sset_len ns; exact sz1000 (by omega)
            have J : Inv X pins σ (upd H1 p (.lst ((sset ns).map V.int))) { s2 with heap := s'.heap, gens := s'.gens, drawn := s'.drawn, toks := s'.toks } :=
              I2.call (ch := []) (Un.laid k hp hn) (I2.hok.laid k hp ⟨hlen2, out.toList, c', vals_of_ints hi, hg'⟩) (by rw [g']; exact I2.bare) (fun _ z => nomatch z)
            have e' : s' = { s2 with heap := s'.heap, gens := s'.gens, drawn := s'.drawn, toks := s'.toks } := by
              cases s'
              cases s2
              cases o'
              rfl
            rw [e']
            exact ⟨.ref p, _, J, rfl, q.new sd hn (.dat (RD.lstNew sd hn (by rw [List.length_map]; have := sset_len ns; exact sz1000 (by omega)) (rds_ints _)))⟩
      · cases e
    · cases e
  · cases e
end
end L3
set_option Elab.async false
set_option linter.all false
set_option maxRecDepth 100000
set_option maxHeartbeats 4000000
set_option autoImplicit false
/-! L3: subscripts, slices, ranges, tests. -/
namespace L3
open PySem PySem.Spec PyProof.Rows L2
section
variable {X : Cx} {a b c : Expr} {pos : Pos} {f g : Ev}

theorem PE.or {e : Expr} {t t' : TE} (h : PE X e t) (h' : PE X e t') : PE X e (fun σ H Q => t σ H Q ∨ t' σ H Q) :=
  ⟨fun pins s σ H Q I q => q.elim (h.run pins s σ H Q I) (h'.run pins s σ H Q I)⟩
def keyOf : W → Option Key
  | .dat (.int i) => some (.inl i)
  | .dat (.str x) => some (.inr x)
  | _ => none
def valW (kvs : List (Key × W)) (k : Key) : Option W := (kvs.find? fun kv => decide (kv.1 = k)).map (·.2)
def opIdx : Op2 := fun w i st => match w, i with
  | .dat (.str z), .dat (.int i) => if z.length ≤ sizeLine then (atI z.cps.toList i).map fun c => (.dat (.str ⟨#[c]⟩), st) else none
  | w, .dat (.int i) => match seqOf st w with
    | some ws => (atI ws i).map (·, st)
    | none => none
  | _, _ => none
def opGetD : Op2 := fun w i st => match w, keyOf i with
  | .loc n, some k => match st[n]? with
    | some (.dict kvs) => (valW kvs k).map (·, st)
    | _ => none
  | _, _ => none
theorem RWs.at {K : PySem.W.Frag} {M : Hp} {μ : List Addr} {vs : List V} {ws : List W} {i : Int} {w : W} (r : RWs K M μ vs ws) (e : atI ws i = some w) : ∃ v, atI vs i = some v ∧ RW K M μ v w := by
  unfold atI at e ⊢
  have hl : vs.length = ws.length := Paired.length r
  rw [hl]
  obtain ⟨j, h1, h2⟩ := Option.bind_eq_some_iff.mp e
  have key : ∀ {vs : List V} {ws : List W} {j : Nat}, RWs K M μ vs ws → ws[j]? = some w → ∃ v, vs[j]? = some v ∧ RW K M μ v w := by
    intro vs ws j r e
    induction r generalizing j with
    | nil => simp at e
    | cons a b ih =>
      cases j with
      | zero => simp at e; subst e; exact ⟨_, rfl, a⟩
      | succ j => obtain ⟨v, h1, h2⟩ := ih (j := j) (by simpa using e); exact ⟨v, by simpa using h1, h2⟩
  obtain ⟨v, h3, h4⟩ := key r h2
  exact ⟨v, by rw [h1]; exact h3, h4⟩
theorem o_idx : IxR X (T2 X.K opIdx) := by
  intro value slice pins s σ H x y v u Q I rx ry ⟨st, μ, hid, wx, wy, w, st', sd, hx, hy, e, q⟩ hs
  unfold opIdx at e
  split at e
  · split at e
    · rename_i hz
      obtain ⟨c, h1, h2⟩ := Option.map_eq_some_iff.mp e
      cases h2
      cases hx with | dat hx => cases hx; cases hy with | dat hy => cases hy; exact ix_str value slice pins s σ H _ _ v u Q I rx ry ⟨_, _, c, rfl, rfl, hz, h1, q.here sd (.dat (.str _))⟩ hs
    · cases e
  · split at e
    · rename_i ws hw
      obtain ⟨c, h1, h2⟩ := Option.map_eq_some_iff.mp e
      cases h2
      obtain ⟨hz, a, vs, rfl, hq, hr⟩ := seq_of sd hx hw
      obtain ⟨v', h3, h4⟩ := hr.at h1
      cases hy with
      | dat hy =>
        cases hy
        rcases hq with hq | hq
        · exact ix_list value slice pins s σ H _ _ v u Q I rx ry ⟨_, _, _, v', rfl, rfl, hq, h3, q.here sd h4⟩ hs
        · exact ix_tup value slice pins s σ H _ _ v u Q I rx ry ⟨_, _, _, v', rfl, rfl, hq, h3, q.here sd h4⟩ hs
    · cases e
  · cases e
theorem x_idx (ha : PE X a (TX X.K f)) (hb : PE X b (TX X.K g)) (hs : PlainIx b) : PE X (.Subscript a b pos) (TX X.K (b2 opIdx f g)) := x_ix o_idx ha hb hs
theorem valV_of {K : PySem.W.Frag} {M : Hp} {μ : List Addr} {vs : List (Key × V)} {ws : List (Key × W)} {k : Key} (r : Paired (fun (p : Key × V) (q : Key × W) => p.1 = q.1 ∧ RW K M μ p.2 q.2) vs ws) :
    (valW ws k = none ∧ valV vs k = none) ∨ ∃ v w, valW ws k = some w ∧ valV vs k = some v ∧ RW K M μ v w := by
  induction r with
  | nil => exact .inl ⟨rfl, rfl⟩
  | cons a b ih =>
    rename_i p q _ _
    obtain ⟨h1, h2⟩ := a
    unfold valW valV
    rw [List.find?_cons, List.find?_cons, h1]
    by_cases h : q.1 = k
    · simp only [h, decide_true]; exact .inr ⟨_, _, rfl, rfl, h2⟩
    · simp only [h, decide_false]; exact ih
theorem keyOf_rel {K : PySem.W.Frag} {M : Hp} {μ : List Addr} {v : V} {w : W} {k : Key} (r : RW K M μ v w) (e : keyOf w = some k) : v = kV k := by
  unfold keyOf at e
  split at e
  · cases e; cases r with | dat h => cases h; rfl
  · cases e; cases r with | dat h => cases h; rfl
  · cases e
theorem o_getD {x y : V} {H : Hp} {Q : VK} (h : T2 X.K opGetD x y H Q) : ∃ a v, x = .ref a ∧ DGet H a y (some v) ∧ Q v H := by
  obtain ⟨st, μ, hid, wx, wy, w, st', sd, hx, hy, e, q⟩ := h
  unfold opGetD at e
  split at e
  · rename_i n k hk
    split at e
    · rename_i kvs hw
      obtain ⟨w', h1, h2⟩ := Option.map_eq_some_iff.mp e
      cases h2
      cases hx with
      | loc hax =>
        cases sd.at hw hax with
        | dict h2 h3 h4 =>
          rcases valV_of (k := k) h4 with ⟨h5, _⟩ | ⟨v', w'', h5, h6, h7⟩
          · rw [h5] at h1; cases h1
          · rw [h5] at h1; cases h1
            have := keyOf_rel hy hk
            subst this
            exact ⟨_, _, rfl, by rw [← h6]; exact DGet.k h2, q.here sd h7⟩
    · cases e
  · cases e
theorem TX.mono {K : PySem.W.Frag} {f : Ev} {σ : L2.St} {H : Hp} {Q Q' : VK} (h : TX K f σ H Q) (k : ∀ v H', Q v H' → Q' v H') : TX K f σ H Q' := by
  obtain ⟨env, st, μ, hid, w, st', W0, e, q⟩ := h
  exact ⟨env, st, μ, hid, w, st', W0, e, fun v H' μ' n s r => k _ _ (q v H' μ' n s r)⟩
theorem x_getD (hu : X.A.units + 1 < cLine) (ha : PE X a (TX X.K f)) (hb : PE X b (TX X.K g)) (hs : NoSl b) : PE X (.Subscript a b pos) (TX X.K (b2 opGetD f g)) :=
  PE.imp (pe_dget hu ha hb hs) fun σ H Q h => TX.mono (TX.two h) fun x H1 h1 => TX.mono h1 fun y H2 h2 => o_getD h2
/-! ### slices -/
abbrev Ep := E3 → Store → Option (Option Int × Store)
def TPx (K : PySem.W.Frag) (f : Ep) : TO := fun σ H Q => ∃ env st μ hid w st', Wd K σ H env st μ hid ∧ f env st = some (w, st') ∧
  ∀ H' μ', Nx H μ H' μ' hid → Sd K H' st' μ' hid → Q w H'
def pNone : Ep := fun _ st => some (none, st)
def pSome (f : Ev) : Ep := fun env st => match f env st with
  | some (.dat (.int i), st') => some (some i, st')
  | _ => none
theorem xp_none : PO X none (TPx X.K pNone) := ⟨fun pins s σ H Q I ⟨env, st, μ, hid, w, st', W0, e, q⟩ => by cases e; exact po_none.run pins s σ H Q I (q H μ Nx.refl W0.sd)⟩
theorem xp_some (ha : PE X a (TX X.K f)) : PO X (some a) (TPx X.K (pSome f)) := ⟨fun pins s σ H Q I ⟨env, st, μ, hid, w, st', W0, e, q⟩ => by
  unfold pSome at e
  split at e
  · rename_i i s1 hf
    cases e
    refine (po_some ha).run pins s σ H Q I (TX.go W0 hf fun v H1 μ1 n1 W1 r => ?_)
    cases r with
    | dat r => cases r; exact ⟨i, rfl, q H1 μ1 n1 W1.sd⟩
  · cases e⟩
def cut {α : Type} (xs : List α) (lo hi : Option Int) : List α := (xs.drop (HT.sIx xs.length 0 lo)).take (HT.sIx xs.length xs.length hi - HT.sIx xs.length 0 lo)
theorem RDs.drop {K : PySem.W.Frag} {M : Hp} : ∀ {vs : List V} {ds : List PyData} (n : Nat), RDs K M vs ds → RDs K M (vs.drop n) (ds.drop n)
  | _, _, 0, r => r
  | _, _, _ + 1, .nil => .nil
  | _, _, n + 1, .cons _ t => RDs.drop n t
theorem RDs.take {K : PySem.W.Frag} {M : Hp} : ∀ {vs : List V} {ds : List PyData} (n : Nat), RDs K M vs ds → RDs K M (vs.take n) (ds.take n)
  | _, _, 0, _ => .nil
  | _, _, _ + 1, .nil => .nil
  | _, _, n + 1, .cons r t => .cons r (RDs.take n t)
theorem RDs.cut {K : PySem.W.Frag} {M : Hp} {vs : List V} {ds : List PyData} (lo hi : Option Int) (r : RDs K M vs ds) : RDs K M (cutV vs lo hi) (cut ds lo hi) := by
  unfold cutV L3.cut
  rw [r.length]
  exact (r.drop _).take _
theorem cut_len {α : Type} (xs : List α) (lo hi : Option Int) : (cut xs lo hi).length ≤ xs.length := by
  unfold cut
  rw [List.length_take, List.length_drop]
  omega
theorem cut_whole {α : Type} {xs : List α} {lo hi : Option Int} (h : HT.sIx xs.length 0 lo = 0 ∧ HT.sIx xs.length xs.length hi = xs.length) : cut xs lo hi = xs := by
  unfold cut
  rw [h.1, h.2]
  simp
abbrev Op3 := W → Option Int → Option Int → Store → Option (W × Store)
def opSlice : Op3
  | .dat (.tuple ds), lo, hi, st => some (.dat (.tuple (cut ds lo hi)), st)
  | .dat (.list ds), lo, hi, st => some (.dat (.list (cut ds lo hi)), st)
  | .loc n, lo, hi, st => match st[n]? with
    | some (.list ws) => match ws.mapM datOf with
      | some ds => some (.dat (.list (cut ds lo hi)), st)
      | none => none
    | _ => none
  | _, _, _, _ => none
def bSlice (f : Ev) (p q : Ep) : Ev := fun env st => (f env st).bind fun r => (p env r.2).bind fun t => (q env t.2).bind fun u => opSlice r.1 t.1 u.1 u.2
theorem x_slice {lo hi : Option Expr} {p q : Ep} {p2 : Pos} (ha : PE X a (TX X.K f)) (hl : PO X lo (TPx X.K p)) (hh : PO X hi (TPx X.K q)) : PE X (.Subscript a (.Slice lo hi none p2) pos) (TX X.K (bSlice f p q)) := by
  refine PE.imp (pe_slice (SlR.or sl_tupA sl_list) ha hl hh) fun σ H Q ⟨env, st, μ, hid, w, st', W0, e, q1⟩ => ?_
  unfold bSlice at e
  obtain ⟨⟨wx, s1⟩, h1, e⟩ := Option.bind_eq_some_iff.mp e
  obtain ⟨⟨l, s2⟩, h2, e⟩ := Option.bind_eq_some_iff.mp e
  obtain ⟨⟨u, s3⟩, h3, e⟩ := Option.bind_eq_some_iff.mp e
  refine TX.go W0 h1 fun vx H1 μ1 n1 W1 rx => ?_
  refine ⟨env, s1, μ1, hid, l, s2, W1, h2, fun H2 μ2 n2 sd2 => ?_⟩
  refine ⟨env, s2, μ2, hid, u, s3, W1.next n2 sd2, h3, fun H3 μ3 n3 sd => ?_⟩
  have rx := (rx.mono n2.same n2.pre).mono n3.same n3.pre
  have q : Out X.K H3 μ3 hid w st' Q := fun v H' μ' n s r => q1 v H' μ' (((n1.trans n2).trans n3).trans n) s r
  dsimp only at e
  unfold opSlice at e
  split at e
  · cases e
    cases rx with
    | dat rx => cases rx with
      | tup h z rr =>
        have hl := rr.length
        refine .inl ⟨_, _, rfl, sameT mask_le h, fun hw => ?_, fun _ p hp => q.new sd hp (.dat (RD.tupNew sd hp (Nat.le_trans (cut_len _ _ _) z) (rr.cut _ _)))⟩
        rw [hl] at hw
        rw [cut_whole hw] at q
        exact q.here sd (.dat (.tup h z rr))
  · cases e
    cases rx with
    | dat rx => cases rx with
      | lst h z rr => exact .inr ⟨_, _, rfl, SqL.of (mask_le _ _ h), fun p hp => q.new sd hp (.dat (RD.lstNew sd hp (Nat.le_trans (cut_len _ _ _) z) (rr.cut _ _)))⟩
  · split at e
    · rename_i ws hw
      split at e
      · rename_i ds hd
        cases e
        cases rx with
        | loc ha => cases sd.at hw ha with
          | list h2 h3 h4 =>
            have hn := mapM_len hd
            exact .inr ⟨_, _, rfl, SqL.of h2, fun p hp => q.new sd hp (.dat (RD.lstNew sd hp (Nat.le_trans (cut_len _ _ _) (by omega)) ((h4.dat hd).cut _ _)))⟩
      · cases e
    · cases e
  · cases e
/-! ### list(range(..)), tuple(range(..)) -/
def rgD (a b : Int) : List PyData := (List.range (b - a).toNat).map fun i => .int (a + (i : Nat))
theorem rg_rd {K : PySem.W.Frag} {M : Hp} (a b : Int) : RDs K M (rgV a b) (rgD a b) := by
  unfold rgV rgD
  generalize List.range (b - a).toNat = l
  induction l with
  | nil => exact .nil
  | cons x l ih => exact .cons (.int _) ih
theorem rgD_length (a b : Int) : (rgD a b).length = (b - a).toNat := by unfold rgD; rw [List.length_map, List.length_range]
def rgOk (a b : Int) : Bool := decide (-(2 ^ 62) ≤ a) && decide (a < 2 ^ 62) && decide (-(2 ^ 62) ≤ b) && decide (b < 2 ^ 62) && decide ((b - a).toNat ≤ 2 ^ 24)
theorem rgOk_of {a b : Int} (h : rgOk a b = true) : RgOk a b := by
  unfold rgOk at h
  simp only [Bool.and_eq_true, decide_eq_true_eq] at h
  exact ⟨h.1.1.1.1, h.1.1.1.2, h.1.1.2, h.1.2, h.2⟩
def opRg (tup : Bool) (new : Bool) : Op2
  | .dat (.int i), .dat (.int j), st => if rgOk i j = true then (if tup then some (.dat (.tuple (rgD i j)), st) else if new then some (.loc st.length, st ++ [.list ((rgD i j).map .dat)]) else some (.dat (.list (rgD i j)), st)) else none
  | _, _, _ => none
theorem rg_fin {K : PySem.W.Frag} {i j : Int} {H : Hp} {Q : VK} {st st' : Store} {μ hid : List Addr} {w : W} {tup new : Bool} (sd : Sd K H st μ hid) (e : opRg tup new (.dat (.int i)) (.dat (.int j)) st = some (w, st')) (q : Out K H μ hid w st' Q) :
    RgOk i j ∧ ∀ p, H p = none → Q (.ref p) (upd H p (if tup then .tup (rgV i j) else .lst (rgV i j))) := by
  change (if rgOk i j = true then _ else none) = some (w, st') at e
  split at e
  · rename_i hr
    have ok := rgOk_of hr
    have hz : (rgD i j).length ≤ sizeLine := by rw [rgD_length]; exact ok.2.2.2.2
    refine ⟨ok, fun p hp => ?_⟩
    cases tup with
    | true => cases e; exact q.new sd hp (.dat (RD.tupNew sd hp hz (rg_rd _ _)))
    | false =>
      cases new with
      | false => cases e; exact q.new sd hp (.dat (RD.lstNew sd hp hz (rg_rd _ _)))
      | true => cases e; exact q.cell sd hp (.list upd_same (by rw [List.length_map]; exact hz) ((rg_rd _ _).ws))
  · cases e
theorem x_listRg1 {new : Bool} {p p1 q pos : Pos} (hc : X.calm = true) (hg : Gl X "list") (hm : X.mg "list" = none) (hg2 : Gl X "range") (hm2 : X.mg "range" = none) (ha : PE X a (TX X.K f)) (na : starEach [a] X.env = (false, eval a X.env) :: starEach [] X.env := by rfl)
    (na2 : starEach [Expr.Call (.Name "range" p1) [a] [] q] X.env = (false, eval (Expr.Call (.Name "range" p1) [a] [] q) X.env) :: starEach [] X.env := by rfl) : PE X (.Call (.Name "list" p) [.Call (.Name "range" p1) [a] [] q] [] pos) (TX X.K (b2 (opRg false new) (bDat (.int 0)) f)) := by
  refine PE.imp (pe_listRg hc hg hm (prg_1 hg2 hm2 ha na) na2) fun σ H Q ⟨env, st, μ, hid, w, st', W0, e, q1⟩ => ?_
  unfold b2 at e
  obtain ⟨⟨wx, s1⟩, h1, e⟩ := Option.bind_eq_some_iff.mp e
  obtain ⟨⟨wy, s2⟩, h2, e⟩ := Option.bind_eq_some_iff.mp e
  cases h1
  refine TX.go W0 h2 fun vy H1 μ1 n1 W1 ry => ?_
  have q : Out X.K H1 μ1 hid w st' Q := fun v H' μ' n s r => q1 v H' μ' (n1.trans n) s r
  cases wy with
  | dat d => cases d with
    | int j => cases ry with | dat ry => cases ry; exact ⟨j, rfl, rg_fin W1.sd e q⟩
    | _ => cases e
  | _ => cases e
theorem x_listRg2 {new : Bool} {p p1 q pos : Pos} (hc : X.calm = true) (hg : Gl X "list") (hm : X.mg "list" = none) (hg2 : Gl X "range") (hm2 : X.mg "range" = none) (ha : PE X a (TX X.K f)) (hb : PE X b (TX X.K g)) (na : starEach [a, b] X.env = (false, eval a X.env) :: starEach [b] X.env := by rfl)
    (nb : starEach [b] X.env = (false, eval b X.env) :: starEach [] X.env := by rfl) (hp : (backTo q (starEach [b] X.env)).any (·.1) = false := by rfl)
    (na2 : starEach [Expr.Call (.Name "range" p1) [a, b] [] q] X.env = (false, eval (Expr.Call (.Name "range" p1) [a, b] [] q) X.env) :: starEach [] X.env := by rfl) : PE X (.Call (.Name "list" p) [.Call (.Name "range" p1) [a, b] [] q] [] pos) (TX X.K (b2 (opRg false new) f g)) := by
  refine PE.imp (pe_listRg hc hg hm (prg_2 hg2 hm2 ha hb na nb hp) na2) fun σ H Q ⟨env, st, μ, hid, w, st', W0, e, q1⟩ => ?_
  unfold b2 at e
  obtain ⟨⟨wx, s1⟩, h1, e⟩ := Option.bind_eq_some_iff.mp e
  obtain ⟨⟨wy, s2⟩, h2, e⟩ := Option.bind_eq_some_iff.mp e
  refine TX.go W0 h1 fun vx H0 μ0 n0 W0 rx => TX.go W0 h2 fun vy H1 μ1 n1 W1 ry => ?_
  have q : Out X.K H1 μ1 hid w st' Q := fun v H' μ' n s r => q1 v H' μ' ((n0.trans n1).trans n) s r
  have rx := rx.mono n1.same n1.pre
  cases wx with
  | dat d => cases d with
    | int i =>
      cases wy with
      | dat d => cases d with
        | int j => cases rx with | dat rx => cases rx; cases ry with | dat ry => cases ry; exact ⟨i, j, rfl, rfl, rg_fin W1.sd e q⟩
        | _ => cases e
      | _ => cases e
    | _ => cases e
  | _ => cases e
theorem x_tupRg1 {p p1 q pos : Pos} (hc : X.calm = true) (hg : Gl X "tuple") (hm : X.mg "tuple" = none) (hg2 : Gl X "range") (hm2 : X.mg "range" = none) (ha : PE X a (TX X.K f)) (na : starEach [a] X.env = (false, eval a X.env) :: starEach [] X.env := by rfl)
    (na2 : starEach [Expr.Call (.Name "range" p1) [a] [] q] X.env = (false, eval (Expr.Call (.Name "range" p1) [a] [] q) X.env) :: starEach [] X.env := by rfl) : PE X (.Call (.Name "tuple" p) [.Call (.Name "range" p1) [a] [] q] [] pos) (TX X.K (b2 (opRg true false) (bDat (.int 0)) f)) := by
  refine PE.imp (pe_tupRg hc hg hm (prg_1 hg2 hm2 ha na) na2) fun σ H Q ⟨env, st, μ, hid, w, st', W0, e, q1⟩ => ?_
  unfold b2 at e
  obtain ⟨⟨wx, s1⟩, h1, e⟩ := Option.bind_eq_some_iff.mp e
  obtain ⟨⟨wy, s2⟩, h2, e⟩ := Option.bind_eq_some_iff.mp e
  cases h1
  refine TX.go W0 h2 fun vy H1 μ1 n1 W1 ry => ?_
  have q : Out X.K H1 μ1 hid w st' Q := fun v H' μ' n s r => q1 v H' μ' (n1.trans n) s r
  cases wy with
  | dat d => cases d with
    | int j => cases ry with | dat ry => cases ry; exact ⟨j, rfl, rg_fin W1.sd e q⟩
    | _ => cases e
  | _ => cases e
theorem x_tupRg2 {p p1 q pos : Pos} (hc : X.calm = true) (hg : Gl X "tuple") (hm : X.mg "tuple" = none) (hg2 : Gl X "range") (hm2 : X.mg "range" = none) (ha : PE X a (TX X.K f)) (hb : PE X b (TX X.K g)) (na : starEach [a, b] X.env = (false, eval a X.env) :: starEach [b] X.env := by rfl)
    (nb : starEach [b] X.env = (false, eval b X.env) :: starEach [] X.env := by rfl) (hp : (backTo q (starEach [b] X.env)).any (·.1) = false := by rfl)
    (na2 : starEach [Expr.Call (.Name "range" p1) [a, b] [] q] X.env = (false, eval (Expr.Call (.Name "range" p1) [a, b] [] q) X.env) :: starEach [] X.env := by rfl) : PE X (.Call (.Name "tuple" p) [.Call (.Name "range" p1) [a, b] [] q] [] pos) (TX X.K (b2 (opRg true false) f g)) := by
  refine PE.imp (pe_tupRg hc hg hm (prg_2 hg2 hm2 ha hb na nb hp) na2) fun σ H Q ⟨env, st, μ, hid, w, st', W0, e, q1⟩ => ?_
  unfold b2 at e
  obtain ⟨⟨wx, s1⟩, h1, e⟩ := Option.bind_eq_some_iff.mp e
  obtain ⟨⟨wy, s2⟩, h2, e⟩ := Option.bind_eq_some_iff.mp e
  refine TX.go W0 h1 fun vx H0 μ0 n0 W0 rx => TX.go W0 h2 fun vy H1 μ1 n1 W1 ry => ?_
  have q : Out X.K H1 μ1 hid w st' Q := fun v H' μ' n s r => q1 v H' μ' ((n0.trans n1).trans n) s r
  have rx := rx.mono n1.same n1.pre
  cases wx with
  | dat d => cases d with
    | int i =>
      cases wy with
      | dat d => cases d with
        | int j => cases rx with | dat rx => cases rx; cases ry with | dat ry => cases ry; exact ⟨i, j, rfl, rfl, rg_fin W1.sd e q⟩
        | _ => cases e
      | _ => cases e
    | _ => cases e
  | _ => cases e
/-! ### tests -/
abbrev Et := E3 → Store → Option (Bool × Store)
def TTx (K : PySem.W.Frag) (f : Et) : TT := fun σ H Q => ∃ env st μ hid w st', Wd K σ H env st μ hid ∧ f env st = some (w, st') ∧
  ∀ H' μ', Nx H μ H' μ' hid → Sd K H' st' μ' hid → Q w H'
theorem TTx.go {K : PySem.W.Frag} {f : Et} {σ : L2.St} {H : Hp} {env : E3} {st st' : Store} {μ hid : List Addr} {w : Bool} {Q : Bool → Hp → Prop} (W0 : Wd K σ H env st μ hid) (e : f env st = some (w, st'))
    (k : ∀ H' μ', Nx H μ H' μ' hid → Wd K σ H' env st' μ' hid → Q w H') : TTx K f σ H Q :=
  ⟨env, st, μ, hid, w, st', W0, e, fun H' μ' n s => k H' μ' n (W0.next n s)⟩
def truth (st : Store) : W → Option Bool
  | .dat .none => some false
  | .dat (.bool b) => some b
  | .dat (.int i) => some (i != 0)
  | .dat (.str x) => if x.length ≤ sizeLine then some ((x.length : Int) != 0) else none
  | .dat (.list ds) => some (!ds.isEmpty)
  | .dat (.tuple ds) => some (!ds.isEmpty)
  | .loc n => match st[n]? with
    | some (.list ws) => some (!ws.isEmpty)
    | some (.dict ws) => some (!ws.isEmpty)
    | none => none
  | _ => none
theorem tru_of {K : PySem.W.Frag} {H : Hp} {st : Store} {μ hid : List Addr} (sd : Sd K H st μ hid) {v : V} {w : W} {k : Bool} (r : RW K (mask H (μ ++ hid)) μ v w) (e : truth st w = some k) : TruV K v H k := by
  cases r with
  | dat h =>
    cases h with
    | non => cases e; rfl
    | bl b => cases e; rfl
    | int i => cases e; rfl
    | str x =>
      simp only [truth] at e
      split at e
      · rename_i hz; cases e; exact ⟨hz, rfl⟩
      · cases e
    | lst h z r => cases e; have := r.length; exact .inl ⟨_, SqL.of (mask_le _ _ h), by cases r <;> rfl⟩
    | tup h z r => cases e; exact .inr (.inl ⟨_, sameT mask_le h, by cases r <;> rfl⟩)
  | loc ha =>
    simp only [truth] at e
    split at e
    · rename_i hw; cases e; cases sd.at hw ha with | list h2 _ h4 => exact .inl ⟨_, SqL.of h2, by cases h4 <;> rfl⟩
    · rename_i hw; cases e; cases sd.at hw ha with | dict h2 _ h4 => exact .inr (.inr ⟨_, h2, by cases h4 <;> rfl⟩)
    · cases e
  | _ => cases e
def tTru (f : Ev) : Et := fun env st => (f env st).bind fun r => (truth r.2 r.1).map (·, r.2)
theorem xt_val (ha : PE X a (TX X.K f)) (he : ∀ whole, isTrue a X.env whole = (do let v ← whole; standAt a.pos; holding [v] (truthy v)) := by intro _; rfl) : PT X a (TTx X.K (tTru f)) := by
  refine PT.imp (pt_truth ha he) fun σ H Q ⟨env, st, μ, hid, w, st', W0, e, q⟩ => ?_
  unfold tTru at e
  obtain ⟨⟨wx, s1⟩, h1, e⟩ := Option.bind_eq_some_iff.mp e
  obtain ⟨k, h2, h3⟩ := Option.map_eq_some_iff.mp e
  cases h3
  exact TX.go W0 h1 fun v H1 μ1 n1 W1 r => ⟨_, tru_of W1.sd r h2, q H1 μ1 n1 W1.sd⟩
/-- a bool's own -/
def tBl (f : Ev) : Et := fun env st => match f env st with
  | some (.dat (.bool b), st') => some (b, st')
  | _ => none
theorem TTx.bl {K : PySem.W.Frag} {σ : L2.St} {H : Hp} {Q : Bool → Hp → Prop} (h : TTx K (tBl f) σ H Q) : tTest (TX K f) σ H Q := by
  obtain ⟨env, st, μ, hid, w, st', W0, e, q⟩ := h
  unfold tBl at e
  split at e
  · rename_i b s1 hf
    cases e
    exact TX.go W0 hf fun v H1 μ1 n1 W1 r => by cases r with | dat r => cases r; exact ⟨_, rfl, q H1 μ1 n1 W1.sd⟩
  · cases e
theorem xt_cmp {op : CmpOp} {o : Op2} (ho : OpR X (compareOp op) (T2 X.K o)) (ha : PE X a (TX X.K f)) (hb : PE X b (TX X.K g)) (hm : behindInMarks op b = false) : PT X (.Compare a [op] [b] pos) (TTx X.K (tBl (b2 o f g))) :=
  PT.imp (pt_cmpR ho ha hb hm) fun σ H Q h => by
    have h := h.bl
    exact TX.two h
def bChain (o o' : Op2) (f g h : Ev) : Ev := fun env st => (f env st).bind fun r => (g env r.2).bind fun t => (o r.1 t.1 t.2).bind fun u => match u.1 with
  | .dat (.bool true) => (h env u.2).bind fun z => o' t.1 z.1 z.2
  | .dat (.bool false) => some (.dat (.bool false), u.2)
  | _ => none
theorem TX.chain {o o' : Op2} {h : Ev} {K : PySem.W.Frag} {σ : L2.St} {H : Hp} {Q : VK} (h0 : TX K (bChain o o' f g h) σ H Q) : tChain (T2 K o) (T2 K o') (TX K f) (TX K g) (TX K h) σ H Q := by
  obtain ⟨env, st, μ, hid, w, st', W0, e, q⟩ := h0
  unfold bChain at e
  obtain ⟨⟨wx, s1⟩, h1, e⟩ := Option.bind_eq_some_iff.mp e
  obtain ⟨⟨wy, s2⟩, h2, e⟩ := Option.bind_eq_some_iff.mp e
  obtain ⟨⟨wu, s3⟩, h3, e⟩ := Option.bind_eq_some_iff.mp e
  refine TX.go W0 h1 fun vx H1 μ1 n1 W1 rx => TX.go W1 h2 fun vy H2 μ2 n2 W2 ry => ⟨s2, μ2, hid, wx, wy, wu, s3, W2.sd, rx.mono n2.same n2.pre, ry, h3, fun v H3 μ3 n3 sd3 r3 => ?_⟩
  have W3 := W2.next n3 sd3
  split at e
  · rename_i hu
    obtain rfl : wu = .dat (.bool true) := hu
    cases r3 with
    | dat r3 =>
      cases r3
      obtain ⟨⟨wz, s4⟩, h4, e⟩ := Option.bind_eq_some_iff.mp e
      refine ⟨true, rfl, ?_⟩
      rw [if_pos rfl]
      exact TX.go W3 h4 fun vz H4 μ4 n4 W4 rz => ⟨s4, μ4, hid, wy, wz, w, st', W4.sd, (ry.mono n3.same n3.pre).mono n4.same n4.pre, rz, e, fun v H' μ' n s r => q v H' μ' ((((n1.trans n2).trans n3).trans n4).trans n) s r⟩
  · rename_i hu
    obtain rfl : wu = .dat (.bool false) := hu
    cases e
    cases r3 with
    | dat r3 =>
      cases r3
      refine ⟨false, rfl, ?_⟩
      rw [if_neg (by decide)]
      exact q _ H3 μ3 ((n1.trans n2).trans n3) sd3 (.dat (.bl _))
  · cases e
theorem x_chain {op op' : CmpOp} {o o' : Op2} {h : Ev} (ho : OpR X (compareOp op) (T2 X.K o)) (ho' : OpR X (compareOp op') (T2 X.K o')) (ha : PE X a (TX X.K f)) (hb : PE X b (TX X.K g)) (hc : PE X c (TX X.K h))
    (hm : lastMarks [op, op'] [b, c] = false := by with_unfolding_all rfl) : PE X (.Compare a [op, op'] [b, c] pos) (TX X.K (bChain o o' f g h)) :=
  PE.imp (pe_chain ho ho' ha hb hc hm) fun σ H Q q => TX.chain q
theorem xt_chain {op op' : CmpOp} {o o' : Op2} {h : Ev} (ho : OpR X (compareOp op) (T2 X.K o)) (ho' : OpR X (compareOp op') (T2 X.K o')) (ha : PE X a (TX X.K f)) (hb : PE X b (TX X.K g)) (hc : PE X c (TX X.K h))
    (hm : lastMarks [op, op'] [b, c] = false := by with_unfolding_all rfl) : PT X (.Compare a [op, op'] [b, c] pos) (TTx X.K (tBl (bChain o o' f g h))) :=
  PT.imp (pt_chain ho ho' ha hb hc hm) fun σ H Q q => TX.chain q.bl
def tNo (f : Et) : Et := fun env st => (f env st).map fun r => (!r.1, r.2)
theorem xt_not {f : Et} (ha : PT X a (TTx X.K f)) : PT X (.UnaryOp .Not a pos) (TTx X.K (tNo f)) :=
  PT.imp (pt_not ha) fun σ H Q ⟨env, st, μ, hid, w, st', W0, e, q⟩ => by
    unfold tNo at e
    obtain ⟨⟨k, s1⟩, h1, h2⟩ := Option.map_eq_some_iff.mp e
    cases h2
    exact ⟨env, st, μ, hid, k, s1, W0, h1, q⟩
def tAn (f g : Et) : Et := fun env st => (f env st).bind fun r => if r.1 = true then g env r.2 else some (false, r.2)
def tOr3 (f g : Et) : Et := fun env st => (f env st).bind fun r => if r.1 = true then some (true, r.2) else g env r.2
section
variable {rest : List Expr} {f g : Et}
theorem xw_and (ha : PT X a (TTx X.K f)) (hb : PW X (.BoolOp .And (b :: rest) pos) (TTx X.K g)) : PW X (.BoolOp .And (a :: b :: rest) pos) (TTx X.K (tAn f g)) :=
  PW.imp (pw_and ha hb) fun σ H Q ⟨env, st, μ, hid, w, st', W0, e, q⟩ => by
    unfold tAn at e
    obtain ⟨⟨k, s1⟩, h1, e⟩ := Option.bind_eq_some_iff.mp e
    refine TTx.go W0 h1 fun H1 μ1 n1 W1 => ?_
    cases k with
    | true => rw [if_pos rfl] at e ⊢; exact TTx.go W1 e fun H2 μ2 n2 W2 => q H2 μ2 (n1.trans n2) W2.sd
    | false => simp only [Bool.false_eq_true, if_false] at e ⊢; cases e; exact q H1 μ1 n1 W1.sd
theorem xw_or (ha : PT X a (TTx X.K f)) (hb : PW X (.BoolOp .Or (b :: rest) pos) (TTx X.K g)) : PW X (.BoolOp .Or (a :: b :: rest) pos) (TTx X.K (tOr3 f g)) :=
  PW.imp (pw_or ha hb) fun σ H Q ⟨env, st, μ, hid, w, st', W0, e, q⟩ => by
    unfold tOr3 at e
    obtain ⟨⟨k, s1⟩, h1, e⟩ := Option.bind_eq_some_iff.mp e
    refine TTx.go W0 h1 fun H1 μ1 n1 W1 => ?_
    cases k with
    | true => rw [if_pos rfl] at e ⊢; cases e; exact q H1 μ1 n1 W1.sd
    | false => simp only [Bool.false_eq_true, if_false] at e ⊢; exact TTx.go W1 e fun H2 μ2 n2 W2 => q H2 μ2 (n1.trans n2) W2.sd
end
/-! ### and, or, not, if as values -/
def bAnd (f g : Ev) : Ev := fun env st => (f env st).bind fun r => (truth r.2 r.1).bind fun k => if k = true then g env r.2 else some r
def bOr (f g : Ev) : Ev := fun env st => (f env st).bind fun r => (truth r.2 r.1).bind fun k => if k = true then some r else g env r.2
def bNot (f : Ev) : Ev := fun env st => (f env st).bind fun r => (truth r.2 r.1).map fun k => (.dat (.bool (!k)), r.2)
theorem x_and {rest : List Expr} (ha : PE X a (TX X.K f)) (hb : PE X (.BoolOp .And (b :: rest) pos) (TX X.K g)) : PE X (.BoolOp .And (a :: b :: rest) pos) (TX X.K (bAnd f g)) :=
  PE.imp (pe_andT ha hb) fun σ H Q ⟨env, st, μ, hid, w, st', W0, e, q⟩ => by
    unfold bAnd at e
    obtain ⟨⟨x, s1⟩, h1, e⟩ := Option.bind_eq_some_iff.mp e
    obtain ⟨k, h2, e⟩ := Option.bind_eq_some_iff.mp e
    refine TX.go W0 h1 fun v H1 μ1 n1 W1 r => ⟨k, tru_of W1.sd r h2, ?_⟩
    cases k with
    | true => rw [if_pos rfl] at e ⊢; exact TX.go W1 e fun v H2 μ2 n2 W2 r => q v H2 μ2 (n1.trans n2) W2.sd r
    | false => simp only [Bool.false_eq_true, if_false] at e ⊢; cases e; exact q v H1 μ1 n1 W1.sd r
theorem x_or {rest : List Expr} (ha : PE X a (TX X.K f)) (hb : PE X (.BoolOp .Or (b :: rest) pos) (TX X.K g)) : PE X (.BoolOp .Or (a :: b :: rest) pos) (TX X.K (bOr f g)) :=
  PE.imp (pe_orT ha hb) fun σ H Q ⟨env, st, μ, hid, w, st', W0, e, q⟩ => by
    unfold bOr at e
    obtain ⟨⟨x, s1⟩, h1, e⟩ := Option.bind_eq_some_iff.mp e
    obtain ⟨k, h2, e⟩ := Option.bind_eq_some_iff.mp e
    refine TX.go W0 h1 fun v H1 μ1 n1 W1 r => ⟨k, tru_of W1.sd r h2, ?_⟩
    cases k with
    | true => rw [if_pos rfl] at e ⊢; cases e; exact q v H1 μ1 n1 W1.sd r
    | false => simp only [Bool.false_eq_true, if_false] at e ⊢; exact TX.go W1 e fun v H2 μ2 n2 W2 r => q v H2 μ2 (n1.trans n2) W2.sd r
theorem x_not (ha : PE X a (TX X.K f)) : PE X (.UnaryOp .Not a pos) (TX X.K (bNot f)) :=
  PE.imp (pe_notT ha) fun σ H Q ⟨env, st, μ, hid, w, st', W0, e, q⟩ => by
    unfold bNot at e
    obtain ⟨⟨x, s1⟩, h1, e⟩ := Option.bind_eq_some_iff.mp e
    obtain ⟨k, h2, h3⟩ := Option.map_eq_some_iff.mp e
    cases h3
    exact TX.go W0 h1 fun v H1 μ1 n1 W1 r => ⟨k, tru_of W1.sd r h2, q _ H1 μ1 n1 W1.sd (.dat (.bl _))⟩
def bIf (t : Et) (f g : Ev) : Ev := fun env st => (t env st).bind fun r => if r.1 = true then f env r.2 else g env r.2
theorem x_if {t : Et} (hc : PT X c (TTx X.K t)) (ha : PE X a (TX X.K f)) (hb : PE X b (TX X.K g)) : PE X (.IfExp c a b pos) (TX X.K (bIf t f g)) :=
  PE.imp (pe_ifExp hc ha hb) fun σ H Q ⟨env, st, μ, hid, w, st', W0, e, q⟩ => by
    unfold bIf at e
    obtain ⟨⟨k, s1⟩, h1, e⟩ := Option.bind_eq_some_iff.mp e
    refine TTx.go W0 h1 fun H1 μ1 n1 W1 => ?_
    cases k with
    | true => rw [if_pos rfl] at e ⊢; exact TX.go W1 e fun v H2 μ2 n2 W2 r => q v H2 μ2 (n1.trans n2) W2.sd r
    | false => simp only [Bool.false_eq_true, if_false] at e ⊢; exact TX.go W1 e fun v H2 μ2 n2 W2 r => q v H2 μ2 (n1.trans n2) W2.sd r
end
end L3
set_option Elab.async false
set_option linter.all false
set_option maxRecDepth 100000
set_option maxHeartbeats 4000000
set_option autoImplicit false
/-! L3: targets, statements, loops. -/
namespace L3
open PySem PySem.Spec PyProof.Rows L2
section
variable {X : Cx} {a b c : Expr} {pos : Pos} {f g : Ev}
/-! ### targets -/
abbrev Eg := W → E3 → Store → Option (E3 × Store)
abbrev Egs := List W → E3 → Store → Option (E3 × Store)
def After (σ σ' : L2.St) (sl : List Nat) : Prop := σ'.length = σ.length ∧ ∀ j, j ∉ sl → σ'[j]? = σ[j]?
theorem After.refl {σ : L2.St} {sl : List Nat} : After σ σ sl := ⟨rfl, fun _ _ => rfl⟩
theorem After.trans {σ σ' σ'' : L2.St} {sl sl' : List Nat} (h : After σ σ' sl) (h' : After σ' σ'' sl') : After σ σ'' (sl ++ sl') :=
  ⟨h'.1.trans h.1, fun j hj => (h'.2 j fun q => hj (List.mem_append_right _ q)).trans (h.2 j fun q => hj (List.mem_append_left _ q))⟩
def TGx (K : PySem.W.Frag) (sl : List Nat) (g : Eg) : TG := fun v σ H Q => ∃ env st μ hid w env' st', Wd K σ H env st μ hid ∧ RW K (mask H (μ ++ hid)) μ v w ∧ g w env st = some (env', st') ∧
  ∀ σ' H' μ', Nx H μ H' μ' hid → Wd K σ' H' env' st' μ' hid → After σ σ' sl → Q σ' H'
def TGsx (K : PySem.W.Frag) (sl : List Nat) (g : Egs) : TGs := fun v σ H Q => ∃ env st μ hid w env' st', Wd K σ H env st μ hid ∧ RWs K (mask H (μ ++ hid)) μ v w ∧ g w env st = some (env', st') ∧
  ∀ σ' H' μ', Nx H μ H' μ' hid → Wd K σ' H' env' st' μ' hid → After σ σ' sl → Q σ' H'
theorem PG.imp {tg : Expr} {t t' : TG} (h : PG X tg t) (k : ∀ v σ H Q, t' v σ H Q → t v σ H Q) : PG X tg t' := ⟨fun pins s σ H x v Q I r q => h.run pins s σ H x v Q I r (k _ _ _ _ q)⟩
theorem PGs.imp {tg : List Expr} {t t' : TGs} (h : PGs X tg t) (k : ∀ v σ H Q, t' v σ H Q → t v σ H Q) : PGs X tg t' := ⟨fun pins s σ H x v Q I r q => h.run pins s σ H x v Q I r (k _ _ _ _ q)⟩
theorem PG.or {tg : Expr} {t t' : TG} (h : PG X tg t) (h' : PG X tg t') : PG X tg (fun v σ H Q => t v σ H Q ∨ t' v σ H Q) :=
  ⟨fun pins s σ H x v Q I r q => q.elim (h.run pins s σ H x v Q I r) (h'.run pins s σ H x v Q I r)⟩
def gNm (i : Nat) : Eg := fun w env st => some (env.set i (some w), st)
def gNl : Egs
  | [], env, st => some (env, st)
  | _, _, _ => none
def gCn (g : Eg) (h : Egs) : Egs
  | w :: ws, env, st => (g w env st).bind fun r => h ws r.1 r.2
  | [], _, _ => none
def gTp (n : Nat) (g : Egs) : Eg := fun w env st => match seqOf st w with
  | some ws => if ws.length = n then g ws env st else none
  | none => none
theorem xg_name {i : Nat} {x : Str} (hN : X.N.Nodup) (hi : X.N[i]? = some x) (hx : Loc X.env.scope x) (hf : X.fn x = true ∨ X.env.scope.names.lookup x = some .local := by first | exact .inl rfl | exact .inr rfl | assumption) : PG X (.Name x pos) (TGx X.K [i] (gNm i)) :=
  PG.imp (pg_name hN hi hx hf) fun v σ H Q ⟨env, st, μ, hid, w, env', st', W0, r, e, q⟩ => by
    cases e
    refine q _ H μ Nx.refl ⟨W0.ev.set r, W0.sd⟩ ⟨List.length_set, fun j hj => ?_⟩
    rw [List.getElem?_set_ne]
    intro e; exact hj (by simp [e])
theorem xgs_nil : PGs X [] (TGsx X.K [] gNl) :=
  PGs.imp pgs_nil fun v σ H Q ⟨env, st, μ, hid, w, env', st', W0, r, e, q⟩ => by
    cases r with
    | nil => cases e; exact ⟨rfl, q σ H μ Nx.refl W0 After.refl⟩
    | cons a b => cases e
theorem xgs_cons {e : Expr} {es : List Expr} {sl sl' : List Nat} {g : Eg} {h : Egs} (h1 : PG X e (TGx X.K sl g)) (h2 : PGs X es (TGsx X.K sl' h))
    (hs : (assignEach (e :: es) X.env).map (·.2) = assign e X.env :: (assignEach es X.env).map (·.2) := by rfl) : PGs X (e :: es) (TGsx X.K (sl ++ sl') (gCn g h)) :=
  PGs.imp (pgs_cons h1 h2 hs) fun v σ H Q ⟨env, st, μ, hid, w, env', st', W0, r, e, q⟩ => by
    cases r with
    | nil => cases e
    | cons r1 r2 =>
      obtain ⟨⟨env1, st1⟩, h3, h4⟩ := Option.bind_eq_some_iff.mp e
      refine ⟨_, _, rfl, env, st, μ, hid, _, env1, st1, W0, r1, h3, fun σ1 H1 μ1 n1 W1 a1 => ?_⟩
      exact ⟨env1, st1, μ1, hid, _, env', st', W1, RWs.mono n1.same n1.pre r2, h4, fun σ2 H2 μ2 n2 W2 a2 => q σ2 H2 μ2 (n1.trans n2) W2 (a1.trans a2)⟩
theorem xg_tup {es : List Expr} {k n : Nat} {sl : List Nat} {g : Egs} (hc : X.calm = true) (h : PGs X es (TGsx X.K sl g))
    (hn : (assignEach es X.env).length = n := by rfl) (hst : (assignEach es X.env).findIdx? (·.1) = none := by rfl) : PG X (.Tuple es k pos) (TGx X.K sl (gTp n g)) :=
  PG.imp (PG.or (pg_tup hc h hn hst) (pg_unl hc h hn hst)) fun v σ H Q ⟨env, st, μ, hid, w, env', st', W0, r, e, q⟩ => by
    unfold gTp at e
    split at e
    · rename_i ws hw
      split at e
      · rename_i hl
        obtain ⟨_, a, xs, rfl, hq, hr⟩ := seq_of W0.sd r hw
        have hl2 : xs.length = ws.length := Paired.length hr
        rcases hq with hq | hq
        · exact .inr ⟨a, xs, rfl, hq, by omega, env, st, μ, hid, ws, env', st', W0, hr, e, q⟩
        · exact .inl ⟨a, xs, rfl, hq, by omega, env, st, μ, hid, ws, env', st', W0, hr, e, q⟩
      · cases e
    · cases e
/-- stores -/
def putW (kvs : List (Key × W)) (k : Key) (v : W) : List (Key × W) := match kvs with
  | [] => [(k, v)]
  | p :: r => if p.1 = k then (k, v) :: r else p :: putW r k v
def opSet : W → W → W → Store → Option Store := fun o i w st => match o with
  | .loc n => match st[n]? with
    | some (.list ws) => match i with
      | .dat (.int i) => match ixN ws.length i with
        | some j => some (st.set n (.list (ws.set j w)))
        | none => none
      | _ => none
    | _ => none
  | _ => none
def gSb (f i : Ev) : Eg := fun w env st => (f env st).bind fun r => (i env r.2).bind fun t => (opSet r.1 t.1 w t.2).map (env, ·)
theorem RWs.set {K : PySem.W.Frag} {M : Hp} {μ : List Addr} {v : V} {w : W} (r : RW K M μ v w) : ∀ {vs : List V} {ws : List W} (j : Nat), RWs K M μ vs ws → RWs K M μ (vs.set j v) (ws.set j w)
  | _, _, _, .nil => .nil
  | _, _, 0, .cons _ t => .cons r t
  | _, _, j + 1, .cons q t => .cons q (RWs.set r j t)
theorem xg_sub {o i : Expr} (ho : PE X o (TX X.K f)) (hi : PE X i (TX X.K g))
    (ha : ∀ v, assign (.Subscript o i pos) X.env v = (do
      let ov ← holding [v] (eval o X.env)
      let iv ← holding [v, ov] (eval i X.env)
      standAt pos
      holding [v, ov, iv] (setItem ov iv v)
      release [v, ov, iv] []) := by intro _; rfl) : PG X (.Subscript o i pos) (TGx X.K [] (gSb f g)) :=
  PG.imp (pg_sub ho hi set_list ha) fun v σ H Q ⟨env, st, μ, hid, w, env', st', W0, r, e, q⟩ => by
    unfold gSb at e
    obtain ⟨⟨wo, s1⟩, h1, e⟩ := Option.bind_eq_some_iff.mp e
    obtain ⟨⟨wi, s2⟩, h2, e⟩ := Option.bind_eq_some_iff.mp e
    obtain ⟨s3, h3, h4⟩ := Option.map_eq_some_iff.mp e
    cases h4
    refine TX.go W0 h1 fun vo H1 μ1 n1 W1 ro => TX.go W1 h2 fun vi H2 μ2 n2 W2 ri => ?_
    have ro := ro.mono n2.same n2.pre
    have r := (r.mono n1.same n1.pre).mono n2.same n2.pre
    dsimp only at h3
    unfold opSet at h3
    split at h3
    · rename_i n
      split at h3
      · rename_i ws hw
        split at h3
        · rename_i ii
          split at h3
          · rename_i j hj
            cases h3
            cases ro with
            | loc hm =>
              cases ri with
              | dat ri =>
                cases ri
                cases W2.sd.at hw hm with
                | @list vs _ h5 h6 h7 =>
                  have hl : _ = _ := Paired.length h7
                  refine ⟨_, _, _, j, rfl, rfl, h5, by rw [hl]; exact hj, ?_⟩
                  have np := Nx.put (H := H2) (o := .lst (vs.set j v)) hm W2.sd.nd
                  have sp := W2.sd.put (o := .lst (vs.set j v)) hm (c := .list (ws.set j w)) (.list upd_same (by rw [List.length_set]; exact h6) (h7.set r j))
                  exact q σ _ μ2 ((n1.trans n2).trans np) (W2.next np sp) After.refl
          · cases h3
        · cases h3
      · cases h3
    · cases h3
/-! ### statements -/
inductive Fl where
  | nx | rt (w : W) | bk | ct
abbrev Eb := E3 → Store → Option (Fl × E3 × Store)
def FinS (K : PySem.W.Frag) (H : Hp) (μ hid : List Addr) (D : Ends) (fl : Fl) (env' : E3) (st' : Store) : Prop := match fl with
  | .nx => ∀ σ' H' μ', Nx H μ H' μ' hid → Wd K σ' H' env' st' μ' hid → D.nx σ' H'
  | .rt w => ∀ v H' μ', Nx H μ H' μ' hid → Sd K H' st' μ' hid → RW K (mask H' (μ' ++ hid)) μ' v w → D.rt v H'
  | .bk => ∀ σ' H' μ', Nx H μ H' μ' hid → Wd K σ' H' env' st' μ' hid → D.bk σ' H'
  | .ct => ∀ σ' H' μ', Nx H μ H' μ' hid → Wd K σ' H' env' st' μ' hid → D.ct σ' H'
def TSx (K : PySem.W.Frag) (f : Eb) : TS := fun D σ H => ∃ env st μ hid fl env' st', Wd K σ H env st μ hid ∧ f env st = some (fl, env', st') ∧ FinS K H μ hid D fl env' st'
theorem FinS.from {K : PySem.W.Frag} {H H1 : Hp} {μ μ1 hid : List Addr} {D : Ends} {fl : Fl} {env' : E3} {st' : Store} (n : Nx H μ H1 μ1 hid) (h : FinS K H μ hid D fl env' st') : FinS K H1 μ1 hid D fl env' st' := by
  cases fl with
  | nx => exact fun σ' H' μ' n' w => h σ' H' μ' (n.trans n') w
  | rt w => exact fun v H' μ' n' s r => h v H' μ' (n.trans n') s r
  | bk => exact fun σ' H' μ' n' w => h σ' H' μ' (n.trans n') w
  | ct => exact fun σ' H' μ' n' w => h σ' H' μ' (n.trans n') w
theorem TSx.go {K : PySem.W.Frag} {f : Eb} {σ : L2.St} {H : Hp} {env env' : E3} {st st' : Store} {μ hid : List Addr} {fl : Fl} {D : Ends} (W0 : Wd K σ H env st μ hid) (e : f env st = some (fl, env', st')) (k : FinS K H μ hid D fl env' st') : TSx K f D σ H :=
  ⟨env, st, μ, hid, fl, env', st', W0, e, k⟩
def bPass : Eb := fun env st => some (.nx, env, st)
def bBrk : Eb := fun env st => some (.bk, env, st)
def bCnt : Eb := fun env st => some (.ct, env, st)
def bBad : Eb := fun _ _ => none
def bSeq (f g : Eb) : Eb := fun env st => (f env st).bind fun r => match r.1 with
  | .nx => g r.2.1 r.2.2
  | _ => some r
def bRet (f : Ev) : Eb := fun env st => (f env st).map fun r => (.rt r.1, env, r.2)
def bRetN : Eb := fun env st => some (.rt (.dat .none), env, st)
def bAsg (f : Ev) (g : Eg) : Eb := fun env st => (f env st).bind fun r => (g r.1 env r.2).map fun t => (.nx, t.1, t.2)
def bExp (f : Ev) : Eb := fun env st => (f env st).map fun r => (.nx, env, r.2)
def bIfS (t : Et) (f g : Eb) : Eb := fun env st => (t env st).bind fun r => if r.1 = true then f env r.2 else g env r.2
section
variable {s : Stmt} {ss tt : List Stmt} {u v : Eb}
theorem xs_bad : PS X s (TSx X.K bBad) := PS.imp (t := tNever) (ps_never) fun D σ H ⟨_, _, _, _, _, _, _, _, e, _⟩ => by cases e
theorem xss_bad : PSs X ss (TSx X.K bBad) := PSs.imp (t := tNever) (pss_never) fun D σ H ⟨_, _, _, _, _, _, _, _, e, _⟩ => by cases e
theorem xs_pass : PS X (.Pass pos) (TSx X.K bPass) := PS.imp ps_pass fun D σ H ⟨env, st, μ, hid, fl, env', st', W0, e, q⟩ => by cases e; exact q σ H μ Nx.refl W0
theorem xs_brk : PS X (.Break pos) (TSx X.K bBrk) := PS.imp ps_break fun D σ H ⟨env, st, μ, hid, fl, env', st', W0, e, q⟩ => by cases e; exact q σ H μ Nx.refl W0
theorem xs_cnt : PS X (.Continue pos) (TSx X.K bCnt) := PS.imp ps_continue fun D σ H ⟨env, st, μ, hid, fl, env', st', W0, e, q⟩ => by cases e; exact q σ H μ Nx.refl W0
theorem xss_nil : PSs X [] (TSx X.K bPass) := PSs.imp pss_nil fun D σ H ⟨env, st, μ, hid, fl, env', st', W0, e, q⟩ => by cases e; exact q σ H μ Nx.refl W0
theorem xss_one (h : PS X s (TSx X.K u)) : PSs X [s] (TSx X.K u) := pss_one h
theorem TSx.seq {K : PySem.W.Frag} {D : Ends} {σ : L2.St} {H : Hp} (h : TSx K (bSeq u v) D σ H) : tSeq (TSx K u) (TSx K v) D σ H := by
  obtain ⟨env, st, μ, hid, fl, env', st', W0, e, q⟩ := h
  unfold bSeq at e
  obtain ⟨⟨fl1, env1, st1⟩, h1, e⟩ := Option.bind_eq_some_iff.mp e
  refine TSx.go W0 h1 ?_
  cases fl1 with
  | nx => exact fun σ' H' μ' n w => TSx.go w e (FinS.from n q)
  | rt w => cases e; exact q
  | bk => cases e; exact q
  | ct => cases e; exact q
theorem xss_cons (h : PS X s (TSx X.K u)) (h2 : PSs X ss (TSx X.K v)) : PSs X (s :: ss) (TSx X.K (bSeq u v)) := PSs.imp (pss_cons h h2) fun D σ H q => q.seq
theorem xs_ret (ha : PE X a (TX X.K f)) : PS X (.Return (some a) pos) (TSx X.K (bRet f)) :=
  PS.imp (ps_ret ha) fun D σ H ⟨env, st, μ, hid, fl, env', st', W0, e, q⟩ => by
    unfold bRet at e
    obtain ⟨⟨w, s1⟩, h1, h2⟩ := Option.map_eq_some_iff.mp e
    cases h2
    exact TX.go W0 h1 fun v H1 μ1 n1 W1 r => q v H1 μ1 n1 W1.sd r
theorem xs_retN : PS X (.Return none pos) (TSx X.K bRetN) :=
  PS.imp ps_retN fun D σ H ⟨env, st, μ, hid, fl, env', st', W0, e, q⟩ => by cases e; exact q _ H μ Nx.refl W0.sd (.dat .non)
theorem TSx.asg {K : PySem.W.Frag} {D : Ends} {σ : L2.St} {H : Hp} {sl : List Nat} {g : Eg} (h : TSx K (bAsg f g) D σ H) : tAsg (TX K f) (TGx K sl g) D σ H := by
  obtain ⟨env, st, μ, hid, fl, env', st', W0, e, q⟩ := h
  unfold bAsg at e
  obtain ⟨⟨w, s1⟩, h1, e⟩ := Option.bind_eq_some_iff.mp e
  obtain ⟨⟨env1, s2⟩, h2, h3⟩ := Option.map_eq_some_iff.mp e
  cases h3
  exact TX.go W0 h1 fun v H1 μ1 n1 W1 r => ⟨env, s1, μ1, hid, w, env1, s2, W1, r, h2, fun σ' H' μ' n W2 _ => q σ' H' μ' (n1.trans n) W2⟩
theorem xs_asg {tg : Expr} {sl : List Nat} {g : Eg} (he : PE X a (TX X.K f)) (hg : PG X tg (TGx X.K sl g)) (hs : swapsWithSole [tg] a pos.line X.env = pure false := by rfl) (hw : swappedStores [tg] a X.env = pure none := by rfl)
    (h1 : (assignEach [tg] X.env).map (·.2) = [assign tg X.env] := by rfl) : PS X (.Assign [tg] a pos) (TSx X.K (bAsg f g)) := PS.imp (ps_asg he hg hs hw h1) fun D σ H q => q.asg
theorem xs_set {i : Nat} {x : Str} {pos' : Pos} (hN : X.N.Nodup) (hi : X.N[i]? = some x) (hx : Loc X.env.scope x) (he : PE X a (TX X.K f)) (hs : swapsWith a (some (.Name x pos')) pos.line X.env = pure false := by rfl) (hf : X.fn x = true ∨ X.env.scope.names.lookup x = some .local := by first | exact .inl rfl | exact .inr rfl | assumption) :
    PS X (.Assign [.Name x pos'] a pos) (TSx X.K (bAsg f (gNm i))) := PS.imp (ps_set hN hi hx he hs hf) fun D σ H h => by
    obtain ⟨env, st, μ, hid, fl, env', st', W0, e, q⟩ := h
    unfold bAsg at e
    obtain ⟨⟨w, s1⟩, h1, e⟩ := Option.bind_eq_some_iff.mp e
    cases e
    exact TX.go W0 h1 fun v H1 μ1 n1 W1 r => q _ H1 μ1 n1 ⟨W1.ev.set r, W1.sd⟩
theorem xs_exp (ha : PE X a (TX X.K f)) (hs : swapsWith a none pos.line X.env = pure false := by rfl) : PS X (.Expr a pos) (TSx X.K (bExp f)) :=
  PS.imp (ps_expr ha hs) fun D σ H ⟨env, st, μ, hid, fl, env', st', W0, e, q⟩ => by
    unfold bExp at e
    obtain ⟨⟨w, s1⟩, h1, h2⟩ := Option.map_eq_some_iff.mp e
    cases h2
    exact TX.go W0 h1 fun v H1 μ1 n1 W1 r => q σ H1 μ1 n1 W1
theorem xs_if {t : Et} (hc : PT X c (TTx X.K t)) (h1 : PSs X ss (TSx X.K u)) (h2 : PSs X tt (TSx X.K v)) : PS X (.If c ss tt pos) (TSx X.K (bIfS t u v)) :=
  PS.imp (ps_if hc h1 h2) fun D σ H ⟨env, st, μ, hid, fl, env', st', W0, e, q⟩ => by
    unfold bIfS at e
    obtain ⟨⟨k, s1⟩, h3, e⟩ := Option.bind_eq_some_iff.mp e
    refine TTx.go W0 h3 fun H1 μ1 n1 W1 => ?_
    cases k with
    | true => rw [if_pos rfl] at e ⊢; exact TSx.go W1 e (FinS.from n1 q)
    | false => simp only [Bool.false_eq_true, if_false] at e ⊢; exact TSx.go W1 e (FinS.from n1 q)
/-- name op= e -/
def bAug (i : Nat) (o : Op2) (f : Ev) : Eb := fun env st => match env[i]? with
  | some (some x) => (f env st).bind fun r => (o x r.1 r.2).map fun t => (.nx, env.set i (some t.1), t.2)
  | _ => none
theorem xs_aug {i : Nat} {x : Str} {op : Operator} {o : Op2} {pos' : Pos} (hN : X.N.Nodup) (hi : X.N[i]? = some x) (hx : Loc X.env.scope x) (he : PE X a (TX X.K f)) (ho : OpR X (inplaceOp op) (T2 X.K o)) (hf : X.fn x = true ∨ X.env.scope.names.lookup x = some .local := by first | exact .inl rfl | exact .inr rfl | assumption) :
    PS X (.AugAssign (.Name x pos') op a pos) (TSx X.K (bAug i o f)) :=
  PS.imp (ps_aug (ti := T2 X.K o) hN hi hx he (fun pins s σ H x y v u Q I rx ry h => ho pins s σ H x y v u Q I rx ry h) hf) fun D σ H ⟨env, st, μ, hid, fl, env', st', W0, e, q⟩ => by
    unfold bAug at e
    split at e
    · rename_i x' hx'
      obtain ⟨⟨y, s1⟩, h1, e⟩ := Option.bind_eq_some_iff.mp e
      obtain ⟨⟨z, s2⟩, h2, h3⟩ := Option.map_eq_some_iff.mp e
      cases h3
      obtain ⟨v, hv, rv⟩ := W0.ev.2 i x' hx'
      exact ⟨v, hv, TX.go W0 h1 fun vy H1 μ1 n1 W1 ry => ⟨s1, μ1, hid, x', y, z, s2, W1.sd, rv.mono n1.same n1.pre, ry, h2, fun vz H' μ' n s r => q _ H' μ' (n1.trans n) ⟨(W1.next n s).ev.set r, s⟩⟩⟩
    · cases e
end
end
end L3
set_option Elab.async false
set_option linter.all false
set_option maxRecDepth 100000
set_option maxHeartbeats 4000000
set_option autoImplicit false
/-! L3: what is walked; loops; comprehensions. -/
namespace L3
open PySem PySem.Spec PyProof.Rows L2
section
variable {X : Cx} {a b c : Expr} {pos : Pos} {f g : Ev}

/-- what is walked: the item at a turn (none: stuck; some none: the end) -/
structure It3 where
  n : Nat
  item : Store → Nat → Option (Option W)
def Walks (K : PySem.W.Frag) (J : It) (it : It3) (M0 : Hp) (μ0 : List Addr) : Prop := ∀ H st μ hid, Same M0 (mask H (μ ++ hid)) → μ0 <+: μ → Sd K H st μ hid → ∀ i,
  (∀ w, it.item st i = some (some w) → i < sizeLine ∧ J.go i H ∧ ∀ x H', J.yld i H x H' → Nx H μ H' μ hid ∧ Sd K H' st μ hid ∧ RW K (mask H' (μ ++ hid)) μ x w) ∧ (it.item st i = some none → J.stop i H)
abbrev Ei := E3 → Store → Option (It3 × Store)
def TIx (K : PySem.W.Frag) (f : Ei) : TI := fun σ H R => ∃ env st μ hid it st', Wd K σ H env st μ hid ∧ f env st = some (it, st') ∧
  ∀ J H' μ', Nx H μ H' μ' hid → Sd K H' st' μ' hid → Walks K J it (mask H' (μ' ++ hid)) μ' → R J H'
theorem PI.imp {tg e : Expr} {t t' : TI} (h : PI X tg e t) (k : ∀ σ H R, t' σ H R → t σ H R) : PI X tg e t' := ⟨fun pins s σ H R I q => h.run pins s σ H R I (k _ _ _ q)⟩
theorem PI.or {tg e : Expr} {t t' : TI} (h : PI X tg e t) (h' : PI X tg e t') : PI X tg e (fun σ H R => t σ H R ∨ t' σ H R) := ⟨fun pins s σ H R I q => q.elim (h.run pins s σ H R I) (h'.run pins s σ H R I)⟩
/-! ### a sequence -/
def liveSeq (w : W) (ws : List W) : It3 := ⟨ws.length, fun st i => match seqOf st w with
  | some us => some us[i]?
  | none => none⟩
def iSeq (f : Ev) : Ei := fun env st => (f env st).bind fun r => (seqOf r.2 r.1).map fun ws => (liveSeq r.1 ws, r.2)
theorem RWs.get {K : PySem.W.Frag} {M : Hp} {μ : List Addr} {w : W} : ∀ {vs : List V} {ws : List W} {j : Nat}, RWs K M μ vs ws → ws[j]? = some w → ∃ v, vs[j]? = some v ∧ RW K M μ v w
  | _, _, _, .nil, e => by simp at e
  | _, _, 0, .cons a _, e => by simp at e; subst e; exact ⟨_, rfl, a⟩
  | _, _, j + 1, .cons _ b, e => by
    obtain ⟨v, h1, h2⟩ := RWs.get (j := j) b (by simpa using e)
    exact ⟨v, by simpa using h1, h2⟩
theorem seq_inj {K : PySem.W.Frag} {H : Hp} {a : Addr} {v : V} (h : v = .ref a) {b : Addr} (h' : v = .ref b) : a = b := by subst h; cases h'; rfl
/-- the kinds: lists, tuples -/
theorem walk_seq {K : PySem.W.Frag} {M : Hp} {μ : List Addr} {x : V} {w : W} {ws : List W} {a : Addr} (r : RW K M μ x w) (ea : x = .ref a) (hl : ∀ ds, w ≠ .dat (.tuple ds)) : Walks K (Itl K a) (liveSeq w ws) M μ := by
  intro H st μ' hid s p sd i
  have r' := r.mono s p
  subst ea
  refine ⟨fun w' e => ?_, fun e => ?_⟩
  · simp only [liveSeq] at e
    split at e
    · rename_i us hu
      obtain ⟨hz, b, xs, eb, hq, hr⟩ := seqL_of sd r' hu hl
      cases eb
      have e : us[i]? = some w' := Option.some.inj e
      obtain ⟨v, h1, h2⟩ := hr.get e
      have hi := (List.getElem?_eq_some_iff.mp e).1
      refine ⟨by omega, ⟨xs, v, hq, h1⟩, fun y H' hy => ?_⟩
      obtain ⟨rfl, hy⟩ := hy
      have := hy xs hq
      rw [h1] at this; cases this
      exact ⟨Nx.refl, sd, h2⟩
    · cases e
  · simp only [liveSeq] at e
    split at e
    · rename_i us hu
      obtain ⟨hz, b, xs, eb, hq, hr⟩ := seqL_of sd r' hu hl
      cases eb
      have e : us[i]? = none := Option.some.inj e
      have hlen : _ = _ := Paired.length hr
      exact ⟨xs, hq, by have := List.getElem?_eq_none_iff.mp e; omega⟩
    · cases e
theorem walk_tup {K : PySem.W.Frag} {M : Hp} {μ : List Addr} {x : V} {ds : List PyData} {ws : List W} {a : Addr} (r : RW K M μ x (.dat (.tuple ds))) (ea : x = .ref a) : Walks K (Itt K a) (liveSeq (.dat (.tuple ds)) ws) M μ := by
  intro H st μ' hid s p sd i
  have r' := r.mono s p
  subst ea
  cases r' with
  | dat r' =>
    cases r' with
    | tup hq hz hr =>
      have hq := sameT mask_le hq
      have hlen := hr.length
      refine ⟨fun w' e => ?_, fun e => ?_⟩
      · have e : (ds.map W.dat)[i]? = some w' := Option.some.inj e
        obtain ⟨v, h1, h2⟩ := (hr.ws (μ := μ')).get e
        have hi := (List.getElem?_eq_some_iff.mp e).1
        rw [List.length_map] at hi
        refine ⟨by omega, ⟨_, v, hq, h1⟩, fun y H' hy => ?_⟩
        obtain ⟨rfl, hy⟩ := hy
        have := hy _ hq
        rw [h1] at this; cases this
        exact ⟨Nx.refl, sd, h2⟩
      · have e : (ds.map W.dat)[i]? = none := Option.some.inj e
        exact ⟨_, hq, by have := List.getElem?_eq_none_iff.mp e; rw [List.length_map] at this; omega⟩
theorem xi_seq {tg : Expr} (ha : PE X a (TX X.K f)) : PI X tg a (TIx X.K (iSeq f)) :=
  PI.imp (PI.or (pi_list ha) (pi_tup ha)) fun σ H R ⟨env, st, μ, hid, it, st', W0, e, q⟩ => by
    unfold iSeq at e
    obtain ⟨⟨w, s1⟩, h1, e⟩ := Option.bind_eq_some_iff.mp e
    obtain ⟨ws, h2, h3⟩ := Option.map_eq_some_iff.mp e
    cases h3
    by_cases ht : ∃ ds, w = .dat (.tuple ds)
    · obtain ⟨ds, rfl⟩ := ht
      refine .inr (TX.go W0 h1 fun v H1 μ1 n1 W1 r => ?_)
      have r0 := r
      cases r with
      | dat r => cases r with
        | tup hq hz hr => exact ⟨_, rfl, ⟨_, sameT mask_le hq⟩, q _ H1 μ1 n1 W1.sd (walk_tup r0 rfl)⟩
    · refine .inl (TX.go W0 h1 fun v H1 μ1 n1 W1 r => ?_)
      have hn : ∀ ds, w ≠ .dat (.tuple ds) := fun ds h => ht ⟨ds, h⟩
      obtain ⟨_, a, xs, rfl, hq, hr⟩ := seqL_of W1.sd r h2 hn
      exact ⟨a, rfl, ⟨xs, hq⟩, q _ H1 μ1 n1 W1.sd (walk_seq r rfl hn)⟩
/-! ### range -/
def itRange (a b : Int) : It3 := ⟨(b - a).toNat, fun _ i => some (if i < (b - a).toNat then some (.dat (.int (a + i))) else none)⟩
def iRange (f g : Ev) : Ei := fun env st => (f env st).bind fun r => (g env r.2).bind fun t => match r.1, t.1 with
  | .dat (.int i), .dat (.int j) => if rgOk i j = true then some (itRange i j, t.2) else none
  | _, _ => none
theorem walk_range {K : PySem.W.Frag} {M : Hp} {μ : List Addr} {i j : Int} (h : rgOk i j = true) : Walks K (Itr i (j - i).toNat) (itRange i j) M μ := by
  intro H st μ' hid s p sd k
  have hz := (rgOk_of h).2.2.2.2
  have hs : sizeLine = 2 ^ 24 := sizeLine_eq
  refine ⟨fun w e => ?_, fun e => ?_⟩
  · have e := Option.some.inj e
    split at e
    · rename_i hk
      cases e
      refine ⟨by omega, hk, fun x H' hy => ?_⟩
      obtain ⟨rfl, rfl⟩ := hy
      exact ⟨Nx.refl, sd, .dat (.int _)⟩
    · cases e
  · have e := Option.some.inj e
    split at e
    · cases e
    · rename_i hk; exact Nat.le_of_not_lt hk
theorem xi_range1 {tg : Expr} {p : Pos} (hg : Gl X "range") (hm : X.mg "range" = none) (ha : PE X a (TX X.K f)) (hs : starEach [a] X.env = [(false, eval a X.env)] := by rfl) : PI X tg (.Call (.Name "range" p) [a] [] pos) (TIx X.K (iRange (bDat (.int 0)) f)) :=
  PI.imp (pi_range1 hg hm (pa_cons ha pa_nil hs) hs) fun σ H R ⟨env, st, μ, hid, it, st', W0, e, q⟩ => by
    unfold iRange at e
    obtain ⟨⟨w, s1⟩, h1, e⟩ := Option.bind_eq_some_iff.mp e
    cases h1
    obtain ⟨⟨w2, s2⟩, h2, e⟩ := Option.bind_eq_some_iff.mp e
    refine TX.go W0 h2 fun v H1 μ1 n1 W1 r => ?_
    cases w2 with
    | dat d => cases d with
      | int j =>
        simp only at e
        split at e
        · rename_i hr
          cases e
          cases r with
          | dat r =>
            cases r
            have ok := rgOk_of hr
            refine ⟨j, rfl, ok.2.2.1, ok.2.2.2.1, ?_⟩
            have := q (Itr 0 (j - 0).toNat) H1 μ1 n1 W1.sd (walk_range hr)
            rw [Int.sub_zero] at this
            exact this
        · cases e
      | _ => cases e
    | _ => cases e
theorem xi_range2 {tg : Expr} {p : Pos} (hg : Gl X "range") (hm : X.mg "range" = none) (ha : PE X a (TX X.K f)) (hb : PE X b (TX X.K g)) (hs : starEach [a, b] X.env = [(false, eval a X.env), (false, eval b X.env)] := by rfl) (hs2 : starEach [b] X.env = [(false, eval b X.env)] := by rfl) :
    PI X tg (.Call (.Name "range" p) [a, b] [] pos) (TIx X.K (iRange f g)) :=
  PI.imp (pi_range2 hg hm (pa_cons ha (pa_cons hb pa_nil hs2) (by rw [hs, hs2])) hs hs2) fun σ H R ⟨env, st, μ, hid, it, st', W0, e, q⟩ => by
    unfold iRange at e
    obtain ⟨⟨w, s1⟩, h1, e⟩ := Option.bind_eq_some_iff.mp e
    obtain ⟨⟨w2, s2⟩, h2, e⟩ := Option.bind_eq_some_iff.mp e
    refine TX.go W0 h1 fun v0 H0 μ0 n0 W0 r0 => TX.go W0 h2 fun v H1 μ1 n1 W1 r => ?_
    have r0 := r0.mono n1.same n1.pre
    cases w with
    | dat d => cases d with
      | int i =>
        cases w2 with
        | dat d => cases d with
          | int j =>
            simp only at e
            split at e
            · rename_i hr
              cases e
              cases r0 with
              | dat r0 => cases r0; cases r with
                | dat r =>
                  cases r
                  have ok := rgOk_of hr
                  exact ⟨i, j, rfl, ⟨ok.1, ok.2.1, ok.2.2.1, ok.2.2.2.1⟩, q _ H1 μ1 (n0.trans n1) W1.sd (walk_range hr)⟩
            · cases e
          | _ => cases e
        | _ => cases e
      | _ => cases e
    | _ => cases e
/-! ### zip -/
def pairW : Option W → Option W → Option W
  | some (.dat x), some (.dat y) => some (.dat (.tuple [x, y]))
  | _, _ => none
def itZip (xs ys : List PyData) : It3 := ⟨min xs.length ys.length, fun _ i => some (match xs[i]?, ys[i]? with
  | some x, some y => some (.dat (.tuple [x, y]))
  | _, _ => none)⟩
def iZip (f g : Ev) : Ei := fun env st => (f env st).bind fun r => (g env r.2).bind fun t => match r.1, t.1 with
  | .dat (.tuple xs), .dat (.tuple ys) => some (itZip xs ys, t.2)
  | .dat (.list xs), .dat (.list ys) => some (itZip xs ys, t.2)
  | _, _ => none
theorem zip_none {xs ys : List PyData} {i : Nat} (e : (match xs[i]?, ys[i]? with | some x, some y => some (W.dat (.tuple [x, y])) | _, _ => none) = none) : xs.length ≤ i ∨ ys.length ≤ i := by
  by_cases h1 : i < xs.length
  · by_cases h2 : i < ys.length
    · rw [List.getElem?_eq_getElem h1, List.getElem?_eq_getElem h2] at e; cases e
    · exact .inr (by omega)
  · exact .inl (by omega)
theorem zip_some {xs ys : List PyData} {i : Nat} {w : W} (e : (match xs[i]?, ys[i]? with | some x, some y => some (W.dat (.tuple [x, y])) | _, _ => none) = some w) : ∃ x y, xs[i]? = some x ∧ ys[i]? = some y ∧ w = .dat (.tuple [x, y]) := by
  split at e
  · rename_i x y h1 h2; cases e; exact ⟨x, y, h1, h2, rfl⟩
  · cases e
theorem walk_zipT {K : PySem.W.Frag} {M : Hp} {μ : List Addr} {a b : Addr} {xs ys : List PyData} (r : RD K M (.ref a) (.tuple xs)) (r2 : RD K M (.ref b) (.tuple ys)) : Walks K (RZ.ItzT K a b) (itZip xs ys) M μ := by
  intro H st μ' hid s p sd i
  cases r.mono s with
  | @tup _ vs _ hq hz hr =>
    cases r2.mono s with
    | @tup _ us _ hq2 hz2 hr2 =>
      have hl := hr.length
      have hl2 := hr2.length
      have hq := sameT mask_le hq
      have hq2 := sameT mask_le hq2
      refine ⟨fun w' e => ?_, fun e => ?_⟩
      · obtain ⟨x, y, h1, h2, rfl⟩ := zip_some (Option.some.inj e)
        obtain ⟨v, h3, h4⟩ := hr.get h1
        obtain ⟨u, h5, h6⟩ := hr2.get h2
        have hi := (List.getElem?_eq_some_iff.mp h1).1
        refine ⟨by omega, ⟨vs, us, v, u, hq, hq2, h3, h5⟩, fun y' H' hy => ?_⟩
        obtain ⟨T, x1, x2, rfl, nT, rfl, f1, f2⟩ := hy
        have e1 := f1 _ hq
        have e2 := f2 _ hq2
        rw [h3] at e1; rw [h5] at e2
        cases e1; cases e2
        exact ⟨Nx.new sd nT, sd.new nT, .dat (RD.tupNew sd nT (by show 2 ≤ sizeLine; decide) (.cons h4 (.cons h6 .nil)))⟩
      · have := zip_none (Option.some.inj e)
        exact ⟨vs, us, hq, hq2, by omega⟩
theorem walk_zipL {K : PySem.W.Frag} {M : Hp} {μ : List Addr} {a b : Addr} {xs ys : List PyData} (r : RD K M (.ref a) (.list xs)) (r2 : RD K M (.ref b) (.list ys)) : Walks K (Itz K a b) (itZip xs ys) M μ := by
  intro H st μ' hid s p sd i
  cases r.mono s with
  | @lst _ vs _ hq hz hr =>
    cases r2.mono s with
    | @lst _ us _ hq2 hz2 hr2 =>
      have hl := hr.length
      have hl2 := hr2.length
      have hq := SqL.of (K := K) (mask_le _ _ hq)
      have hq2 := SqL.of (K := K) (mask_le _ _ hq2)
      refine ⟨fun w' e => ?_, fun e => ?_⟩
      · obtain ⟨x, y, h1, h2, rfl⟩ := zip_some (Option.some.inj e)
        obtain ⟨v, h3, h4⟩ := hr.get h1
        obtain ⟨u, h5, h6⟩ := hr2.get h2
        have hi := (List.getElem?_eq_some_iff.mp h1).1
        refine ⟨by omega, ⟨vs, us, v, u, hq, hq2, h3, h5⟩, fun y' H' hy => ?_⟩
        obtain ⟨T, x1, x2, rfl, nT, rfl, f1, f2⟩ := hy
        have e1 := f1 _ hq
        have e2 := f2 _ hq2
        rw [h3] at e1; rw [h5] at e2
        cases e1; cases e2
        exact ⟨Nx.new sd nT, sd.new nT, .dat (RD.tupNew sd nT (by show 2 ≤ sizeLine; decide) (.cons h4 (.cons h6 .nil)))⟩
      · have := zip_none (Option.some.inj e)
        exact ⟨vs, us, hq, hq2, by omega⟩
theorem xi_zip {elts : List Expr} {kk : Nat} {p tpos : Pos} (hg : Gl X "zip") (hm : X.mg "zip" = none) (ha : PE X a (TX X.K f)) (hb : PE X b (TX X.K g))
    (hs : starEach [a, b] X.env = (false, eval a X.env) :: starEach [b] X.env := by rfl) (hs2 : starEach [b] X.env = (false, eval b X.env) :: starEach [] X.env := by rfl) (hpl : (backTo pos (starEach [b] X.env)).any (·.1) = false := by rfl) :
    PI X (.Tuple elts kk tpos) (.Call (.Name "zip" p) [a, b] [] pos) (TIx X.K (iZip f g)) :=
  PI.imp (RZ.pi_zipA hg hm (pa_cons ha (pa_cons hb pa_nil hs2) hs) hs hpl) fun σ H R ⟨env, st, μ, hid, it, st', W0, e, q⟩ => by
    unfold iZip at e
    obtain ⟨⟨w, s1⟩, h1, e⟩ := Option.bind_eq_some_iff.mp e
    obtain ⟨⟨w2, s2⟩, h2, e⟩ := Option.bind_eq_some_iff.mp e
    refine TX.go W0 h1 fun v0 H0 μ0 n0 W0 r0 => TX.go W0 h2 fun v H1 μ1 n1 W1 r => ?_
    have r0 := r0.mono n1.same n1.pre
    dsimp only at e
    split at e
    · cases e
      cases r0 with
      | dat r0 => cases r with
        | dat r =>
          have k0 := r0
          have k1 := r
          cases r0 with
          | tup hq hz hr => cases r with
            | tup hq2 hz2 hr2 => exact ⟨_, _, _, _, rfl, .inr ⟨sameT mask_le hq, sameT mask_le hq2, q _ H1 μ1 (n0.trans n1) W1.sd (walk_zipT k0 k1)⟩⟩
    · cases e
      cases r0 with
      | dat r0 => cases r with
        | dat r =>
          have k0 := r0
          have k1 := r
          cases r0 with
          | lst hq hz hr => cases r with
            | lst hq2 hz2 hr2 => exact ⟨_, _, _, _, rfl, .inl ⟨SqL.of (mask_le _ _ hq), SqL.of (mask_le _ _ hq2), q _ H1 μ1 (n0.trans n1) W1.sd (walk_zipL k0 k1)⟩⟩
    · cases e
/-! ### for -/
def forRun (it : It3) (step : W → E3 → Store → Option (Fl × E3 × Store)) : Nat → Nat → E3 → Store → Option (Fl × E3 × Store)
  | 0, _, _, _ => none
  | k + 1, i, env, st => match it.item st i with
    | none => none
    | some none => some (.nx, env, st)
    | some (some w) => match step w env st with
      | none => none
      | some (.nx, env1, st1) => forRun it step k (i + 1) env1 st1
      | some (.ct, env1, st1) => forRun it step k (i + 1) env1 st1
      | some (.bk, env1, st1) => some (.nx, env1, st1)
      | some (.rt w, env1, st1) => some (.rt w, env1, st1)
def stepOf (g : Eg) (u : Eb) : W → E3 → Store → Option (Fl × E3 × Store) := fun w env st => (g w env st).bind fun r => u r.1 r.2
def bFor (fi : Ei) (g : Eg) (u : Eb) : Eb := fun env st => (fi env st).bind fun r => forRun r.1 (stepOf g u) (r.1.n + 1) 0 env r.2
theorem xs_for {tg iter : Expr} {body : List Stmt} {fi : Ei} {sl : List Nat} {gt : Eg} {u : Eb} (hp : PassesOwn (model X.prog X.w) X.A X.env X.xe) (hc : X.calm = true) (hi : PI X tg iter (TIx X.K fi)) (hg : PG X tg (TGx X.K sl gt)) (hb : PSs X body (TSx X.K u))
    (hs : ∀ x, foldedSetIterable iter X.env x = pure x := by intro _; rfl) : PS X (.For tg iter body [] pos) (TSx X.K (bFor fi gt u)) :=
  PS.imp (ps_for hp hc hi hg hb hs) fun D σ H ⟨env, st, μ, hid, fl, env', st', W0, e, q⟩ => by
    unfold bFor at e
    obtain ⟨⟨it, s1⟩, h1, e⟩ := Option.bind_eq_some_iff.mp e
    refine ⟨env, st, μ, hid, it, s1, W0, h1, fun J H1 μ1 n1 sd1 wk => ?_⟩
    have W1 := W0.next n1 sd1
    refine ⟨fun i m σ2 H2 => ∃ env2 st2 μ2, Nx H1 μ1 H2 μ2 hid ∧ Wd X.K σ2 H2 env2 st2 μ2 hid ∧ forRun it (stepOf gt u) m i env2 st2 = some (fl, env', st'), ⟨it.n + 1, env, s1, μ1, Nx.refl, W1, e⟩, ?_⟩
    rintro i m σ2 H2 ⟨env2, st2, μ2, n2, W2, e2⟩
    obtain ⟨hgo, hstop⟩ := wk H2 st2 μ2 hid n2.same n2.pre W2.sd i
    cases m with
    | zero => cases e2
    | succ k =>
      unfold forRun at e2
      split at e2
      · cases e2
      · rename_i hit
        cases e2
        exact .inl ⟨hstop hit, q σ2 H2 μ2 (n1.trans n2) W2⟩
      · rename_i w hit
        obtain ⟨_, go, yl⟩ := hgo w hit
        refine .inr ⟨go, fun σ' H' => ∃ env3 st3 μ3, Nx H1 μ1 H' μ3 hid ∧ Wd X.K σ' H' env3 st3 μ3 hid ∧ forRun it (stepOf gt u) k (i + 1) env3 st3 = some (fl, env', st'), fun σ' H' h => ⟨k, Nat.lt_succ_self _, h⟩, fun x H3 hy => ?_⟩
        obtain ⟨n3, sd3, r3⟩ := yl x H3 hy
        have W3 := W2.next n3 sd3
        cases hst : stepOf gt u w env2 st2 with
        | none => rw [hst] at e2; cases e2
        | some r =>
          rw [hst] at e2
          unfold stepOf at hst
          obtain ⟨⟨env4, st4⟩, h4, h5⟩ := Option.bind_eq_some_iff.mp hst
          refine ⟨env2, st2, μ2, hid, w, env4, st4, W3, r3, h4, fun σ5 H5 μ5 n5 W5 _ => ?_⟩
          obtain ⟨fl6, env6, st6⟩ := r
          refine TSx.go W5 h5 ?_
          have nn := (n2.trans n3).trans n5
          cases fl6 with
          | nx => exact fun σ7 H7 μ7 n7 W7 => ⟨env6, st6, μ7, nn.trans n7, W7, e2⟩
          | ct => exact fun σ7 H7 μ7 n7 W7 => ⟨env6, st6, μ7, nn.trans n7, W7, e2⟩
          | bk => cases e2; exact fun σ7 H7 μ7 n7 W7 => q σ7 H7 μ7 (n1.trans (nn.trans n7)) W7
          | rt w' => cases e2; exact fun v H7 μ7 n7 s r => q v H7 μ7 (n1.trans (nn.trans n7)) s r
/-! ### while -/
def whileRun (t : Et) (u : Eb) : Nat → E3 → Store → Option (Fl × E3 × Store)
  | 0, _, _ => none
  | k + 1, env, st => match t env st with
    | none => none
    | some (false, st1) => some (.nx, env, st1)
    | some (true, st1) => match u env st1 with
      | none => none
      | some (.nx, env2, st2) => whileRun t u k env2 st2
      | some (.ct, env2, st2) => whileRun t u k env2 st2
      | some (.bk, env2, st2) => some (.nx, env2, st2)
      | some (.rt w, env2, st2) => some (.rt w, env2, st2)
def bWhile (m : Nat) (t : Et) (u : Eb) : Eb := fun env st => whileRun t u m env st
theorem xs_while {body : List Stmt} {t : Et} {u : Eb} {m : Nat} (hp : PassesOwn (model X.prog X.w) X.A X.env X.xe) (hc : PT X c (TTx X.K t)) (hb : PSs X body (TSx X.K u)) : PS X (.While c body [] pos) (TSx X.K (bWhile m t u)) :=
  PS.imp (ps_while hp hc hb) fun D σ H ⟨env, st, μ, hid, fl, env', st', W0, e, q⟩ => by
    unfold bWhile at e
    refine ⟨fun k σ2 H2 => ∃ env2 st2 μ2, Nx H μ H2 μ2 hid ∧ Wd X.K σ2 H2 env2 st2 μ2 hid ∧ whileRun t u k env2 st2 = some (fl, env', st'), ⟨m, env, st, μ, Nx.refl, W0, e⟩, ?_⟩
    rintro k σ2 H2 ⟨env2, st2, μ2, n2, W2, e2⟩
    cases k with
    | zero => cases e2
    | succ k =>
      unfold whileRun at e2
      split at e2
      · cases e2
      · rename_i s1 h1
        cases e2
        refine TTx.go W2 h1 fun H3 μ3 n3 W3 => ?_
        simp only [Bool.false_eq_true, if_false]
        exact q σ2 H3 μ3 (n2.trans n3) W3
      · rename_i s1 h1
        refine TTx.go W2 h1 fun H3 μ3 n3 W3 => ?_
        rw [if_pos rfl]
        refine ⟨fun σ' H' => ∃ env3 st3 μ3, Nx H μ H' μ3 hid ∧ Wd X.K σ' H' env3 st3 μ3 hid ∧ whileRun t u k env3 st3 = some (fl, env', st'), fun σ' H' h => ⟨k, Nat.lt_succ_self _, h⟩, ?_⟩
        cases hu : u env2 s1 with
        | none => rw [hu] at e2; cases e2
        | some r =>
          rw [hu] at e2
          obtain ⟨fl6, env6, st6⟩ := r
          refine TSx.go W3 hu ?_
          have nn := n2.trans n3
          cases fl6 with
          | nx => exact fun σ7 H7 μ7 n7 W7 => ⟨env6, st6, μ7, nn.trans n7, W7, e2⟩
          | ct => exact fun σ7 H7 μ7 n7 W7 => ⟨env6, st6, μ7, nn.trans n7, W7, e2⟩
          | bk => cases e2; exact fun σ7 H7 μ7 n7 W7 => q σ7 H7 μ7 (nn.trans n7) W7
          | rt w' => cases e2; exact fun v H7 μ7 n7 s r => q v H7 μ7 (nn.trans n7) s r
end
end L3
set_option Elab.async false
set_option linter.all false
set_option maxRecDepth 100000
set_option maxHeartbeats 4000000
set_option autoImplicit false
/-! L3: enumerate of a tuple; comprehensions. -/
namespace L3
open PySem PySem.Spec PyProof.Rows L2
section
set_option maxHeartbeats 1000000 in
theorem newEnum {v : Value} {o : Obj} {H : Heap → Prop} (B : Begins v o H) :
    Meets (Builtin.«enumerate.__new__» ⟨[.type "enumerate", v], []⟩) (fun _ R s => H s.heap ∧
      R (.ok (.ret (.ref (s.heap.push o).objs.size))) { s with heap := (s.heap.push o).push { cls := .type "enumerate", data := .fields #[.none, .bool false, .ref s.heap.objs.size, rawInt 0, .none, .none] } }) :=
  .of_wp fun prog w A R s h => by
    obtain ⟨hp, g, d, tk, os⟩ := s
    obtain ⟨h1, h⟩ := h
    have hsub := sub_enumerate
    have step : ∀ {A' : Around} {E : Value → Shared → Prop} {Q : Value → Shared → Prop}, Q (.ref hp.objs.size) ⟨hp.push o, g, d, tk, os⟩ → wpAny (model prog w) A' (pyIter v) Q E ⟨hp, g, d, tk, os⟩ :=
      fun q => B.iter prog w _ _ ⟨hp, g, d, tk, os⟩ _ h1 q
    wp_walk using step
    refine wpAny_stack_any fun st => wpAny_pure ?_
    split
    · rename_i c _ _ _ _ _
      cases (c == Value.type "enumerate") <;> (wp_walk using step; exact ⟨_, rfl, h⟩)
    · wp_walk using step
      exact ⟨_, rfl, h⟩
variable {prog : Program} {w : World} {A : Around} {E : Value → Shared → Prop} {s : Shared}
theorem call_enum {v : Value} {o : Obj} {H : Heap → Prop} {Q : Value → Shared → Prop} (B : Begins v o H) (h1 : H s.heap)
    (h : ∀ h', IsEnum h' (s.heap.objs.size + 1) s.heap.objs.size 0 .none → h'.get? s.heap.objs.size = some o → h'.objs.size = s.heap.objs.size + 2 → (∀ b u, s.heap.get? b = some u → h'.get? b = some u) → Q (.ref (s.heap.objs.size + 1)) { s with heap := h' }) :
    wpAny (model prog w) A (call (.type "enumerate") [v]) Q E s := by
  refine callType_new F.called_enumerate (by decide) (F.typeCall_enumerate_1 _) (F.newCall_enumerate_1 _) (fun obj => F.args_object_init_2 obj _) F.entry_enumerate_new (newEnum B) ⟨h1, ?_⟩
  have hz : (s.heap.push o).objs.size = s.heap.objs.size + 1 := Heap.size_push ..
  show _ ∧ _
  rw [hz]
  have he : IsEnum ((s.heap.push o).push { cls := .type "enumerate", data := .fields #[.none, .bool false, .ref s.heap.objs.size, rawInt 0, .none, .none] }) (s.heap.objs.size + 1) s.heap.objs.size 0 .none := by
    have q := Heap.get?_push_size (s.heap.push o) (o := { cls := .type "enumerate", data := .fields #[.none, .bool false, .ref s.heap.objs.size, rawInt 0, .none, .none] }) rfl
    rw [hz] at q
    exact q
  exact ⟨⟨_, he, rfl⟩, h _ he (Heap.get?_push_of_some _ (Heap.get?_push_size _ B.free)) (by rw [Heap.size_push, hz]) fun b u x => Heap.get?_push_of_some _ (Heap.get?_push_of_some _ x)⟩
end
theorem enum_endT {prog : Program} {w : World} {A : Around} {E : Value → Shared → Prop} {s : Shared} {e it l : Addr} {i : Nat} {items : Array Value} {old : Value} {Q : Option Value → Shared → Prop} (hh : A.handled = none)
    (he : IsEnum s.heap e it i old) (hit : s.heap.IsTupleIter it l i) (hl : s.heap.IsTuple l items) (hx : items[i]? = none)
    (k : ∀ h', Heap.ExtBut it s.heap h' → Q none { s with heap := h' }) : wpAny (model prog w) A (pyNext (.ref e)) Q E s := by
  have ty : s.TypeIs (.ref e) "enumerate" := ⟨_, he, rfl⟩
  unfold pyNext
  refine wpAny_bind (wpAny_attempt (wpAny_callSpecial?_slot (name := Str.ofString "__next__") ty F.slot_enumerate_next (wpAny_call_entry F.slot_enumerate_next ty F.entry_enumerate_next ?_ (F.args_enumerate_next_1 _))))
  show wpAny _ _ (field (.ref e) 2 >>= _) _ _ _
  refine wpAny_bind (wpAny_field he rfl (x := .ref it) rfl (wpAny_bind (wpAny_nextOf_tuple_end hh hit hl hx fun h' x e' ⟨o, ho, hc⟩ => ?_)))
  exact wpAny_bind (wpAny_isInstance (T := "StopIteration") (b := true) ⟨o, ho, hc⟩ isSubtype_stop (wpAny_pure (k _ e')))
/-- the tuple at a, each item in a new pair with its number -/
def IteT (K : PySem.W.Frag) (a : Addr) : It :=
  ⟨fun i H => ∃ (xs : List V) (x : V), SqT K H a xs ∧ xs[i]? = some x, fun i H v H' => ∃ T x, v = .ref T ∧ H T = none ∧ H' = upd H T (.tup [.int (i : Nat), x]) ∧ ∀ xs, SqT K H a xs → xs[i]? = some x, fun i H => ∃ xs : List V, SqT K H a xs ∧ xs.length ≤ i⟩
theorem tup_ne {h : Heap} {a it : Addr} {items : Array Value} {i : Nat} (p : IsTup h a items) (q : h.IsTupleIter it a i) : a ≠ it := by
  rintro rfl
  obtain ⟨o, h1, h2, _⟩ := p
  obtain ⟨o', h3, h4, _⟩ := q
  rw [h1] at h3; cases h3
  rw [h2] at h4
  exact absurd h4 (by decide)
theorem turn_enumT {P : Program} {w : World} {K : PySem.W.Frag} {elts : List Expr} {kk : Nat} {tpos : Pos} (a e it : Addr) :
    Turn P w K (.Tuple elts kk tpos) (IteT K a) [e, it] e (fun i h => (∃ old, IsEnum h e it ((i : Nat) : Int) old) ∧ h.IsTupleIter it a i ∧ e ≠ it) where
  mem := by simp
  obj := fun i h st b hb => by
    obtain ⟨⟨old, he⟩, ⟨o, ho, hc, hd⟩, _⟩ := st
    rcases (show b = e ∨ b = it by simpa using hb) with z | z
    · subst z; exact ⟨_, he, fun v q => nomatch q⟩
    · subst z; exact ⟨o, ho, fun v q => by rw [hd] at q; cases q⟩
  keep := fun i h h' st k => let ⟨⟨old, he⟩, hi, hne⟩ := st; ⟨⟨old, k e (by simp) _ he⟩, hi.at fun o q => k it (by simp) o q, hne⟩
  item := by
    intro X hP hw hK hc i pins s σ H E I hf st hg
    subst hP hw hK
    obtain ⟨⟨old, he⟩, hit, hne⟩ := st
    obtain ⟨xs, x, hq, hx⟩ := hg
    obtain ⟨its, rv, p, hz⟩ := I.tuple hq
    obtain ⟨u, hu, ru⟩ := rv.get hx
    have hu' : its.toArray[i]? = some u := by simpa using hu
    have hel : e < s.heap.objs.size := Heap.lt_size he
    have hil : it < s.heap.objs.size := by obtain ⟨_, q, _⟩ := hit; exact Heap.lt_size q
    have hai := tup_ne p hit
    have hea : e ≠ a := by
      rintro rfl
      obtain ⟨o, h1, h2, _⟩ := p
      rw [he] at h1; cases h1
      exact absurd (Value.type.inj h2) (by decide)
    have D := Draws.tuple (prog := X.prog) (w := X.w) (A := X.A.in1) (I.ok.hd hc) it a hai its.toArray
    have hlt : i < its.toArray.size := (Array.getElem?_eq_some_iff.mp hu').1
    refine wpAny_pyNext_enum_itemD D he ⟨hit, p⟩ hlt hne (by simp [hne, hea]) fun y h' tk hy ho hst hT hsz hk => ?_
    have : y = u := Option.some.inj ((show its.toArray[i]? = some y from hy).symm.trans hu')
    subst this
    refine ⟨_, rfl, wpAny_letOwnedTupleGo_enum (s := { s with heap := h', toks := tk + 1 }) ho fun h'' he' sb => ?_⟩
    have hT2 : h''.get? s.heap.objs.size = some { cls := .type "tuple", data := .seq #[.int i tk, y] } := (sb.2 _ (Nat.ne_of_gt hel)).trans hT
    have new : ObjOk X.prog X.w (upd H s.heap.objs.size (.tup [.int (i : Nat), x])) h'' s.heap.objs.size (.tup [.int (i : Nat), x]) :=
      ⟨by show 2 ≤ sizeLine; decide, [.int i tk, y], .cons ⟨_, rfl⟩ (.cons ru .nil), ⟨_, hT2, rfl, _, rfl⟩⟩
    have I1 : Inv X pins σ (upd H s.heap.objs.size (.tup [.int (i : Nat), x])) { s with heap := h'', toks := tk + 1 } :=
      I.turnedNew (ch := [e, it]) (fun b ob hb q => (sb.2 b (fun z => hb (by simp [z]))).trans (hk b ob (fun z => hb (by simp [z])) (fun z => hb (by simp [z])) q)) hf (Nat.le_refl _) new
    refine ⟨.ref s.heap.objs.size, _, I1, rfl, ⟨_, x, rfl, I.hok.fresh (Nat.le_refl _), rfl, fun ys hy => by rw [I.tuple_inj hy hq]; exact hx⟩, ⟨⟨y, ?_⟩, hst.1.at fun o q => (sb.2 it (Ne.symm hne)).trans q, hne⟩, fun b hb => ?_⟩
    · rw [show ((i + 1 : Nat) : Int) = (i : Int) + 1 by omega]; exact he'
    · have hb' : b < s.heap.objs.size := by
        rcases (show b = e ∨ b = it by simpa using hb) with z | z
        · subst z; exact hel
        · subst z; exact hil
      rw [upd_ne (Nat.ne_of_lt hb')]
      exact (hf b hb).1
  done := by
    intro X hP hw hK hc i pins s σ H E I hf st hg
    subst hP hw hK
    obtain ⟨⟨old, he⟩, hit, hne⟩ := st
    obtain ⟨xs, hq, hx⟩ := hg
    obtain ⟨its, rv, p, hz⟩ := I.tuple hq
    obtain ⟨f0, f1, f2, f3, f4, f5⟩ := hf it (by simp)
    have hl := rv.length
    have hai := tup_ne p hit
    refine enum_endT (I.ok.hd hc) he hit p (by simp; omega) fun h' eb => ⟨rfl, I.turned (t' := s.toks) (fun b o hb q => eb b o hb q) f0 f1 f3 f4 f5⟩
  self := fun A i s Q E st h => let ⟨⟨_, he⟩, _⟩ := st; wpAny_pyIter_enum he h
section
variable {X : Cx} {a b c : Expr} {pos : Pos} {f g : Ev}
def iEnumT (K : PySem.W.Frag) (ta : TA) : TI := fun σ H R => ta σ H fun vs H1 => ∃ a xs, vs = [.ref a] ∧ SqT K H1 a xs ∧ R (IteT K a) H1
theorem pi_enumT {e : Expr} {ta : TA} {p tpos : Pos} {elts : List Expr} {kk : Nat} (hg : Gl X "enumerate") (hm : X.mg "enumerate" = none) (ha : PA X [e] ta) (hs : starEach [e] X.env = [(false, eval e X.env)] := by rfl) :
    PI X (.Tuple elts kk tpos) (.Call (.Name "enumerate" p) [e] [] pos) (iEnumT X.K ta) := by
  refine ⟨fun pins s σ H R I h => ?_⟩
  refine Call_ (ld_blt I hg hm boot_enumerate (PyProof.Rows.callWith_type1 (thn (ha.run pos pins s σ H _ I h) fun us s1 ⟨vs, H1, I1, r1, q1⟩ => ?_) hs rfl))
  obtain ⟨a, xs, ex, hq, q⟩ := q1
  subst ex
  cases r1 with
  | cons r rr =>
    cases rr
    cases r
    obtain ⟨its, rv, pt, hz⟩ := I1.tuple hq
    refine call_enum (begins_tuple a its.toArray) pt fun h' he hit hsz hk => wpAny_pyIter_enum he ?_
    have I2 : Inv X pins σ H1 { s1 with heap := h' } := I1.kept (t' := s1.toks) hk
    refine ⟨s1.heap.objs.size + 1, [s1.heap.objs.size + 1, s1.heap.objs.size], _, _, H1, rfl, I2, turn_enumT a (s1.heap.objs.size + 1) s1.heap.objs.size, ⟨⟨.none, he⟩, ⟨_, hit, rfl, rfl⟩, Nat.succ_ne_self _⟩, fun b hb => ?_, q⟩
    have hle : s1.heap.objs.size ≤ b := by
      rcases (show b = s1.heap.objs.size + 1 ∨ b = s1.heap.objs.size by simpa using hb) with z | z
      · subst z; exact Nat.le_succ _
      · subst z; exact Nat.le_refl _
    exact I1.fpOk hle (I1.hok.fresh hle)
/-! ### enumerate -/
def itEnum (w : W) (n : Nat) : It3 := ⟨n, fun st i => match seqOf st w with
  | some us => match us[i]? with
    | some (.dat d) => some (some (.dat (.tuple [.int i, d])))
    | some _ => none
    | none => some none
  | none => none⟩
def iEnu (f : Ev) : Ei := fun env st => (f env st).bind fun r => (seqOf r.2 r.1).map fun ws => (itEnum r.1 ws.length, r.2)
theorem walk_enum {K : PySem.W.Frag} {M : Hp} {μ : List Addr} {x : V} {w : W} {n : Nat} {a : Addr} (r : RW K M μ x w) (ea : x = .ref a) (hl : ∀ ds, w ≠ .dat (.tuple ds)) : Walks K (Ite K a) (itEnum w n) M μ := by
  intro H st μ' hid s p sd i
  have r' := r.mono s p
  subst ea
  refine ⟨fun w' e => ?_, fun e => ?_⟩
  · simp only [itEnum] at e
    split at e
    · rename_i us hu
      obtain ⟨hz, b, xs, eb, hq, hr⟩ := seqL_of sd r' hu hl
      cases eb
      split at e
      · rename_i d hd
        cases e
        obtain ⟨v, h1, h2⟩ := hr.get hd
        have hi := (List.getElem?_eq_some_iff.mp hd).1
        refine ⟨by omega, ⟨xs, v, hq, h1⟩, fun y H' hy => ?_⟩
        obtain ⟨T, x1, rfl, nT, rfl, f1⟩ := hy
        have := f1 xs hq
        rw [h1] at this; cases this
        cases h2 with
        | dat h2 => exact ⟨Nx.new sd nT, sd.new nT, .dat (RD.tupNew sd nT (by show 2 ≤ sizeLine; decide) (.cons (.int _) (.cons h2 .nil)))⟩
      · cases e
      · cases e
    · cases e
  · simp only [itEnum] at e
    split at e
    · rename_i us hu
      obtain ⟨hz, b, xs, eb, hq, hr⟩ := seqL_of sd r' hu hl
      cases eb
      split at e
      · cases e
      · cases e
      · rename_i hn
        have hlen : _ = _ := Paired.length hr
        exact ⟨xs, hq, by have := List.getElem?_eq_none_iff.mp hn; omega⟩
    · cases e
theorem walk_enumT {K : PySem.W.Frag} {M : Hp} {μ : List Addr} {x : V} {ds : List PyData} {n : Nat} {a : Addr} (r : RW K M μ x (.dat (.tuple ds))) (ea : x = .ref a) : Walks K (IteT K a) (itEnum (.dat (.tuple ds)) n) M μ := by
  intro H st μ' hid s p sd i
  have r' := r.mono s p
  subst ea
  cases r' with
  | dat r' =>
    cases r' with
    | tup hq hz hr =>
      have hq := sameT mask_le hq
      have hlen := hr.length
      refine ⟨fun w' e => ?_, fun e => ?_⟩
      · simp only [itEnum, seqOf, List.getElem?_map] at e
        cases hd : ds[i]? with
        | none => rw [hd] at e; cases e
        | some d =>
          rw [hd] at e
          cases e
          obtain ⟨v, h1, h2⟩ := hr.get hd
          have hi := (List.getElem?_eq_some_iff.mp hd).1
          refine ⟨by omega, ⟨_, v, hq, h1⟩, fun y H' hy => ?_⟩
          obtain ⟨T, x1, rfl, nT, rfl, f1⟩ := hy
          have := f1 _ hq
          rw [h1] at this; cases this
          exact ⟨Nx.new sd nT, sd.new nT, .dat (RD.tupNew sd nT (by show 2 ≤ sizeLine; decide) (.cons (.int _) (.cons h2 .nil)))⟩
      · simp only [itEnum, seqOf, List.getElem?_map] at e
        cases hd : ds[i]? with
        | none => exact ⟨_, hq, by have := List.getElem?_eq_none_iff.mp hd; omega⟩
        | some d => rw [hd] at e; cases e
theorem xi_enum {elts : List Expr} {kk : Nat} {p tpos : Pos} (hg : Gl X "enumerate") (hm : X.mg "enumerate" = none) (ha : PE X a (TX X.K f)) (hs : starEach [a] X.env = [(false, eval a X.env)] := by rfl) :
    PI X (.Tuple elts kk tpos) (.Call (.Name "enumerate" p) [a] [] pos) (TIx X.K (iEnu f)) :=
  PI.imp (PI.or (pi_enum hg hm (pa_cons ha pa_nil hs) hs) (pi_enumT hg hm (pa_cons ha pa_nil hs) hs)) fun σ H R ⟨env, st, μ, hid, it, st', W0, e, q⟩ => by
    unfold iEnu at e
    obtain ⟨⟨w, s1⟩, h1, e⟩ := Option.bind_eq_some_iff.mp e
    obtain ⟨ws, h2, h3⟩ := Option.map_eq_some_iff.mp e
    cases h3
    by_cases ht : ∃ ds, w = .dat (.tuple ds)
    · obtain ⟨ds, rfl⟩ := ht
      refine .inr (TX.go W0 h1 fun v H1 μ1 n1 W1 r => ?_)
      have r0 := r
      cases r with
      | dat r => cases r with
        | tup hq hz hr => exact ⟨_, _, rfl, sameT mask_le hq, q _ H1 μ1 n1 W1.sd (walk_enumT r0 rfl)⟩
    · refine .inl (TX.go W0 h1 fun v H1 μ1 n1 W1 r => ?_)
      have hn : ∀ ds, w ≠ .dat (.tuple ds) := fun ds h => ht ⟨ds, h⟩
      obtain ⟨_, a, xs, rfl, hq, hr⟩ := seqL_of W1.sd r h2 hn
      exact ⟨a, xs, rfl, hq, q _ H1 μ1 n1 W1.sd (walk_enum r rfl hn)⟩
/-! ### comprehensions -/
def wipe3 (env : E3) : List Nat → E3
  | [] => env
  | v :: vs => (wipe3 env vs).set v none
theorem wipe3_len (env : E3) : ∀ vs, (wipe3 env vs).length = env.length
  | [] => rfl
  | v :: vs => by unfold wipe3; rw [List.length_set, wipe3_len env vs]
theorem RE.wipe {K : PySem.W.Frag} {M : Hp} {μ : List Addr} {σ : L2.St} {env : E3} (r : RE K M μ σ env) : ∀ vs, RE K M μ (L2.wipe σ vs) (wipe3 env vs)
  | [] => r
  | v :: vs => by
    have ih := RE.wipe r vs
    refine ⟨by rw [wipe_length, wipe3_len]; exact r.1, fun i w e => ?_⟩
    unfold wipe3 at e
    unfold L2.wipe
    by_cases h : v = i
    · subst h
      by_cases hl : v < (wipe3 env vs).length
      · rw [List.getElem?_set_self hl] at e; cases e
      · rw [List.getElem?_eq_none (by rw [List.length_set]; omega)] at e; cases e
    · rw [List.getElem?_set_ne h] at e ⊢
      exact ih.2 i w e
theorem wipe_in {σ : L2.St} {j : Nat} : ∀ {vs : List Nat}, j ∈ vs → j < σ.length → (L2.wipe σ vs)[j]? = some none
  | v :: vs, h, hl => by
    unfold L2.wipe
    by_cases e : v = j
    · subst e; exact List.getElem?_set_self (by rw [wipe_length]; exact hl)
    · rw [List.getElem?_set_ne e]
      rcases List.mem_cons.mp h with h | h
      · exact absurd h.symm e
      · exact wipe_in h hl
theorem wipe_after {σ σ2 : L2.St} {vs sl : List Nat} (h : After (L2.wipe σ vs) σ2 sl) (hs : ∀ j ∈ sl, j ∈ vs) : L2.wipe σ2 vs = L2.wipe σ vs := by
  have hl : σ2.length = σ.length := h.1.trans (wipe_length σ vs)
  refine List.ext_getElem? fun j => ?_
  by_cases hj : j ∈ vs
  · by_cases hlt : j < σ.length
    · rw [wipe_in hj hlt, wipe_in hj (by omega)]
    · rw [List.getElem?_eq_none (by rw [wipe_length]; omega), List.getElem?_eq_none (by rw [wipe_length]; omega)]
  · rw [wipe_out hj, h.2 j fun q => hj (hs j q)]
def compRun (it : It3) (gt : Eg) (t : Et) (el : Ev) (env0 : E3) : Nat → Nat → Store → List W → Option (List W × Store)
  | 0, _, _, _ => none
  | k + 1, i, st, acc => match it.item st i with
    | none => none
    | some none => some (acc, st)
    | some (some w) => match gt w env0 st with
      | none => none
      | some (env1, st1) => match t env1 st1 with
        | none => none
        | some (false, st2) => compRun it gt t el env0 k (i + 1) st2 acc
        | some (true, st2) => match el env1 st2 with
          | none => none
          | some (y, st3) => compRun it gt t el env0 k (i + 1) st3 (acc ++ [y])
def compAll (fi : Ei) (gt : Eg) (t : Et) (el : Ev) (vs : List Nat) : E3 → Store → Option (List W × Store) := fun env st => (fi env st).bind fun r => compRun r.1 gt t el (wipe3 env vs) (r.1.n + 1) 0 r.2 []
def bComp (fi : Ei) (gt : Eg) (t : Et) (el : Ev) (vs : List Nat) : Ev := fun env st => (compAll fi gt t el vs env st).bind fun z => (z.1.mapM datOf).map fun ds => (.dat (.list ds), z.2)
def bCompNew (fi : Ei) (gt : Eg) (t : Et) (el : Ev) (vs : List Nat) : Ev := fun env st => (compAll fi gt t el vs env st).map fun z => (.loc z.2.length, z.2 ++ [.list z.1])
def tAll : Et := fun _ st => some (true, st)
theorem xts_nil : PTs X [] (TTx X.K tAll) := ⟨fun pins s σ H Q I ⟨env, st, μ, hid, w, st', W0, e, q⟩ => by cases e; exact pts_nil.run pins s σ H Q I (q H μ Nx.refl W0.sd)⟩
theorem mask_congr {H : Hp} {l l' : List Addr} (h : ∀ a, a ∈ l ↔ a ∈ l') : mask H l = mask H l' := by
  funext b
  unfold mask
  by_cases hb : b ∈ l
  · rw [if_pos hb, if_pos ((h b).mp hb)]
  · rw [if_neg hb, if_neg (fun q => hb ((h b).mpr q))]
/-- what a comprehension leaves: its list at D -/
structure LcEnd (K : PySem.W.Frag) (H1 : Hp) (μ1 hid : List Addr) (D : Addr) (acc : List W) (st : Store) (H : Hp) (μ : List Addr) : Prop where
  sd : Sd K H st μ (hid ++ [D])
  same : Same (mask H1 (μ1 ++ hid)) (mask H (μ ++ (hid ++ [D])))
  pre : μ1 <+: μ
  keep : ∀ a ∈ hid, H a = H1 a
  at_ : ∃ vs, H D = some (.lst vs) ∧ RWs K (mask H (μ ++ (hid ++ [D]))) μ vs acc
  len : acc.length ≤ sizeLine
theorem lc_sem {wi : Ei} {gt : Eg} {t : Et} {el : Ev} {sl vs : List Nat} {K : PySem.W.Frag} (hsl : ∀ j ∈ sl, j ∈ vs) {σ : L2.St} {H : Hp} {Q : VK} {env : E3} {st st' : Store} {μ hid : List Addr} {acc : List W} (W0 : Wd K σ H env st μ hid) (e : compAll wi gt t el vs env st = some (acc, st'))
    (q : ∀ H' μ' D, Nx H μ H μ hid → (∃ H1 μ1, Nx H μ H1 μ1 hid ∧ H1 D = none ∧ LcEnd K H1 μ1 hid D acc st' H' μ') → Q (.ref D) H') : tLc (TIx K wi) (TGx K sl gt) (TTx K t) (TX K el) vs σ H Q := by
  unfold compAll at e
  obtain ⟨⟨it, s1⟩, h1, e⟩ := Option.bind_eq_some_iff.mp e
  refine ⟨env, st, μ, hid, it, s1, W0, h1, fun J H1 μ1 n1 sd1 wk D hD => ?_⟩
  have W1 := W0.next n1 sd1
  have hDm : D ∉ μ1 ++ hid := fun z => sd1.there D z hD
  -- the start
  have em : ∀ (o : HO) (μ : List Addr), mask (upd H1 D o) (μ ++ (hid ++ [D])) = mask H1 (μ ++ hid) := fun o μ => by
    funext b
    unfold mask upd
    simp only [List.mem_append, List.mem_singleton]
    by_cases hb : b = D
    · subst hb; by_cases h1 : b ∈ μ <;> by_cases h2 : b ∈ hid <;> simp [h1, h2, hD]
    · by_cases h1 : b ∈ μ <;> by_cases h2 : b ∈ hid <;> simp [h1, h2, hb]
  have start : LcEnd K H1 μ1 hid D [] s1 (upd H1 D (.lst [])) μ1 := by
    refine ⟨⟨sd1.len, fun n c a hc ha => ?_, fun a ha => ?_, ?_⟩, fun b o z => by rw [em]; exact z, List.prefix_refl _, fun a ha => upd_ne fun (z : a = D) => hDm (by rw [← z]; exact List.mem_append_right _ ha), ⟨[], upd_same, .nil⟩, Nat.zero_le _⟩
    · rw [em]
      exact (sd1.cell n c a hc ha).mono (fun _ _ z => z) (List.prefix_refl _) (upd_ne fun (z : a = D) => hDm (by rw [← z]; exact List.mem_append_left _ (List.mem_of_getElem? ha)))
    · by_cases z : a = D
      · subst z; rw [upd_same]; simp
      · rw [upd_ne z]
        rcases List.mem_append.mp ha with ha | ha
        · exact sd1.hds a ha
        · exact absurd (by simpa using ha) z
    · rw [← List.append_assoc, List.nodup_append]
      exact ⟨sd1.nd, by simp, fun a ha b hb z => by subst z; simp at hb; subst hb; exact hDm ha⟩
  refine ⟨fun i m H2 => ∃ st2 μ2 acc2, LcEnd K H1 μ1 hid D acc2 st2 H2 μ2 ∧ acc2.length ≤ i ∧ compRun it gt t el (wipe3 env vs) m i st2 acc2 = some (acc, st'), ⟨it.n + 1, s1, μ1, [], start, Nat.le_refl _, e⟩, ?_⟩
  rintro i m H2 ⟨st2, μ2, acc2, L2', hlen, e2⟩
  have wk2 := wk H2 st2 μ2 (hid ++ [D]) L2'.same L2'.pre L2'.sd i
  cases m with
  | zero => cases e2
  | succ k =>
    unfold compRun at e2
    split at e2
    · cases e2
    · rename_i hit
      cases e2
      exact .inl ⟨wk2.2 hit, q H2 μ2 D Nx.refl ⟨H1, μ1, n1, hD, L2'⟩⟩
    · rename_i w hit
      obtain ⟨hi, go, yl⟩ := wk2.1 w hit
      refine .inr ⟨go, fun H' => ∃ st3 μ3 acc3, LcEnd K H1 μ1 hid D acc3 st3 H' μ3 ∧ acc3.length ≤ i + 1 ∧ compRun it gt t el (wipe3 env vs) k (i + 1) st3 acc3 = some (acc, st'), fun H' h => ⟨k, Nat.lt_succ_self _, h⟩, fun x H3 hy => ?_⟩
      obtain ⟨n3, sd3, r3⟩ := yl x H3 hy
      -- carried on
      have carry : ∀ {H5 : Hp} {st5 : Store} {μ5 : List Addr}, Nx H2 μ2 H5 μ5 (hid ++ [D]) → Sd K H5 st5 μ5 (hid ++ [D]) → LcEnd K H1 μ1 hid D acc2 st5 H5 μ5 := fun {H5 st5 μ5} n s => by
        obtain ⟨us, hu, ru⟩ := L2'.at_
        exact ⟨s, fun b o z => n.same b o (L2'.same b o z), L2'.pre.trans n.pre, fun a ha => (n.keep a (List.mem_append_left _ ha)).trans (L2'.keep a ha), ⟨us, (n.keep D (by simp)).trans hu, RWs.mono n.same n.pre ru⟩, L2'.len⟩
      have W3 : Wd K (L2.wipe σ vs) H3 (wipe3 env vs) st2 μ2 (hid ++ [D]) := ⟨((W1.ev.wipe vs).mono (fun b o z => n3.same b o (L2'.same b o z)) (L2'.pre.trans n3.pre)), sd3⟩
      split at e2
      · cases e2
      · rename_i env4 st4 h4
        refine ⟨wipe3 env vs, st2, μ2, hid ++ [D], w, env4, st4, W3, r3, h4, fun σ5 H5 μ5 n5 W5 af => ⟨wipe_after af hsl, ?_⟩⟩
        have n35 := n3.trans n5
        split at e2
        · cases e2
        · rename_i st6 h6
          refine TTx.go W5 h6 fun H6 μ6 n6 W6 => ?_
          simp only [Bool.false_eq_true, if_false]
          exact ⟨st6, μ6, acc2, carry (n35.trans n6) W6.sd, by omega, e2⟩
        · rename_i st6 h6
          refine TTx.go W5 h6 fun H6 μ6 n6 W6 => ?_
          rw [if_pos rfl]
          split at e2
          · cases e2
          · rename_i y st7 h7
            refine TX.go W6 h7 fun v H7 μ7 n7 W7 r7 => ?_
            have c7 := carry ((n35.trans n6).trans n7) W7.sd
            obtain ⟨us, hu, ru⟩ := c7.at_
            have hul : _ = _ := Paired.length ru
            refine ⟨us, hu, by omega, st7, μ7, acc2 ++ [y], ?_, by rw [List.length_append, List.length_singleton]; omega, e2⟩
            have hin : D ∈ μ7 ++ (hid ++ [D]) := by simp
            have em7 : ∀ o, mask (upd H7 D o) (μ7 ++ (hid ++ [D])) = mask H7 (μ7 ++ (hid ++ [D])) := fun o => mask_upd_in hin
            have nd7 := c7.sd.nd
            have hDμ : D ∉ μ7 ∧ D ∉ hid := by
              rw [← List.append_assoc, List.nodup_append] at nd7
              exact ⟨fun z => nd7.2.2 D (List.mem_append_left _ z) D (by simp) rfl, fun z => nd7.2.2 D (List.mem_append_right _ z) D (by simp) rfl⟩
            refine ⟨⟨c7.sd.len, fun n c a hc ha => ?_, fun a ha => ?_, c7.sd.nd⟩, fun b o z => by rw [em7]; exact c7.same b o z, c7.pre, fun a ha => (upd_ne fun (z : a = D) => hDμ.2 (by rw [← z]; exact ha)).trans (c7.keep a ha), ⟨us ++ [v], upd_same, ?_⟩, by rw [List.length_append, List.length_singleton]; omega⟩
            · rw [em7]
              exact (c7.sd.cell n c a hc ha).mono (fun _ _ z => z) (List.prefix_refl _) (upd_ne fun (z : a = D) => hDμ.1 (by rw [← z]; exact List.mem_of_getElem? ha))
            · by_cases z : a = D
              · subst z; rw [upd_same]; simp
              · rw [upd_ne z]; exact c7.sd.hds a ha
            · rw [em7]
              have app : ∀ {us : List V} {ws : List W}, RWs K (mask H7 (μ7 ++ (hid ++ [D]))) μ7 us ws → RWs K (mask H7 (μ7 ++ (hid ++ [D]))) μ7 (us ++ [v]) (ws ++ [y]) := by
                intro us ws h
                induction h with
                | nil => exact .cons r7 .nil
                | cons a b ih => exact .cons a ih
              exact app ru
end
end L3
set_option Elab.async false
set_option linter.all false
set_option maxRecDepth 100000
set_option maxHeartbeats 4000000
set_option autoImplicit false
/-! L3: comprehensions as expressions, methods, defs. -/
namespace L3
open PySem PySem.Spec PyProof.Rows L2
section
variable {K : PySem.W.Frag} {H1 H : Hp} {μ1 μ hid : List Addr} {D : Addr} {acc : List W} {st : Store}
theorem LcEnd.notin (l : LcEnd K H1 μ1 hid D acc st H μ) : D ∉ μ ∧ D ∉ hid := by
  have nd := l.sd.nd
  rw [← List.append_assoc, List.nodup_append] at nd
  exact ⟨fun z => nd.2.2 D (List.mem_append_left _ z) D (by simp) rfl, fun z => nd.2.2 D (List.mem_append_right _ z) D (by simp) rfl⟩
theorem mask_less {l l' : List Addr} (h : ∀ a ∈ l', a ∈ l) : Same (mask H l) (mask H l') := fun b o e => by
  rw [mask_some] at e ⊢
  exact ⟨fun z => e.1 (h _ z), e.2⟩
theorem LcEnd.less (l : LcEnd K H1 μ1 hid D acc st H μ) : Same (mask H (μ ++ (hid ++ [D]))) (mask H (μ ++ hid)) := mask_less fun a ha => by
  rcases List.mem_append.mp ha with ha | ha
  · exact List.mem_append_left _ ha
  · exact List.mem_append_right _ (List.mem_append_left _ ha)
theorem LcEnd.sd0 (l : LcEnd K H1 μ1 hid D acc st H μ) : Sd K H st μ hid where
  len := l.sd.len
  cell := fun n c a h1 h2 => (l.sd.cell n c a h1 h2).mono l.less (List.prefix_refl _) rfl
  hds := fun a ha => l.sd.hds a (List.mem_append_left _ ha)
  nd := by
    have nd := l.sd.nd
    rw [← List.append_assoc] at nd
    exact (List.nodup_append.mp nd).1
theorem LcEnd.nx (l : LcEnd K H1 μ1 hid D acc st H μ) : Nx H1 μ1 H μ hid := ⟨fun b o e => l.less b o (l.same b o e), l.pre, l.keep⟩
theorem LcEnd.mask2 (l : LcEnd K H1 μ1 hid D acc st H μ) : mask H ((μ ++ [D]) ++ hid) = mask H (μ ++ (hid ++ [D])) := mask_congr fun a => by
  simp only [List.mem_append, List.mem_singleton]
  constructor
  · rintro ((h | h) | h) <;> simp [h]
  · rintro (h | h | h) <;> simp [h]
theorem LcEnd.nx2 (l : LcEnd K H1 μ1 hid D acc st H μ) : Nx H1 μ1 H (μ ++ [D]) hid :=
  ⟨fun b o e => by rw [l.mask2]; exact l.same b o e, l.pre.trans (List.prefix_append _ _), l.keep⟩
theorem LcEnd.sd2 (l : LcEnd K H1 μ1 hid D acc st H μ) : Sd K H (st ++ [.list acc]) (μ ++ [D]) hid where
  len := by simp [l.sd.len]
  cell := fun n c a h1 h2 => by
    rw [l.mask2]
    by_cases hn : n < st.length
    · rw [List.getElem?_append_left hn] at h1
      rw [List.getElem?_append_left (by rw [l.sd.len]; exact hn)] at h2
      exact (l.sd.cell n c a h1 h2).mono (fun _ _ e => e) (List.prefix_append _ _) rfl
    · have hn' : n = st.length := by
        have := (List.getElem?_eq_some_iff.mp h1).1
        rw [List.length_append, List.length_singleton] at this
        omega
      subst hn'
      rw [List.getElem?_append_right (Nat.le_refl _), Nat.sub_self] at h1
      rw [List.getElem?_append_right (by rw [l.sd.len]; exact Nat.le_refl _), l.sd.len, Nat.sub_self] at h2
      simp at h1 h2
      subst h1 h2
      obtain ⟨vs, h3, h4⟩ := l.at_
      exact .list h3 l.len (RWs.mono (fun _ _ e => e) (List.prefix_append _ _) h4)
  hds := fun a ha => l.sd.hds a (List.mem_append_left _ ha)
  nd := by
    have nd := l.sd.nd
    have hn := l.notin
    rw [List.nodup_append] at nd ⊢
    rw [List.nodup_append] at nd
    refine ⟨?_, nd.2.1.1, fun a ha b hb e => ?_⟩
    · rw [List.nodup_append]
      exact ⟨nd.1, by simp, fun a ha b hb e => by simp at hb; subst hb; subst e; exact hn.1 ha⟩
    · rcases List.mem_append.mp ha with ha | ha
      · exact nd.2.2 a ha b (List.mem_append_left _ hb) e
      · simp at ha; subst ha; subst e; exact hn.2 hb
end
section
variable {X : Cx} {a b c : Expr} {pos : Pos} {f g : Ev}
theorem TX.comp {wi : Ei} {gt : Eg} {t : Et} {el : Ev} {sl vs : List Nat} {K : PySem.W.Frag} (hsl : ∀ j ∈ sl, j ∈ vs) {σ : L2.St} {H : Hp} {Q : VK} (h : TX K (bComp wi gt t el vs) σ H Q) : tLc (TIx K wi) (TGx K sl gt) (TTx K t) (TX K el) vs σ H Q := by
  obtain ⟨env, st, μ, hid, w, st', W0, e, q⟩ := h
  unfold bComp at e
  obtain ⟨⟨acc, s1⟩, h1, e⟩ := Option.bind_eq_some_iff.mp e
  obtain ⟨ds, h2, h3⟩ := Option.map_eq_some_iff.mp e
  cases h3
  refine lc_sem hsl W0 h1 fun H' μ' D _ ⟨H1, μ1, n1, hD, l⟩ => ?_
  obtain ⟨vs', h4, h5⟩ := l.at_
  have hn := l.notin
  refine q _ H' μ' (n1.trans l.nx) l.sd0 (.dat (.lst (mask_some.mpr ⟨fun z => ?_, h4⟩) (by rw [mapM_len h2]; exact l.len) ((h5.dat h2).mono l.less)))
  rcases List.mem_append.mp z with z | z
  · exact hn.1 z
  · exact hn.2 z
theorem TX.compNew {wi : Ei} {gt : Eg} {t : Et} {el : Ev} {sl vs : List Nat} {K : PySem.W.Frag} (hsl : ∀ j ∈ sl, j ∈ vs) {σ : L2.St} {H : Hp} {Q : VK} (h : TX K (bCompNew wi gt t el vs) σ H Q) : tLc (TIx K wi) (TGx K sl gt) (TTx K t) (TX K el) vs σ H Q := by
  obtain ⟨env, st, μ, hid, w, st', W0, e, q⟩ := h
  unfold bCompNew at e
  obtain ⟨⟨acc, s1⟩, h1, h3⟩ := Option.map_eq_some_iff.mp e
  cases h3
  refine lc_sem hsl W0 h1 fun H' μ' D _ ⟨H1, μ1, n1, hD, l⟩ => ?_
  exact q _ H' (μ' ++ [D]) (n1.trans l.nx2) l.sd2 (.loc (by rw [← l.sd.len, List.getElem?_append_right (Nat.le_refl _), Nat.sub_self]; rfl))
section
variable {elt tg iter : Expr} {ifs : List Expr} {scope : Scope} {own : List (Str × Nat)} {fi : Ei} {gt : Eg} {t : Et} {el : Ev} {sl : List Nat}
theorem x_comp (hc : X.calm = true) (hN : X.N.Nodup) (hi : PI X tg iter (TIx X.K fi)) (ok : BlkOk X.N X.env.scope scope own)
    (hg : ∀ (s : Shared) (H : Hp) (C : Addr) (cl : List (Str × Addr)) (fp : List Addr), PG (X.blk s H scope (compEnvC scope cl C X.env) fp) tg (TGx X.K sl gt)) (ht : ∀ (s : Shared) (H : Hp) (C : Addr) (cl : List (Str × Addr)) (fp : List Addr), PTs (X.blk s H scope (compEnvC scope cl C X.env) fp) ifs (TTx X.K t))
    (he : ∀ (s : Shared) (H : Hp) (C : Addr) (cl : List (Str × Addr)) (fp : List Addr), PE (X.blk s H scope (compEnvC scope cl C X.env) fp) elt (TX X.K el)) (hsl : ∀ j ∈ sl, j ∈ own.map (·.2)) (hs : ∀ x, foldedSetIterable iter X.env x = pure x := by intro _; rfl) :
    PE X (.ListComp elt [⟨tg, iter, ifs, 0⟩] scope pos) (TX X.K (bComp fi gt t el (own.map (·.2)))) := PE.imp (pe_lc hc hN hi ok hg ht he hs) fun σ H Q h => h.comp hsl
theorem x_compNew (hc : X.calm = true) (hN : X.N.Nodup) (hi : PI X tg iter (TIx X.K fi)) (ok : BlkOk X.N X.env.scope scope own)
    (hg : ∀ (s : Shared) (H : Hp) (C : Addr) (cl : List (Str × Addr)) (fp : List Addr), PG (X.blk s H scope (compEnvC scope cl C X.env) fp) tg (TGx X.K sl gt)) (ht : ∀ (s : Shared) (H : Hp) (C : Addr) (cl : List (Str × Addr)) (fp : List Addr), PTs (X.blk s H scope (compEnvC scope cl C X.env) fp) ifs (TTx X.K t))
    (he : ∀ (s : Shared) (H : Hp) (C : Addr) (cl : List (Str × Addr)) (fp : List Addr), PE (X.blk s H scope (compEnvC scope cl C X.env) fp) elt (TX X.K el)) (hsl : ∀ j ∈ sl, j ∈ own.map (·.2)) (hs : ∀ x, foldedSetIterable iter X.env x = pure x := by intro _; rfl) :
    PE X (.ListComp elt [⟨tg, iter, ifs, 0⟩] scope pos) (TX X.K (bCompNew fi gt t el (own.map (·.2)))) := PE.imp (pe_lc hc hN hi ok hg ht he hs) fun σ H Q h => h.compNew hsl
theorem xs_setComp {i : Nat} {y : Str} {py spos : Pos} {new : Bool} (hc : X.calm = true) (hN : X.N.Nodup) (hy : X.N[i]? = some y) (hyl : X.env.scope.names.lookup y = some .local)
    (hsw : swapsWith (.ListComp elt [⟨tg, iter, ifs, 0⟩] scope pos) (some (.Name y py)) spos.line X.env = pure true) (hi : PI X tg iter (TIx X.K fi)) (ok : BlkOk X.N X.env.scope scope own)
    (hg : ∀ (s : Shared) (H : Hp) (C : Addr) (cl : List (Str × Addr)) (fp : List Addr), PG (X.blk s H scope (compEnvC scope cl C X.env) fp) tg (TGx X.K sl gt)) (ht : ∀ (s : Shared) (H : Hp) (C : Addr) (cl : List (Str × Addr)) (fp : List Addr), PTs (X.blk s H scope (compEnvC scope cl C X.env) fp) ifs (TTx X.K t))
    (he : ∀ (s : Shared) (H : Hp) (C : Addr) (cl : List (Str × Addr)) (fp : List Addr), PE (X.blk s H scope (compEnvC scope cl C X.env) fp) elt (TX X.K el)) (hsl : ∀ j ∈ sl, j ∈ own.map (·.2)) (hs : ∀ x, foldedSetIterable iter X.env x = pure x := by intro _; rfl) :
    PS X (.Assign [.Name y py] (.ListComp elt [⟨tg, iter, ifs, 0⟩] scope pos) spos) (TSx X.K (bAsg (bif new then bCompNew fi gt t el (own.map (·.2)) else bComp fi gt t el (own.map (·.2))) (gNm i))) :=
  PS.imp (ps_setLc hc hN hy hyl hsw hi ok hg ht he hs) fun D σ H h => by
    have h2 : TX X.K (bif new then bCompNew fi gt t el (own.map (·.2)) else bComp fi gt t el (own.map (·.2))) σ H fun x H1 => gName i x σ H1 D.nx := by
      obtain ⟨env, st, μ, hid, fl, env', st', W0, e, q⟩ := h
      unfold bAsg at e
      obtain ⟨⟨w, s1⟩, h1, e⟩ := Option.bind_eq_some_iff.mp e
      cases e
      exact TX.go W0 h1 fun v H1 μ1 n1 W1 r => q _ H1 μ1 n1 ⟨W1.ev.set r, W1.sd⟩
    cases new with
    | true => exact TX.compNew hsl h2
    | false => exact TX.comp hsl h2
end
theorem xts_one {t : Et} (h : PT X c (TTx X.K t)) : PTs X [c] (TTx X.K t) := pts_one h
/-! ### methods of lists -/
def isL (st : Store) : W → Bool
  | .loc n => match st[n]? with
    | some (.list _) => true
    | _ => false
  | _ => false
def bMeth (o : W → OpN) (f : Ev) (g : Ea) : Ev := fun env st => (f env st).bind fun r => if isL r.2 r.1 = true then (g env r.2).bind fun t => o r.1 t.1 t.2 else none
def TM (K : PySem.W.Frag) (o : W → OpN) : V → List V → Hp → VK → Prop := fun x xs H Q => ∃ st μ hid wx ws w st', Sd K H st μ hid ∧ RW K (mask H (μ ++ hid)) μ x wx ∧ RWs K (mask H (μ ++ hid)) μ xs ws ∧ o wx ws st = some (w, st') ∧ Out K H μ hid w st' Q
def opAppend : W → OpN
  | .loc n, [w], st => match st[n]? with
    | some (.list ws) => if ws.length < sizeLine then some (.dat .none, st.set n (.list (ws ++ [w]))) else none
    | _ => none
  | _, _, _ => none
def opExtend : W → OpN
  | .loc n, [.dat (.list ds)], st => match st[n]? with
    | some (.list ws) => if ws.length + ds.length ≤ sizeLine then some (.dat .none, st.set n (.list (ws ++ ds.map .dat))) else none
    | _ => none
  | _, _, _ => none
theorem RWs.append {K : PySem.W.Frag} {M : Hp} {μ : List Addr} : ∀ {vs us : List V} {ws xs : List W}, RWs K M μ vs ws → RWs K M μ us xs → RWs K M μ (vs ++ us) (ws ++ xs)
  | _, _, _, _, .nil, s => s
  | _, _, _, _, .cons a b, s => .cons a (RWs.append b s)
theorem m_append : MtR X "list.append" (TM X.K opAppend) := by
  intro pins s σ H x xs v us Q I rx rxs ⟨st, μ, hid, wx, ws, w, st', sd, hx, hxs, e, q⟩
  unfold opAppend at e
  split at e
  · rename_i n w
    split at e
    · rename_i us' hw
      split at e
      · rename_i hz
        cases e
        obtain ⟨y, rfl, ry⟩ := rw1 hxs
        cases hx with
        | loc ha =>
          cases sd.at hw ha with
          | @list vs _ h2 h3 h4 =>
            have hl : _ = _ := Paired.length h4
            refine mt_append pins s σ H _ _ v us Q I rx rxs ⟨_, _, _, rfl, rfl, h2, by omega, ?_⟩
            exact q _ _ μ (Nx.put ha sd.nd) (sd.put ha (.list upd_same (by rw [List.length_append, List.length_singleton]; omega) (h4.append (.cons ry .nil)))) (.dat .non)
      · cases e
    · cases e
  · cases e
theorem m_extend : MtR X "list.extend" (TM X.K opExtend) := by
  intro pins s σ H x xs v us Q I rx rxs ⟨st, μ, hid, wx, ws, w, st', sd, hx, hxs, e, q⟩
  unfold opExtend at e
  split at e
  · rename_i n ds
    split at e
    · rename_i us' hw
      split at e
      · rename_i hz
        cases e
        obtain ⟨y, rfl, ry⟩ := rw1 hxs
        cases hx with
        | loc ha =>
          cases ry with
          | dat ry =>
            cases ry with
            | @lst b zs _ hb hzb hr =>
              cases sd.at hw ha with
              | @list vs _ h2 h3 h4 =>
                have hl : _ = _ := Paired.length h4
                have hl2 := hr.length
                refine mt_extend pins s σ H _ _ v us Q I rx rxs ⟨_, _, _, _, rfl, rfl, h2, mask_le _ _ hb, by omega, ?_⟩
                exact q _ _ μ (Nx.put ha sd.nd) (sd.put ha (.list upd_same (by rw [List.length_append, List.length_map]; omega) (h4.append hr.ws))) (.dat .non)
      · cases e
    · cases e
  · cases e
theorem lm_sem {o : W → OpN} {t : Ea} {K : PySem.W.Frag} {σ : L2.St} {H : Hp} {Q : VK} (h : TX K (bMeth o f t) σ H Q) : tBM K "list" (TM K o) (TX K f) (TAx K t) σ H Q := by
  obtain ⟨env, st, μ, hid, w, st', W0, e, q⟩ := h
  unfold bMeth at e
  obtain ⟨⟨wx, s1⟩, h1, e⟩ := Option.bind_eq_some_iff.mp e
  split at e
  · rename_i hl
    obtain ⟨⟨ws, s2⟩, h2, e⟩ := Option.bind_eq_some_iff.mp e
    refine TX.go W0 h1 fun vx H1 μ1 n1 W1 rx => ?_
    have rx0 := rx
    have ty : tyV K "list" vx H1 := by
      unfold isL at hl
      dsimp only at hl
      split at hl
      · split at hl
        · rename_i hw
          cases rx with
          | loc ha => cases W1.sd.at hw ha with | list h3 _ _ => exact .inl ⟨rfl, _, SqL.of h3⟩
        · cases hl
      · cases hl
    exact ⟨ty, TAx.go W1 h2 fun vs H2 μ2 n2 W2 rs => ⟨s2, μ2, hid, wx, ws, w, st', W2.sd, rx0.mono n2.same n2.pre, rs, e, fun v H' μ' n s r => q v H' μ' ((n1.trans n2).trans n) s r⟩⟩
  · cases e
theorem x_append {o e : Expr} {apos cpos : Pos} {es : List Expr} {t : Ea} (ho : PE X o (TX X.K f)) (ha : PA X (e :: es) (TAx X.K t))
    (hbase : attributeBase o "append" X.env (eval o X.env) = eval o X.env := by rfl)
    (hfew : ((backTo cpos (starEach (e :: es) X.env)).all (fun x => !x.1) && (backToKw cpos (keywordEach [] X.env)).all (fun x => x.1.isSome) && decide ((e :: es).length + ([] : List Keyword).length + (if ([] : List Keyword).isEmpty then 0 else 1) < 30)) = true := by rfl)
    (hline : (apos.endLine == cpos.line) = true := by rfl) (hs : starEach (e :: es) X.env = (false, eval e X.env) :: starEach es X.env := by rfl) (hplain : (backTo cpos (starEach es X.env)).any (·.1) = false := by rfl) :
    PE X (.Call (.Attribute o "append" apos) (e :: es) [] cpos) (TX X.K (bMeth opAppend f t)) :=
  PE.imp (pe_bm PySem.F.plainAttrs_list PySem.F.slot_list_append PySem.F.type_list_append m_append ho ha hbase hfew hline hs hplain) fun σ H Q h => lm_sem h
theorem x_extend {o e : Expr} {apos cpos : Pos} {es : List Expr} {t : Ea} (ho : PE X o (TX X.K f)) (ha : PA X (e :: es) (TAx X.K t))
    (hbase : attributeBase o "extend" X.env (eval o X.env) = eval o X.env := by rfl)
    (hfew : ((backTo cpos (starEach (e :: es) X.env)).all (fun x => !x.1) && (backToKw cpos (keywordEach [] X.env)).all (fun x => x.1.isSome) && decide ((e :: es).length + ([] : List Keyword).length + (if ([] : List Keyword).isEmpty then 0 else 1) < 30)) = true := by rfl)
    (hline : (apos.endLine == cpos.line) = true := by rfl) (hs : starEach (e :: es) X.env = (false, eval e X.env) :: starEach es X.env := by rfl) (hplain : (backTo cpos (starEach es X.env)).any (·.1) = false := by rfl) :
    PE X (.Call (.Attribute o "extend" apos) (e :: es) [] cpos) (TX X.K (bMeth opExtend f t)) :=
  PE.imp (pe_bm PySem.F.plainAttrs_list PySem.F.slot_list_extend PySem.F.type_list_extend m_extend ho ha hbase hfew hline hs hplain) fun σ H Q h => lm_sem h
end
end L3
set_option Elab.async false
set_option linter.all false
set_option maxRecDepth 100000
set_option maxHeartbeats 4000000
set_option autoImplicit false
/-! L3: defs, calls. -/
namespace L3
open PySem PySem.Spec PyProof.Rows L2

/-! ### what a def hands back -/
def WBelow (n : Nat) : W → Prop
  | .loc m => m < n
  | _ => True
def CBelow (n : Nat) : Cell → Prop
  | .list ws => ∀ w ∈ ws, WBelow n w
  | .dict kvs => ∀ p ∈ kvs, WBelow n p.2
/-- the caller's cells, as they are or with what the caller knows -/
def Shut (st0 st' : Store) : Prop := st0.length ≤ st'.length ∧ ∀ (i : Nat) (c : Cell), i < st0.length → st'[i]? = some c → st0[i]? = some c ∨ CBelow st0.length c
open Classical in
noncomputable def shut (fz : Bool) (st0 : Store) (w : W) (st' : Store) : Option (W × Store) :=
  if Shut st0 st' then (match w with
    | .loc m => if m < st0.length then some (.loc m, st'.take st0.length) else if fz = true then (match st'[m]? with
        | some (.list ws) => (match ws.mapM datOf with
          | some ds => some (.dat (.list ds), st'.take st0.length)
          | none => some (.loc m, st'))
        | _ => some (.loc m, st')) else some (.loc m, st')
    | w => some (w, st'.take st0.length))
  else none
def start3 (n : Nat) (ws : List W) : E3 := ws.map some ++ List.replicate (n - ws.length) none
/-- a def of m parameters and n names, by its body -/
noncomputable def runB (fz : Bool) (n m : Nat) (b : Eb) : OpN := fun ws st => if ws.length = m then (b (start3 n ws) st).bind fun r => match r.1 with
  | .nx => shut fz st (.dat .none) r.2.2
  | .rt w => shut fz st w r.2.2
  | _ => none else none
theorem below_of {K : PySem.W.Frag} {M : Hp} {μ : List Addr} {v : V} {w : W} (r : RW K M μ v w) : WBelow μ.length w := by
  cases r with
  | loc h => exact (List.getElem?_eq_some_iff.mp h).1
  | _ => trivial
theorem belows_of {K : PySem.W.Frag} {M : Hp} {μ : List Addr} {v : List V} {w : List W} (r : RWs K M μ v w) : ∀ x ∈ w, WBelow μ.length x := by
  induction r with
  | nil => intro x hx; cases hx
  | cons a b ih =>
    intro x hx
    rcases List.mem_cons.mp hx with e | hx
    · subst e; exact below_of a
    · exact ih x hx
theorem cbelow_of {K : PySem.W.Frag} {M : Hp} {μ : List Addr} {H : Hp} {a : Addr} {c : Cell} (r : COk K M μ H a c) : CBelow μ.length c := by
  cases r with
  | list _ _ r => exact belows_of r
  | dict h1 h2 r =>
    clear h1 h2
    intro p hp
    induction r with
    | nil => cases hp
    | cons a b ih =>
      rcases List.mem_cons.mp hp with e | hp
      · subst e; exact below_of a.2
      · exact ih hp
theorem RW.take {K : PySem.W.Frag} {M M' : Hp} {μ : List Addr} {n : Nat} (s : Same M M') {v : V} {w : W} (hb : WBelow n w) (r : RW K M μ v w) : RW K M' (μ.take n) v w := by
  cases r with
  | dat h => exact .dat (h.mono s)
  | loc h1 => exact .loc (by rw [List.getElem?_take_of_lt hb]; exact h1)
  | iset h n => exact .iset (s _ _ h) n
  | frz h z r => exact .frz (Same.sqL s h) z (r.mono s)
  | ty n => exact .ty n
  | tys h => exact .tys (s _ _ h)
theorem RWs.takeN {K : PySem.W.Frag} {M M' : Hp} {μ : List Addr} {n : Nat} (s : Same M M') {v : List V} {w : List W} (h : ∀ x ∈ w, WBelow n x) (r : RWs K M μ v w) : RWs K M' (μ.take n) v w := by
  induction r with
  | nil => exact .nil
  | cons a b ih => exact .cons (a.take s (h _ List.mem_cons_self)) (ih fun x hx => h x (List.mem_cons_of_mem _ hx))
theorem COk.take {K : PySem.W.Frag} {M M' : Hp} {μ : List Addr} {n : Nat} {H : Hp} {a : Addr} (s : Same M M') {c : Cell} (h : CBelow n c) (r : COk K M μ H a c) : COk K M' (μ.take n) H a c := by
  cases r with
  | list h1 h2 r => exact .list h1 h2 (RWs.takeN s h r)
  | dict h1 h2 r =>
    refine .dict h1 h2 ?_
    rename_i vs ws
    have key : ∀ {vs : List (Key × V)} {ws : List (Key × W)}, (∀ p : Key × W, p ∈ ws → WBelow n p.2) → Paired (fun (p : Key × V) (q : Key × W) => p.1 = q.1 ∧ RW K M μ p.2 q.2) vs ws → Paired (fun (p : Key × V) (q : Key × W) => p.1 = q.1 ∧ RW K M' (μ.take n) p.2 q.2) vs ws := by
      intro vs ws h r
      induction r with
      | nil => exact .nil
      | cons a b ih => exact .cons ⟨a.1, a.2.take s (h _ List.mem_cons_self)⟩ (ih fun x hx => h x (List.mem_cons_of_mem _ hx))
    exact key h r
theorem shut_ok {K : PySem.W.Frag} {H H' : Hp} {st st' st2 : Store} {μ μ' hid : List Addr} {w w2 : W} {v : V} {fz : Bool} (sd : Sd K H st μ hid) (n : Nx H μ H' μ' hid) (sd' : Sd K H' st' μ' hid) (r : RW K (mask H' (μ' ++ hid)) μ' v w) (e : shut fz st w st' = some (w2, st2)) :
    ∃ μ2, Nx H μ H' μ2 hid ∧ Sd K H' st2 μ2 hid ∧ RW K (mask H' (μ2 ++ hid)) μ2 v w2 := by
  unfold shut at e
  split at e
  · rename_i hs
    obtain ⟨hlen, hs⟩ := hs
    -- the cells cut off
    have hμ : μ'.take st.length = μ := by
      obtain ⟨t, rfl⟩ := n.pre
      rw [← sd.len, List.take_left']
      rfl
    have sub : Same (mask H' (μ' ++ hid)) (mask H' (μ ++ hid)) := mask_less fun a ha => by
      rcases List.mem_append.mp ha with ha | ha
      · exact List.mem_append_left _ (n.pre.subset ha)
      · exact List.mem_append_right _ ha
    have n2 : Nx H μ H' μ hid := ⟨fun b o q => sub b o (n.same b o q), List.prefix_refl _, n.keep⟩
    have s2 : Sd K H' (st'.take st.length) μ hid := by
      refine ⟨by rw [List.length_take, sd.len]; omega, fun i c a hc ha => ?_, sd'.hds, ?_⟩
      · have hi : i < st.length := by have := (List.getElem?_eq_some_iff.mp ha).1; rw [sd.len] at this; exact this
        rw [List.getElem?_take_of_lt hi] at hc
        have ha' : μ'[i]? = some a := by
          rw [← hμ, List.getElem?_take_of_lt hi] at ha
          exact ha
        have ok := sd'.cell i c a hc ha'
        have cb : CBelow st.length c := by
          rcases hs i c hi hc with h | h
          · have := cbelow_of (sd.cell i c a h ha); rw [sd.len] at this; exact this
          · exact h
        have := ok.take sub cb
        rw [hμ] at this
        exact this
      · exact sd.nd
    have cutR : WBelow st.length w → ∃ μ2, Nx H μ H' μ2 hid ∧ Sd K H' (st'.take st.length) μ2 hid ∧ RW K (mask H' (μ2 ++ hid)) μ2 v w := fun hw => by
      refine ⟨μ, n2, s2, ?_⟩
      have := r.take sub hw
      rw [hμ] at this
      exact this
    split at e
    · rename_i m
      split at e
      · rename_i hm
        cases e
        exact cutR hm
      · split at e
        · split at e
          · rename_i ws hw
            split at e
            · rename_i ds hd
              cases e
              cases r with
              | loc ha =>
                cases sd'.at hw ha with
                | list h2 h3 h4 =>
                  rename_i hm _ a vs
                  refine ⟨μ, n2, s2, .dat (.lst (mask_some.mpr ⟨fun z => ?_, h2⟩) (by rw [mapM_len hd]; exact h3) ((h4.dat hd).mono sub))⟩
                  have nd := sd'.nd
                  rw [List.nodup_append] at nd
                  rcases List.mem_append.mp z with z | z
                  · obtain ⟨j, hj, ej⟩ := List.getElem_of_mem z
                    have hj' : μ'[j]? = some a := by
                      obtain ⟨t, rfl⟩ := n.pre
                      rw [List.getElem?_append_left hj, List.getElem?_eq_getElem hj, ej]
                    obtain ⟨l1, e1⟩ := List.getElem?_eq_some_iff.mp hj'
                    obtain ⟨l2, e2⟩ := List.getElem?_eq_some_iff.mp ha
                    have := (List.getElem_inj nd.1).mp (e1.trans e2.symm)
                    rw [sd.len] at hj
                    omega
                  · exact nd.2.2 a (List.mem_of_getElem? ha) a z rfl
            · cases e; exact ⟨μ', n, sd', r⟩
          · cases e; exact ⟨μ', n, sd', r⟩
        · cases e; exact ⟨μ', n, sd', r⟩
    · rename_i hn
      cases e
      refine cutR ?_
      cases w with
      | loc m => exact absurd rfl (hn m)
      | _ => trivial
  · cases e

/-- a def keeps the reading F, called where nothing is being shown -/
structure FnG (P : Program) (w : World) (K : PySem.W.Frag) (mg : Str → Option Value) (base : Heap) (k : Nat) (f : Addr) (fd : FuncData) (ps : List Str) (F : OpN) : Prop where
  len : ∀ ws st r, F ws st = some r → ws.length = ps.length
  run : ∀ (A : Around) (outer : List Env) (s : Shared) (H : Hp) (args : Args) (us : List Value) (vs : List V) (Q : VK), Room k A → A.guards = some [] → Env0 P w K mg base A outer s H → BindsTo s fd args (ps.zip us) → Vals vs us → TN K F vs H Q →
    codeAny (model P w) A (.call (.ref f) args) (CR CX0 outer P w H s Q E0) s
section
variable {P : Program} {w : World} {K : PySem.W.Frag} {mg : Str → Option Value} {base : Heap}
theorem FnG.mono {j k : Nat} {f : Addr} {fd : FuncData} {ps : List Str} {F : OpN} (G : FnG P w K mg base j f fd ps F) (h : j ≤ k) : FnG P w K mg base k f fd ps F :=
  ⟨G.len, fun A outer s H args us vs Q hr => G.run A outer s H args us vs Q (hr.mono h)⟩
/-- what it is worth in other words -/
theorem FnG.imp {k : Nat} {f : Addr} {fd : FuncData} {ps : List Str} {F F' : OpN} (G : FnG P w K mg base k f fd ps F) (h : ∀ ws st r, F' ws st = some r → F ws st = some r) : FnG P w K mg base k f fd ps F' :=
  ⟨fun ws st r e => G.len ws st r (h _ _ _ e), fun A outer s H args us vs Q hr hg he hb hv ⟨st, μ, hid, ws, w, st', sd, rx, e, q⟩ => G.run A outer s H args us vs Q hr hg he hb hv ⟨st, μ, hid, ws, w, st', sd, rx, h _ _ _ e, q⟩⟩
theorem RE.start {M : Hp} {μ : List Addr} {vs : List V} {ws : List W} {N : List Str} (r : RWs K M μ vs ws) : RE K M μ (L2.start N vs) (start3 N.length ws) := by
  have hl : vs.length = ws.length := Paired.length r
  refine ⟨by unfold L2.start start3; simp [hl], fun i x e => ?_⟩
  unfold start3 at e
  unfold L2.start
  by_cases hi : i < ws.length
  · rw [List.getElem?_append_left (by simpa using hi), List.getElem?_map] at e
    rw [List.getElem?_append_left (by rw [List.length_map, hl]; exact hi), List.getElem?_map]
    cases h : ws[i]? with
    | none => rw [h] at e; cases e
    | some y =>
      rw [h] at e
      have e := Option.some.inj (Option.some.inj e)
      subst e
      obtain ⟨v, h1, h2⟩ := RWs.get r h
      exact ⟨v, by rw [h1]; rfl, h2⟩
  · rw [List.getElem?_append_right (by simpa using hi), List.getElem?_replicate] at e
    split at e <;> cases e
/-- THE RULE: a def by its body's reading -/
theorem FunD.okG {x qual : Str} {params : Arguments} {body : List Stmt} {scope : Scope} {dvs : List V} {kws : List (Str × V)} {f : Addr} {fd : FuncData} {N ps : List Str} {k : Nat} {fz : Bool} {b : Eb} (F : FunD K x qual params body scope dvs kws f fd) (S : FnScope N ps scope)
    (hbody : ∀ (cdv : Value) (A : Around) (outer : List Env) (s : Shared) (H : Hp) (E : XK), Room k (A.deeper (envOfC qual scope s.heap.objs.size f cdv)) → A.guards = some [] → PSs (cxOf CX0 P w K mg base N qual scope f cdv A outer s H E) body (TSx K b)) :
    FnG P w K mg base (k + 1) f fd ps (runB fz N.length ps.length b) := by
  obtain ⟨oc, od, dV, kV, doc, pm, an, cdv, ct, osl, rfl, lk, hcd, _, _⟩ := F.ex
  have hlen : ∀ ws st r, runB fz N.length ps.length b ws st = some r → ws.length = ps.length := fun ws st r e => by
    unfold runB at e
    split at e
    · rename_i h; exact h
    · cases e
  refine ⟨hlen, fun A outer s H args us vs Q hr hgd e0 hb r hsp => ?_⟩
  have hl : vs.length = ps.length := by
    obtain ⟨st, μ, hid, ws, w, st', sd, rx, e, q⟩ := hsp
    have := hlen _ _ _ e
    have h2 : _ = _ := Paired.length rx
    omega
  have KX : K.In s.heap := e0.mod.kin.keeps fun b o e => (e0.bs b o e).1
  have lim : s.heap.NoLimit := e0.mod.nolimit.keeps fun b o e => (e0.bs b o e).1
  have hkind : ∀ y ∈ ps.zip us, scope.names.lookup y.1 = some .local ∨ (scope.names.lookup y.1 = some .cell ∧ ((cellsFrom (s.heap.objs.size + 1) scope.names []).lookup y.1).isSome = true) := fun ⟨n, v⟩ hy => by
    rcases S.par n (List.of_mem_zip hy).1 with q | q
    · exact .inl q
    · exact .inr ⟨q, PySem.W.cellsFrom_some _ _ _ (.inl q)⟩
  refine codeAny_call_function hr.depth (KX _ _ lk) rfl S.co S.gen rfl (PySem.W.codeRec_of KX hcd) (hb _ _ _ _ (wpAny_newFunctionEnv_cells S.kind hkind fun env he s1 x => ?_))
  subst he
  refine ⟨lim.keeps x.toInCall.keep, codeAny_func ?_⟩
  have ht := hbody cdv A outer s H E0 (hr.deeper _) hgd
  have I : Inv (cxOf CX0 P w K mg base N qual scope f cdv A outer s H E0) [] (L2.start N vs) H s1 := inv_start S hr.hd e0 hl r x
  obtain ⟨st, μ, hid, ws, wr, st', sd, rx, e, q⟩ := hsp
  have W0 : Wd K (L2.start N vs) H (start3 N.length ws) st μ hid := ⟨RE.start rx, sd⟩
  unfold runB at e
  split at e
  · rename_i hwl
    obtain ⟨⟨fl, env', st2⟩, h1, e⟩ := Option.bind_eq_some_iff.mp e
    have fin : ∀ {v : V} {H' : Hp} {μ' : List Addr} {w0 : W}, Nx H μ H' μ' hid → Sd K H' st2 μ' hid → RW K (mask H' (μ' ++ hid)) μ' v w0 → shut fz st w0 st2 = some (wr, st') → Q v H' := fun {v H' μ' w0} n s r e => by
      obtain ⟨μ2, n2, s2, r2⟩ := shut_ok sd n s r e
      exact q v H' μ2 n2 s2 r2
    have TT : TSx K b { nx := fun _ H' => Q .non H', rt := Q } (L2.start N vs) H := by
      refine TSx.go W0 h1 ?_
      cases fl with
      | nx => exact fun σ' H' μ' n w' => fin n w'.sd (.dat .non) e
      | rt w0 => exact fun v H' μ' n s r => fin n s r e
      | bk => cases e
      | ct => cases e
    refine wpAny_mono (ht.run [] s1 (L2.start N vs) H _ I TT) (fun fl s' hs => ?_) fun e s' hs => hs
    have done : ∀ {σ' : L2.St} {H' : Hp} {v : V} {u : Value}, Inv (cxOf CX0 P w K mg base N qual scope f cdv A outer s H E0) [] σ' H' s' → RelV v u → Q v H' → CE outer P w H s Q u s' :=
      fun {σ' H' v u} J rv q => ⟨v, H', J.os, J.bare, J.base, J.hok, rv, q⟩
    cases fl with
    | ret u =>
      obtain ⟨v, σ', H', J, rv, q⟩ := hs
      exact done J rv q
    | next =>
      obtain ⟨σ', H', J, q⟩ := hs
      exact done (v := V.non) (u := Value.none) J rfl q
    | brk => obtain ⟨_, _, _, q⟩ := hs; exact q.elim
    | cont => obtain ⟨_, _, _, q⟩ := hs; exact q.elim
  · cases e
end

/-! ### calls -/
section
variable {X : Cx} {a b c : Expr} {pos : Pos} {f g : Ev} {k : Nat} {fa : Addr} {fd : FuncData} {ps : List Str} {F : OpN} {x : Str} {p : Pos}
theorem run_fnG {pins : List (Addr × Obj)} {σ : L2.St} {H : Hp} {s : Shared} {Q : VK} {us : List Value} {kw : List (Str × Value)} {vs' : List V} {us' : List Value} (G : FnG X.prog X.w X.K X.mg X.base k fa fd ps F) (hr : Room k X.A) (hgd : X.A.guards = some [])
    (I : Inv X pins σ H s) (hb : BindsTo s fd ⟨us, kw⟩ (ps.zip us')) (r : Vals vs' us') (h : TN X.K F vs' H Q) : wpAny (model X.prog X.w) X.A (call (.ref fa) us kw) (EP X pins σ Q) X.xe s := by
  refine wpAny_call (codeAny_mono (G.run X.A X.stack s H ⟨us, kw⟩ us' vs' Q hr hgd I.env0 hb r h) fun r s' hq => ?_)
  cases r with
  | error e => exact hq.elim
  | ok fl =>
    cases fl with
    | ret u => exact I.after hq
    | _ => exact hq.elim
theorem x_call {e : Expr} {es : List Expr} {t : Ea} (G : FnG X.prog X.w X.K X.mg X.base k fa fd ps F) (hb : Binds X.K fd ps []) (hk : PySem.W.keepIn X.K (.ref fa) = true) (hr : Room k X.A) (hgd : X.A.guards = some []) (hg : Gl X x) (hm : X.mg x = some (.ref fa))
    (ha : PA X (e :: es) (TAx X.K t)) (hdb : (x == ("__debug__" : Str)) = false := by decide) (he : starEach (e :: es) X.env = (false, eval e X.env) :: starEach es X.env := by rfl) (hpl : (backTo pos (starEach es X.env)).any (·.1) = false := by rfl) :
    PE X (.Call (.Name x p) (e :: es) [] pos) (TX X.K (bN F t)) := by
  refine ⟨fun pins s σ H Q I h => ?_⟩
  refine wpAny_Call_Name_kw (ld_glob I hg hm ?_ hdb)
  refine PySem.W.callWith_K (h₀ := X.base) I.ok.mod.kin hk (thn (ha.run pos pins s σ H _ I (TX.args h)) fun us s1 ⟨vs, H1, I1, r, q⟩ => ⟨I1.kIn, ?_⟩) he hpl
  have hl : us.length = ps.length := by
    obtain ⟨st, μ, hid, ws, w, st', sd, rx, e, q⟩ := q
    have h1 := G.len _ _ _ e
    have h2 : _ = _ := Paired.length rx
    have h3 := r.length
    omega
  have bb := hb s1 us I1.kIn (by rw [List.append_nil]; exact hl)
  rw [List.append_nil] at bb
  exact run_fnG G hr hgd I1 bb r q
/-- no arguments -/
theorem x_call0 (G : FnG X.prog X.w X.K X.mg X.base k fa fd ps F) (hb : Binds X.K fd ps []) (hk : PySem.W.keepIn X.K (.ref fa) = true) (hr : Room k X.A) (hgd : X.A.guards = some []) (hg : Gl X x) (hm : X.mg x = some (.ref fa)) (hdb : (x == ("__debug__" : Str)) = false := by decide) :
    PE X (.Call (.Name x p) [] [] pos) (TX X.K (bN F aNil)) := by
  refine ⟨fun pins s σ H Q I h => ?_⟩
  refine wpAny_Call_Name_kw (ld_glob I hg hm ?_ hdb)
  have q := TX.args h
  have q : TN X.K F [] H Q := by
    obtain ⟨env, st, μ, hid, ws, st', W0, e, q⟩ := q
    cases e
    exact q [] H μ Nx.refl W0.sd .nil
  refine PySem.W.callWith_K0 I.kIn hk ?_
  have hl : ps.length = 0 := by
    obtain ⟨st, μ, hid, ws, w, st', sd, rx, e, q⟩ := q
    have h1 := G.len _ _ _ e
    have h2 : _ = _ := Paired.length rx
    simp at h2
    omega
  have bb := hb s [] I.kIn (by simp [hl])
  exact run_fnG G hr hgd I bb .nil q
/-! ### by names -/
def pk {α : Type} (idx : List Nat) (xs : List α) : List α := idx.filterMap fun i => xs[i]?
theorem pk_rel {α β : Type} {R : α → β → Prop} {xs : List α} {ys : List β} (r : Paired R xs ys) : ∀ idx : List Nat, Paired R (pk idx xs) (pk idx ys)
  | [] => .nil
  | i :: idx => by
    have key : ∀ {xs : List α} {ys : List β} {i : Nat}, Paired R xs ys → (xs[i]? = none ∧ ys[i]? = none) ∨ ∃ x y, xs[i]? = some x ∧ ys[i]? = some y ∧ R x y := by
      intro xs ys i r
      induction r generalizing i with
      | nil => exact .inl ⟨rfl, rfl⟩
      | cons a b ih =>
        cases i with
        | zero => exact .inr ⟨_, _, rfl, rfl, a⟩
        | succ i => simpa using ih (i := i)
    unfold pk
    rw [List.filterMap_cons, List.filterMap_cons]
    rcases key (i := i) r with ⟨h1, h2⟩ | ⟨x, y, h1, h2, h3⟩
    · rw [h1, h2]; exact pk_rel r idx
    · rw [h1, h2]; exact .cons h3 (pk_rel r idx)
/-- the keywords' values -/
theorem xk_nil : PK X [] (TAx X.K aNil) := ⟨fun pos pins s σ H Q I h => pk_nil.run pos pins s σ H Q I (by obtain ⟨env, st, μ, hid, ws, st', W0, e, q⟩ := h; cases e; exact q [] H μ Nx.refl W0.sd .nil)⟩
theorem xk_cons {kws : List Keyword} {nm : Option Str} {kpos : Pos} {t : Ea} (ha : PE X a (TX X.K f)) (hr : PK X kws (TAx X.K t)) : PK X (⟨nm, a, kpos⟩ :: kws) (TAx X.K (aCons f t)) :=
  ⟨fun pos pins s σ H Q I h => (pk_cons ha hr).run pos pins s σ H Q I (by
    obtain ⟨env, st, μ, hid, ws, st', W0, e, q⟩ := h
    unfold aCons at e
    obtain ⟨⟨x, s1⟩, h1, e⟩ := Option.bind_eq_some_iff.mp e
    obtain ⟨⟨y, s2⟩, h2, e⟩ := Option.bind_eq_some_iff.mp e
    cases e
    exact TX.go W0 h1 fun vx H1 μ1 n1 W1 rx => TAx.go W1 h2 fun vy H2 μ2 n2 W2 ry => q _ _ μ2 (n1.trans n2) W2.sd (.cons (rx.mono n2.same n2.pre) ry))⟩
/-- f(k = v, ..): the values in the parameters' order by idx -/
theorem x_callKw {kws : List Keyword} {t : Ea} {ks : List Str} (idx : List Nat) (G : FnG X.prog X.w X.K X.mg X.base k fa fd ps F) (hb : ∀ (ws : List Value), ws.length = ks.length → bindArgs fd ⟨[], ks.zip ws⟩ = pure (ps.zip (pk idx ws))) (hk : PySem.W.keepIn X.K (.ref fa) = true) (hr : Room k X.A) (hgd : X.A.guards = some []) (hg : Gl X x) (hm : X.mg x = some (.ref fa))
    (ha : PK X kws (TAx X.K t)) (hall : (backToKw pos (keywordEach kws X.env)).all (·.1.isSome) = true := by rfl) (hks : (backToKw pos (keywordEach kws X.env)).filterMap (·.1) = ks := by rfl) (hdb : (x == ("__debug__" : Str)) = false := by decide)
    (hpl : ((backTo pos (starEach [] X.env)).any (·.1) || (backToKw pos (keywordEach kws X.env)).any (·.1.isNone)) = false := by rfl) :
    PE X (.Call (.Name x p) [] kws pos) (TX X.K (bN (fun ws st => if ws.length = ks.length then F (pk idx ws) st else none) t)) := by
  refine ⟨fun pins s σ H Q I h => ?_⟩
  refine wpAny_Call_Name_kw (ld_glob I hg hm ?_ hdb)
  refine PySem.W.callWith_KW0 (h₀ := X.base) I.ok.mod.kin hk hall (thn (ha.run pos pins s σ H _ I (TX.args h)) fun us s1 ⟨vs, H1, I1, r, q⟩ => ⟨I1.kIn, ?_⟩) hpl
  rw [hks]
  obtain ⟨st, μ, hid, ws, w, st', sd, rx, e, q⟩ := q
  dsimp only at e
  split at e
  · rename_i hl
    have h2 : _ = _ := Paired.length rx
    have h3 := r.length
    exact run_fnG G hr hgd I1 (.of_eq (hb us (by omega))) (pk_rel r idx) ⟨st, μ, hid, pk idx ws, w, st', sd, pk_rel rx idx, e, q⟩
  · cases e
end
end L3
set_option Elab.async false
set_option linter.all false
set_option maxRecDepth 100000
set_option maxHeartbeats 4000000
set_option autoImplicit false
/-! L3: dicts as cells: {}, comprehensions, update. -/
namespace L3
open PySem PySem.Spec PyProof.Rows L2
section
variable {X : Cx} {a b c : Expr} {pos : Pos} {f g : Ev}
/-- as putK, upon any values -/
def putG {α : Type} (kvs : List (Key × α)) (k : Key) (v : α) : List (Key × α) :=
  if (kvs.any fun kv => decide (kv.1 = k)) = true then kvs.map (fun kv => if kv.1 = k then (kv.1, v) else kv) else kvs ++ [(k, v)]
theorem putG_V (kvs : List (Key × V)) (k : Key) (v : V) : putG kvs k v = putK kvs k v := rfl
theorem putG_len {α : Type} (kvs : List (Key × α)) (k : Key) (v : α) : (putG kvs k v).length ≤ kvs.length + 1 := by
  unfold putG
  split
  · rw [List.length_map]; omega
  · rw [List.length_append, List.length_cons, List.length_nil]; omega
def mergeG {α : Type} (kvs more : List (Key × α)) : List (Key × α) := more.foldl (fun acc kv => putG acc kv.1 kv.2) kvs
abbrev RKs (K : PySem.W.Frag) (M : Hp) (μ : List Addr) : List (Key × V) → List (Key × W) → Prop := Paired (fun (p : Key × V) (q : Key × W) => p.1 = q.1 ∧ RW K M μ p.2 q.2)
theorem RKs.put {K : PySem.W.Frag} {M : Hp} {μ : List Addr} {vs : List (Key × V)} {ws : List (Key × W)} {k : Key} {v : V} {w : W} (r : RKs K M μ vs ws) (rv : RW K M μ v w) : RKs K M μ (putG vs k v) (putG ws k w) := by
  have e : (vs.any fun kv => decide (kv.1 = k)) = (ws.any fun kv => decide (kv.1 = k)) := by
    induction r with
    | nil => rfl
    | cons a b ih => simp only [List.any_cons, a.1, ih]
  unfold putG
  rw [e]
  split
  · rename_i h9
    clear e h9
    induction r with
    | nil => exact .nil
    | cons a b ih =>
      simp only [List.map_cons]
      refine .cons ?_ ih
      rw [a.1]
      split
      · exact ⟨rfl, rv⟩
      · exact a
  · have app : ∀ {vs : List (Key × V)} {ws : List (Key × W)}, RKs K M μ vs ws → RKs K M μ (vs ++ [(k, v)]) (ws ++ [(k, w)]) := by
      intro vs ws h
      induction h with
      | nil => exact .cons ⟨rfl, rv⟩ .nil
      | cons a b ih => exact .cons a ih
    exact app r
theorem RKs.merge {K : PySem.W.Frag} {M : Hp} {μ : List Addr} {more : List (Key × V)} {more' : List (Key × W)} (r' : RKs K M μ more more') : ∀ {vs : List (Key × V)} {ws : List (Key × W)}, RKs K M μ vs ws → RKs K M μ (mergeG vs more) (mergeG ws more') := by
  induction r' with
  | nil => intro vs ws r; exact r
  | cons a b ih =>
    intro vs ws r
    unfold mergeG
    rw [List.foldl_cons, List.foldl_cons, a.1]
    exact ih (r.put a.2)
theorem mergeG_len {α : Type} : ∀ (more kvs : List (Key × α)), (mergeG kvs more).length ≤ kvs.length + more.length
  | [], kvs => Nat.le_refl _
  | p :: more, kvs => by
    have h1 := mergeG_len more (putG kvs p.1 p.2)
    have h2 := putG_len kvs p.1 p.2
    unfold mergeG at h1 ⊢
    rw [List.foldl_cons, List.length_cons]
    omega
theorem KV.mergeG {vs : List (Key × Value)} {more : List (Key × V)} {more' : List (Key × Value)} (r' : KV more more') : ∀ {kvs : List (Key × V)} {vs : List (Key × Value)}, KV kvs vs → KV (mergeG kvs more) (merged vs more') := by
  induction r' with
  | nil => intro kvs vs r; exact r
  | cons a b ih =>
    rename_i p q _ _
    intro kvs vs r
    show KV (List.foldl _ (putG kvs p.1 p.2) _) (List.foldl _ (stored vs q.1 q.2) _)
    rw [a.1]
    exact ih (r.put q.1 a.2)
/-- {} -/
def bDictNew : Ev := fun _ st => some (.loc st.length, st ++ [.dict []])
theorem x_dictNew : PE X (.Dict [] [] pos) (TX X.K bDictNew) := by
  refine PE.imp pe_dnewK fun σ H Q ⟨env, st, μ, hid, w, st', W0, e, q⟩ => ?_
  cases e
  intro d hd
  exact q _ _ (μ ++ [d]) (Nx.cell W0.sd hd) (W0.sd.newCell hd (.dict upd_same (Nat.zero_le _) .nil)) (.loc (by rw [← W0.sd.len, List.getElem?_append_right (Nat.le_refl _), Nat.sub_self]; rfl))
/-! ### dict comprehensions -/
def dcRun (it : It3) (gt : Eg) (t : Et) (kx vx : Ev) (env0 : E3) : Nat → Nat → Store → List (Key × W) → Option (List (Key × W) × Store)
  | 0, _, _, _ => none
  | k + 1, i, st, acc => match it.item st i with
    | none => none
    | some none => some (acc, st)
    | some (some w) => match gt w env0 st with
      | none => none
      | some (env1, st1) => match t env1 st1 with
        | none => none
        | some (false, st2) => dcRun it gt t kx vx env0 k (i + 1) st2 acc
        | some (true, st2) => match kx env1 st2 with
          | none => none
          | some (y, st3) => match vx env1 st3 with
            | none => none
            | some (z, st4) => match keyOf y with
              | none => none
              | some ky => dcRun it gt t kx vx env0 k (i + 1) st4 (putG acc ky z)
def dcAll (fi : Ei) (gt : Eg) (t : Et) (kx vx : Ev) (vs : List Nat) : E3 → Store → Option (List (Key × W) × Store) := fun env st => (fi env st).bind fun r => dcRun r.1 gt t kx vx (wipe3 env vs) (r.1.n + 1) 0 r.2 []
structure DcEnd (K : PySem.W.Frag) (H1 : Hp) (μ1 hid : List Addr) (D : Addr) (acc : List (Key × W)) (st : Store) (H : Hp) (μ : List Addr) : Prop where
  sd : Sd K H st μ (hid ++ [D])
  same : Same (mask H1 (μ1 ++ hid)) (mask H (μ ++ (hid ++ [D])))
  pre : μ1 <+: μ
  keep : ∀ a ∈ hid, H a = H1 a
  at_ : ∃ vs, H D = some (.dK vs) ∧ RKs K (mask H (μ ++ (hid ++ [D]))) μ vs acc
  len : acc.length ≤ sizeLine
theorem RKs.mono {K : PySem.W.Frag} {M M' : Hp} {μ μ' : List Addr} {vs : List (Key × V)} {ws : List (Key × W)} (s : Same M M') (p : μ <+: μ') (r : RKs K M μ vs ws) : RKs K M' μ' vs ws := Paired.mapP r fun _ _ q => ⟨q.1, q.2.mono s p⟩
theorem dc_sem {wi : Ei} {gt : Eg} {t : Et} {kx vx : Ev} {sl vs : List Nat} {K : PySem.W.Frag} (hsl : ∀ j ∈ sl, j ∈ vs) {σ : L2.St} {H : Hp} {Q : VK} {env : E3} {st st' : Store} {μ hid : List Addr} {acc : List (Key × W)} (W0 : Wd K σ H env st μ hid) (e : dcAll wi gt t kx vx vs env st = some (acc, st'))
    (q : ∀ H' μ' D, (∃ H1 μ1, Nx H μ H1 μ1 hid ∧ H1 D = none ∧ DcEnd K H1 μ1 hid D acc st' H' μ') → Q (.ref D) H') : tDc (TIx K wi) (TGx K sl gt) (TTx K t) (TX K kx) (TX K vx) vs σ H Q := by
  unfold dcAll at e
  obtain ⟨⟨it, s1⟩, h1, e⟩ := Option.bind_eq_some_iff.mp e
  refine ⟨env, st, μ, hid, it, s1, W0, h1, fun J H1 μ1 n1 sd1 wk D hD => ?_⟩
  have W1 := W0.next n1 sd1
  have hDm : D ∉ μ1 ++ hid := fun z => sd1.there D z hD
  have em : ∀ (o : HO) (μ : List Addr), mask (upd H1 D o) (μ ++ (hid ++ [D])) = mask H1 (μ ++ hid) := fun o μ => by
    funext b
    unfold mask upd
    simp only [List.mem_append, List.mem_singleton]
    by_cases hb : b = D
    · subst hb; by_cases h1 : b ∈ μ <;> by_cases h2 : b ∈ hid <;> simp [h1, h2, hD]
    · by_cases h1 : b ∈ μ <;> by_cases h2 : b ∈ hid <;> simp [h1, h2, hb]
  have start : DcEnd K H1 μ1 hid D [] s1 (upd H1 D (.dK [])) μ1 := by
    refine ⟨⟨sd1.len, fun n c a hc ha => ?_, fun a ha => ?_, ?_⟩, fun b o z => by rw [em]; exact z, List.prefix_refl _, fun a ha => upd_ne fun (z : a = D) => hDm (by rw [← z]; exact List.mem_append_right _ ha), ⟨[], upd_same, .nil⟩, Nat.zero_le _⟩
    · rw [em]
      exact (sd1.cell n c a hc ha).mono (fun _ _ z => z) (List.prefix_refl _) (upd_ne fun (z : a = D) => hDm (by rw [← z]; exact List.mem_append_left _ (List.mem_of_getElem? ha)))
    · by_cases z : a = D
      · subst z; rw [upd_same]; simp
      · rw [upd_ne z]
        rcases List.mem_append.mp ha with ha | ha
        · exact sd1.hds a ha
        · exact absurd (by simpa using ha) z
    · rw [← List.append_assoc, List.nodup_append]
      exact ⟨sd1.nd, by simp, fun a ha b hb z => by subst z; simp at hb; subst hb; exact hDm ha⟩
  refine ⟨fun i m H2 => ∃ st2 μ2 acc2, DcEnd K H1 μ1 hid D acc2 st2 H2 μ2 ∧ acc2.length ≤ i ∧ dcRun it gt t kx vx (wipe3 env vs) m i st2 acc2 = some (acc, st'), ⟨it.n + 1, s1, μ1, [], start, Nat.le_refl _, e⟩, ?_⟩
  rintro i m H2 ⟨st2, μ2, acc2, L2', hlen, e2⟩
  have wk2 := wk H2 st2 μ2 (hid ++ [D]) L2'.same L2'.pre L2'.sd i
  cases m with
  | zero => cases e2
  | succ k =>
    unfold dcRun at e2
    split at e2
    · cases e2
    · rename_i hit
      cases e2
      exact .inl ⟨wk2.2 hit, q H2 μ2 D ⟨H1, μ1, n1, hD, L2'⟩⟩
    · rename_i w hit
      obtain ⟨hi, go, yl⟩ := wk2.1 w hit
      refine .inr ⟨go, fun H' => ∃ st3 μ3 acc3, DcEnd K H1 μ1 hid D acc3 st3 H' μ3 ∧ acc3.length ≤ i + 1 ∧ dcRun it gt t kx vx (wipe3 env vs) k (i + 1) st3 acc3 = some (acc, st'), fun H' h => ⟨k, Nat.lt_succ_self _, h⟩, fun x H3 hy => ?_⟩
      obtain ⟨n3, sd3, r3⟩ := yl x H3 hy
      have carry : ∀ {H5 : Hp} {st5 : Store} {μ5 : List Addr}, Nx H2 μ2 H5 μ5 (hid ++ [D]) → Sd K H5 st5 μ5 (hid ++ [D]) → DcEnd K H1 μ1 hid D acc2 st5 H5 μ5 := fun {H5 st5 μ5} n s => by
        obtain ⟨us, hu, ru⟩ := L2'.at_
        exact ⟨s, fun b o z => n.same b o (L2'.same b o z), L2'.pre.trans n.pre, fun a ha => (n.keep a (List.mem_append_left _ ha)).trans (L2'.keep a ha), ⟨us, (n.keep D (by simp)).trans hu, ru.mono n.same n.pre⟩, L2'.len⟩
      have W3 : Wd K (L2.wipe σ vs) H3 (wipe3 env vs) st2 μ2 (hid ++ [D]) := ⟨((W1.ev.wipe vs).mono (fun b o z => n3.same b o (L2'.same b o z)) (L2'.pre.trans n3.pre)), sd3⟩
      split at e2
      · cases e2
      · rename_i env4 st4 h4
        refine ⟨wipe3 env vs, st2, μ2, hid ++ [D], w, env4, st4, W3, r3, h4, fun σ5 H5 μ5 n5 W5 af => ⟨wipe_after af hsl, ?_⟩⟩
        have n35 := n3.trans n5
        split at e2
        · cases e2
        · rename_i st6 h6
          refine TTx.go W5 h6 fun H6 μ6 n6 W6 => ?_
          simp only [Bool.false_eq_true, if_false]
          exact ⟨st6, μ6, acc2, carry (n35.trans n6) W6.sd, by omega, e2⟩
        · rename_i st6 h6
          refine TTx.go W5 h6 fun H6 μ6 n6 W6 => ?_
          rw [if_pos rfl]
          split at e2
          · cases e2
          · rename_i y st7 h7
            split at e2
            · cases e2
            · rename_i z st8 h8
              split at e2
              · cases e2
              · rename_i ky hky
                refine TX.go W6 h7 fun v H7 μ7 n7 W7 r7 => TX.go W7 h8 fun vz H8 μ8 n8 W8 r8 => ?_
                have c7 := carry (((n35.trans n6).trans n7).trans n8) W8.sd
                obtain ⟨us, hu, ru⟩ := c7.at_
                have hul : _ = _ := Paired.length ru
                refine ⟨us, ky, keyOf_rel r7 hky, hu, by omega, st8, μ8, putG acc2 ky z, ?_, by have := putG_len acc2 ky z; omega, e2⟩
                have hin : D ∈ μ8 ++ (hid ++ [D]) := by simp
                have em7 : ∀ o, mask (upd H8 D o) (μ8 ++ (hid ++ [D])) = mask H8 (μ8 ++ (hid ++ [D])) := fun o => mask_upd_in hin
                have nd7 := c7.sd.nd
                have hDμ : D ∉ μ8 ∧ D ∉ hid := by
                  rw [← List.append_assoc, List.nodup_append] at nd7
                  exact ⟨fun z => nd7.2.2 D (List.mem_append_left _ z) D (by simp) rfl, fun z => nd7.2.2 D (List.mem_append_right _ z) D (by simp) rfl⟩
                refine ⟨⟨c7.sd.len, fun n c a hc ha => ?_, fun a ha => ?_, c7.sd.nd⟩, fun b o z => by rw [em7]; exact c7.same b o z, c7.pre, fun a ha => (upd_ne fun (z : a = D) => hDμ.2 (by rw [← z]; exact ha)).trans (c7.keep a ha), ⟨putG us ky vz, upd_same, ?_⟩, by have := putG_len acc2 ky z; omega⟩
                · rw [em7]
                  exact (c7.sd.cell n c a hc ha).mono (fun _ _ z => z) (List.prefix_refl _) (upd_ne fun (z : a = D) => hDμ.1 (by rw [← z]; exact List.mem_of_getElem? ha))
                · by_cases z : a = D
                  · subst z; rw [upd_same]; simp
                  · rw [upd_ne z]; exact c7.sd.hds a ha
                · rw [em7]
                  exact ru.put r8
/-- d.update({k: v for ..}): the dict of the comprehension is gone behind it -/
def isD (st : Store) : W → Bool
  | .loc n => match st[n]? with
    | some (.dict _) => true
    | _ => false
  | _ => false
def bUpdC (f : Ev) (fi : Ei) (gt : Eg) (t : Et) (kx vx : Ev) (vs : List Nat) : Ev := fun env st => (f env st).bind fun r => if isD r.2 r.1 = true then (dcAll fi gt t kx vx vs env r.2).bind fun z => match r.1 with
  | .loc n => match z.2[n]? with
    | some (.dict kvs) => if kvs.length + z.1.length ≤ sizeLine then some (.dat .none, z.2.set n (.dict (mergeG kvs z.1))) else none
    | _ => none
  | _ => none else none
def rUpd : V → List V → Hp → VK → Prop := fun x xs H Q => ∃ a d kvs ds, x = .ref a ∧ xs = [.ref d] ∧ a ≠ d ∧ H a = some (.dK kvs) ∧ H d = some (.dK ds) ∧ kvs.length + ds.length ≤ sizeLine ∧ Q .non (upd H a (.dK (mergeG kvs ds)))
theorem mt_upd : MtR X "dict.update" rUpd := by
  intro pins s σ H x xs v us Q I rx rxs ⟨a, d, kvs, ds, ex, exs, hne, ha, hd, hz, q⟩
  subst ex exs
  obtain ⟨u, rfl, ru⟩ := vals1 rxs
  cases rx
  cases ru
  obtain ⟨z1, y1, v1, r1, d1⟩ := dk_of I.hok ha
  obtain ⟨z2, y2, v2, r2, d2⟩ := dk_of I.hok hd
  have l1 : _ = _ := Paired.length r1
  have l2 : _ = _ := Paired.length r2
  refine call_meetsIn PySem.F.slot_dict_update d1.typeIs PySem.F.entry_dict_update (PySem.F.args_dict_update_2 _ _) (meets_dict_update (mixKind X.prog X.w) a d hne y2) ⟨v1, v2, d1, d2, by omega, fun h' e1 e2 sb => ?_⟩
  have he : ∃ o, h'.get? a = some o := let ⟨o, _, _, ho, _⟩ := e1; ⟨o, ho⟩
  refine ⟨.non, _, d_write (t' := s.toks) I (by rw [ha]; trivial) sb he (dk_new (kvs := mergeG kvs ds) (by have := mergeG_len ds kvs; omega) y1 (KV.mergeG (vs := v1) r2 r1) e1), rfl, q⟩
theorem x_updC {o kx vx tg iter : Expr} {ifs : List Expr} {scope : Scope} {own : List (Str × Nat)} {apos cpos : Pos} {fi : Ei} {gt : Eg} {t : Et} {ek ev : Ev} {sl : List Nat} (ho : PE X o (TX X.K f)) (hc : X.calm = true) (hN : X.N.Nodup) (hi : PI X tg iter (TIx X.K fi)) (ok : BlkOk X.N X.env.scope scope own)
    (hg : ∀ (s : Shared) (H : Hp) (C : Addr) (cl : List (Str × Addr)) (fp : List Addr), PG (X.blk s H scope (compEnvC scope cl C X.env) fp) tg (TGx X.K sl gt)) (ht : ∀ (s : Shared) (H : Hp) (C : Addr) (cl : List (Str × Addr)) (fp : List Addr), PTs (X.blk s H scope (compEnvC scope cl C X.env) fp) ifs (TTx X.K t))
    (hk : ∀ (s : Shared) (H : Hp) (C : Addr) (cl : List (Str × Addr)) (fp : List Addr), PE (X.blk s H scope (compEnvC scope cl C X.env) fp) kx (TX X.K ek)) (he : ∀ (s : Shared) (H : Hp) (C : Addr) (cl : List (Str × Addr)) (fp : List Addr), PE (X.blk s H scope (compEnvC scope cl C X.env) fp) vx (TX X.K ev))
    (hsl : ∀ j ∈ sl, j ∈ own.map (·.2)) (hs : ∀ x, foldedSetIterable iter X.env x = pure x := by intro _; rfl)
    (hs1 : starEach [Expr.DictComp kx vx [⟨tg, iter, ifs, 0⟩] scope pos] X.env = (false, eval (Expr.DictComp kx vx [⟨tg, iter, ifs, 0⟩] scope pos) X.env) :: starEach [] X.env := by rfl)
    (hbase : attributeBase o "update" X.env (eval o X.env) = eval o X.env := by rfl)
    (hfew : ((backTo cpos (starEach [Expr.DictComp kx vx [⟨tg, iter, ifs, 0⟩] scope pos] X.env)).all (fun x => !x.1) && (backToKw cpos (keywordEach [] X.env)).all (fun x => x.1.isSome) && decide (([Expr.DictComp kx vx [⟨tg, iter, ifs, 0⟩] scope pos]).length + ([] : List Keyword).length + (if ([] : List Keyword).isEmpty then 0 else 1) < 30)) = true := by rfl)
    (hline : (apos.endLine == cpos.line) = true := by rfl) (hplain : (backTo cpos (starEach [] X.env)).any (·.1) = false := by rfl) :
    PE X (.Call (.Attribute o "update" apos) [.DictComp kx vx [⟨tg, iter, ifs, 0⟩] scope pos] [] cpos) (TX X.K (bUpdC f fi gt t ek ev (own.map (·.2)))) := by
  refine PE.imp (pe_bm PySem.F.plainAttrs_dict PySem.F.slot_dict_update PySem.F.type_dict_update mt_upd ho (pa_cons (pe_dc hc hN hi ok hg ht hk he hs) pa_nil hs1) hbase hfew hline hs1 hplain) fun σ H Q ⟨env, st, μ, hid, w, st', W0, e, q⟩ => ?_
  unfold bUpdC at e
  obtain ⟨⟨wx, s1⟩, h1, e⟩ := Option.bind_eq_some_iff.mp e
  split at e
  · rename_i hD
    obtain ⟨⟨acc, s2⟩, h2, e⟩ := Option.bind_eq_some_iff.mp e
    refine TX.go W0 h1 fun vx H1 μ1 n1 W1 rx => ?_
    dsimp only at e hD
    cases wx with
    | loc n =>
      dsimp only at e
      split at e
      · rename_i kvs hw
        split at e
        · rename_i hz
          cases e
          cases rx with
          | @loc a _ ha =>
            refine ⟨?_, ?_⟩
            · simp only [isD] at hD
              split at hD
              · rename_i hw'
                cases W1.sd.at hw' ha with
                | dict h3 _ _ => exact .inr (.inr (.inl ⟨rfl, .inl ⟨_, h3⟩⟩))
              · cases hD
            · refine dc_sem hsl W1 h2 fun H' μ' D ⟨H2, μ2, n2, hDn, l⟩ => ?_
              -- behind the comprehension
              obtain ⟨ds, h4, h5⟩ := l.at_
              have nd := l.sd.nd
              rw [← List.append_assoc, List.nodup_append] at nd
              have hDm : D ∉ μ' ++ hid := fun z => nd.2.2 D z D (by simp) rfl
              have less : Same (mask H' (μ' ++ (hid ++ [D]))) (mask H' (μ' ++ hid)) := mask_less fun b hb => by
                rcases List.mem_append.mp hb with hb | hb
                · exact List.mem_append_left _ hb
                · exact List.mem_append_right _ (List.mem_append_left _ hb)
              have sd : Sd X.K H' s2 μ' hid := ⟨l.sd.len, fun n c a x y => (l.sd.cell n c a x y).mono less (List.prefix_refl _) rfl, fun b hb => l.sd.hds b (List.mem_append_left _ hb), nd.1⟩
              have nx : Nx H2 μ2 H' μ' hid := ⟨fun b o z => less b o (l.same b o z), l.pre, l.keep⟩
              have ha' : μ'[n]? = some a := by
                obtain ⟨t, rfl⟩ := (n2.pre.trans l.pre)
                rw [List.getElem?_append_left (List.getElem?_eq_some_iff.mp ha).1]; exact ha
              cases sd.at hw ha' with
              | @dict us _ h6 h7 h8 =>
                have hl1 : _ = _ := Paired.length h8
                have hl2 : _ = _ := Paired.length h5
                refine ⟨a, D, us, ds, rfl, rfl, fun z => hDm (z ▸ List.mem_append_left _ (List.mem_of_getElem? ha')), h6, h4, by omega, ?_⟩
                exact q _ _ μ' (((n1.trans n2).trans nx).trans (Nx.put ha' sd.nd)) (sd.put ha' (.dict upd_same (by have := mergeG_len acc kvs; omega) ((h5.mono less (List.prefix_refl _)).merge h8))) (.dat .non)
        · cases e
      · cases e
    | _ => cases e
  · cases e
end
end L3
set_option Elab.async false
set_option linter.all false
set_option maxRecDepth 100000
set_option maxHeartbeats 4000000
set_option autoImplicit false
/-! L3: the end of a law. -/
namespace L3
open PySem PySem.Spec PyProof.Rows L2
/-- the script as this layer reads it -/
def wscr (ns : List Int) : W := .frz (ns.map PyData.int)
/-- the heap that is seen where the law begins: the script alone, where no row of the written part holds it -/
noncomputable def only (K : PySem.W.Frag) (a : Addr) (o : Obj) (xs : List V) : Hp := fun b => open Classical in if b = a ∧ K.lookup a = none then some (.frz o (.lst xs)) else none
theorem law_G {P : Program} {w : World} {K : PySem.W.Frag} {mg mb : Str → Option Value} {k : Nat} {fa a : Addr} {fd : FuncData} {x : Str} {F : OpN} {s : Shared} {vs : List Value} {ns : List Int}
    (hK : K.In s.heap) (hns : s.heap.Ns mainGlobals mg) (hb : s.heap.Ns builtinsNs mb) (hbb : ∀ x : Str, x ≠ "__name__" → mb x = bootBuiltins x) (hlim : s.heap.NoLimit) (hg : s.gens = #[])
    (ha : s.heap.get? a = some { cls := .type "list", data := .seq vs.toArray }) (hi : IntsAre vs ns) (hl : ns.length ≤ sizeLine) (hr : Room k callerA)
    (G : ∀ base : Heap, K.In base → base.Ns mainGlobals mg → FnG P w K mg base k fa fd [x] F) (hbind : ∀ (s : Shared) (u : Value), BindsTo s fd ⟨[u], []⟩ [(x, u)])
    (hF : ∃ st', F [wscr ns] [] = some (.dat (.bool true), st')) :
    codeAny (model P w) callerA (.call (.ref fa) ⟨[.ref a], []⟩) (fun r s' => r = .ok (.ret (.bool true)) ∧ OldK s.heap s'.heap ∧ s'.os = s.os ∧ AllBare s'.gens) s := by
  have lenV := hi.length
  obtain ⟨H, eH⟩ : ∃ H, H = only K a { cls := .type "list", data := .seq vs.toArray } (ns.map V.int) := ⟨_, rfl⟩
  have hH : ∀ b u, H b = some u → b = a ∧ K.lookup a = none ∧ u = .frz { cls := .type "list", data := .seq vs.toArray } (.lst (ns.map V.int)) := fun b u e => by
    rw [eH] at e
    unfold only at e
    split at e
    · rename_i q; cases e; exact ⟨q.1, q.2, rfl⟩
    · cases e
  have hS : SqL K H a (ns.map V.int) := by
    cases hk : K.lookup a with
    | none => exact .inl (.inr ⟨_, by rw [eH]; exact if_pos ⟨rfl, hk⟩⟩)
    | some o =>
      have e := hK a o hk
      rw [ha] at e
      cases e
      exact .inr ⟨_, vs.toArray, _, hk, rfl, rfl, rfl, by rw [List.size_toArray, lenV]; exact hl, by simpa using vals_ints hi⟩
  have hok : HOk P w H s.heap := fun b u e => by
    obtain ⟨h1, h2, h3⟩ := hH b u e
    subst h1 h3
    exact ⟨ha, by rw [List.length_map]; exact hl, vs, _, vals_ints hi, ha⟩
  have seen : ∀ {b : Addr} {o : Obj}, s.heap.get? b = some o → (b = a → K.lookup a = none → False) → (hidT s.heap H).get? b = some o := fun {b o} e n => hidT_get e (by
    cases q : H b with
    | none => rfl
    | some u => exact (n (hH b u q).1 (hH b u q).2.1).elim)
  have ns' : ∀ {b : Addr} {m : Str → Option Value}, s.heap.Ns b m → (hidT s.heap H).Ns b m := fun {b m} ⟨o, es, ep, e, d, r⟩ => ⟨o, es, ep, seen e (fun z _ => by
    subst z
    rw [ha] at e
    cases e
    have d : Data.seq vs.toArray _ = Data.dict es ep := d
    cases d), d, r⟩
  have hKb : K.In (hidT s.heap H) := fun b o e => seen (hK b o e) fun z n => by subst z; rw [n] at e; cases e
  have hM : Mod K mg (hidT s.heap H) := ⟨hKb, ns' hns, ⟨mb, ns' hb, hbb⟩, let ⟨mc, h1, h2⟩ := hlim; ⟨mc, ns' h1, h2⟩⟩
  have e0 : Env0 P w K mg (hidT s.heap H) callerA [] s H := ⟨rfl, hM, fun b o e => of_hidT e, Nat.le_of_eq (hidT_size _ _), trivial, fun b hb => absurd (show b ∈ ([] : List Addr) from hb) (by simp), hok, .of_eq hg⟩
  obtain ⟨st', hF⟩ := hF
  have hm : mask H ([] ++ []) = H := by
    funext b
    show (if b ∈ ([] : List Addr) then none else H b) = H b
    simp
  have tn : TN K F [.ref a] H fun v _ => v = .bl true :=
    ⟨[], [], [], [wscr ns], .dat (.bool true), st', ⟨rfl, (fun n c a h => by cases h), (fun a h => by cases h), List.nodup_nil⟩, .cons (.frz (by rw [hm]; exact hS) (by rw [List.length_map]; exact hl) (rds_ints ns)) .nil, hF, fun v H' μ' n sd r => by
      cases r with
      | dat h => cases h; rfl⟩
  refine codeAny_mono ((G _ hKb (ns' hns)).run callerA [] s H ⟨[.ref a], []⟩ [.ref a] [.ref a] _ hr rfl e0 (hbind s (.ref a)) (.cons rfl .nil) tn) fun r s' h => ?_
  cases r with
  | error e => exact h.elim
  | ok fl =>
    cases fl with
    | next => exact False.elim h
    | brk => exact False.elim h
    | cont => exact False.elim h
    | ret u =>
      obtain ⟨v, H', os, bare, un, hok', r', q⟩ := h
      have q : v = .bl true := q
      subst q
      obtain rfl : u = Value.bool true := r'
      refine ⟨rfl, OldK.of_keep fun b o e => ?_, os, bare⟩
      cases q : H b with
      | none => exact un.keep b o e q (by intro z; exact absurd (show b ∈ ([] : List Addr) from z) (by simp)) (by simp)
      | some u =>
        obtain ⟨_, _, z⟩ := hH b u q
        subst z
        have z2 := un.frzs b _ _ q
        obtain ⟨e1, _⟩ := hok b _ q
        obtain ⟨e2, _⟩ := hok' b _ z2
        rw [e] at e1; cases e1
        exact e2
/-- a law by its reading -/
theorem walk_G {l : PySem.W.OpenLaw} {n k : Nat} {q : Program} {loose : List Str} {XP : (Str → Option Value) → Heap → Prop} {fas : List He.Fa} {fn : List He.DefD} {hn0 : Nat} {d : DefRec} {x : Str} {F : OpN}
    (hn : l.most = some n) (hn2 : n ≤ sizeLine) (hdf : d.params.defaults = []) (hr : Room k callerA)
    (hw : ∀ (w : World) (mg : Str → Option Value) (K : PySem.W.Frag) (h : Heap) (fa : Addr), K.In h → h.Ns mainGlobals mg → He.SaysD fas fn K → mg d.name = some (.ref fa) →
      ∃ fd : FuncData, (∀ (s : Shared) (u : Value), BindsTo s fd ⟨[u], []⟩ [(x, u)]) ∧ ∀ base : Heap, K.In base → base.Ns mainGlobals mg → FnG l.prog w K mg base k fa fd [x] F)
    (hF : ∀ ns : List Int, ns.length ≤ n → ∃ st', F [wscr ns] [] = some (.dat (.bool true), st')) :
    PySem.W.WalkO q loose XP (He.hookD hn0 fas fn).says l.row.toRowW d [] (fun f vs => PySem.call f vs) := by
  refine Att.attach_call hn hdf fun w s₀ s₁ mg mb fa o pm cd doc a vs ns G Y ho hd hcd hmg hobj hints hlen hg => ?_
  obtain ⟨K, KX, c⟩ := Y
  obtain ⟨fd, hb, hG⟩ := hw w mg K _ fa KX G.T.g c hmg
  exact law_G KX G.T.g G.T.b G.T.builtins G.T.nolimit hg hobj hints (Nat.le_trans hlen hn2) hr hG hb (hF ns hlen)
end L3
set_option Elab.async false
set_option linter.all false
set_option maxRecDepth 100000
set_option maxHeartbeats 4000000
set_option autoImplicit false
/-! L3: stores from the right. -/
namespace L3
open PySem PySem.Spec PyProof.Rows L2
section
variable {X : Cx} {a b c : Expr} {pos : Pos}
def bPar2 (i j : Nat) (t : Ea) : Eb := fun env st => (t env st).bind fun r => match r.1 with
  | [v, w] => some (.nx, (env.set i (some v)).set j (some w), r.2)
  | _ => none
def bPar3 (i j l : Nat) (t : Ea) : Eb := fun env st => (t env st).bind fun r => match r.1 with
  | [u, v, w] => some (.nx, ((env.set i (some u)).set j (some v)).set l (some w), r.2)
  | _ => none
theorem xs_par2 {i j : Nat} {x y : Str} {t : Ea} {px py pt : Pos} {kt k2 pt2} (hc : X.calm = true) (hN : X.N.Nodup) (hi : X.N[i]? = some x) (hj : X.N[j]? = some y) (hij : i ≠ j)
    (hx : X.env.scope.names.lookup x = some .local) (hy : X.env.scope.names.lookup y = some .local) (ha : PA X [a, b] (TAx X.K t))
    (hw : swappedStores [.Tuple [.Name x px, .Name y py] kt pt] (.Tuple [a, b] k2 pt2) X.env = pure (some [x, y]) := by rfl)
    (hs : swapsWithSole [.Tuple [.Name x px, .Name y py] kt pt] (.Tuple [a, b] k2 pt2) pos.line X.env = pure false := by rfl) :
    PS X (.Assign [.Tuple [.Name x px, .Name y py] kt pt] (.Tuple [a, b] k2 pt2) pos) (TSx X.K (bPar2 i j t)) :=
  PS.imp (ps_par hc hN hi hj hij hx hy ha hw hs) fun D σ H ⟨env, st, μ, hid, fl, env', st', W0, e, q⟩ => by
    unfold bPar2 at e
    obtain ⟨⟨ws, s1⟩, h1, e⟩ := Option.bind_eq_some_iff.mp e
    dsimp only at e
    split at e
    · cases e
      refine TAx.go W0 h1 fun vs H1 μ1 n1 W1 r => ?_
      obtain ⟨x, y, rfl, rx, ry⟩ := rw2 r
      exact ⟨x, y, rfl, q _ H1 μ1 n1 ⟨(W1.ev.set rx).set ry, W1.sd⟩⟩
    · cases e
theorem xs_par3 {i j l : Nat} {x y z : Str} {t : Ea} {px py pz pt : Pos} {kt k2 pt2} (hc : X.calm = true) (hN : X.N.Nodup) (hi : X.N[i]? = some x) (hj : X.N[j]? = some y) (hl : X.N[l]? = some z) (hij : i ≠ j) (hil : i ≠ l) (hjl : j ≠ l)
    (hx : X.env.scope.names.lookup x = some .local) (hy : X.env.scope.names.lookup y = some .local) (hz : X.env.scope.names.lookup z = some .local) (ha : PA X [a, b, c] (TAx X.K t))
    (hw : swappedStores [.Tuple [.Name x px, .Name y py, .Name z pz] kt pt] (.Tuple [a, b, c] k2 pt2) X.env = pure (some [x, y, z]) := by rfl)
    (hs : swapsWithSole [.Tuple [.Name x px, .Name y py, .Name z pz] kt pt] (.Tuple [a, b, c] k2 pt2) pos.line X.env = pure false := by rfl) :
    PS X (.Assign [.Tuple [.Name x px, .Name y py, .Name z pz] kt pt] (.Tuple [a, b, c] k2 pt2) pos) (TSx X.K (bPar3 i j l t)) :=
  PS.imp (ps_par3 hc hN hi hj hl hij hil hjl hx hy hz ha hw hs) fun D σ H ⟨env, st, μ, hid, fl, env', st', W0, e, q⟩ => by
    unfold bPar3 at e
    obtain ⟨⟨ws, s1⟩, h1, e⟩ := Option.bind_eq_some_iff.mp e
    dsimp only at e
    split at e
    · cases e
      refine TAx.go W0 h1 fun vs H1 μ1 n1 W1 r => ?_
      cases r with
      | cons ra r => cases r with
        | cons rb r => cases r with
          | cons rc r => cases r; exact ⟨_, _, _, rfl, q _ H1 μ1 n1 ⟨((W1.ev.set ra).set rb).set rc, W1.sd⟩⟩
    · cases e
end
/-! ### small parts of derivations -/
theorem kwb_of {K : PySem.W.Frag} {x qual : Str} {params : Arguments} {body : List Stmt} {scope : Scope} {kws : List (Str × V)} {f : Addr} {fd : FuncData} {ks ps : List Str} {idx : List Nat} (F : FunD K x qual params body scope [] kws f fd)
    (h : ∀ (kV doc pm : Value) (an : Option Addr) (cdv ct : Value) (ws : List Value), ws.length = ks.length → bindArgs (PySem.W.fnOf x qual params body scope .none kV doc pm an cdv ct) ⟨[], ks.zip ws⟩ = pure (ps.zip (pk idx ws))) :
    ∀ ws : List Value, ws.length = ks.length → bindArgs fd ⟨[], ks.zip ws⟩ = pure (ps.zip (pk idx ws)) := by
  obtain ⟨oc, od, dV, kV, doc, pm, an, cdv, ct, osl, rfl, lk, hcd, hD, hK⟩ := F.ex
  rcases hD with ⟨_, rfl⟩ | ⟨e, _⟩
  · exact fun ws hl => h kV doc pm an cdv ct ws hl
  · exact absurd rfl e
theorem fd_one {K : PySem.W.Frag} {x qual : Str} {params : Arguments} {body : List Stmt} {scope : Scope} {dvs : List V} {kws : List (Str × V)} {f : Addr} {fd fd2 : FuncData} (F : FunD K x qual params body scope dvs kws f fd) (F2 : FunD K x qual params body scope dvs kws f fd2) : fd = fd2 := by
  obtain ⟨_, _, _, _, _, _, _, _, _, _, _, lk, _⟩ := F.ex
  obtain ⟨_, _, _, _, _, _, _, _, _, _, _, lk2, _⟩ := F2.ex
  rw [lk] at lk2
  cases lk2
  rfl
section
variable {k : Nat} {A : Around} (r : Room k A)
include r
theorem r0 : A.units < cLine := by have := r.un; omega
theorem r1 : A.units + 1 < cLine := by have := r.un; omega
theorem r64 : A.units + 64 < cLine := by have := r.un; omega
theorem r65 : A.units + 65 < cLine := by have := r.un; omega
theorem r100 : A.units + 100 < cLine := by have := r.un; omega
end
end L3
set_option Elab.async false
set_option linter.all false
set_option maxRecDepth 100000
set_option maxHeartbeats 4000000
set_option autoImplicit false
/-! L4: evaluating readings. -/
namespace L3
open PySem PySem.Spec PyProof.Rows L2

/-! ### the end of a def -/
theorem shut_eq {fz : Bool} {st0 st1 ext : Store} {d : PyData} (hl : st1.length = st0.length) (h : ∀ (i : Nat) (c : Cell), i < st0.length → st1[i]? = some c → st0[i]? = some c ∨ CBelow st0.length c) : shut fz st0 (.dat d) (st1 ++ ext) = some (.dat d, st1) := by
  unfold shut
  rw [if_pos]
  · rw [List.take_append_of_le_length (by omega), List.take_of_length_le (by omega)]
  · refine ⟨by rw [List.length_append]; omega, fun i c hi e => h i c hi ?_⟩
    rwa [List.getElem?_append_left (by omega)] at e
theorem shut_same {fz : Bool} {st ext : Store} {d : PyData} : shut fz st (.dat d) (st ++ ext) = some (.dat d, st) := shut_eq rfl fun i c _ e => .inl e
theorem shut_self {fz : Bool} {st : Store} {d : PyData} : shut fz st (.dat d) st = some (.dat d, st) := by
  have := shut_same (fz := fz) (st := st) (ext := []) (d := d)
  rwa [List.append_nil] at this
/-- a def that returns data; the store is ext longer at its end -/
theorem run_ret {fz : Bool} {n m : Nat} {b : Eb} {ws : List W} {st ext : Store} {env' : E3} {d : PyData} (hl : ws.length = m) (h : b (start3 n ws) st = some (.rt (.dat d), env', st ++ ext)) : runB fz n m b ws st = some (.dat d, st) := by
  unfold runB
  rw [if_pos hl, h]
  exact shut_same (fz := fz)
theorem run_ret0 {fz : Bool} {n m : Nat} {b : Eb} {ws : List W} {st : Store} {env' : E3} {d : PyData} (hl : ws.length = m) (h : b (start3 n ws) st = some (.rt (.dat d), env', st)) : runB fz n m b ws st = some (.dat d, st) :=
  run_ret (ext := []) hl (by rw [List.append_nil]; exact h)
theorem run_nx0 {fz : Bool} {n m : Nat} {b : Eb} {ws : List W} {st : Store} {env' : E3} (hl : ws.length = m) (h : b (start3 n ws) st = some (.nx, env', st)) : runB fz n m b ws st = some (.dat .none, st) := by
  unfold runB
  rw [if_pos hl, h]
  exact shut_self (fz := fz)
theorem run_of {fz : Bool} {n m : Nat} {b : Eb} {ws : List W} {st st1 ext : Store} {env' : E3} {d : PyData} (hl : ws.length = m) (h : b (start3 n ws) st = some (.rt (.dat d), env', st1 ++ ext)) (h1 : st1.length = st.length) (h2 : ∀ (i : Nat) (c : Cell), i < st.length → st1[i]? = some c → st[i]? = some c ∨ CBelow st.length c) : runB fz n m b ws st = some (.dat d, st1) := by
  unfold runB
  rw [if_pos hl, h]
  exact shut_eq (fz := fz) h1 h2

/-- a def that returns a cell of its own -/
theorem run_loc {n m k : Nat} {b : Eb} {ws : List W} {st ext : Store} {env' : E3} (hl : ws.length = m) (h : b (start3 n ws) st = some (.rt (.loc k), env', st ++ ext)) (hk : st.length ≤ k) : runB false n m b ws st = some (.loc k, st ++ ext) := by
  unfold runB
  rw [if_pos hl, h]
  show shut false st (.loc k) (st ++ ext) = _
  unfold shut
  rw [if_pos ⟨by rw [List.length_append]; omega, fun i c hi e => .inl (by rwa [List.getElem?_append_left hi] at e)⟩]
  simp only
  rw [if_neg (by omega)]
  simp
/-! ### walks -/
/-- xs is what the walk gives, the store being one of S -/
def Gives (it : It3) (S : Store → Prop) (ws : List W) : Prop := it.n = ws.length ∧ ∀ st, S st → ∀ i, it.item st i = some ws[i]?
theorem gives_seq {w : W} {ws : List W} {S : Store → Prop} (h : ∀ st, S st → seqOf st w = some ws) : Gives (liveSeq w ws) S ws := ⟨rfl, fun st hs i => by simp only [liveSeq, h st hs]⟩
theorem gives_tup {S : Store → Prop} {ds : List PyData} : Gives (liveSeq (.dat (.tuple ds)) (ds.map .dat)) S (ds.map .dat) := gives_seq fun _ _ => rfl
theorem gives_lst {S : Store → Prop} {ds : List PyData} : Gives (liveSeq (.dat (.list ds)) (ds.map .dat)) S (ds.map .dat) := gives_seq fun _ _ => rfl
theorem gives_range {a b : Int} {S : Store → Prop} : Gives (itRange a b) S ((List.range (b - a).toNat).map fun (i : Nat) => .dat (.int (a + i))) := by
  refine ⟨by simp [itRange], fun st _ i => ?_⟩
  simp only [itRange, List.getElem?_map]
  by_cases h : i < (b - a).toNat
  · rw [if_pos h, List.getElem?_range h]; rfl
  · rw [if_neg h, List.getElem?_eq_none (by simpa using Nat.le_of_not_lt h)]; rfl
theorem gives_zip {xs ys : List PyData} {S : Store → Prop} : Gives (itZip xs ys) S ((xs.zip ys).map fun p => .dat (.tuple [p.1, p.2])) := by
  refine ⟨by simp [itZip], fun st _ i => ?_⟩
  simp only [itZip, List.getElem?_map]
  cases h : xs[i]? with
  | none =>
    have h3 : (xs.zip ys)[i]? = none := List.getElem?_eq_none (by rw [List.length_zip]; have := List.getElem?_eq_none_iff.mp h; omega)
    rw [h3]; rfl
  | some x =>
    cases h2 : ys[i]? with
    | none =>
      have h3 : (xs.zip ys)[i]? = none := List.getElem?_eq_none (by rw [List.length_zip]; have := List.getElem?_eq_none_iff.mp h2; omega)
      rw [h3]; rfl
    | some y =>
      have h3 : (xs.zip ys)[i]? = some (x, y) := List.getElem?_zip_eq_some.mpr ⟨h, h2⟩
      rw [h3]; rfl
theorem gives_enum {w : W} {ds : List PyData} {S : Store → Prop} (h : ∀ st, S st → seqOf st w = some (ds.map .dat)) : Gives (itEnum w (ds.map W.dat).length) S (ds.zipIdx.map fun p => .dat (.tuple [.int p.2, p.1])) := by
  refine ⟨by simp [itEnum], fun st hs i => ?_⟩
  simp only [itEnum, h st hs, List.getElem?_map, List.getElem?_zipIdx]
  cases ds[i]? with
  | none => rfl
  | some d => simp

/-! ### for -/
theorem forRun_inv {it : It3} {step : W → E3 → Store → Option (Fl × E3 × Store)} {ws : List W} {S : Store → Prop} (hg : Gives it S ws) (P : Nat → E3 → Store → Prop) (hS : ∀ i env st, P i env st → S st)
    (hs : ∀ i w env st, ws[i]? = some w → P i env st → ∃ env1 st1, (step w env st = some (.nx, env1, st1) ∨ step w env st = some (.ct, env1, st1)) ∧ P (i + 1) env1 st1) :
    ∀ (k i : Nat) env st, i + k = ws.length → P i env st → ∃ env1 st1, forRun it step (k + 1) i env st = some (.nx, env1, st1) ∧ P ws.length env1 st1
  | 0, i, env, st, hk, hp => by
    refine ⟨env, st, ?_, by rw [← hk]; exact hp⟩
    unfold forRun
    rw [hg.2 st (hS _ _ _ hp), List.getElem?_eq_none (by omega)]
  | k + 1, i, env, st, hk, hp => by
    have hi : i < ws.length := by omega
    obtain ⟨env1, st1, h1, h2⟩ := hs i ws[i] env st (List.getElem?_eq_getElem hi) hp
    obtain ⟨env2, st2, h3, h4⟩ := forRun_inv hg P hS hs k (i + 1) env1 st1 (by omega) h2
    refine ⟨env2, st2, ?_, h4⟩
    unfold forRun
    rw [hg.2 st (hS _ _ _ hp), List.getElem?_eq_getElem hi]
    rcases h1 with h1 | h1 <;> simp only [h1] <;> exact h3
theorem bFor_inv {fi : Ei} {g : Eg} {u : Eb} {env : E3} {st st0 : Store} {it : It3} {ws : List W} {S : Store → Prop} (hi : fi env st = some (it, st0)) (hg : Gives it S ws) (P : Nat → E3 → Store → Prop) (hS : ∀ i env st, P i env st → S st) (h0 : P 0 env st0)
    (hs : ∀ i w env st, ws[i]? = some w → P i env st → ∃ env1 st1, (stepOf g u w env st = some (.nx, env1, st1) ∨ stepOf g u w env st = some (.ct, env1, st1)) ∧ P (i + 1) env1 st1) : ∃ env1 st1, bFor fi g u env st = some (.nx, env1, st1) ∧ P ws.length env1 st1 := by
  unfold bFor
  rw [hi, Option.bind_some]
  simp only
  rw [hg.1]
  exact forRun_inv hg P hS hs ws.length 0 env st0 (by omega) h0

/-! ### comprehensions -/
theorem compRun_inv {it : It3} {gt : Eg} {t : Et} {el : Ev} {env0 : E3} {ws : List W} {S : Store → Prop} (hg : Gives it S ws) (P : Nat → Store → List W → Prop) (hS : ∀ i st acc, P i st acc → S st)
    (hs : ∀ i w st acc, ws[i]? = some w → P i st acc → ∃ env1 st1 b st2, gt w env0 st = some (env1, st1) ∧ t env1 st1 = some (b, st2) ∧ (b = false → P (i + 1) st2 acc) ∧ (b = true → ∃ y st3, el env1 st2 = some (y, st3) ∧ P (i + 1) st3 (acc ++ [y]))) :
    ∀ (k i : Nat) st acc, i + k = ws.length → P i st acc → ∃ acc1 st1, compRun it gt t el env0 (k + 1) i st acc = some (acc1, st1) ∧ P ws.length st1 acc1
  | 0, i, st, acc, hk, hp => by
    refine ⟨acc, st, ?_, by rw [← hk]; exact hp⟩
    unfold compRun
    rw [hg.2 st (hS _ _ _ hp), List.getElem?_eq_none (by omega)]
  | k + 1, i, st, acc, hk, hp => by
    have hi : i < ws.length := by omega
    obtain ⟨env1, st1, b, st2, h1, h2, h3, h4⟩ := hs i ws[i] st acc (List.getElem?_eq_getElem hi) hp
    unfold compRun
    rw [hg.2 st (hS _ _ _ hp), List.getElem?_eq_getElem hi]
    simp only [h1, h2]
    cases b with
    | false => exact compRun_inv hg P hS hs k (i + 1) st2 acc (by omega) (h3 rfl)
    | true =>
      obtain ⟨y, st3, h5, h6⟩ := h4 rfl
      simp only [h5]
      exact compRun_inv hg P hS hs k (i + 1) st3 _ (by omega) h6
theorem compAll_inv {fi : Ei} {gt : Eg} {t : Et} {el : Ev} {vs : List Nat} {env : E3} {st st0 : Store} {it : It3} {ws : List W} {S : Store → Prop} (hi : fi env st = some (it, st0)) (hg : Gives it S ws) (P : Nat → Store → List W → Prop) (hS : ∀ i st acc, P i st acc → S st) (h0 : P 0 st0 [])
    (hs : ∀ i w st acc, ws[i]? = some w → P i st acc → ∃ env1 st1 b st2, gt w (wipe3 env vs) st = some (env1, st1) ∧ t env1 st1 = some (b, st2) ∧ (b = false → P (i + 1) st2 acc) ∧ (b = true → ∃ y st3, el env1 st2 = some (y, st3) ∧ P (i + 1) st3 (acc ++ [y]))) :
    ∃ acc1 st1, compAll fi gt t el vs env st = some (acc1, st1) ∧ P ws.length st1 acc1 := by
  unfold compAll
  rw [hi, Option.bind_some]
  simp only
  rw [hg.1]
  exact compRun_inv hg P hS hs ws.length 0 st0 [] (by omega) h0
/-- nothing is changed by it -/
theorem compAll_pure {α : Type} {fi : Ei} {gt : Eg} {t : Et} {el : Ev} {vs : List Nat} {env : E3} {st : Store} {it : It3} {xs : List α} {e : α → W} (hi : fi env st = some (it, st)) (hg : Gives it (· = st) (xs.map e)) (p : α → Bool) (f : α → W)
    (h : ∀ x ∈ xs, ∃ env1, gt (e x) (wipe3 env vs) st = some (env1, st) ∧ t env1 st = some (p x, st) ∧ (p x = true → el env1 st = some (f x, st))) : compAll fi gt t el vs env st = some ((xs.filter p).map f, st) := by
  obtain ⟨acc1, st1, h1, h2, h3⟩ := compAll_inv (P := fun i s acc => s = st ∧ acc = ((xs.take i).filter p).map f) hi hg (fun i s acc q => q.1) ⟨rfl, rfl⟩ (fun i w s acc hw ⟨hs, ha⟩ => by
    subst hs
    rw [List.getElem?_map] at hw
    obtain ⟨x, hx, rfl⟩ := Option.map_eq_some_iff.mp hw
    obtain ⟨env1, k1, k2, k3⟩ := h x (List.mem_of_getElem? hx)
    have ht : xs.take (i + 1) = xs.take i ++ [x] := by
      obtain ⟨hi', rfl⟩ := List.getElem?_eq_some_iff.mp hx
      rw [List.take_succ_eq_append_getElem hi']
    refine ⟨env1, s, p x, s, k1, k2, fun hb => ⟨rfl, ?_⟩, fun hb => ⟨f x, s, k3 hb, rfl, ?_⟩⟩
    · rw [ha, ht, List.filter_append, List.filter_cons_of_neg (by simp [hb]), List.filter_nil, List.append_nil]
    · rw [ha, ht, List.filter_append, List.filter_cons_of_pos hb, List.filter_nil, List.map_append]; rfl)
  subst h2
  rw [h1, h3, List.length_map, List.take_length]
theorem mapM_dat : ∀ ds : List PyData, (ds.map W.dat).mapM datOf = some ds
  | [] => rfl
  | d :: ds => by rw [List.map_cons, List.mapM_cons, mapM_dat ds]; rfl
theorem bComp_pure {α : Type} {fi : Ei} {gt : Eg} {t : Et} {el : Ev} {vs : List Nat} {env : E3} {st : Store} {it : It3} {xs : List α} {e : α → W} (hi : fi env st = some (it, st)) (hg : Gives it (· = st) (xs.map e)) (p : α → Bool) (f : α → PyData)
    (h : ∀ x ∈ xs, ∃ env1, gt (e x) (wipe3 env vs) st = some (env1, st) ∧ t env1 st = some (p x, st) ∧ (p x = true → el env1 st = some (.dat (f x), st))) : bComp fi gt t el vs env st = some (.dat (.list ((xs.filter p).map f)), st) := by
  unfold bComp
  rw [compAll_pure hi hg p (fun x => W.dat (f x)) h, Option.bind_some]
  have : (xs.filter p).map (fun x => W.dat (f x)) = ((xs.filter p).map f).map W.dat := by rw [List.map_map]; rfl
  simp only [this, mapM_dat]
  rfl
/-- over a sequence of data -/
theorem comp_seq {α : Type} {f : Ev} {gt : Eg} {t : Et} {el : Ev} {vs : List Nat} {env : E3} {st : Store} {w : W} {xs : List α} {e : α → PyData} (hf : f env st = some (w, st)) (hw : seqOf st w = some ((xs.map e).map .dat)) (p : α → Bool) (g : α → PyData)
    (h : ∀ x ∈ xs, ∃ env1, gt (.dat (e x)) (wipe3 env vs) st = some (env1, st) ∧ t env1 st = some (p x, st) ∧ (p x = true → el env1 st = some (.dat (g x), st))) : bComp (iSeq f) gt t el vs env st = some (.dat (.list ((xs.filter p).map g)), st) := by
  refine bComp_pure (xs := xs) (e := fun x => W.dat (e x)) (it := liveSeq w ((xs.map e).map .dat)) (by unfold iSeq; rw [hf, Option.bind_some]; simp only [hw]; rfl) ?_ p g h
  have : xs.map (fun x => W.dat (e x)) = (xs.map e).map W.dat := by rw [List.map_map]; rfl
  rw [this]
  exact gives_seq fun s hs => by subst hs; exact hw
theorem comp_zip {α β : Type} {f f' : Ev} {gt : Eg} {t : Et} {el : Ev} {vs : List Nat} {env : E3} {st : Store} {xs : List α} {ys : List β} {e : α → PyData} {e' : β → PyData} (hf : f env st = some (.dat (.tuple (xs.map e)), st)) (hf' : f' env st = some (.dat (.tuple (ys.map e')), st)) (p : α × β → Bool) (g : α × β → PyData)
    (h : ∀ x ∈ xs.zip ys, ∃ env1, gt (.dat (.tuple [e x.1, e' x.2])) (wipe3 env vs) st = some (env1, st) ∧ t env1 st = some (p x, st) ∧ (p x = true → el env1 st = some (.dat (g x), st))) : bComp (iZip f f') gt t el vs env st = some (.dat (.list (((xs.zip ys).filter p).map g)), st) := by
  refine bComp_pure (xs := xs.zip ys) (e := fun x => W.dat (.tuple [e x.1, e' x.2])) (it := itZip (xs.map e) (ys.map e')) (by unfold iZip; rw [hf, Option.bind_some]; simp only [hf', Option.bind_some]) ?_ p g h
  have := gives_zip (xs := xs.map e) (ys := ys.map e') (S := (· = st))
  rw [List.zip_map, List.map_map] at this
  exact this
theorem comp_enum {α : Type} {f : Ev} {gt : Eg} {t : Et} {el : Ev} {vs : List Nat} {env : E3} {st : Store} {w : W} {xs : List α} {e : α → PyData} (hf : f env st = some (w, st)) (hw : seqOf st w = some ((xs.map e).map .dat)) (p : α × Nat → Bool) (g : α × Nat → PyData)
    (h : ∀ x ∈ xs.zipIdx, ∃ env1, gt (.dat (.tuple [.int x.2, e x.1])) (wipe3 env vs) st = some (env1, st) ∧ t env1 st = some (p x, st) ∧ (p x = true → el env1 st = some (.dat (g x), st))) : bComp (iEnu f) gt t el vs env st = some (.dat (.list ((xs.zipIdx.filter p).map g)), st) := by
  refine bComp_pure (xs := xs.zipIdx) (e := fun x => W.dat (.tuple [.int x.2, e x.1])) (it := itEnum w ((xs.map e).map W.dat).length) (by unfold iEnu; rw [hf, Option.bind_some]; simp only [hw]; rfl) ?_ p g h
  have := gives_enum (S := (· = st)) (w := w) (ds := xs.map e) fun s hs => by subst hs; exact hw
  rw [List.zipIdx_map] at this
  rw [List.map_map (l := xs.zipIdx)] at this
  exact this
end L3
set_option Elab.async false
set_option linter.all false
set_option maxRecDepth 100000
set_option maxHeartbeats 4000000
set_option autoImplicit false
/-! L4: data with types: ints, tuples of ints, tuples of such. -/
namespace L3
open PySem PySem.Spec PyProof.Rows L2

def ti (l : List Int) : PyData := .tuple (l.map .int)
def li (l : List Int) : PyData := .list (l.map .int)
def tp (P : List (List Int)) : PyData := .tuple (P.map ti)
def lp (P : List (List Int)) : PyData := .list (P.map ti)
theorem ints_of : ∀ l : List Int, (l.map PyData.int).mapM intOf = some l
  | [] => rfl
  | x :: l => by rw [List.map_cons, List.mapM_cons, ints_of l]; rfl
theorem bools_of : ∀ l : List Bool, (l.map PyData.bool).mapM boolOf = some l
  | [] => rfl
  | x :: l => by rw [List.map_cons, List.mapM_cons, bools_of l]; rfl
theorem eqv_int (a b : Int) : PyData.eqv (.int a) (.int b) = decide (a = b) := PySem.W.Datum.eqv a b
theorem eqv_ti (a b : List Int) : PyData.eqv (ti a) (ti b) = decide (a = b) :=
  (PySem.W.Datum.eqv (PySem.W.Tup.mk a) (PySem.W.Tup.mk b)).trans (decide_eq_decide.mpr ⟨fun e => PySem.W.Tup.mk.inj e, fun e => by rw [e]⟩)
theorem eqv_li (a b : List Int) : PyData.eqv (li a) (li b) = decide (a = b) := PySem.W.Datum.eqv a b
theorem any_map {α : Type} [DecidableEq α] {e : α → PyData} (h : ∀ a b, PyData.eqv (e a) (e b) = decide (a = b)) (xs : List α) (x : α) : ((xs.map e).any fun z => PyData.eqv z (e x)) = decide (x ∈ xs) := by
  rw [Bool.eq_iff_iff, List.any_eq_true, decide_eq_true_eq]
  constructor
  · rintro ⟨z, hz, q⟩
    obtain ⟨y, hy, rfl⟩ := List.mem_map.mp hz
    rw [h, decide_eq_true_eq] at q
    subst q; exact hy
  · intro hx
    exact ⟨e x, List.mem_map_of_mem hx, by rw [h, decide_eq_true_eq]⟩
theorem eqvAll_map' {α : Type} [DecidableEq α] {e : α → PyData} (h : ∀ a b, PyData.eqv (e a) (e b) = decide (a = b)) : ∀ xs ys : List α, PyData.eqvAll (xs.map e) (ys.map e) = decide (xs = ys)
  | [], [] => by simp only [List.map_nil, PyData.eqvAll, decide_true]
  | [], _ :: _ => by simp [PyData.eqvAll]
  | _ :: _, [] => by simp [PyData.eqvAll]
  | x :: xs, y :: ys => by
    rw [List.map_cons, List.map_cons, PyData.eqvAll, h x y, eqvAll_map' h xs ys, ← Bool.decide_and]
    exact decide_eq_decide.mpr (by rw [List.cons.injEq])
theorem eqv_list {α : Type} [DecidableEq α] {e : α → PyData} (h : ∀ a b, PyData.eqv (e a) (e b) = decide (a = b)) (xs ys : List α) : PyData.eqv (.list (xs.map e)) (.list (ys.map e)) = decide (xs = ys) := by
  simp only [PyData.eqv]; exact eqvAll_map' h xs ys
theorem eqv_tuple {α : Type} [DecidableEq α] {e : α → PyData} (h : ∀ a b, PyData.eqv (e a) (e b) = decide (a = b)) (xs ys : List α) : PyData.eqv (.tuple (xs.map e)) (.tuple (ys.map e)) = decide (xs = ys) := by
  simp only [PyData.eqv]; exact eqvAll_map' h xs ys

/-! ### shapes that can be compared, shown -/
structure Lay (k : Nat) (d : PyData) : Prop where
  c : d.canLay0 = true
  d : d.depth ≤ k
theorem layAll : ∀ {ds : List PyData}, (∀ d ∈ ds, d.canLay0 = true) → PyData.canLayAll0 ds = true
  | [], _ => by simp only [PyData.canLayAll0]
  | d :: ds, h => by simp only [PyData.canLayAll0, Bool.and_eq_true]; exact ⟨h d List.mem_cons_self, layAll fun x hx => h x (List.mem_cons_of_mem _ hx)⟩
theorem depAll {k : Nat} : ∀ {ds : List PyData}, (∀ d ∈ ds, d.depth ≤ k) → PyData.depthAll ds ≤ k
  | [], _ => by simp only [PyData.depthAll]; omega
  | d :: ds, h => by simp only [PyData.depthAll]; exact Nat.max_le.mpr ⟨h d List.mem_cons_self, depAll fun x hx => h x (List.mem_cons_of_mem _ hx)⟩
theorem Lay.int {k : Nat} (n : Int) : Lay k (.int n) := ⟨by simp only [PyData.canLay0], by simp only [PyData.depth]; omega⟩
theorem Lay.bool {k : Nat} (n : Bool) : Lay k (.bool n) := ⟨by simp only [PyData.canLay0], by simp only [PyData.depth]; omega⟩
theorem Lay.none {k : Nat} : Lay k .none := ⟨by simp only [PyData.canLay0], by simp only [PyData.depth]; omega⟩
theorem Lay.str {k : Nat} {x : Str} (h : PyData.strOk x = true) : Lay k (.str x) := ⟨by simp only [PyData.canLay0]; exact h, by simp only [PyData.depth]; omega⟩
theorem Lay.tup {k : Nat} {ds : List PyData} (h : ∀ d ∈ ds, Lay k d) : Lay (k + 1) (.tuple ds) := ⟨by simp only [PyData.canLay0]; exact layAll fun d hd => (h d hd).c, by simp only [PyData.depth]; have := depAll fun d hd => (h d hd).d; omega⟩
theorem Lay.lst {k : Nat} {ds : List PyData} (h : ∀ d ∈ ds, Lay k d) : Lay (k + 1) (.list ds) := ⟨by simp only [PyData.canLay0]; exact layAll fun d hd => (h d hd).c, by simp only [PyData.depth]; have := depAll fun d hd => (h d hd).d; omega⟩
theorem Lay.mono {j k : Nat} {d : PyData} (h : Lay j d) (l : j ≤ k) : Lay k d := ⟨h.c, Nat.le_trans h.d l⟩
theorem Lay.map {α : Type} {k : Nat} {e : α → PyData} {xs : List α} (h : ∀ x, Lay k (e x)) : ∀ d ∈ xs.map e, Lay k d := fun d hd => by obtain ⟨x, _, rfl⟩ := List.mem_map.mp hd; exact h x
theorem Lay.ti {k : Nat} (l : List Int) : Lay (k + 1) (ti l) := .tup (Lay.map fun x => .int x)
theorem Lay.li {k : Nat} (l : List Int) : Lay (k + 1) (li l) := .lst (Lay.map fun x => .int x)
theorem Lay.tp {k : Nat} (l : List (List Int)) : Lay (k + 2) (tp l) := .tup (Lay.map fun x => .ti x)
theorem Lay.lp {k : Nat} (l : List (List Int)) : Lay (k + 2) (lp l) := .lst (Lay.map fun x => .ti x)
theorem Lay.sh {k : Nat} {d : PyData} (h : Lay k d) (hk : k ≤ 64 := by decide) : SeqAt.shaped d = true := by
  unfold SeqAt.shaped
  rw [h.c, Bool.true_and, decide_eq_true_eq]
  exact Nat.le_trans h.d hk
theorem opEq_dat {j k : Nat} {st : Store} {d e : PyData} (h1 : Lay j d) (h2 : Lay k e) (hj : j ≤ 64 := by decide) (hk : k ≤ 64 := by decide) : opEq (.dat d) (.dat e) st = some (.dat (.bool (PyData.eqv d e)), st) := by
  unfold opEq
  split
  · rename_i b hb
    obtain ⟨a, c, e1, e2, rfl⟩ := txts_some hb
    cases e1; cases e2
    rw [show PyData.eqv (.str a) (.str c) = decide (a = c) from PySem.W.Datum.eqv a c]
  · simp only [dataOf, h1.sh hj, h2.sh hk, Bool.and_self, if_true]
theorem opNe_dat {j k : Nat} {st : Store} {d e : PyData} (h1 : Lay j d) (h2 : Lay k e) (hj : j ≤ 64 := by decide) (hk : k ≤ 64 := by decide) : opNe (.dat d) (.dat e) st = some (.dat (.bool (!PyData.eqv d e)), st) := by
  unfold opNe
  split
  · rename_i b hb
    obtain ⟨a, c, e1, e2, rfl⟩ := txts_some hb
    cases e1; cases e2
    rw [show PyData.eqv (.str a) (.str c) = decide (a = c) from PySem.W.Datum.eqv a c]
  · simp only [dataOf, h1.sh hj, h2.sh hk, Bool.and_self, if_true]
theorem opIn_tup {neg : Bool} {j k : Nat} {st : Store} {d : PyData} {ds : List PyData} (h1 : Lay j d) (h2 : Lay k (.tuple ds)) (hj : j ≤ 64 := by decide) (hk : k ≤ 64 := by decide) : opIn neg (.dat d) (.dat (.tuple ds)) st = some (.dat (.bool (neg ^^ ds.any fun z => PyData.eqv z d)), st) := by
  unfold opIn
  simp only [dataOf, h1.sh hj, h2.sh hk, Bool.and_self, if_true]
theorem opEq_int {st : Store} (a b : Int) : opEq (.dat (.int a)) (.dat (.int b)) st = some (.dat (.bool (decide (a = b))), st) := by rw [opEq_dat (.int a (k := 0)) (.int b (k := 0)), eqv_int]
theorem opNe_int {st : Store} (a b : Int) : opNe (.dat (.int a)) (.dat (.int b)) st = some (.dat (.bool (!decide (a = b))), st) := by rw [opNe_dat (.int a (k := 0)) (.int b (k := 0)), eqv_int]
theorem opEq_ti {st : Store} (a b : List Int) : opEq (.dat (ti a)) (.dat (ti b)) st = some (.dat (.bool (decide (a = b))), st) := by rw [opEq_dat (.ti a (k := 0)) (.ti b (k := 0)), eqv_ti]
theorem opNe_ti {st : Store} (a b : List Int) : opNe (.dat (ti a)) (.dat (ti b)) st = some (.dat (.bool (!decide (a = b))), st) := by rw [opNe_dat (.ti a (k := 0)) (.ti b (k := 0)), eqv_ti]
theorem opEq_li {st : Store} (a b : List Int) : opEq (.dat (li a)) (.dat (li b)) st = some (.dat (.bool (decide (a = b))), st) := by rw [opEq_dat (.li a (k := 0)) (.li b (k := 0)), eqv_li]
theorem opNe_li {st : Store} (a b : List Int) : opNe (.dat (li a)) (.dat (li b)) st = some (.dat (.bool (!decide (a = b))), st) := by rw [opNe_dat (.li a (k := 0)) (.li b (k := 0)), eqv_li]
theorem opIn_ti {neg : Bool} {st : Store} (x : Int) (l : List Int) : opIn neg (.dat (.int x)) (.dat (ti l)) st = some (.dat (.bool (neg ^^ decide (x ∈ l))), st) := by
  unfold ti; rw [opIn_tup (.int x (k := 0)) (.ti l (k := 0)), any_map eqv_int]
theorem opIn_tp {neg : Bool} {st : Store} (x : List Int) (l : List (List Int)) : opIn neg (.dat (ti x)) (.dat (tp l)) st = some (.dat (.bool (neg ^^ decide (x ∈ l))), st) := by
  unfold tp; rw [opIn_tup (.ti x (k := 0)) (.tp l (k := 0))]
  exact congrArg (fun b => some (W.dat (.bool (neg ^^ b)), st)) ((any_map eqv_ti l x).trans (decide_eq_decide.mpr Iff.rfl))
theorem opLt_ti {st : Store} (a b : List Int) : opLt (.dat (ti a)) (.dat (ti b)) st = some (.dat (.bool (HT.lexLt a b)), st) := by
  unfold ti; simp only [opLt, ints_of]
theorem opLe_ti {st : Store} (a b : List Int) : opLe (.dat (ti a)) (.dat (ti b)) st = some (.dat (.bool (!HT.lexLt b a)), st) := by
  unfold ti; simp only [opLe, ints_of]
theorem opAll_map {α : Type} {st : Store} (xs : List α) (p : α → Bool) : opAll [.dat (.list (xs.map fun x => .bool (p x)))] st = some (.dat (.bool (xs.all p)), st) := by
  have : xs.map (fun x => PyData.bool (p x)) = (xs.map p).map .bool := by rw [List.map_map]; rfl
  unfold opAll
  simp only [this, bools_of, List.all_map]
  rfl
theorem opAny_map {α : Type} {st : Store} (xs : List α) (p : α → Bool) : opAny [.dat (.list (xs.map fun x => .bool (p x)))] st = some (.dat (.bool (xs.any p)), st) := by
  have : xs.map (fun x => PyData.bool (p x)) = (xs.map p).map .bool := by rw [List.map_map]; rfl
  unfold opAny
  simp only [this, bools_of, List.any_map]
  rfl
theorem opTuple_lst {st : Store} (ds : List PyData) : opTuple [.dat (.list ds)] st = some (.dat (.tuple ds), st) := by
  unfold opTuple
  simp only [tupOf, seqOf, mapM_dat]
theorem opList_tup {st : Store} (ds : List PyData) : opList [.dat (.tuple ds)] st = some (.dat (.list ds), st) := by
  unfold opList
  simp only [seqOf, mapM_dat]
theorem opTup_dat {st : Store} (ds : List PyData) (h : ds.length ≤ sizeLine) : opTup (ds.map .dat) st = some (.dat (.tuple ds), st) := by
  unfold opTup
  rw [mapM_dat]
  simp only [if_pos h]
theorem opLst_dat {st : Store} (ds : List PyData) (h : ds.length ≤ sizeLine) : opLst (ds.map .dat) st = some (.dat (.list ds), st) := by
  unfold opLst
  rw [mapM_dat]
  simp only [if_pos h]
theorem cut1 {α : Type} (xs : List α) : cut xs (some 1) none = xs.tail := by
  unfold cut HT.sIx
  simp only
  cases xs with
  | nil => rfl
  | cons x xs =>
    have h1 : ¬ ((1 : Int) < 0) := by decide
    rw [if_neg h1]
    have : min (1 : Int).toNat (x :: xs).length = 1 := by simp
    rw [this]
    simp

theorem log2_small {n k : Nat} (h : n < 2 ^ k) (hk : 0 < k) : n.log2 < k := by
  by_cases h0 : n = 0
  · subst h0; simpa using hk
  · exact (Nat.log2_lt h0).mpr h
theorem opMul_s {st : Store} (a b : Int) (ha : a.natAbs < 2 ^ 1000) (hb : b.natAbs < 2 ^ 1000) : opMul (.dat (.int a)) (.dat (.int b)) st = some (.dat (.int (a * b)), st) := by
  have h1 := log2_small ha (by decide)
  have h2 := log2_small hb (by decide)
  show (if bits a + bits b < 1000000 then _ else none) = _
  exact if_pos (by unfold bits; omega)
theorem natAbs_s {a : Int} (h1 : -18446744073709551616 < a) (h2 : a < 18446744073709551616) : a.natAbs < 2 ^ 1000 := Nat.lt_of_lt_of_le (show a.natAbs < 2 ^ 64 by omega) (Nat.pow_le_pow_right (by decide) (by decide))
theorem opAdd_int {st : Store} (a b : Int) : opAdd (.dat (.int a)) (.dat (.int b)) st = some (.dat (.int (a + b)), st) := rfl
theorem opSub_int {st : Store} (a b : Int) : opSub (.dat (.int a)) (.dat (.int b)) st = some (.dat (.int (a - b)), st) := rfl
theorem opGt_int {st : Store} (a b : Int) : opGt (.dat (.int a)) (.dat (.int b)) st = some (.dat (.bool (decide (b < a))), st) := rfl
theorem opLt_int {st : Store} (a b : Int) : opLt (.dat (.int a)) (.dat (.int b)) st = some (.dat (.bool (decide (a < b))), st) := rfl
theorem opGe_int {st : Store} (a b : Int) : opGe (.dat (.int a)) (.dat (.int b)) st = some (.dat (.bool (decide (b ≤ a))), st) := rfl
theorem opLe_int {st : Store} (a b : Int) : opLe (.dat (.int a)) (.dat (.int b)) st = some (.dat (.bool (decide (a ≤ b))), st) := rfl
theorem opInt_int {st : Store} (a : Int) : opInt [.dat (.int a)] st = some (.dat (.int a), st) := rfl
/-! ### sorted -/
theorem listLt_lex : ∀ a b : List Int, PySem.W.listLt a b = HT.lexLt a b
  | [], [] => rfl
  | [], _ :: _ => rfl
  | _ :: _, [] => rfl
  | x :: xs, y :: ys => by
    show (if x = y then PySem.W.listLt xs ys else decide (x < y)) = if x = y then HT.lexLt xs ys else decide (x < y)
    rw [listLt_lex xs ys]
theorem dataLt_ti (a b : List Int) : PySem.W.dataLt (ti a) (ti b) = HT.lexLt a b := (PySem.W.DatumOrd.lt_eq (PySem.W.Tup.mk a) (PySem.W.Tup.mk b)).trans (listLt_lex a b)
def leI (a b : Int) : Bool := decide (a ≤ b)
def leT (a b : List Int) : Bool := !HT.lexLt b a
theorem srt_map {α : Type} {e : α → PyData} {le : α → α → Bool} (h : ∀ a b, (!PySem.W.dataLt (e b) (e a)) = le a b) (xs : List α) : srt (xs.map e) = (xs.mergeSort le).map e := by
  unfold srt
  refine (List.map_mergeSort fun a _ b _ => ?_).symm
  rw [PySem.W.dataLe_eq]
  exact (h a b).symm
theorem leI_dat (a b : Int) : (!PySem.W.dataLt (.int b) (.int a)) = leI a b := by
  rw [PySem.W.dataLt_int]
  unfold leI
  rw [← decide_not]
  exact decide_eq_decide.mpr Int.not_lt
theorem srt_ints (l : List Int) : srt (l.map .int) = (l.mergeSort leI).map .int := srt_map leI_dat l
theorem srt_tis (l : List (List Int)) : srt (l.map ti) = (l.mergeSort leT).map ti := srt_map (fun a b => by rw [dataLt_ti]; rfl) l
theorem lex_irr : ∀ a : List Int, HT.lexLt a a = false
  | [] => rfl
  | x :: xs => by rw [HT.lexLt_cons, if_pos rfl]; exact lex_irr xs
theorem lex_asy : ∀ xs ys : List Int, HT.lexLt xs ys = true → HT.lexLt ys xs = false
  | [], [], _ => rfl
  | [], _ :: _, _ => rfl
  | _ :: _, [], h => by cases h
  | x :: xs, y :: ys, h => by
    rw [HT.lexLt_cons] at h ⊢
    by_cases e : x = y
    · rw [if_pos e] at h; rw [if_pos e.symm]; exact lex_asy xs ys h
    · rw [if_neg e, decide_eq_true_eq] at h
      rw [if_neg (Ne.symm e), decide_eq_false_iff_not]; omega
theorem lex_trn : ∀ xs ys zs : List Int, HT.lexLt ys xs = false → HT.lexLt zs ys = false → HT.lexLt zs xs = false
  | [], _, [], _, _ => rfl
  | _ :: _, ys, [], h1, h2 => by
    cases ys with
    | nil => cases h1
    | cons y ys => cases h2
  | [], ys, z :: zs, h1, h2 => rfl
  | x :: xs, [], z :: zs, h1, h2 => by cases h1
  | x :: xs, y :: ys, z :: zs, h1, h2 => by
    rw [HT.lexLt_cons] at h1 h2 ⊢
    by_cases e1 : y = x
    · by_cases e2 : z = y
      · rw [if_pos e1] at h1; rw [if_pos e2] at h2; rw [if_pos (e2.trans e1)]; exact lex_trn xs ys zs h1 h2
      · rw [if_neg e2, decide_eq_false_iff_not] at h2
        rw [if_neg (by omega), decide_eq_false_iff_not]; omega
    · rw [if_neg e1, decide_eq_false_iff_not] at h1
      by_cases e2 : z = y
      · rw [if_neg (by omega), decide_eq_false_iff_not]; omega
      · rw [if_neg e2, decide_eq_false_iff_not] at h2
        rw [if_neg (by omega), decide_eq_false_iff_not]; omega
theorem lex_ant : ∀ xs ys : List Int, HT.lexLt xs ys = false → HT.lexLt ys xs = false → xs = ys
  | [], [], _, _ => rfl
  | [], _ :: _, h, _ => by cases h
  | _ :: _, [], _, h => by cases h
  | x :: xs, y :: ys, h1, h2 => by
    rw [HT.lexLt_cons] at h1 h2
    by_cases e : x = y
    · rw [if_pos e] at h1; rw [if_pos e.symm] at h2; rw [e, lex_ant xs ys h1 h2]
    · rw [if_neg e, decide_eq_false_iff_not] at h1
      rw [if_neg (Ne.symm e), decide_eq_false_iff_not] at h2
      omega
theorem leI_tr (a b c : Int) (h1 : leI a b = true) (h2 : leI b c = true) : leI a c = true := by unfold leI at *; rw [decide_eq_true_eq] at *; omega
theorem leI_to (a b : Int) : (leI a b || leI b a) = true := by unfold leI; rw [Bool.or_eq_true, decide_eq_true_eq, decide_eq_true_eq]; omega
theorem leT_tr (a b c : List Int) (h1 : leT a b = true) (h2 : leT b c = true) : leT a c = true := by
  unfold leT at *
  rw [Bool.not_eq_true'] at *
  exact lex_trn a b c h1 h2
theorem leT_to (a b : List Int) : (leT a b || leT b a) = true := by
  unfold leT
  cases h : HT.lexLt b a with
  | false => rfl
  | true => rw [lex_asy _ _ h]; rfl
theorem leT_an {a b : List Int} (h1 : leT a b = true) (h2 : leT b a = true) : a = b := by
  unfold leT at *
  rw [Bool.not_eq_true'] at *
  exact lex_ant a b h2 h1
def sI (l : List Int) : List Int := l.mergeSort leI
def sT (l : List (List Int)) : List (List Int) := l.mergeSort leT
theorem sI_perm (l : List Int) : (sI l).Perm l := List.mergeSort_perm _ _
theorem sT_perm (l : List (List Int)) : (sT l).Perm l := List.mergeSort_perm _ _
theorem sI_sorted (l : List Int) : (sI l).Pairwise (· ≤ ·) := (List.pairwise_mergeSort leI_tr leI_to l).imp fun h => by unfold leI at h; exact of_decide_eq_true h
theorem sT_sorted (l : List (List Int)) : (sT l).Pairwise (fun a b => leT a b = true) := List.pairwise_mergeSort leT_tr leT_to l
theorem sI_eq {l m : List Int} (h : l.Perm m) (hm : m.Pairwise (· ≤ ·)) : sI l = m :=
  ((sI_perm l).trans h).eq_of_pairwise (fun a b _ _ h1 h2 => by omega) (sI_sorted l) hm
theorem sT_eq {l m : List (List Int)} (h : l.Perm m) : sT l = sT m :=
  (((sT_perm l).trans h).trans (sT_perm m).symm).eq_of_pairwise (fun a b _ _ h1 h2 => leT_an h1 h2) (sT_sorted l) (sT_sorted m)
/-- sorted and of no two alike -/
theorem sT_strict {l : List (List Int)} (h : l.Nodup) : (sT l).Pairwise (fun a b => HT.lexLt a b = true) := by
  have nd : (sT l).Nodup := (sT_perm l).symm.nodup h
  have := List.Pairwise.and (sT_sorted l) nd
  refine this.imp fun {a b} q => ?_
  cases e : HT.lexLt a b with
  | true => rfl
  | false =>
    have q1 := q.1
    unfold leT at q1
    rw [Bool.not_eq_true'] at q1
    exact absurd (lex_ant a b e q1) q.2
theorem opSorted_of {st : Store} {w : W} {ds : List PyData} (hw : seqOf st w = some (ds.map .dat)) (h1 : allAlike ds = true) (h2 : sortable ds = true) (h3 : ∀ d ∈ ds, d.depth ≤ 64) : opSorted [w] st = some (.dat (.list (srt ds)), st) := by
  unfold opSorted
  simp only [hw, mapM_dat]
  rw [if_pos ⟨h1, h2, by rw [List.all_eq_true]; exact fun d hd => decide_eq_true (h3 d hd)⟩]
theorem alike_map {α : Type} {e : α → PyData} (h : ∀ a b, PySem.W.alike (e a) (e b) = true) (xs : List α) : allAlike (xs.map e) = true := by
  unfold allAlike
  rw [List.all_eq_true]
  intro d hd
  obtain ⟨a, _, rfl⟩ := List.mem_map.mp hd
  rw [List.all_eq_true]
  intro d' hd'
  obtain ⟨b, _, rfl⟩ := List.mem_map.mp hd'
  exact h a b
theorem opSorted_ints {st : Store} {w : W} {l : List Int} (hw : seqOf st w = some ((l.map .int).map .dat)) : opSorted [w] st = some (.dat (li (sI l)), st) := by
  rw [opSorted_of hw (alike_map (fun a b => PySem.W.DatumOrd.alike a b) l) (by
    unfold sortable
    rw [Bool.or_eq_true]
    refine .inr ?_
    rw [List.all_map, List.all_eq_true]
    exact fun _ _ => rfl) (fun d hd => Nat.le_trans ((Lay.map fun x => Lay.int x (k := 0)) d hd).d (by decide)), srt_ints]
  rfl
theorem opSorted_tis {st : Store} {w : W} {l : List (List Int)} (hw : seqOf st w = some ((l.map ti).map .dat)) (hn : ∀ x ∈ l, x ≠ []) : opSorted [w] st = some (.dat (lp (sT l)), st) := by
  rw [opSorted_of hw (alike_map (fun a b => PySem.W.DatumOrd.alike (PySem.W.Tup.mk a) (PySem.W.Tup.mk b)) l) (by
    unfold sortable
    rw [Bool.or_eq_true]
    refine .inl ?_
    rw [List.all_map, List.all_eq_true]
    intro x hx
    cases x with
    | nil => exact absurd rfl (hn _ hx)
    | cons a b => rfl) (fun d hd => Nat.le_trans ((Lay.map fun x => Lay.ti x (k := 0)) d hd).d (by decide)), srt_tis]
  rfl
end L3
set_option Elab.async false
set_option linter.all false
set_option maxRecDepth 100000
set_option maxHeartbeats 4000000
set_option autoImplicit false
/-! L4: loops that make a list. -/
namespace L3
open PySem PySem.Spec PyProof.Rows L2
theorem get_last {st : Store} {c : Cell} : (st ++ [c])[st.length]? = some c := by rw [List.getElem?_append_right (Nat.le_refl _), Nat.sub_self]; rfl
theorem set_last {st : Store} {c c' : Cell} : (st ++ [c]).set st.length c' = st ++ [c'] := by rw [List.set_append, if_neg (Nat.lt_irrefl _), Nat.sub_self]; rfl
theorem small (k : Nat) (h : k ≤ 16777216) : k ≤ sizeLine := Nat.le_trans h (Nat.le_of_eq sizeLine_eq.symm)
theorem ft {α : Type} (l : List α) : l.filter (fun _ => true) = l := List.filter_eq_self.mpr fun _ _ => rfl
theorem take_next {α : Type} {xs : List α} {i : Nat} {x : α} (h : xs[i]? = some x) : xs.take (i + 1) = xs.take i ++ [x] := by
  obtain ⟨hi, rfl⟩ := List.getElem?_eq_some_iff.mp h
  rw [List.take_succ_eq_append_getElem hi]
theorem flatMap_le {α β : Type} (xs : List α) (f : α → List β) (i : Nat) : ((xs.take i).flatMap f).length ≤ (xs.flatMap f).length := by
  have e := congrArg (fun l => (l.flatMap f).length) (List.take_append_drop i xs)
  simp only [List.flatMap_append, List.length_append] at e
  omega
theorem bFor_ext {α : Type} {fi : Ei} {g : Eg} {u : Eb} {env : E3} {st : Store} {it : It3} {acc0 : List PyData} (xs : List α) (e : α → W) (hi : fi env (st ++ [.list (acc0.map .dat)]) = some (it, st ++ [.list (acc0.map .dat)])) (hg : Gives it (fun s => ∃ acc, s = st ++ [.list acc]) (xs.map e)) (f : α → List PyData) (E : E3 → Prop) (h0 : E env)
    (hlen : acc0.length + (xs.flatMap f).length ≤ 16777216) (hs : ∀ x ∈ xs, ∀ (env : E3) (acc : List PyData), E env → (acc.map W.dat).length + (f x).length ≤ sizeLine → ∃ env1, stepOf g u (e x) env (st ++ [.list (acc.map .dat)]) = some (.nx, env1, st ++ [.list ((acc ++ f x).map .dat)]) ∧ E env1) :
    ∃ env1, bFor fi g u env (st ++ [.list (acc0.map .dat)]) = some (.nx, env1, st ++ [.list ((acc0 ++ xs.flatMap f).map .dat)]) ∧ E env1 := by
  obtain ⟨env1, st1, h1, h2, h3⟩ := bFor_inv hi hg (fun i env s => s = st ++ [.list ((acc0 ++ (xs.take i).flatMap f).map .dat)] ∧ E env) (fun i env s q => ⟨_, q.1⟩) ⟨by simp, h0⟩ (fun i w env s hw ⟨q1, q2⟩ => by
    subst q1
    rw [List.getElem?_map] at hw
    obtain ⟨x, hx, rfl⟩ := Option.map_eq_some_iff.mp hw
    obtain ⟨env1, k1, k2⟩ := hs x (List.mem_of_getElem? hx) env (acc0 ++ (xs.take i).flatMap f) q2 (by
      have := flatMap_le xs f (i + 1)
      rw [take_next hx, List.flatMap_append, List.length_append] at this
      simp only [List.flatMap_cons, List.flatMap_nil, List.append_nil] at this
      rw [List.length_map, List.length_append]
      exact small _ (by omega))
    refine ⟨env1, _, .inl k1, ?_, k2⟩
    rw [take_next hx, List.flatMap_append, List.flatMap_cons, List.flatMap_nil, List.append_nil, List.append_assoc])
  subst h2
  rw [List.length_map, List.take_length] at h1
  exact ⟨env1, h1, h3⟩
theorem gives_tupm {α : Type} {S : Store → Prop} (xs : List α) (e : α → PyData) : Gives (liveSeq (.dat (.tuple (xs.map e))) ((xs.map e).map .dat)) S (xs.map fun x => .dat (e x)) := by
  have e1 : xs.map (fun x => W.dat (e x)) = (xs.map e).map W.dat := by rw [List.map_map]; rfl
  rw [e1]
  exact gives_tup
theorem gives_enum_tupm {α : Type} {S : Store → Prop} (xs : List α) (e : α → PyData) : Gives (itEnum (.dat (.tuple (xs.map e))) ((xs.map e).map W.dat).length) S (xs.zipIdx.map fun x => .dat (.tuple [.int x.2, e x.1])) := by
  have h := gives_enum (S := S) (w := .dat (.tuple (xs.map e))) (ds := xs.map e) fun _ _ => rfl
  rw [List.zipIdx_map] at h
  rw [List.map_map (l := xs.zipIdx)] at h
  exact h
/-- found.extend(e) at the last cell -/
theorem ext_last {st : Store} {acc ds : List PyData} {f : Ev} {g : Ea} {env : E3} (hf : f env (st ++ [.list (acc.map .dat)]) = some (.loc st.length, st ++ [.list (acc.map .dat)])) (hg : g env (st ++ [.list (acc.map .dat)]) = some ([.dat (.list ds)], st ++ [.list (acc.map .dat)])) (hz : (acc.map W.dat).length + ds.length ≤ sizeLine) :
    bMeth opExtend f g env (st ++ [.list (acc.map .dat)]) = some (.dat .none, st ++ [.list ((acc ++ ds).map .dat)]) := by
  unfold bMeth
  rw [hf, Option.bind_some]
  simp only [isL, get_last, if_true, hg, Option.bind_some, opExtend, hz, set_last, List.map_append]
theorem app_last {st : Store} {acc : List PyData} {d : PyData} {f : Ev} {g : Ea} {env : E3} (hf : f env (st ++ [.list (acc.map .dat)]) = some (.loc st.length, st ++ [.list (acc.map .dat)])) (hg : g env (st ++ [.list (acc.map .dat)]) = some ([.dat d], st ++ [.list (acc.map .dat)])) (hz : (acc.map W.dat).length < sizeLine) :
    bMeth opAppend f g env (st ++ [.list (acc.map .dat)]) = some (.dat .none, st ++ [.list ((acc ++ [d]).map .dat)]) := by
  unfold bMeth
  rw [hf, Option.bind_some]
  simp only [isL, get_last, if_true, hg, Option.bind_some, opAppend, hz, set_last, List.map_append, List.map_cons, List.map_nil]
theorem new_list {st : Store} : opLstNew [] st = some (.loc st.length, st ++ [.list ([].map .dat)]) := by unfold opLstNew; exact if_pos (Nat.zero_le _)
/-- tuple([x for x in p if x in q]) -/
theorem keepIn_ti {f : Ev} {i j : Nat} {vs : List Nat} {env env1 : E3} {st : Store} (p q : List Int) (hf : f env st = some (.dat (ti p), st)) (hw : ∀ x : Int, gNm i (.dat (.int x)) (wipe3 env vs) st = some ((wipe3 env vs).set i (some (.dat (.int x))), st))
    (hi : ∀ x : Int, ((wipe3 env vs).set i (some (.dat (.int x))))[i]? = some (some (.dat (.int x)))) (hj : ∀ x : Int, ((wipe3 env vs).set i (some (.dat (.int x))))[j]? = some (some (.dat (ti q)))) (neg : Bool) :
    bComp (iSeq f) (gNm i) (tBl (b2 (opIn neg) (bVar i) (bVar j))) (bVar i) vs env st = some (.dat (li (p.filter fun x => neg ^^ decide (x ∈ q))), st) := by
  refine comp_seq (xs := p) (e := .int) hf rfl (fun x => neg ^^ decide (x ∈ q)) .int fun x hx => ⟨_, hw x, ?_, fun _ => ?_⟩
  · simp only [tBl, b2, bVar, hi, hj, Option.bind_some, opIn_ti]
  · simp only [bVar, hi]
end L3
set_option Elab.async false
set_option linter.all false
set_option maxRecDepth 100000
set_option maxHeartbeats 4000000
set_option autoImplicit false
/-! L4: dicts. -/
namespace L3
open PySem PySem.Spec PyProof.Rows L2
theorem valW_cons (p : Key × W) (kvs : List (Key × W)) (k : Key) : valW (p :: kvs) k = if p.1 = k then some p.2 else valW kvs k := by
  unfold valW
  rw [List.find?_cons]
  by_cases h : p.1 = k <;> simp [h]
theorem valW_append (a b : List (Key × W)) (k : Key) : valW (a ++ b) k = match valW a k with | some v => some v | none => valW b k := by
  induction a with
  | nil => rfl
  | cons p a ih => rw [List.cons_append, valW_cons, valW_cons]; split <;> simp_all
theorem valW_map (kvs : List (Key × W)) (k k' : Key) (v : W) : valW (kvs.map fun kv => if kv.1 = k then (kv.1, v) else kv) k' = if k = k' then (valW kvs k').map (fun _ => v) else valW kvs k' := by
  induction kvs with
  | nil => simp [valW]
  | cons p a ih =>
    rw [List.map_cons, valW_cons, ih, valW_cons]
    by_cases h : p.1 = k
    · by_cases h2 : k = k'
      · simp [h, h2]
      · simp [h, h2]
    · by_cases h2 : k = k'
      · simp [h, h2, show ¬ p.1 = k' from fun q => h (q.trans h2.symm)]
      · simp [h, h2]
theorem valW_any (kvs : List (Key × W)) (k : Key) : (kvs.any fun kv => decide (kv.1 = k)) = (valW kvs k).isSome := by
  induction kvs with
  | nil => rfl
  | cons p a ih => rw [List.any_cons, ih, valW_cons]; by_cases h : p.1 = k <;> simp [h]
theorem valW_put (kvs : List (Key × W)) (k k' : Key) (v : W) : valW (putG kvs k v) k' = if k = k' then some v else valW kvs k' := by
  unfold putG
  rw [valW_any]
  split
  · rename_i h
    rw [valW_map]
    by_cases h2 : k = k'
    · subst h2
      obtain ⟨w, hw⟩ := Option.isSome_iff_exists.mp h
      simp [hw]
    · simp [h2]
  · rename_i h
    rw [valW_append, valW_cons]
    by_cases h2 : k = k'
    · subst h2
      have : valW kvs k = none := by simpa using h
      simp [this]
    · have : valW [] k' = none := rfl
      simp only [h2, if_false, this]
      cases valW kvs k' <;> rfl
theorem keys_put {α : Type} (kvs : List (Key × α)) (k : Key) (v : α) : ∀ x, x ∈ (putG kvs k v).map (·.1) ↔ x = k ∨ x ∈ kvs.map (·.1) := by
  intro x
  unfold putG
  split
  · rename_i h
    rw [List.any_eq_true] at h
    obtain ⟨p, hp, e⟩ := h
    rw [decide_eq_true_eq] at e
    rw [List.map_map]
    have : (kvs.map ((fun z : Key × α => z.1) ∘ fun kv => if kv.1 = k then (kv.1, v) else kv)) = kvs.map (·.1) := List.map_congr_left fun q _ => by show (if q.1 = k then (q.1, v) else q).1 = q.1; split <;> rfl
    rw [this]
    constructor
    · exact .inr
    · rintro (e2 | h)
      · subst e2; exact List.mem_map.mpr ⟨p, hp, e⟩
      · exact h
  · rw [List.map_append, List.mem_append]; simp [or_comm]
theorem vals_put {α : Type} (kvs : List (Key × α)) (k : Key) (v : α) : ∀ e ∈ putG kvs k v, e.2 = v ∨ e ∈ kvs := by
  intro e he
  unfold putG at he
  split at he
  · obtain ⟨q, hq, rfl⟩ := List.mem_map.mp he
    split
    · exact .inl rfl
    · exact .inr hq
  · rcases List.mem_append.mp he with h | h
    · exact .inr h
    · simp at h; subst h; exact .inl rfl
/-- one value at many keys -/
def putAll {α : Type} (xs : List α) (key : α → Key) (v : α → W) : List (Key × W) := xs.foldl (fun acc x => putG acc (key x) (v x)) []
theorem foldl_put {α : Type} (key : α → Key) (v : W) : ∀ (xs : List α) (acc : List (Key × W)), (∀ e ∈ acc, e.2 = v) → (∀ e ∈ xs.foldl (fun acc x => putG acc (key x) v) acc, e.2 = v) ∧ (∀ k, k ∈ (xs.foldl (fun acc x => putG acc (key x) v) acc).map (·.1) ↔ k ∈ xs.map key ∨ k ∈ acc.map (·.1)) ∧ (xs.foldl (fun acc x => putG acc (key x) v) acc).length ≤ acc.length + xs.length
  | [], acc, h => ⟨h, fun k => by simp, Nat.le_refl _⟩
  | x :: xs, acc, h => by
    obtain ⟨h1, h2, h3⟩ := foldl_put key v xs (putG acc (key x) v) fun e he => (vals_put acc (key x) v e he).elim id (h e)
    refine ⟨h1, fun k => ?_, ?_⟩
    · rw [List.foldl_cons, h2 k, keys_put, List.map_cons, List.mem_cons, or_left_comm, or_assoc]
    · rw [List.foldl_cons, List.length_cons]; have := putG_len acc (key x) v; omega
open Classical in
theorem valW_merge (v : W) : ∀ (more kvs : List (Key × W)), (∀ e ∈ more, e.2 = v) → ∀ k, valW (mergeG kvs more) k = if k ∈ more.map (fun p : Key × W => p.1) then some v else valW kvs k
  | [], kvs, _, k => by simp [mergeG]
  | p :: more, kvs, h, k => by
    have ih := valW_merge v more (putG kvs p.1 p.2) (fun e he => h e (List.mem_cons_of_mem _ he)) k
    have e : mergeG kvs (p :: more) = mergeG (putG kvs p.1 p.2) more := rfl
    rw [e, ih, valW_put, h p List.mem_cons_self, List.map_cons]
    by_cases h1 : k ∈ more.map (·.1)
    · simp [h1]
    · by_cases h2 : p.1 = k
      · subst h2; simp
      · simp [h1, h2, Ne.symm h2]
theorem dcRun_pure {α : Type} {it : It3} {gt : Eg} {t : Et} {kx vx : Ev} {env0 : E3} {st : Store} {xs : List α} {e : α → W} (hg : Gives it (· = st) (xs.map e)) (kw : α → W) (key : α → Key) (v : α → W)
    (h : ∀ x ∈ xs, ∃ env1, gt (e x) env0 st = some (env1, st) ∧ t env1 st = some (true, st) ∧ kx env1 st = some (kw x, st) ∧ vx env1 st = some (v x, st) ∧ keyOf (kw x) = some (key x)) :
    ∀ (k i : Nat) acc, i + k = xs.length → dcRun it gt t kx vx env0 (k + 1) i st acc = some ((xs.drop i).foldl (fun acc x => putG acc (key x) (v x)) acc, st)
  | 0, i, acc, hk => by
    unfold dcRun
    rw [hg.2 st rfl, List.getElem?_eq_none (by rw [List.length_map]; omega), List.drop_eq_nil_of_le (by omega)]
    rfl
  | k + 1, i, acc, hk => by
    have hi : i < xs.length := by omega
    obtain ⟨env1, h1, h2, h3, h4, h5⟩ := h xs[i] (List.getElem_mem hi)
    unfold dcRun
    rw [hg.2 st rfl, List.getElem?_map, List.getElem?_eq_getElem hi]
    simp only [Option.map_some, h1, h2, h3, h4, h5]
    rw [dcRun_pure hg kw key v h k (i + 1) _ (by omega), List.drop_eq_getElem_cons hi]
    rfl
theorem dcAll_pure {α : Type} {fi : Ei} {gt : Eg} {t : Et} {kx vx : Ev} {vs : List Nat} {env : E3} {it : It3} {st : Store} {xs : List α} {e : α → W} (hi : fi env st = some (it, st)) (hg : Gives it (· = st) (xs.map e)) (kw : α → W) (key : α → Key) (v : α → W)
    (h : ∀ x ∈ xs, ∃ env1, gt (e x) (wipe3 env vs) st = some (env1, st) ∧ t env1 st = some (true, st) ∧ kx env1 st = some (kw x, st) ∧ vx env1 st = some (v x, st) ∧ keyOf (kw x) = some (key x)) : dcAll fi gt t kx vx vs env st = some (putAll xs key v, st) := by
  unfold dcAll
  rw [hi, Option.bind_some]
  simp only
  rw [hg.1, List.length_map]
  exact dcRun_pure hg kw key v h xs.length 0 [] (by omega)
end L3
set_option Elab.async false
set_option linter.all false
set_option maxRecDepth 100000
set_option maxHeartbeats 4000000
set_option autoImplicit false
/-! L4: repr. -/
namespace L3
open PySem PySem.Spec PyProof.Rows L2
structure Shw (k w : Nat) (d : PyData) : Prop where
  lay : Lay k d
  wt : d.weight ≤ w
  sh : d.intsShort 13 = true
  ok : d.showable = true
theorem shortAll {ds : List PyData} (h : ∀ d ∈ ds, d.intsShort 13 = true) : PyData.intsShortAll 13 ds = true := by
  induction ds with
  | nil => simp only [PyData.intsShortAll]
  | cons d ds ih => simp only [PyData.intsShortAll, Bool.and_eq_true]; exact ⟨h d List.mem_cons_self, ih fun x hx => h x (List.mem_cons_of_mem _ hx)⟩
theorem showAll {ds : List PyData} (h : ∀ d ∈ ds, d.showable = true) : PyData.showableAll ds = true := by
  induction ds with
  | nil => simp only [PyData.showableAll]
  | cons d ds ih => simp only [PyData.showableAll, Bool.and_eq_true]; exact ⟨h d List.mem_cons_self, ih fun x hx => h x (List.mem_cons_of_mem _ hx)⟩
theorem weightAll_le {w : Nat} {ds : List PyData} (h : ∀ d ∈ ds, d.weight ≤ w) : PyData.weightAll ds ≤ ds.length * (w + 1) := by
  induction ds with
  | nil => simp [PyData.weightAll]
  | cons d ds ih =>
    have h1 := ih fun x hx => h x (List.mem_cons_of_mem _ hx)
    have h2 := h d List.mem_cons_self
    simp only [PyData.weightAll, List.length_cons, Nat.succ_mul]
    omega
theorem Shw.mono {j k v w : Nat} {d : PyData} (h : Shw j v d) (l : j ≤ k := by decide) (m : v ≤ w := by decide) : Shw k w d := ⟨h.lay.mono l, Nat.le_trans h.wt m, h.sh, h.ok⟩
theorem Shw.bool (b : Bool) : Shw 0 0 (.bool b) := ⟨.bool b, by simp only [PyData.weight]; omega, by simp only [PyData.intsShort], by simp only [PyData.showable]⟩
theorem Shw.none : Shw 0 0 .none := ⟨.none, by simp only [PyData.weight]; omega, by simp only [PyData.intsShort], by simp only [PyData.showable]⟩
theorem Shw.int {n : Int} (h1 : -999999999999 < n) (h2 : n < 999999999999) : Shw 0 41 (.int n) := by
  have hl : n.natAbs.log2 < 40 := log2_small (show n.natAbs < 2 ^ 40 by omega) (by decide)
  refine ⟨.int n, ?_, intsShort_of_noneOrIn (lo := -999999999999) (hi := 999999999999) (by decide) (by decide) _ (by simp only [noneOrIn, Bool.and_eq_true, decide_eq_true_eq]; exact ⟨h1, h2⟩), ?_⟩
  · simp only [PyData.weight]; split <;> omega
  · simp only [PyData.showable, decide_eq_true_eq]; omega
theorem Shw.tup {k w : Nat} {ds : List PyData} (h : ∀ d ∈ ds, Shw k w d) : Shw (k + 1) (ds.length * (w + 1)) (.tuple ds) :=
  ⟨.tup fun d hd => (h d hd).lay, by simp only [PyData.weight]; exact weightAll_le fun d hd => (h d hd).wt, by simp only [PyData.intsShort]; exact shortAll fun d hd => (h d hd).sh, by simp only [PyData.showable]; exact showAll fun d hd => (h d hd).ok⟩
theorem Shw.lst {k w : Nat} {ds : List PyData} (h : ∀ d ∈ ds, Shw k w d) : Shw (k + 1) (ds.length * (w + 1)) (.list ds) :=
  ⟨.lst fun d hd => (h d hd).lay, by simp only [PyData.weight]; exact weightAll_le fun d hd => (h d hd).wt, by simp only [PyData.intsShort]; exact shortAll fun d hd => (h d hd).sh, by simp only [PyData.showable]; exact showAll fun d hd => (h d hd).ok⟩
theorem Shw.repr {k w : Nat} {d : PyData} {st : Store} (h : Shw k w d) (hk : k ≤ 64) (hw : w ≤ 1048576) : opRepr [.dat d] st = some (.dat (.str d.shown), st) := by
  unfold opRepr
  simp only
  have hw2 : d.weight ≤ 2 ^ 20 := by have := h.wt; omega
  have hd : d.depth ≤ 64 := Nat.le_trans h.lay.d hk
  have hl : d.layable0 = true := by
    unfold PyData.layable0
    rw [h.lay.c, decide_eq_true hd, decide_eq_true hw2]
    rfl
  have := shown_le13 hl h.sh
  exact if_pos ⟨h.ok, PyData.hasDict_of_canLay d h.lay.c, hd, small _ (by omega)⟩
theorem Shw.ti {l : List Int} {n : Nat} (hl : l.length ≤ n) (h : ∀ x ∈ l, 0 ≤ x ∧ x < 999999999999) : Shw 1 (n * 42) (ti l) := by
  refine (Shw.tup (k := 0) (w := 41) (ds := l.map .int) fun d hd => ?_).mono (Nat.le_refl _) (by rw [List.length_map]; exact Nat.mul_le_mul_right _ hl)
  obtain ⟨x, hx, rfl⟩ := List.mem_map.mp hd
  exact .int (by have := (h x hx).1; omega) (h x hx).2
theorem Shw.tp {P : List (List Int)} {n k : Nat} (hP : P.length ≤ k) (hl : ∀ l ∈ P, l.length ≤ n) (h : ∀ l ∈ P, ∀ x ∈ l, 0 ≤ x ∧ x < 999999999999) : Shw 2 (k * (n * 42 + 1)) (tp P) := by
  refine (Shw.tup (k := 1) (w := n * 42) (ds := P.map L3.ti) fun d hd => ?_).mono (Nat.le_refl _) (by rw [List.length_map]; exact Nat.mul_le_mul_right _ hP)
  obtain ⟨l, hl', rfl⟩ := List.mem_map.mp hd
  exact Shw.ti (hl l hl') (h l hl')
theorem opNe_str {st : Store} (a b : Str) : opNe (.dat (.str a)) (.dat (.str b)) st = some (.dat (.bool (!decide (a = b))), st) := rfl
theorem opEq_str {st : Store} (a b : Str) : opEq (.dat (.str a)) (.dat (.str b)) st = some (.dat (.bool (decide (a = b))), st) := rfl
end L3
set_option Elab.async false
set_option linter.all false
set_option maxRecDepth 100000
set_option maxHeartbeats 4000000
set_option autoImplicit false
namespace K38
open PySem PySem.Spec PyProof.Rows L2 L3
abbrev row : PySem.W.OpenRow := PySem.W.OpenLaw.row PySem.Challenge.rw_grovesapart_k38_whole_partings_met
def top (i : Nat) : Stmt := PySem.Challenge.pw_grovesapart_k38_whole_partings_met.main.body.getD i (.Pass ⟨0, 0, 0, 0⟩)
/-! ### readings -/
def b__law_pot : Eb := bSeq (bAsg (b2 opAdd (b2 opMul (bDat (.int 1033)) (bVar 1)) (bDat (.int 647))) (gNm 2)) (bSeq (bIfS (tBl (b2 opLt (bVar 1) (bN opLen (aCons (bVar 0) (aNil))))) (bAsg (bN opAbs (aCons (b2 opIdx (bVar 0) (bVar 1)) (aNil))) (gNm 2)) (bPass)) (bRet (bN opLstNew (aCons (bN opMax (aCons (bDat (.int 0)) (aCons (b2 opSub (bVar 2) (b2 opPow (bDat (.int 10)) (bDat (.int 18)))) (aNil)))) (aCons (b2 opAdd (b2 opMod (bN opInt (aCons (b2 opAdd (b2 opAdd (b2 opMul (b2 opMod (bN opInt (aCons (bVar 2) (aNil))) (bDat (.int 2147483549))) (bDat (.int 41227))) (b2 opMul (bDat (.int 647)) (bVar 1))) (bDat (.int 59))) (aNil))) (bDat (.int 2147483563))) (bDat (.int 1))) (aNil))))))
noncomputable def F__law_pot : OpN := runB false 3 2 b__law_pot
def b__law_meet : Eb := bSeq (bAsg (bN opLstNew (aNil)) (gNm 2)) (bSeq (bFor (iSeq (bVar 0)) (gNm 3) (bExp (bMeth opExtend (bVar 2) (aCons (bComp (iSeq (bVar 1)) (gNm 4) (tAll) (bN opTuple (aCons (bComp (iSeq (bVar 3)) (gNm 5) (tBl (b2 (opIn false) (bVar 5) (bVar 4))) (bVar 5) [5]) (aNil))) [4]) (aNil))))) (bRet (bN opTuple (aCons (bN opSorted (aCons (bComp (iSeq (bVar 2)) (gNm 3) (tBl (b2 opNe (bVar 3) (bN opTup (aNil)))) (bVar 3) [3]) (aNil))) (aNil)))))
noncomputable def F__law_meet : OpN := runB true 6 2 b__law_meet
def b_is_row : Eb := bRet (bAnd (bN opIsinst (aCons (bVar 0) (aCons (bTy "tuple") (aNil)))) (b2 opEq (bN opLen (aCons (bVar 0) (aNil))) (bVar 1)))
noncomputable def F_is_row : OpN := runB true 2 2 b_is_row
def b_is_integer : Eb := bRet (bAnd (bN opIsinst (aCons (bVar 0) (aCons (bTy "int") (aNil)))) (bNot (bN opIsinst (aCons (bVar 0) (aCons (bTy "bool") (aNil))))))
noncomputable def F_is_integer : OpN := runB true 1 1 b_is_integer
noncomputable def b_is_count : Eb := bRet (bAnd (bN F_is_integer (aCons (bVar 0) (aNil))) (b2 opGe (bVar 0) (bDat (.int 0))))
noncomputable def F_is_count : OpN := runB true 1 1 b_is_count
noncomputable def b_is_below : Eb := bRet (bAnd (bN F_is_count (aCons (bVar 0) (aNil))) (b2 opLt (bVar 0) (bVar 1)))
noncomputable def F_is_below : OpN := runB true 2 2 b_is_below
noncomputable def b_are_ties : Eb := bSeq (bIfS (tOr3 (tNo (tTru (bN opIsinst (aCons (bVar 1) (aCons (bTy "tuple") (aNil)))))) (tOr3 (tBl (b2 opGt (bN opLen (aCons (bVar 1) (aNil))) (bDat (.int 40)))) (tNo (tTru (bN opAll (aCons (bComp (iSeq (bVar 1)) (gNm 2) (tAll) (bN F_is_row (aCons (bVar 2) (aCons (bDat (.int 2)) (aNil)))) [2]) (aNil))))))) (bRet (bDat (.bool false))) (bPass)) (bSeq (bIfS (tNo (tTru (bN opAll (aCons (bComp (iSeq (bVar 1)) (gTp 2 (gCn (gNm 3) (gCn (gNm 4) (gNl)))) (tAll) (bAnd (bN F_is_below (aCons (bVar 3) (aCons (bVar 0) (aNil)))) (bAnd (bN F_is_below (aCons (bVar 4) (aCons (bVar 0) (aNil)))) (b2 opLt (bVar 3) (bVar 4)))) [3, 4]) (aNil))))) (bRet (bDat (.bool false))) (bPass)) (bRet (bN opAll (aCons (bComp (iZip (bVar 1) (bSlice (bVar 1) (pSome (bDat (.int 1))) (pNone))) (gTp 2 (gCn (gNm 5) (gCn (gNm 6) (gNl)))) (tAll) (b2 opLe (bVar 5) (bVar 6)) [5, 6]) (aNil)))))
noncomputable def F_are_ties : OpN := runB true 7 2 b_are_ties
noncomputable def b_is_many : Eb := bRet (bAnd (bN F_is_integer (aCons (bVar 0) (aNil))) (bChain opLe opLe (bDat (.int 1)) (bVar 0) (bDat (.int 16))))
noncomputable def F_is_many : OpN := runB true 1 1 b_is_many
noncomputable def b_is_web_of : Eb := bSeq (bIfS (tOr3 (tNo (tTru (bN F_is_row (aCons (bVar 0) (aCons (bDat (.int 3)) (aNil)))))) (tOr3 (tNo (tTru (bN opIsinst (aCons (b2 opIdx (bVar 0) (bDat (.int 0))) (aCons (bTy "str") (aNil)))))) (tOr3 (tBl (b2 opNe (b2 opIdx (bVar 0) (bDat (.int 0))) (bDat (.str "web")))) (tNo (tTru (bN F_is_many (aCons (b2 opIdx (bVar 0) (bDat (.int 1))) (aNil)))))))) (bRet (bDat (.bool false))) (bPass)) (bRet (bN F_are_ties (aCons (b2 opIdx (bVar 0) (bDat (.int 1))) (aCons (b2 opIdx (bVar 0) (bDat (.int 2))) (aNil)))))
noncomputable def F_is_web_of : OpN := runB true 1 1 b_is_web_of
noncomputable def b_want_web : Eb := bSeq (bIfS (tNo (tTru (bN F_is_web_of (aCons (bVar 0) (aNil))))) (bBad) (bPass)) (bRet (bVar 0))
noncomputable def F_want_web : OpN := runB true 1 1 b_want_web
def b_part_numbers : Eb := bSeq (bAsg (bDictNew) (gNm 1)) (bSeq (bFor (iEnu (bVar 0)) (gTp 2 (gCn (gNm 2) (gCn (gNm 3) (gNl)))) (bExp (bUpdC (bVar 1) (iSeq (bVar 3)) (gNm 4) (tAll) (bVar 4) (bVar 2) [4]))) (bRet (bVar 1)))
noncomputable def F_part_numbers : OpN := runB false 5 1 b_part_numbers
noncomputable def b_between_of : Eb := bSeq (bAsg (bN F_part_numbers (aCons (bVar 1) (aNil))) (gNm 2)) (bRet (bN opTuple (aCons (bComp (iEnu (b2 opIdx (bVar 0) (bDat (.int 2)))) (gTp 2 (gCn (gNm 3) (gCn (gNm 4) (gNl)))) (tBl (b2 opNe (b2 opGetD (bVar 2) (b2 opIdx (bVar 4) (bDat (.int 0)))) (b2 opGetD (bVar 2) (b2 opIdx (bVar 4) (bDat (.int 1)))))) (bVar 3) [3, 4]) (aNil))))
noncomputable def F_between_of : OpN := runB true 5 2 b_between_of
def b_is_rising : Eb := bRet (bN opAll (aCons (bComp (iZip (bVar 0) (bSlice (bVar 0) (pSome (bDat (.int 1))) (pNone))) (gTp 2 (gCn (gNm 1) (gCn (gNm 2) (gNl)))) (tAll) (b2 opLt (bVar 1) (bVar 2)) [1, 2]) (aNil)))
noncomputable def F_is_rising : OpN := runB true 3 1 b_is_rising
noncomputable def b_is_place_of : Eb := bRet (bN F_is_below (aCons (bVar 1) (aCons (b2 opIdx (bVar 0) (bDat (.int 1))) (aNil))))
noncomputable def F_is_place_of : OpN := runB true 2 2 b_is_place_of
noncomputable def b_are_places_of : Eb := bRet (bAnd (bN opIsinst (aCons (bVar 1) (aCons (bTy "tuple") (aNil)))) (bAnd (bN opAll (aCons (bComp (iSeq (bVar 1)) (gNm 2) (tAll) (bN F_is_place_of (aCons (bVar 0) (aCons (bVar 2) (aNil)))) [2]) (aNil))) (bN F_is_rising (aCons (bVar 1) (aNil)))))
noncomputable def F_are_places_of : OpN := runB true 3 2 b_are_places_of
def b_many_of : Eb := bRet (b2 opIdx (bVar 0) (bDat (.int 1)))
noncomputable def F_many_of : OpN := runB true 1 1 b_many_of
noncomputable def b_is_parting_of : Eb := bSeq (bIfS (tOr3 (tNo (tTru (bN opIsinst (aCons (bVar 1) (aCons (bTy "tuple") (aNil)))))) (tOr3 (tBl (b2 opLt (bN opLen (aCons (bVar 1) (aNil))) (bDat (.int 2)))) (tNo (tTru (bN opAll (aCons (bComp (iSeq (bVar 1)) (gNm 3) (tAll) (bN F_are_places_of (aCons (bVar 0) (aCons (bVar 3) (aNil)))) [3]) (aNil))))))) (bRet (bDat (.bool false))) (bPass)) (bSeq (bAsg (bN opLstNew (aNil)) (gNm 2)) (bSeq (bFor (iSeq (bVar 1)) (gNm 3) (bExp (bMeth opExtend (bVar 2) (aCons (bN opList (aCons (bVar 3) (aNil))) (aNil))))) (bRet (bAnd (bN F_is_rising (aCons (bVar 1) (aNil))) (bAnd (b2 (opIn true) (bN opTup (aNil)) (bVar 1)) (b2 opEq (bN opSorted (aCons (bVar 2) (aNil))) (b2 (opRg false false) (bDat (.int 0)) (bN F_many_of (aCons (bVar 0) (aNil))))))))))
noncomputable def F_is_parting_of : OpN := runB true 4 2 b_is_parting_of
noncomputable def b_want_parting : Eb := bSeq (bIfS (tNo (tTru (bN F_is_parting_of (aCons (bVar 0) (aCons (bVar 1) (aNil)))))) (bBad) (bPass)) (bRet (bVar 1))
noncomputable def F_want_parting : OpN := runB true 2 2 b_want_parting
noncomputable def b_between : Eb := bSeq (bExp (bN F_want_web (aCons (bVar 0) (aNil)))) (bRet (bN F_between_of (aCons (bVar 0) (aCons (bN F_want_parting (aCons (bVar 0) (aCons (bVar 1) (aNil)))) (aNil)))))
noncomputable def F_between : OpN := runB true 2 2 b_between
def b__law_draw : Eb := bSeq (bIfS (tBl (b2 opGt (b2 opIdx (bVar 0) (bDat (.int 0))) (bDat (.int 0)))) (bSeq (bAsg (bN opDivmod (aCons (b2 opIdx (bVar 0) (bDat (.int 0))) (aCons (bVar 1) (aNil)))) (gTp 2 (gCn (gSb (bVar 0) (bDat (.int 0))) (gCn (gNm 2) (gNl))))) (bRet (bVar 2))) (bPass)) (bSeq (bAsg (b2 opMod (bN opInt (aCons (b2 opAdd (b2 opMul (b2 opIdx (bVar 0) (bDat (.int 1))) (bDat (.int 48271))) (bDat (.int 1091))) (aNil))) (bDat (.int 2147483587))) (gSb (bVar 0) (bDat (.int 1)))) (bRet (b2 opMod (bN opInt (aCons (b2 opDiv (b2 opMod (bN opInt (aCons (b2 opMul (b2 opIdx (bVar 0) (bDat (.int 1))) (b2 opIdx (bVar 0) (bDat (.int 1)))) (aNil))) (bDat (.int 2147483563))) (bDat (.int 19))) (aNil))) (bVar 1))))
noncomputable def F__law_draw : OpN := runB true 3 2 b__law_draw
noncomputable def b__law_parting : Eb := bSeq (bAsg (bCompNew (iRange (bDat (.int 0)) (b2 opAdd (bDat (.int 1)) (bN F__law_draw (aCons (bVar 0) (aCons (bVar 1) (aNil)))))) (gNm 5) (tAll) (bN opLstNew (aNil)) [5]) (gNm 2)) (bSeq (bFor (iRange (bDat (.int 0)) (bVar 1)) (gNm 3) (bExp (bMeth opAppend (b2 opIdx (bVar 2) (bN F__law_draw (aCons (bVar 0) (aCons (bN opLen (aCons (bVar 2) (aNil))) (aNil))))) (aCons (bVar 3) (aNil))))) (bSeq (bAsg (bN opSorted (aCons (bComp (iSeq (bVar 2)) (gNm 6) (tBl (b2 opNe (bVar 6) (bN opLst (aNil)))) (bN opTuple (aCons (bVar 6) (aNil))) [6]) (aNil))) (gNm 4)) (bRet (bIf (tBl (b2 opGt (bN opLen (aCons (bVar 4) (aNil))) (bDat (.int 1)))) (bN opTuple (aCons (bVar 4) (aNil))) (bN opTup (aCons (bN opTup (aCons (bDat (.int 0)) (aNil))) (aCons (b2 (opRg true false) (bDat (.int 1)) (bVar 1)) (aNil))))))))
noncomputable def F__law_parting : OpN := runB true 7 2 b__law_parting
def b__law_is_finer : Eb := bRet (b2 opEq (bComp (iSeq (bVar 0)) (gNm 2) (tBl (b2 opEq (bComp (iSeq (bVar 1)) (gNm 3) (tBl (b2 opEq (bComp (iSeq (bVar 2)) (gNm 4) (tBl (b2 (opIn true) (bVar 4) (bVar 3))) (bVar 4) [4]) (bN opLst (aNil)))) (bVar 3) [3]) (bN opLst (aNil)))) (bVar 2) [2]) (bN opLst (aNil)))
noncomputable def F__law_is_finer : OpN := runB true 5 2 b__law_is_finer
noncomputable def b_is_parting : Eb := bRet (bN F_is_parting_of (aCons (bN F_want_web (aCons (bVar 0) (aNil))) (aCons (bVar 1) (aNil))))
noncomputable def F_is_parting : OpN := runB true 2 2 b_is_parting
noncomputable def b_want_partings : Eb := bSeq (bExp (bN F_want_parting (aCons (bN F_want_web (aCons (bVar 0) (aNil))) (aCons (bVar 1) (aNil))))) (bExp (bN F_want_parting (aCons (bVar 0) (aCons (bVar 2) (aNil)))))
noncomputable def F_want_partings : OpN := runB true 3 3 b_want_partings
def b_is_finer_of : Eb := bRet (bN opAll (aCons (bComp (iSeq (bVar 0)) (gNm 2) (tAll) (bN opAny (aCons (bComp (iSeq (bVar 1)) (gNm 3) (tAll) (bN opAll (aCons (bComp (iSeq (bVar 2)) (gNm 4) (tAll) (b2 (opIn false) (bVar 4) (bVar 3)) [4]) (aNil))) [3]) (aNil))) [2]) (aNil)))
noncomputable def F_is_finer_of : OpN := runB true 5 2 b_is_finer_of
noncomputable def b_is_finer : Eb := bSeq (bExp (bN F_want_partings (aCons (bVar 0) (aCons (bVar 1) (aCons (bVar 2) (aNil)))))) (bRet (bN F_is_finer_of (aCons (bVar 1) (aCons (bVar 2) (aNil)))))
noncomputable def F_is_finer : OpN := runB true 3 3 b_is_finer
def b__law_between : Eb := bSeq (bAsg (bN opLstNew (aNil)) (gNm 2)) (bSeq (bFor (iEnu (b2 opIdx (bVar 0) (bDat (.int 2)))) (gTp 2 (gCn (gNm 3) (gCn (gTp 2 (gCn (gNm 4) (gCn (gNm 5) (gNl)))) (gNl)))) (bExp (bMeth opExtend (bVar 2) (aCons (bIf (tBl (b2 opEq (bComp (iSeq (bVar 1)) (gNm 6) (tAn (tBl (b2 (opIn false) (bVar 4) (bVar 6))) (tBl (b2 (opIn false) (bVar 5) (bVar 6)))) (bVar 6) [6]) (bN opLst (aNil)))) (bN opLst (aCons (bVar 3) (aNil))) (bN opLst (aNil))) (aNil))))) (bRet (bN opTuple (aCons (bVar 2) (aNil)))))
noncomputable def F__law_between : OpN := runB true 7 2 b__law_between
noncomputable def b_want_many : Eb := bSeq (bIfS (tOr3 (tNo (tTru (bN F_is_count (aCons (bVar 0) (aNil))))) (tNo (tBl (bChain opLe opLe (bVar 1) (bVar 0) (bVar 2))))) (bBad) (bPass)) (bRet (bVar 0))
noncomputable def F_want_many : OpN := runB true 3 3 b_want_many
noncomputable def b_want_k : Eb := bRet (bN F_want_many (aCons (bVar 0) (aCons (bDat (.int 1)) (aCons (bDat (.int 6)) (aNil)))))
noncomputable def F_want_k : OpN := runB true 1 1 b_want_k
noncomputable def b_want_both : Eb := bSeq (bExp (bN F_want_web (aCons (bVar 0) (aNil)))) (bExp (bN F_want_k (aCons (bVar 1) (aNil))))
noncomputable def F_want_both : OpN := runB true 2 2 b_want_both
noncomputable def b_looseness_of : Eb := bRet (b2 opSub (b2 opMul (bVar 1) (b2 opSub (bN opLen (aCons (bVar 2) (aNil))) (bDat (.int 1)))) (bN opLen (aCons (bN F_between_of (aCons (bVar 0) (aCons (bVar 2) (aNil)))) (aNil))))
noncomputable def F_looseness_of : OpN := runB true 3 3 b_looseness_of
noncomputable def b_looseness : Eb := bSeq (bExp (bN F_want_both (aCons (bVar 0) (aCons (bVar 1) (aNil))))) (bRet (bN F_looseness_of (aCons (bVar 0) (aCons (bVar 1) (aCons (bN F_want_parting (aCons (bVar 0) (aCons (bVar 2) (aNil)))) (aNil))))))
noncomputable def F_looseness : OpN := runB true 3 3 b_looseness
noncomputable def b__law_looseness : Eb := bRet (b2 opSub (b2 opMul (bVar 1) (b2 opSub (bN opLen (aCons (bVar 2) (aNil))) (bDat (.int 1)))) (bN opLen (aCons (bN F__law_between (aCons (bVar 0) (aCons (bVar 2) (aNil)))) (aNil))))
noncomputable def F__law_looseness : OpN := runB true 3 3 b__law_looseness
noncomputable def b__law_ties : Eb := bSeq (bAsg (bN opLstNew (aNil)) (gNm 3)) (bSeq (bFor (iRange (bDat (.int 0)) (bIf (tBl (b2 opGt (bVar 1) (bDat (.int 1)))) (bN F__law_draw (aCons (bVar 0) (aCons (b2 opAdd (bVar 2) (bDat (.int 1))) (aNil)))) (bDat (.int 0)))) (gNm 4) (bSeq (bAsg (bN F__law_draw (aCons (bVar 0) (aCons (bVar 1) (aNil)))) (gNm 5)) (bSeq (bAsg (b2 opAdd (b2 opAdd (bVar 5) (bDat (.int 1))) (bN F__law_draw (aCons (bVar 0) (aCons (b2 opSub (bVar 1) (bDat (.int 1))) (aNil))))) (gNm 6)) (bExp (bMeth opAppend (bVar 3) (aCons (bN opTup (aCons (bVar 5) (aCons (b2 opSub (bVar 6) (b2 opMul (b2 opDiv (bVar 6) (bVar 1)) (bVar 1))) (aNil)))) (aNil))))))) (bRet (bComp (iSeq (bVar 3)) (gNm 7) (tAll) (bN opTuple (aCons (bN opSorted (aCons (bVar 7) (aNil))) (aNil))) [7])))
noncomputable def F__law_ties : OpN := runB true 8 3 b__law_ties
def b_meet_of : Eb := bSeq (bAsg (bN opLstNew (aNil)) (gNm 2)) (bSeq (bFor (iSeq (bVar 0)) (gNm 3) (bSeq (bAsg (bComp (iSeq (bVar 1)) (gNm 5) (tAll) (bN opTuple (aCons (bComp (iSeq (bVar 3)) (gNm 6) (tBl (b2 (opIn false) (bVar 6) (bVar 5))) (bVar 6) [6]) (aNil))) [5]) (gNm 4)) (bExp (bMeth opExtend (bVar 2) (aCons (bComp (iSeq (bVar 4)) (gNm 5) (tBl (b2 opNe (bVar 5) (bN opTup (aNil)))) (bVar 5) [5]) (aNil)))))) (bRet (bN opTuple (aCons (bN opSorted (aCons (bVar 2) (aNil))) (aNil)))))
noncomputable def F_meet_of : OpN := runB true 7 2 b_meet_of
noncomputable def b_meet : Eb := bSeq (bExp (bN F_want_partings (aCons (bVar 0) (aCons (bVar 1) (aCons (bVar 2) (aNil)))))) (bRet (bN F_meet_of (aCons (bVar 1) (aCons (bVar 2) (aNil)))))
noncomputable def F_meet : OpN := runB true 3 3 b_meet
noncomputable def b__law_right : Eb := bSeq (bAsg (b2 opAdd (bDat (.int 2)) (bN F__law_draw (aCons (bVar 0) (aCons (bDat (.int 6)) (aNil))))) (gNm 1)) (bSeq (bAsg (bN opTup (aCons (bDat (.str "web")) (aCons (bVar 1) (aCons (bN opTuple (aCons (bN opSorted (aCons (bN F__law_ties (aCons (bVar 0) (aCons (bVar 1) (aCons (bDat (.int 14)) (aNil))))) (aNil))) (aNil))) (aNil))))) (gNm 2)) (bSeq (bPar3 3 4 5 (aCons (bN F__law_parting (aCons (bVar 0) (aCons (bVar 1) (aNil)))) (aCons (bN F__law_parting (aCons (bVar 0) (aCons (bVar 1) (aNil)))) (aCons (bN F__law_parting (aCons (bVar 0) (aCons (bVar 1) (aNil)))) (aNil))))) (bSeq (bAsg (bN F__law_meet (aCons (bVar 3) (aCons (bVar 4) (aNil)))) (gNm 6)) (bSeq (bIfS (tOr3 (tBl (b2 opNe (bN opRepr (aCons (bN opLst (aCons (bN F_meet (aCons (bVar 2) (aCons (bVar 3) (aCons (bVar 4) (aNil))))) (aCons (bN (fun ws st => if ws.length = (["other_parting", "parting", "web"] : List Str).length then F_meet (pk [2, 1, 0] ws) st else none) (aCons (bVar 4) (aCons (bVar 3) (aCons (bVar 2) (aNil))))) (aNil)))) (aNil))) (bN opRepr (aCons (bN opLst (aCons (bVar 6) (aCons (bVar 6) (aNil)))) (aNil))))) (tBl (b2 (opIs true) (bN F_is_parting (aCons (bVar 2) (aCons (bVar 6) (aNil)))) (bDat (.bool true))))) (bRet (bDat (.bool false))) (bPass)) (bSeq (bFor (iSeq (bN opTup (aCons (bN opTup (aCons (bVar 3) (aCons (bVar 4) (aNil)))) (aCons (bN opTup (aCons (bVar 6) (aCons (bVar 3) (aNil)))) (aCons (bN opTup (aCons (bVar 6) (aCons (bVar 4) (aNil)))) (aCons (bN opTup (aCons (bVar 5) (aCons (bVar 6) (aNil)))) (aCons (bN opTup (aCons (bVar 3) (aCons (bVar 3) (aNil)))) (aNil)))))))) (gTp 2 (gCn (gNm 7) (gCn (gNm 8) (gNl)))) (bSeq (bAsg (bN F__law_is_finer (aCons (bVar 7) (aCons (bVar 8) (aNil)))) (gNm 9)) (bIfS (tBl (b2 opNe (bN opRepr (aCons (bN opLst (aCons (bN F_is_finer (aCons (bVar 2) (aCons (bVar 7) (aCons (bVar 8) (aNil))))) (aCons (bN (fun ws st => if ws.length = (["other_parting", "parting", "web"] : List Str).length then F_is_finer (pk [2, 1, 0] ws) st else none) (aCons (bVar 8) (aCons (bVar 7) (aCons (bVar 2) (aNil))))) (aNil)))) (aNil))) (bN opRepr (aCons (bN opLst (aCons (bVar 9) (aCons (bVar 9) (aNil)))) (aNil))))) (bRet (bDat (.bool false))) (bPass)))) (bSeq (bIfS (tOr3 (tBl (b2 (opIs true) (bN F_is_finer (aCons (bVar 2) (aCons (bVar 6) (aCons (bVar 3) (aNil))))) (bDat (.bool true)))) (tOr3 (tBl (b2 (opIs true) (bN F_is_finer (aCons (bVar 2) (aCons (bVar 6) (aCons (bVar 4) (aNil))))) (bDat (.bool true)))) (tAn (tTru (bN F__law_is_finer (aCons (bVar 5) (aCons (bVar 3) (aNil))))) (tAn (tTru (bN F__law_is_finer (aCons (bVar 5) (aCons (bVar 4) (aNil))))) (tBl (b2 (opIs true) (bN F_is_finer (aCons (bVar 2) (aCons (bVar 5) (aCons (bVar 6) (aNil))))) (bDat (.bool true)))))))) (bRet (bDat (.bool false))) (bPass)) (bSeq (bAsg (bN F_between (aCons (bVar 2) (aCons (bVar 6) (aNil)))) (gNm 10)) (bSeq (bIfS (tOr3 (tBl (b2 opNe (bVar 10) (bN opTuple (aCons (b1 opSortSetT (b2 opAdd (bN F_between (aCons (bVar 2) (aCons (bVar 3) (aNil)))) (bN F_between (aCons (bVar 2) (aCons (bVar 4) (aNil)))))) (aNil))))) (tBl (b2 opNe (bVar 10) (bN F__law_between (aCons (bVar 2) (aCons (bVar 6) (aNil))))))) (bRet (bDat (.bool false))) (bPass)) (bSeq (bAsg (bN opTup (aCons (bDat (.str "web")) (aCons (bVar 1) (aCons (bN opTuple (aCons (bN opSorted (aCons (b2 opAdd (b2 opIdx (bVar 2) (bDat (.int 2))) (bN opTup (aCons (bIf (tBl (b2 opLt (b2 opIdx (b2 opIdx (bVar 3) (bDat (.int 0))) (bDat (.int 0))) (b2 opIdx (b2 opIdx (bVar 3) (bDat (.int 1))) (bDat (.int 0))))) (bN opTup (aCons (b2 opIdx (b2 opIdx (bVar 3) (bDat (.int 0))) (bDat (.int 0))) (aCons (b2 opIdx (b2 opIdx (bVar 3) (bDat (.int 1))) (bDat (.int 0))) (aNil)))) (bN opTup (aCons (b2 opIdx (b2 opIdx (bVar 3) (bDat (.int 1))) (bDat (.int 0))) (aCons (b2 opIdx (b2 opIdx (bVar 3) (bDat (.int 0))) (bDat (.int 0))) (aNil))))) (aNil)))) (aNil))) (aNil))) (aNil))))) (gNm 11)) (bSeq (bAsg (b2 opAdd (bDat (.int 1)) (bN F__law_draw (aCons (bVar 0) (aCons (bDat (.int 6)) (aNil))))) (gNm 12)) (bRet (bAnd (b2 opEq (bN F_looseness (aCons (bVar 11) (aCons (bVar 12) (aCons (bVar 3) (aNil))))) (b2 opSub (bN F_looseness (aCons (bVar 2) (aCons (bVar 12) (aCons (bVar 3) (aNil))))) (bDat (.int 1)))) (b2 opEq (bN F_looseness (aCons (bVar 2) (aCons (bVar 12) (aCons (bVar 3) (aNil))))) (bN F__law_looseness (aCons (bVar 2) (aCons (bVar 12) (aCons (bVar 3) (aNil))))))))))))))))))
noncomputable def F__law_right : OpN := runB true 13 1 b__law_right
noncomputable def b_law : Eb := bSeq (bFor (iSeq (bN opTup (aCons (bDat (.int 0)) (aCons (bDat (.int 1)) (aNil))))) (gNm 1) (bSeq (bAsg (bN F__law_pot (aCons (bVar 0) (aCons (bVar 1) (aNil)))) (gNm 2)) (bFor (iRange (bDat (.int 0)) (bDat (.int 3))) (gNm 3) (bIfS (tNo (tTru (bN F__law_right (aCons (bVar 2) (aNil))))) (bRet (bDat (.bool false))) (bPass))))) (bRet (bDat (.bool true)))
noncomputable def F_law : OpN := runB true 4 1 b_law
/-! ### the head -/
def d__law_pot : He.DefD := ⟨("_law_pot", none), "_law_pot", "_law_pot", defArgs (top 42), defBody (top 42), defScope (top 42), [], []⟩
def d__law_meet : He.DefD := ⟨("_law_meet", none), "_law_meet", "_law_meet", defArgs (top 49), defBody (top 49), defScope (top 49), [], []⟩
def d_is_row : He.DefD := ⟨("is_row", none), "is_row", "is_row", defArgs (top 9), defBody (top 9), defScope (top 9), [], []⟩
def d_is_integer : He.DefD := ⟨("is_integer", none), "is_integer", "is_integer", defArgs (top 6), defBody (top 6), defScope (top 6), [], []⟩
def d_is_count : He.DefD := ⟨("is_count", none), "is_count", "is_count", defArgs (top 7), defBody (top 7), defScope (top 7), [], []⟩
def d_is_below : He.DefD := ⟨("is_below", none), "is_below", "is_below", defArgs (top 8), defBody (top 8), defScope (top 8), [], []⟩
def d_are_ties : He.DefD := ⟨("are_ties", none), "are_ties", "are_ties", defArgs (top 17), defBody (top 17), defScope (top 17), [], []⟩
def d_is_many : He.DefD := ⟨("is_many", none), "is_many", "is_many", defArgs (top 18), defBody (top 18), defScope (top 18), [], []⟩
def d_is_web_of : He.DefD := ⟨("is_web_of", none), "is_web_of", "is_web_of", defArgs (top 19), defBody (top 19), defScope (top 19), [], []⟩
def d_want_web : He.DefD := ⟨("want_web", none), "want_web", "want_web", defArgs (top 25), defBody (top 25), defScope (top 25), [], []⟩
def d_part_numbers : He.DefD := ⟨("part_numbers", none), "part_numbers", "part_numbers", defArgs (top 23), defBody (top 23), defScope (top 23), [], []⟩
def d_between_of : He.DefD := ⟨("between_of", none), "between_of", "between_of", defArgs (top 24), defBody (top 24), defScope (top 24), [], []⟩
def d_is_rising : He.DefD := ⟨("is_rising", none), "is_rising", "is_rising", defArgs (top 10), defBody (top 10), defScope (top 10), [], []⟩
def d_is_place_of : He.DefD := ⟨("is_place_of", none), "is_place_of", "is_place_of", defArgs (top 20), defBody (top 20), defScope (top 20), [], []⟩
def d_are_places_of : He.DefD := ⟨("are_places_of", none), "are_places_of", "are_places_of", defArgs (top 21), defBody (top 21), defScope (top 21), [], []⟩
def d_many_of : He.DefD := ⟨("many_of", none), "many_of", "many_of", defArgs (top 22), defBody (top 22), defScope (top 22), [], []⟩
def d_is_parting_of : He.DefD := ⟨("is_parting_of", none), "is_parting_of", "is_parting_of", defArgs (top 30), defBody (top 30), defScope (top 30), [], []⟩
def d_want_parting : He.DefD := ⟨("want_parting", none), "want_parting", "want_parting", defArgs (top 34), defBody (top 34), defScope (top 34), [], []⟩
def d_between : He.DefD := ⟨("between", none), "between", "between", defArgs (top 37), defBody (top 37), defScope (top 37), [], []⟩
def d__law_draw : He.DefD := ⟨("_law_draw", none), "_law_draw", "_law_draw", defArgs (top 43), defBody (top 43), defScope (top 43), [], []⟩
def d__law_parting : He.DefD := ⟨("_law_parting", none), "_law_parting", "_law_parting", defArgs (top 47), defBody (top 47), defScope (top 47), [], []⟩
def d__law_is_finer : He.DefD := ⟨("_law_is_finer", none), "_law_is_finer", "_law_is_finer", defArgs (top 48), defBody (top 48), defScope (top 48), [], []⟩
def d_is_parting : He.DefD := ⟨("is_parting", none), "is_parting", "is_parting", defArgs (top 36), defBody (top 36), defScope (top 36), [], []⟩
def d_want_partings : He.DefD := ⟨("want_partings", none), "want_partings", "want_partings", defArgs (top 35), defBody (top 35), defScope (top 35), [], []⟩
def d_is_finer_of : He.DefD := ⟨("is_finer_of", none), "is_finer_of", "is_finer_of", defArgs (top 32), defBody (top 32), defScope (top 32), [], []⟩
def d_is_finer : He.DefD := ⟨("is_finer", none), "is_finer", "is_finer", defArgs (top 39), defBody (top 39), defScope (top 39), [], []⟩
def d__law_between : He.DefD := ⟨("_law_between", none), "_law_between", "_law_between", defArgs (top 45), defBody (top 45), defScope (top 45), [], []⟩
def d_want_many : He.DefD := ⟨("want_many", none), "want_many", "want_many", defArgs (top 11), defBody (top 11), defScope (top 11), [], []⟩
def d_want_k : He.DefD := ⟨("want_k", none), "want_k", "want_k", defArgs (top 26), defBody (top 26), defScope (top 26), [], []⟩
def d_want_both : He.DefD := ⟨("want_both", none), "want_both", "want_both", defArgs (top 28), defBody (top 28), defScope (top 28), [], []⟩
def d_looseness_of : He.DefD := ⟨("looseness_of", none), "looseness_of", "looseness_of", defArgs (top 31), defBody (top 31), defScope (top 31), [], []⟩
def d_looseness : He.DefD := ⟨("looseness", none), "looseness", "looseness", defArgs (top 38), defBody (top 38), defScope (top 38), [], []⟩
def d__law_looseness : He.DefD := ⟨("_law_looseness", none), "_law_looseness", "_law_looseness", defArgs (top 46), defBody (top 46), defScope (top 46), [], []⟩
def d__law_ties : He.DefD := ⟨("_law_ties", none), "_law_ties", "_law_ties", defArgs (top 44), defBody (top 44), defScope (top 44), [], []⟩
def d_meet_of : He.DefD := ⟨("meet_of", none), "meet_of", "meet_of", defArgs (top 33), defBody (top 33), defScope (top 33), [], []⟩
def d_meet : He.DefD := ⟨("meet", none), "meet", "meet", defArgs (top 40), defBody (top 40), defScope (top 40), [], []⟩
def d__law_right : He.DefD := ⟨("_law_right", none), "_law_right", "_law_right", defArgs (top 50), defBody (top 50), defScope (top 50), [], []⟩
def d_law : He.DefD := ⟨("law", none), "law", "law", defArgs (top 51), defBody (top 51), defScope (top 51), [], []⟩
def fn0 : List He.DefD := [d__law_pot, d__law_meet, d_is_row, d_is_integer, d_is_count, d_is_below, d_are_ties, d_is_many, d_is_web_of, d_want_web, d_part_numbers, d_between_of, d_is_rising, d_is_place_of, d_are_places_of, d_many_of, d_is_parting_of, d_want_parting, d_between, d__law_draw, d__law_parting, d__law_is_finer, d_is_parting, d_want_partings, d_is_finer_of, d_is_finer, d__law_between, d_want_many, d_want_k, d_want_both]
def fn1 : List He.DefD := [d_looseness_of, d_looseness, d__law_looseness, d__law_ties, d_meet_of, d_meet, d__law_right, d_law]
def fn : List He.DefD := fn0 ++ fn1
def fa0 : List He.Fa := [.glo "_law_pot", .glo "_law_meet", .glo "is_row", .glo "is_integer", .glo "is_count", .glo "is_below", .glo "are_ties", .glo "is_many", .glo "is_web_of", .glo "want_web", .glo "part_numbers", .glo "between_of", .glo "is_rising", .glo "is_place_of", .glo "are_places_of", .glo "many_of", .glo "is_parting_of", .glo "want_parting", .glo "between", .glo "_law_draw", .glo "_law_parting", .glo "_law_is_finer", .glo "is_parting", .glo "want_partings", .glo "is_finer_of", .glo "is_finer", .glo "_law_between", .glo "want_many", .glo "want_k", .glo "want_both"]
def fa1 : List He.Fa := [.glo "looseness_of", .glo "looseness", .glo "_law_looseness", .glo "_law_ties", .glo "meet_of", .glo "meet", .glo "_law_right", .glo "law", .free "len", .free "abs", .free "int", .free "max", .free "tuple", .free "sorted", .free "isinstance", .free "bool", .int "MOST_TIES" 40, .free "all", .free "zip", .int "MOST_PLACES" 16, .free "str", .str "WEB" "web", .free "enumerate", .free "list", .free "range", .free "divmod", .free "any", .int "MOST_K" 6, .free "repr", .free "set"]
def fa : List He.Fa := fa0 ++ fa1
abbrev Says (K : PySem.W.Frag) : Prop := He.SaysD fa fn K
/-! ### each def keeps its reading -/
section
variable {P : Program} {w : World} {K : PySem.W.Frag} {mg : Str → Option Value} {base : Heap}
structure Has (P : Program) (w : World) (K : PySem.W.Frag) (mg : Str → Option Value) (base : Heap) (x : Str) (st : Stmt) (k : Nat) (ps : List Str) (F : OpN) (fd : FuncData) : Prop where
  m : mg x = some (.ref (He.ga K x))
  u : FunD K x x (defArgs st) (defBody st) (defScope st) [] [] (He.ga K x) fd
  b : Binds K fd ps []
  g : FnG P w K mg base k (He.ga K x) fd ps F
theorem sc__law_pot : FnScope ["script", "k", "cell"] ["script", "k"] (defScope (top 42)) := ⟨rfl, rfl, rfl, by decide +kernel, rfl, by decide +kernel, by decide +kernel⟩
theorem ok__law_pot (X : K.In base) (G : base.Ns mainGlobals mg) (c : Says K) : ∃ fd, Has P w K mg base "_law_pot" (top 42) 1 ["script", "k"] F__law_pot fd := by
  obtain ⟨fd, F⟩ := c.def_ 0 (d := d__law_pot) rfl
  have e_len : mg "len" = none := He.free_ok X G (c.fact 38 (f := .free "len") rfl)
  have e_abs : mg "abs" = none := He.free_ok X G (c.fact 39 (f := .free "abs") rfl)
  have e_int : mg "int" = none := He.free_ok X G (c.fact 40 (f := .free "int") rfl)
  have e_max : mg "max" = none := He.free_ok X G (c.fact 41 (f := .free "max") rfl)
  refine ⟨fd, He.glo_ok X G (c.fact 0 (f := .glo "_law_pot") rfl), F, F.bindsN fun _ _ _ _ _ _ us hl => match us, hl with | [_, _], _ => rfl, L3.FunD.okG F sc__law_pot fun cdv A outer s H E hr hgd => ?_⟩
  have nd := sc__law_pot.nd
  exact xss_cons (xs_set (i := 2) nd rfl (.inl rfl) (x_bin o_add (x_bin o_mul (x_int) (x_var (i := 1) rfl (.inl rfl))) (x_int))) (xss_cons (xs_if (xt_cmp (o_lt (r0 hr)) (x_var (i := 1) rfl (.inl rfl)) (x_callB o_len rfl e_len (by rfl) (xa_cons (x_var (i := 0) rfl (.inl rfl)) (xa_nil))) (by rfl)) (xss_one (xs_set (i := 2) nd rfl (.inl rfl) (x_callB o_abs rfl e_abs (by rfl) (xa_cons (x_idx (x_var (i := 0) rfl (.inl rfl)) (x_var (i := 1) rfl (.inl rfl)) (fun _ _ => rfl)) (xa_nil))))) (xss_nil)) (xss_one (xs_ret (x_lstNew (xa_cons (x_callB (o_max rfl) rfl e_max (by rfl) (xa_cons (x_int) (xa_cons (x_bin o_sub (x_var (i := 2) rfl (.inl rfl)) (x_bin o_pow (x_int) (x_int))) (xa_nil)))) (xa_cons (x_bin o_add (x_bin o_mod (x_callTy o_int rfl e_int (by rfl) (xa_cons (x_bin o_add (x_bin o_add (x_bin o_mul (x_bin o_mod (x_callTy o_int rfl e_int (by rfl) (xa_cons (x_var (i := 2) rfl (.inl rfl)) (xa_nil))) (x_int)) (x_int)) (x_bin o_mul (x_int) (x_var (i := 1) rfl (.inl rfl)))) (x_int)) (xa_nil))) (x_int)) (x_int)) (xa_nil)))))))
theorem sc__law_meet : FnScope ["one", "other", "found", "part", "late", "place"] ["one", "other"] (defScope (top 49)) := ⟨rfl, rfl, rfl, by decide +kernel, rfl, by decide +kernel, by decide +kernel⟩
theorem ok__law_meet (X : K.In base) (G : base.Ns mainGlobals mg) (c : Says K) : ∃ fd, Has P w K mg base "_law_meet" (top 49) 1 ["one", "other"] F__law_meet fd := by
  obtain ⟨fd, F⟩ := c.def_ 1 (d := d__law_meet) rfl
  have e_tuple : mg "tuple" = none := He.free_ok X G (c.fact 42 (f := .free "tuple") rfl)
  have e_sorted : mg "sorted" = none := He.free_ok X G (c.fact 43 (f := .free "sorted") rfl)
  refine ⟨fd, He.glo_ok X G (c.fact 1 (f := .glo "_law_meet") rfl), F, F.bindsN fun _ _ _ _ _ _ us hl => match us, hl with | [_, _], _ => rfl, L3.FunD.okG F sc__law_meet fun cdv A outer s H E hr hgd => ?_⟩
  have nd := sc__law_meet.nd
  exact xss_cons (xs_set (i := 2) nd rfl (.inl rfl) (x_lstNew (xa_nil))) (xss_cons (xs_for PassesOwn.leaving rfl (xi_seq (x_var (i := 0) rfl (.inl rfl))) (xg_name (i := 3) nd rfl (.inr rfl)) (xss_one (xs_exp (x_extend (x_var (i := 2) rfl (.inl rfl)) (xa_cons (x_comp (own := [("late", 4)]) rfl nd (xi_seq (x_var (i := 1) rfl (.inl rfl))) (blkOk_by (by kernel_rfl)) (fun _ _ _ _ _ => xg_name (i := 4) nd rfl (.inr rfl)) (fun _ _ _ _ _ => xts_nil) (fun _ _ _ _ _ => x_callTy o_tuple rfl e_tuple (by rfl) (xa_cons (x_comp (own := [("place", 5)]) rfl nd (xi_seq (x_var (i := 3) rfl (.inr (.inl rfl)))) (blkOk_by (by kernel_rfl)) (fun _ _ _ _ _ => xg_name (i := 5) nd rfl (.inl rfl)) (fun _ _ _ _ _ => xts_one (xt_cmp (o_in (r65 hr)) (x_var (i := 5) rfl (.inl rfl)) (x_var (i := 4) rfl (.inr (.inl rfl))) (by rfl))) (fun _ _ _ _ _ => x_var (i := 5) rfl (.inl rfl)) (by decide)) (xa_nil))) (by decide)) (xa_nil)))))) (xss_one (xs_ret (x_callTy o_tuple rfl e_tuple (by rfl) (xa_cons (x_callB (o_sorted (r100 hr)) rfl e_sorted (by rfl) (xa_cons (x_comp (own := [("part", 3)]) rfl nd (xi_seq (x_var (i := 2) rfl (.inl rfl))) (blkOk_by (by kernel_rfl)) (fun _ _ _ _ _ => xg_name (i := 3) nd rfl (.inl rfl)) (fun _ _ _ _ _ => xts_one (xt_cmp (o_ne (r64 hr)) (x_var (i := 3) rfl (.inl rfl)) (x_tup (xa_nil)) (by rfl))) (fun _ _ _ _ _ => x_var (i := 3) rfl (.inl rfl)) (by decide)) (xa_nil))) (xa_nil))))))
theorem sc_is_row : FnScope ["value", "many"] ["value", "many"] (defScope (top 9)) := ⟨rfl, rfl, rfl, by decide +kernel, rfl, by decide +kernel, by decide +kernel⟩
theorem ok_is_row (X : K.In base) (G : base.Ns mainGlobals mg) (c : Says K) : ∃ fd, Has P w K mg base "is_row" (top 9) 1 ["value", "many"] F_is_row fd := by
  obtain ⟨fd, F⟩ := c.def_ 2 (d := d_is_row) rfl
  have e_tuple : mg "tuple" = none := He.free_ok X G (c.fact 42 (f := .free "tuple") rfl)
  have e_isinstance : mg "isinstance" = none := He.free_ok X G (c.fact 44 (f := .free "isinstance") rfl)
  have e_len : mg "len" = none := He.free_ok X G (c.fact 38 (f := .free "len") rfl)
  refine ⟨fd, He.glo_ok X G (c.fact 2 (f := .glo "is_row") rfl), F, F.bindsN fun _ _ _ _ _ _ us hl => match us, hl with | [_, _], _ => rfl, L3.FunD.okG F sc_is_row fun cdv A outer s H E hr hgd => ?_⟩
  have nd := sc_is_row.nd
  exact xss_one (xs_ret (x_and (x_callB o_isinst rfl e_isinstance (by rfl) (xa_cons (x_var (i := 0) rfl (.inl rfl)) (xa_cons (x_ty rfl e_tuple (by rfl)) (xa_nil)))) (pe_one (x_cmp (o_eq (r64 hr)) (x_callB o_len rfl e_len (by rfl) (xa_cons (x_var (i := 0) rfl (.inl rfl)) (xa_nil))) (x_var (i := 1) rfl (.inl rfl)) (by rfl)))))
theorem sc_is_integer : FnScope ["value"] ["value"] (defScope (top 6)) := ⟨rfl, rfl, rfl, by decide +kernel, rfl, by decide +kernel, by decide +kernel⟩
theorem ok_is_integer (X : K.In base) (G : base.Ns mainGlobals mg) (c : Says K) : ∃ fd, Has P w K mg base "is_integer" (top 6) 1 ["value"] F_is_integer fd := by
  obtain ⟨fd, F⟩ := c.def_ 3 (d := d_is_integer) rfl
  have e_int : mg "int" = none := He.free_ok X G (c.fact 40 (f := .free "int") rfl)
  have e_isinstance : mg "isinstance" = none := He.free_ok X G (c.fact 44 (f := .free "isinstance") rfl)
  have e_bool : mg "bool" = none := He.free_ok X G (c.fact 45 (f := .free "bool") rfl)
  refine ⟨fd, He.glo_ok X G (c.fact 3 (f := .glo "is_integer") rfl), F, F.bindsN fun _ _ _ _ _ _ us hl => match us, hl with | [_], _ => rfl, L3.FunD.okG F sc_is_integer fun cdv A outer s H E hr hgd => ?_⟩
  have nd := sc_is_integer.nd
  exact xss_one (xs_ret (x_and (x_callB o_isinst rfl e_isinstance (by rfl) (xa_cons (x_var (i := 0) rfl (.inl rfl)) (xa_cons (x_ty rfl e_int (by rfl)) (xa_nil)))) (pe_one (x_not (x_callB o_isinst rfl e_isinstance (by rfl) (xa_cons (x_var (i := 0) rfl (.inl rfl)) (xa_cons (x_ty rfl e_bool (by rfl)) (xa_nil))))))))
theorem sc_is_count : FnScope ["value"] ["value"] (defScope (top 7)) := ⟨rfl, rfl, rfl, by decide +kernel, rfl, by decide +kernel, by decide +kernel⟩
theorem ok_is_count (X : K.In base) (G : base.Ns mainGlobals mg) (c : Says K) : ∃ fd, Has P w K mg base "is_count" (top 7) 2 ["value"] F_is_count fd := by
  obtain ⟨fd, F⟩ := c.def_ 4 (d := d_is_count) rfl
  obtain ⟨fd_is_integer, M_is_integer, U_is_integer, B_is_integer, G_is_integer⟩ := ok_is_integer (P := P) (w := w) X G c
  have K_is_integer := U_is_integer.kp
  refine ⟨fd, He.glo_ok X G (c.fact 4 (f := .glo "is_count") rfl), F, F.bindsN fun _ _ _ _ _ _ us hl => match us, hl with | [_], _ => rfl, L3.FunD.okG F sc_is_count fun cdv A outer s H E hr hgd => ?_⟩
  have nd := sc_is_count.nd
  exact xss_one (xs_ret (x_and (x_call (G_is_integer.mono (by decide)) B_is_integer K_is_integer hr hgd rfl M_is_integer (xa_cons (x_var (i := 0) rfl (.inl rfl)) (xa_nil))) (pe_one (x_cmp o_ge (x_var (i := 0) rfl (.inl rfl)) (x_int) (by rfl)))))
theorem sc_is_below : FnScope ["value", "many"] ["value", "many"] (defScope (top 8)) := ⟨rfl, rfl, rfl, by decide +kernel, rfl, by decide +kernel, by decide +kernel⟩
theorem ok_is_below (X : K.In base) (G : base.Ns mainGlobals mg) (c : Says K) : ∃ fd, Has P w K mg base "is_below" (top 8) 3 ["value", "many"] F_is_below fd := by
  obtain ⟨fd, F⟩ := c.def_ 5 (d := d_is_below) rfl
  obtain ⟨fd_is_count, M_is_count, U_is_count, B_is_count, G_is_count⟩ := ok_is_count (P := P) (w := w) X G c
  have K_is_count := U_is_count.kp
  refine ⟨fd, He.glo_ok X G (c.fact 5 (f := .glo "is_below") rfl), F, F.bindsN fun _ _ _ _ _ _ us hl => match us, hl with | [_, _], _ => rfl, L3.FunD.okG F sc_is_below fun cdv A outer s H E hr hgd => ?_⟩
  have nd := sc_is_below.nd
  exact xss_one (xs_ret (x_and (x_call (G_is_count.mono (by decide)) B_is_count K_is_count hr hgd rfl M_is_count (xa_cons (x_var (i := 0) rfl (.inl rfl)) (xa_nil))) (pe_one (x_cmp (o_lt (r0 hr)) (x_var (i := 0) rfl (.inl rfl)) (x_var (i := 1) rfl (.inl rfl)) (by rfl)))))
theorem sc_are_ties : FnScope ["many", "value", "tie", "one", "other", "near", "far"] ["many", "value"] (defScope (top 17)) := ⟨rfl, rfl, rfl, by decide +kernel, rfl, by decide +kernel, by decide +kernel⟩
theorem ok_are_ties (X : K.In base) (G : base.Ns mainGlobals mg) (c : Says K) : ∃ fd, Has P w K mg base "are_ties" (top 17) 4 ["many", "value"] F_are_ties fd := by
  obtain ⟨fd, F⟩ := c.def_ 6 (d := d_are_ties) rfl
  have e_tuple : mg "tuple" = none := He.free_ok X G (c.fact 42 (f := .free "tuple") rfl)
  have e_isinstance : mg "isinstance" = none := He.free_ok X G (c.fact 44 (f := .free "isinstance") rfl)
  have e_len : mg "len" = none := He.free_ok X G (c.fact 38 (f := .free "len") rfl)
  obtain ⟨t_MOST_TIES, e_MOST_TIES⟩ := He.int_ok X G (c.fact 46 (f := .int "MOST_TIES" 40) rfl)
  have e_all : mg "all" = none := He.free_ok X G (c.fact 47 (f := .free "all") rfl)
  have e_zip : mg "zip" = none := He.free_ok X G (c.fact 48 (f := .free "zip") rfl)
  obtain ⟨fd_is_row, M_is_row, U_is_row, B_is_row, G_is_row⟩ := ok_is_row (P := P) (w := w) X G c
  have K_is_row := U_is_row.kp
  obtain ⟨fd_is_below, M_is_below, U_is_below, B_is_below, G_is_below⟩ := ok_is_below (P := P) (w := w) X G c
  have K_is_below := U_is_below.kp
  refine ⟨fd, He.glo_ok X G (c.fact 6 (f := .glo "are_ties") rfl), F, F.bindsN fun _ _ _ _ _ _ us hl => match us, hl with | [_, _], _ => rfl, L3.FunD.okG F sc_are_ties fun cdv A outer s H E hr hgd => ?_⟩
  have nd := sc_are_ties.nd
  exact xss_cons (xs_if (PW.pt (xw_or (xt_not (xt_val (x_callB o_isinst rfl e_isinstance (by rfl) (xa_cons (x_var (i := 1) rfl (.inl rfl)) (xa_cons (x_ty rfl e_tuple (by rfl)) (xa_nil)))))) (xw_or (xt_cmp o_gt (x_callB o_len rfl e_len (by rfl) (xa_cons (x_var (i := 1) rfl (.inl rfl)) (xa_nil))) (x_globI rfl e_MOST_TIES) (by rfl)) (pw_or1 (xt_not (xt_val (x_callB (o_all rfl) rfl e_all (by rfl) (xa_cons (x_comp (own := [("tie", 2)]) rfl nd (xi_seq (x_var (i := 1) rfl (.inl rfl))) (blkOk_by (by kernel_rfl)) (fun _ _ _ _ _ => xg_name (i := 2) nd rfl (.inl rfl)) (fun _ _ _ _ _ => xts_nil) (fun _ _ _ _ _ => x_call (G_is_row.mono (by decide)) B_is_row K_is_row hr hgd rfl M_is_row (xa_cons (x_var (i := 2) rfl (.inl rfl)) (xa_cons (x_int) (xa_nil)))) (by decide)) (xa_nil))))))))) (xss_one (xs_ret (x_bl))) (xss_nil)) (xss_cons (xs_if (xt_not (xt_val (x_callB (o_all rfl) rfl e_all (by rfl) (xa_cons (x_comp (own := [("one", 3), ("other", 4)]) rfl nd (xi_seq (x_var (i := 1) rfl (.inl rfl))) (blkOk_by (by kernel_rfl)) (fun _ _ _ _ _ => xg_tup rfl (xgs_cons (xg_name (i := 3) nd rfl (.inl rfl)) (xgs_cons (xg_name (i := 4) nd rfl (.inl rfl)) (xgs_nil)))) (fun _ _ _ _ _ => xts_nil) (fun _ _ _ _ _ => x_and (x_call (G_is_below.mono (by decide)) B_is_below K_is_below hr hgd rfl M_is_below (xa_cons (x_var (i := 3) rfl (.inl rfl)) (xa_cons (x_var (i := 0) rfl (.inr (.inl rfl))) (xa_nil)))) (x_and (x_call (G_is_below.mono (by decide)) B_is_below K_is_below hr hgd rfl M_is_below (xa_cons (x_var (i := 4) rfl (.inl rfl)) (xa_cons (x_var (i := 0) rfl (.inr (.inl rfl))) (xa_nil)))) (pe_one (x_cmp (o_lt (r0 hr)) (x_var (i := 3) rfl (.inl rfl)) (x_var (i := 4) rfl (.inl rfl)) (by rfl))))) (by decide)) (xa_nil))))) (xss_one (xs_ret (x_bl))) (xss_nil)) (xss_one (xs_ret (x_callB (o_all rfl) rfl e_all (by rfl) (xa_cons (x_comp (own := [("near", 5), ("far", 6)]) rfl nd (xi_zip rfl e_zip (x_var (i := 1) rfl (.inl rfl)) (x_slice (x_var (i := 1) rfl (.inl rfl)) (xp_some (x_int)) (xp_none))) (blkOk_by (by kernel_rfl)) (fun _ _ _ _ _ => xg_tup rfl (xgs_cons (xg_name (i := 5) nd rfl (.inl rfl)) (xgs_cons (xg_name (i := 6) nd rfl (.inl rfl)) (xgs_nil)))) (fun _ _ _ _ _ => xts_nil) (fun _ _ _ _ _ => x_cmp (o_le (r0 hr)) (x_var (i := 5) rfl (.inl rfl)) (x_var (i := 6) rfl (.inl rfl)) (by rfl)) (by decide)) (xa_nil))))))
theorem sc_is_many : FnScope ["value"] ["value"] (defScope (top 18)) := ⟨rfl, rfl, rfl, by decide +kernel, rfl, by decide +kernel, by decide +kernel⟩
theorem ok_is_many (X : K.In base) (G : base.Ns mainGlobals mg) (c : Says K) : ∃ fd, Has P w K mg base "is_many" (top 18) 2 ["value"] F_is_many fd := by
  obtain ⟨fd, F⟩ := c.def_ 7 (d := d_is_many) rfl
  obtain ⟨t_MOST_PLACES, e_MOST_PLACES⟩ := He.int_ok X G (c.fact 49 (f := .int "MOST_PLACES" 16) rfl)
  obtain ⟨fd_is_integer, M_is_integer, U_is_integer, B_is_integer, G_is_integer⟩ := ok_is_integer (P := P) (w := w) X G c
  have K_is_integer := U_is_integer.kp
  refine ⟨fd, He.glo_ok X G (c.fact 7 (f := .glo "is_many") rfl), F, F.bindsN fun _ _ _ _ _ _ us hl => match us, hl with | [_], _ => rfl, L3.FunD.okG F sc_is_many fun cdv A outer s H E hr hgd => ?_⟩
  have nd := sc_is_many.nd
  exact xss_one (xs_ret (x_and (x_call (G_is_integer.mono (by decide)) B_is_integer K_is_integer hr hgd rfl M_is_integer (xa_cons (x_var (i := 0) rfl (.inl rfl)) (xa_nil))) (pe_one (x_chain (o_le (r0 hr)) (o_le (r0 hr)) (x_int) (x_var (i := 0) rfl (.inl rfl)) (x_globI rfl e_MOST_PLACES)))))
theorem sc_is_web_of : FnScope ["value"] ["value"] (defScope (top 19)) := ⟨rfl, rfl, rfl, by decide +kernel, rfl, by decide +kernel, by decide +kernel⟩
theorem ok_is_web_of (X : K.In base) (G : base.Ns mainGlobals mg) (c : Says K) : ∃ fd, Has P w K mg base "is_web_of" (top 19) 5 ["value"] F_is_web_of fd := by
  obtain ⟨fd, F⟩ := c.def_ 8 (d := d_is_web_of) rfl
  have e_str : mg "str" = none := He.free_ok X G (c.fact 50 (f := .free "str") rfl)
  have e_isinstance : mg "isinstance" = none := He.free_ok X G (c.fact 44 (f := .free "isinstance") rfl)
  obtain ⟨t_WEB, e_WEB⟩ := He.str_ok X G (c.fact 51 (f := .str "WEB" "web") rfl)
  obtain ⟨fd_is_row, M_is_row, U_is_row, B_is_row, G_is_row⟩ := ok_is_row (P := P) (w := w) X G c
  have K_is_row := U_is_row.kp
  obtain ⟨fd_is_many, M_is_many, U_is_many, B_is_many, G_is_many⟩ := ok_is_many (P := P) (w := w) X G c
  have K_is_many := U_is_many.kp
  obtain ⟨fd_are_ties, M_are_ties, U_are_ties, B_are_ties, G_are_ties⟩ := ok_are_ties (P := P) (w := w) X G c
  have K_are_ties := U_are_ties.kp
  refine ⟨fd, He.glo_ok X G (c.fact 8 (f := .glo "is_web_of") rfl), F, F.bindsN fun _ _ _ _ _ _ us hl => match us, hl with | [_], _ => rfl, L3.FunD.okG F sc_is_web_of fun cdv A outer s H E hr hgd => ?_⟩
  have nd := sc_is_web_of.nd
  exact xss_cons (xs_if (PW.pt (xw_or (xt_not (xt_val (x_call (G_is_row.mono (by decide)) B_is_row K_is_row hr hgd rfl M_is_row (xa_cons (x_var (i := 0) rfl (.inl rfl)) (xa_cons (x_int) (xa_nil)))))) (xw_or (xt_not (xt_val (x_callB o_isinst rfl e_isinstance (by rfl) (xa_cons (x_idx (x_var (i := 0) rfl (.inl rfl)) (x_int) (fun _ _ => rfl)) (xa_cons (x_ty rfl e_str (by rfl)) (xa_nil)))))) (xw_or (xt_cmp (o_ne (r64 hr)) (x_idx (x_var (i := 0) rfl (.inl rfl)) (x_int) (fun _ _ => rfl)) (x_globS rfl e_WEB) (by rfl)) (pw_or1 (xt_not (xt_val (x_call (G_is_many.mono (by decide)) B_is_many K_is_many hr hgd rfl M_is_many (xa_cons (x_idx (x_var (i := 0) rfl (.inl rfl)) (x_int) (fun _ _ => rfl)) (xa_nil)))))))))) (xss_one (xs_ret (x_bl))) (xss_nil)) (xss_one (xs_ret (x_call (G_are_ties.mono (by decide)) B_are_ties K_are_ties hr hgd rfl M_are_ties (xa_cons (x_idx (x_var (i := 0) rfl (.inl rfl)) (x_int) (fun _ _ => rfl)) (xa_cons (x_idx (x_var (i := 0) rfl (.inl rfl)) (x_int) (fun _ _ => rfl)) (xa_nil))))))
theorem sc_want_web : FnScope ["value"] ["value"] (defScope (top 25)) := ⟨rfl, rfl, rfl, by decide +kernel, rfl, by decide +kernel, by decide +kernel⟩
theorem ok_want_web (X : K.In base) (G : base.Ns mainGlobals mg) (c : Says K) : ∃ fd, Has P w K mg base "want_web" (top 25) 6 ["value"] F_want_web fd := by
  obtain ⟨fd, F⟩ := c.def_ 9 (d := d_want_web) rfl
  obtain ⟨fd_is_web_of, M_is_web_of, U_is_web_of, B_is_web_of, G_is_web_of⟩ := ok_is_web_of (P := P) (w := w) X G c
  have K_is_web_of := U_is_web_of.kp
  refine ⟨fd, He.glo_ok X G (c.fact 9 (f := .glo "want_web") rfl), F, F.bindsN fun _ _ _ _ _ _ us hl => match us, hl with | [_], _ => rfl, L3.FunD.okG F sc_want_web fun cdv A outer s H E hr hgd => ?_⟩
  have nd := sc_want_web.nd
  exact xss_cons (xs_if (xt_not (xt_val (x_call (G_is_web_of.mono (by decide)) B_is_web_of K_is_web_of hr hgd rfl M_is_web_of (xa_cons (x_var (i := 0) rfl (.inl rfl)) (xa_nil))))) (xss_one (xs_bad)) (xss_nil)) (xss_one (xs_ret (x_var (i := 0) rfl (.inl rfl))))
theorem sc_part_numbers : FnScope ["parting", "found", "at", "part", "place"] ["parting"] (defScope (top 23)) := ⟨rfl, rfl, rfl, by decide +kernel, rfl, by decide +kernel, by decide +kernel⟩
theorem ok_part_numbers (X : K.In base) (G : base.Ns mainGlobals mg) (c : Says K) : ∃ fd, Has P w K mg base "part_numbers" (top 23) 1 ["parting"] F_part_numbers fd := by
  obtain ⟨fd, F⟩ := c.def_ 10 (d := d_part_numbers) rfl
  have e_enumerate : mg "enumerate" = none := He.free_ok X G (c.fact 52 (f := .free "enumerate") rfl)
  refine ⟨fd, He.glo_ok X G (c.fact 10 (f := .glo "part_numbers") rfl), F, F.bindsN fun _ _ _ _ _ _ us hl => match us, hl with | [_], _ => rfl, L3.FunD.okG F sc_part_numbers fun cdv A outer s H E hr hgd => ?_⟩
  have nd := sc_part_numbers.nd
  exact xss_cons (xs_set (i := 1) nd rfl (.inl rfl) (x_dictNew)) (xss_cons (xs_for PassesOwn.leaving rfl (xi_enum rfl e_enumerate (x_var (i := 0) rfl (.inl rfl))) (xg_tup rfl (xgs_cons (xg_name (i := 2) nd rfl (.inr rfl)) (xgs_cons (xg_name (i := 3) nd rfl (.inl rfl)) (xgs_nil)))) (xss_one (xs_exp (x_updC (own := [("place", 4)]) (x_var (i := 1) rfl (.inl rfl)) rfl nd (xi_seq (x_var (i := 3) rfl (.inl rfl))) (blkOk_by (by kernel_rfl)) (fun _ _ _ _ _ => xg_name (i := 4) nd rfl (.inl rfl)) (fun _ _ _ _ _ => xts_nil) (fun _ _ _ _ _ => x_var (i := 4) rfl (.inl rfl)) (fun _ _ _ _ _ => x_var (i := 2) rfl (.inr (.inl rfl))) (by decide))))) (xss_one (xs_ret (x_var (i := 1) rfl (.inl rfl)))))
theorem sc_between_of : FnScope ["web", "parting", "part_at", "tie", "ends"] ["web", "parting"] (defScope (top 24)) := ⟨rfl, rfl, rfl, by decide +kernel, rfl, by decide +kernel, by decide +kernel⟩
theorem ok_between_of (X : K.In base) (G : base.Ns mainGlobals mg) (c : Says K) : ∃ fd, Has P w K mg base "between_of" (top 24) 2 ["web", "parting"] F_between_of fd := by
  obtain ⟨fd, F⟩ := c.def_ 11 (d := d_between_of) rfl
  have e_enumerate : mg "enumerate" = none := He.free_ok X G (c.fact 52 (f := .free "enumerate") rfl)
  have e_tuple : mg "tuple" = none := He.free_ok X G (c.fact 42 (f := .free "tuple") rfl)
  obtain ⟨fd_part_numbers, M_part_numbers, U_part_numbers, B_part_numbers, G_part_numbers⟩ := ok_part_numbers (P := P) (w := w) X G c
  have K_part_numbers := U_part_numbers.kp
  refine ⟨fd, He.glo_ok X G (c.fact 11 (f := .glo "between_of") rfl), F, F.bindsN fun _ _ _ _ _ _ us hl => match us, hl with | [_, _], _ => rfl, L3.FunD.okG F sc_between_of fun cdv A outer s H E hr hgd => ?_⟩
  have nd := sc_between_of.nd
  exact xss_cons (xs_set (i := 2) nd rfl (.inr rfl) (x_call (G_part_numbers.mono (by decide)) B_part_numbers K_part_numbers hr hgd rfl M_part_numbers (xa_cons (x_var (i := 1) rfl (.inl rfl)) (xa_nil)))) (xss_one (xs_ret (x_callTy o_tuple rfl e_tuple (by rfl) (xa_cons (x_comp (own := [("tie", 3), ("ends", 4)]) rfl nd (xi_enum rfl e_enumerate (x_idx (x_var (i := 0) rfl (.inl rfl)) (x_int) (fun _ _ => rfl))) (blkOk_by (by kernel_rfl)) (fun _ _ _ _ _ => xg_tup rfl (xgs_cons (xg_name (i := 3) nd rfl (.inl rfl)) (xgs_cons (xg_name (i := 4) nd rfl (.inl rfl)) (xgs_nil)))) (fun _ _ _ _ _ => xts_one (xt_cmp (o_ne (r64 hr)) (x_getD (r1 hr) (x_var (i := 2) rfl (.inr (.inl rfl))) (x_idx (x_var (i := 4) rfl (.inl rfl)) (x_int) (fun _ _ => rfl)) (fun _ _ => rfl)) (x_getD (r1 hr) (x_var (i := 2) rfl (.inr (.inl rfl))) (x_idx (x_var (i := 4) rfl (.inl rfl)) (x_int) (fun _ _ => rfl)) (fun _ _ => rfl)) (by rfl))) (fun _ _ _ _ _ => x_var (i := 3) rfl (.inl rfl)) (by decide)) (xa_nil)))))
theorem sc_is_rising : FnScope ["items", "near", "far"] ["items"] (defScope (top 10)) := ⟨rfl, rfl, rfl, by decide +kernel, rfl, by decide +kernel, by decide +kernel⟩
theorem ok_is_rising (X : K.In base) (G : base.Ns mainGlobals mg) (c : Says K) : ∃ fd, Has P w K mg base "is_rising" (top 10) 1 ["items"] F_is_rising fd := by
  obtain ⟨fd, F⟩ := c.def_ 12 (d := d_is_rising) rfl
  have e_zip : mg "zip" = none := He.free_ok X G (c.fact 48 (f := .free "zip") rfl)
  have e_all : mg "all" = none := He.free_ok X G (c.fact 47 (f := .free "all") rfl)
  refine ⟨fd, He.glo_ok X G (c.fact 12 (f := .glo "is_rising") rfl), F, F.bindsN fun _ _ _ _ _ _ us hl => match us, hl with | [_], _ => rfl, L3.FunD.okG F sc_is_rising fun cdv A outer s H E hr hgd => ?_⟩
  have nd := sc_is_rising.nd
  exact xss_one (xs_ret (x_callB (o_all rfl) rfl e_all (by rfl) (xa_cons (x_comp (own := [("near", 1), ("far", 2)]) rfl nd (xi_zip rfl e_zip (x_var (i := 0) rfl (.inl rfl)) (x_slice (x_var (i := 0) rfl (.inl rfl)) (xp_some (x_int)) (xp_none))) (blkOk_by (by kernel_rfl)) (fun _ _ _ _ _ => xg_tup rfl (xgs_cons (xg_name (i := 1) nd rfl (.inl rfl)) (xgs_cons (xg_name (i := 2) nd rfl (.inl rfl)) (xgs_nil)))) (fun _ _ _ _ _ => xts_nil) (fun _ _ _ _ _ => x_cmp (o_lt (r0 hr)) (x_var (i := 1) rfl (.inl rfl)) (x_var (i := 2) rfl (.inl rfl)) (by rfl)) (by decide)) (xa_nil))))
theorem sc_is_place_of : FnScope ["web", "value"] ["web", "value"] (defScope (top 20)) := ⟨rfl, rfl, rfl, by decide +kernel, rfl, by decide +kernel, by decide +kernel⟩
theorem ok_is_place_of (X : K.In base) (G : base.Ns mainGlobals mg) (c : Says K) : ∃ fd, Has P w K mg base "is_place_of" (top 20) 4 ["web", "value"] F_is_place_of fd := by
  obtain ⟨fd, F⟩ := c.def_ 13 (d := d_is_place_of) rfl
  obtain ⟨fd_is_below, M_is_below, U_is_below, B_is_below, G_is_below⟩ := ok_is_below (P := P) (w := w) X G c
  have K_is_below := U_is_below.kp
  refine ⟨fd, He.glo_ok X G (c.fact 13 (f := .glo "is_place_of") rfl), F, F.bindsN fun _ _ _ _ _ _ us hl => match us, hl with | [_, _], _ => rfl, L3.FunD.okG F sc_is_place_of fun cdv A outer s H E hr hgd => ?_⟩
  have nd := sc_is_place_of.nd
  exact xss_one (xs_ret (x_call (G_is_below.mono (by decide)) B_is_below K_is_below hr hgd rfl M_is_below (xa_cons (x_var (i := 1) rfl (.inl rfl)) (xa_cons (x_idx (x_var (i := 0) rfl (.inl rfl)) (x_int) (fun _ _ => rfl)) (xa_nil)))))
theorem sc_are_places_of : FnScope ["web", "value", "place"] ["web", "value"] (defScope (top 21)) := ⟨rfl, rfl, rfl, by decide +kernel, rfl, by decide +kernel, by decide +kernel⟩
theorem ok_are_places_of (X : K.In base) (G : base.Ns mainGlobals mg) (c : Says K) : ∃ fd, Has P w K mg base "are_places_of" (top 21) 5 ["web", "value"] F_are_places_of fd := by
  obtain ⟨fd, F⟩ := c.def_ 14 (d := d_are_places_of) rfl
  have e_tuple : mg "tuple" = none := He.free_ok X G (c.fact 42 (f := .free "tuple") rfl)
  have e_isinstance : mg "isinstance" = none := He.free_ok X G (c.fact 44 (f := .free "isinstance") rfl)
  have e_all : mg "all" = none := He.free_ok X G (c.fact 47 (f := .free "all") rfl)
  obtain ⟨fd_is_place_of, M_is_place_of, U_is_place_of, B_is_place_of, G_is_place_of⟩ := ok_is_place_of (P := P) (w := w) X G c
  have K_is_place_of := U_is_place_of.kp
  obtain ⟨fd_is_rising, M_is_rising, U_is_rising, B_is_rising, G_is_rising⟩ := ok_is_rising (P := P) (w := w) X G c
  have K_is_rising := U_is_rising.kp
  refine ⟨fd, He.glo_ok X G (c.fact 14 (f := .glo "are_places_of") rfl), F, F.bindsN fun _ _ _ _ _ _ us hl => match us, hl with | [_, _], _ => rfl, L3.FunD.okG F sc_are_places_of fun cdv A outer s H E hr hgd => ?_⟩
  have nd := sc_are_places_of.nd
  exact xss_one (xs_ret (x_and (x_callB o_isinst rfl e_isinstance (by rfl) (xa_cons (x_var (i := 1) rfl (.inl rfl)) (xa_cons (x_ty rfl e_tuple (by rfl)) (xa_nil)))) (x_and (x_callB (o_all rfl) rfl e_all (by rfl) (xa_cons (x_comp (own := [("place", 2)]) rfl nd (xi_seq (x_var (i := 1) rfl (.inl rfl))) (blkOk_by (by kernel_rfl)) (fun _ _ _ _ _ => xg_name (i := 2) nd rfl (.inl rfl)) (fun _ _ _ _ _ => xts_nil) (fun _ _ _ _ _ => x_call (G_is_place_of.mono (by decide)) B_is_place_of K_is_place_of hr hgd rfl M_is_place_of (xa_cons (x_var (i := 0) rfl (.inr (.inl rfl))) (xa_cons (x_var (i := 2) rfl (.inl rfl)) (xa_nil)))) (by decide)) (xa_nil))) (pe_one (x_call (G_is_rising.mono (by decide)) B_is_rising K_is_rising hr hgd rfl M_is_rising (xa_cons (x_var (i := 1) rfl (.inl rfl)) (xa_nil)))))))
theorem sc_many_of : FnScope ["web"] ["web"] (defScope (top 22)) := ⟨rfl, rfl, rfl, by decide +kernel, rfl, by decide +kernel, by decide +kernel⟩
theorem ok_many_of (X : K.In base) (G : base.Ns mainGlobals mg) (c : Says K) : ∃ fd, Has P w K mg base "many_of" (top 22) 1 ["web"] F_many_of fd := by
  obtain ⟨fd, F⟩ := c.def_ 15 (d := d_many_of) rfl
  refine ⟨fd, He.glo_ok X G (c.fact 15 (f := .glo "many_of") rfl), F, F.bindsN fun _ _ _ _ _ _ us hl => match us, hl with | [_], _ => rfl, L3.FunD.okG F sc_many_of fun cdv A outer s H E hr hgd => ?_⟩
  have nd := sc_many_of.nd
  exact xss_one (xs_ret (x_idx (x_var (i := 0) rfl (.inl rfl)) (x_int) (fun _ _ => rfl)))
theorem sc_is_parting_of : FnScope ["web", "value", "found", "part"] ["web", "value"] (defScope (top 30)) := ⟨rfl, rfl, rfl, by decide +kernel, rfl, by decide +kernel, by decide +kernel⟩
theorem ok_is_parting_of (X : K.In base) (G : base.Ns mainGlobals mg) (c : Says K) : ∃ fd, Has P w K mg base "is_parting_of" (top 30) 6 ["web", "value"] F_is_parting_of fd := by
  obtain ⟨fd, F⟩ := c.def_ 16 (d := d_is_parting_of) rfl
  have e_tuple : mg "tuple" = none := He.free_ok X G (c.fact 42 (f := .free "tuple") rfl)
  have e_isinstance : mg "isinstance" = none := He.free_ok X G (c.fact 44 (f := .free "isinstance") rfl)
  have e_len : mg "len" = none := He.free_ok X G (c.fact 38 (f := .free "len") rfl)
  have e_all : mg "all" = none := He.free_ok X G (c.fact 47 (f := .free "all") rfl)
  have e_list : mg "list" = none := He.free_ok X G (c.fact 53 (f := .free "list") rfl)
  have e_sorted : mg "sorted" = none := He.free_ok X G (c.fact 43 (f := .free "sorted") rfl)
  have e_range : mg "range" = none := He.free_ok X G (c.fact 54 (f := .free "range") rfl)
  obtain ⟨fd_are_places_of, M_are_places_of, U_are_places_of, B_are_places_of, G_are_places_of⟩ := ok_are_places_of (P := P) (w := w) X G c
  have K_are_places_of := U_are_places_of.kp
  obtain ⟨fd_is_rising, M_is_rising, U_is_rising, B_is_rising, G_is_rising⟩ := ok_is_rising (P := P) (w := w) X G c
  have K_is_rising := U_is_rising.kp
  obtain ⟨fd_many_of, M_many_of, U_many_of, B_many_of, G_many_of⟩ := ok_many_of (P := P) (w := w) X G c
  have K_many_of := U_many_of.kp
  refine ⟨fd, He.glo_ok X G (c.fact 16 (f := .glo "is_parting_of") rfl), F, F.bindsN fun _ _ _ _ _ _ us hl => match us, hl with | [_, _], _ => rfl, L3.FunD.okG F sc_is_parting_of fun cdv A outer s H E hr hgd => ?_⟩
  have nd := sc_is_parting_of.nd
  exact xss_cons (xs_if (PW.pt (xw_or (xt_not (xt_val (x_callB o_isinst rfl e_isinstance (by rfl) (xa_cons (x_var (i := 1) rfl (.inl rfl)) (xa_cons (x_ty rfl e_tuple (by rfl)) (xa_nil)))))) (xw_or (xt_cmp (o_lt (r0 hr)) (x_callB o_len rfl e_len (by rfl) (xa_cons (x_var (i := 1) rfl (.inl rfl)) (xa_nil))) (x_int) (by rfl)) (pw_or1 (xt_not (xt_val (x_callB (o_all rfl) rfl e_all (by rfl) (xa_cons (x_comp (own := [("part", 3)]) rfl nd (xi_seq (x_var (i := 1) rfl (.inl rfl))) (blkOk_by (by kernel_rfl)) (fun _ _ _ _ _ => xg_name (i := 3) nd rfl (.inl rfl)) (fun _ _ _ _ _ => xts_nil) (fun _ _ _ _ _ => x_call (G_are_places_of.mono (by decide)) B_are_places_of K_are_places_of hr hgd rfl M_are_places_of (xa_cons (x_var (i := 0) rfl (.inr (.inl rfl))) (xa_cons (x_var (i := 3) rfl (.inl rfl)) (xa_nil)))) (by decide)) (xa_nil))))))))) (xss_one (xs_ret (x_bl))) (xss_nil)) (xss_cons (xs_set (i := 2) nd rfl (.inl rfl) (x_lstNew (xa_nil))) (xss_cons (xs_for PassesOwn.leaving rfl (xi_seq (x_var (i := 1) rfl (.inl rfl))) (xg_name (i := 3) nd rfl (.inl rfl)) (xss_one (xs_exp (x_extend (x_var (i := 2) rfl (.inl rfl)) (xa_cons (x_callTy o_list rfl e_list (by rfl) (xa_cons (x_var (i := 3) rfl (.inl rfl)) (xa_nil))) (xa_nil)))))) (xss_one (xs_ret (x_and (x_call (G_is_rising.mono (by decide)) B_is_rising K_is_rising hr hgd rfl M_is_rising (xa_cons (x_var (i := 1) rfl (.inl rfl)) (xa_nil))) (x_and (x_cmp (o_notIn (r65 hr)) (x_tup (xa_nil)) (x_var (i := 1) rfl (.inl rfl)) (by rfl)) (pe_one (x_cmp (o_eq (r64 hr)) (x_callB (o_sorted (r100 hr)) rfl e_sorted (by rfl) (xa_cons (x_var (i := 2) rfl (.inl rfl)) (xa_nil))) (x_listRg1 rfl rfl e_list rfl e_range (x_call (G_many_of.mono (by decide)) B_many_of K_many_of hr hgd rfl M_many_of (xa_cons (x_var (i := 0) rfl (.inr (.inl rfl))) (xa_nil)))) (by rfl)))))))))
theorem sc_want_parting : FnScope ["web", "value"] ["web", "value"] (defScope (top 34)) := ⟨rfl, rfl, rfl, by decide +kernel, rfl, by decide +kernel, by decide +kernel⟩
theorem ok_want_parting (X : K.In base) (G : base.Ns mainGlobals mg) (c : Says K) : ∃ fd, Has P w K mg base "want_parting" (top 34) 7 ["web", "value"] F_want_parting fd := by
  obtain ⟨fd, F⟩ := c.def_ 17 (d := d_want_parting) rfl
  obtain ⟨fd_is_parting_of, M_is_parting_of, U_is_parting_of, B_is_parting_of, G_is_parting_of⟩ := ok_is_parting_of (P := P) (w := w) X G c
  have K_is_parting_of := U_is_parting_of.kp
  refine ⟨fd, He.glo_ok X G (c.fact 17 (f := .glo "want_parting") rfl), F, F.bindsN fun _ _ _ _ _ _ us hl => match us, hl with | [_, _], _ => rfl, L3.FunD.okG F sc_want_parting fun cdv A outer s H E hr hgd => ?_⟩
  have nd := sc_want_parting.nd
  exact xss_cons (xs_if (xt_not (xt_val (x_call (G_is_parting_of.mono (by decide)) B_is_parting_of K_is_parting_of hr hgd rfl M_is_parting_of (xa_cons (x_var (i := 0) rfl (.inl rfl)) (xa_cons (x_var (i := 1) rfl (.inl rfl)) (xa_nil)))))) (xss_one (xs_bad)) (xss_nil)) (xss_one (xs_ret (x_var (i := 1) rfl (.inl rfl))))
theorem sc_between : FnScope ["web", "parting"] ["web", "parting"] (defScope (top 37)) := ⟨rfl, rfl, rfl, by decide +kernel, rfl, by decide +kernel, by decide +kernel⟩
theorem ok_between (X : K.In base) (G : base.Ns mainGlobals mg) (c : Says K) : ∃ fd, Has P w K mg base "between" (top 37) 8 ["web", "parting"] F_between fd := by
  obtain ⟨fd, F⟩ := c.def_ 18 (d := d_between) rfl
  obtain ⟨fd_want_web, M_want_web, U_want_web, B_want_web, G_want_web⟩ := ok_want_web (P := P) (w := w) X G c
  have K_want_web := U_want_web.kp
  obtain ⟨fd_between_of, M_between_of, U_between_of, B_between_of, G_between_of⟩ := ok_between_of (P := P) (w := w) X G c
  have K_between_of := U_between_of.kp
  obtain ⟨fd_want_parting, M_want_parting, U_want_parting, B_want_parting, G_want_parting⟩ := ok_want_parting (P := P) (w := w) X G c
  have K_want_parting := U_want_parting.kp
  refine ⟨fd, He.glo_ok X G (c.fact 18 (f := .glo "between") rfl), F, F.bindsN fun _ _ _ _ _ _ us hl => match us, hl with | [_, _], _ => rfl, L3.FunD.okG F sc_between fun cdv A outer s H E hr hgd => ?_⟩
  have nd := sc_between.nd
  exact xss_cons (xs_exp (x_call (G_want_web.mono (by decide)) B_want_web K_want_web hr hgd rfl M_want_web (xa_cons (x_var (i := 0) rfl (.inl rfl)) (xa_nil)))) (xss_one (xs_ret (x_call (G_between_of.mono (by decide)) B_between_of K_between_of hr hgd rfl M_between_of (xa_cons (x_var (i := 0) rfl (.inl rfl)) (xa_cons (x_call (G_want_parting.mono (by decide)) B_want_parting K_want_parting hr hgd rfl M_want_parting (xa_cons (x_var (i := 0) rfl (.inl rfl)) (xa_cons (x_var (i := 1) rfl (.inl rfl)) (xa_nil)))) (xa_nil))))))
theorem sc__law_draw : FnScope ["pot", "many", "digit"] ["pot", "many"] (defScope (top 43)) := ⟨rfl, rfl, rfl, by decide +kernel, rfl, by decide +kernel, by decide +kernel⟩
theorem ok__law_draw (X : K.In base) (G : base.Ns mainGlobals mg) (c : Says K) : ∃ fd, Has P w K mg base "_law_draw" (top 43) 1 ["pot", "many"] F__law_draw fd := by
  obtain ⟨fd, F⟩ := c.def_ 19 (d := d__law_draw) rfl
  have e_divmod : mg "divmod" = none := He.free_ok X G (c.fact 55 (f := .free "divmod") rfl)
  have e_int : mg "int" = none := He.free_ok X G (c.fact 40 (f := .free "int") rfl)
  refine ⟨fd, He.glo_ok X G (c.fact 19 (f := .glo "_law_draw") rfl), F, F.bindsN fun _ _ _ _ _ _ us hl => match us, hl with | [_, _], _ => rfl, L3.FunD.okG F sc__law_draw fun cdv A outer s H E hr hgd => ?_⟩
  have nd := sc__law_draw.nd
  exact xss_cons (xs_if (xt_cmp o_gt (x_idx (x_var (i := 0) rfl (.inl rfl)) (x_int) (fun _ _ => rfl)) (x_int) (by rfl)) (xss_cons (xs_asg (x_callB o_divmod rfl e_divmod (by rfl) (xa_cons (x_idx (x_var (i := 0) rfl (.inl rfl)) (x_int) (fun _ _ => rfl)) (xa_cons (x_var (i := 1) rfl (.inl rfl)) (xa_nil)))) (xg_tup rfl (xgs_cons (xg_sub (x_var (i := 0) rfl (.inl rfl)) (x_int)) (xgs_cons (xg_name (i := 2) nd rfl (.inl rfl)) (xgs_nil))))) (xss_one (xs_ret (x_var (i := 2) rfl (.inl rfl))))) (xss_nil)) (xss_cons (xs_asg (x_bin o_mod (x_callTy o_int rfl e_int (by rfl) (xa_cons (x_bin o_add (x_bin o_mul (x_idx (x_var (i := 0) rfl (.inl rfl)) (x_int) (fun _ _ => rfl)) (x_int)) (x_int)) (xa_nil))) (x_int)) (xg_sub (x_var (i := 0) rfl (.inl rfl)) (x_int))) (xss_one (xs_ret (x_bin o_mod (x_callTy o_int rfl e_int (by rfl) (xa_cons (x_bin o_div (x_bin o_mod (x_callTy o_int rfl e_int (by rfl) (xa_cons (x_bin o_mul (x_idx (x_var (i := 0) rfl (.inl rfl)) (x_int) (fun _ _ => rfl)) (x_idx (x_var (i := 0) rfl (.inl rfl)) (x_int) (fun _ _ => rfl))) (xa_nil))) (x_int)) (x_int)) (xa_nil))) (x_var (i := 1) rfl (.inl rfl))))))
theorem sc__law_parting : FnScope ["pot", "many", "parts", "place", "found", "turn", "part"] ["pot", "many"] (defScope (top 47)) := ⟨rfl, rfl, rfl, by decide +kernel, rfl, by decide +kernel, by decide +kernel⟩
theorem ok__law_parting (X : K.In base) (G : base.Ns mainGlobals mg) (c : Says K) : ∃ fd, Has P w K mg base "_law_parting" (top 47) 2 ["pot", "many"] F__law_parting fd := by
  obtain ⟨fd, F⟩ := c.def_ 20 (d := d__law_parting) rfl
  have e_range : mg "range" = none := He.free_ok X G (c.fact 54 (f := .free "range") rfl)
  have e_len : mg "len" = none := He.free_ok X G (c.fact 38 (f := .free "len") rfl)
  have e_tuple : mg "tuple" = none := He.free_ok X G (c.fact 42 (f := .free "tuple") rfl)
  have e_sorted : mg "sorted" = none := He.free_ok X G (c.fact 43 (f := .free "sorted") rfl)
  obtain ⟨fd__law_draw, M__law_draw, U__law_draw, B__law_draw, G__law_draw⟩ := ok__law_draw (P := P) (w := w) X G c
  have K__law_draw := U__law_draw.kp
  refine ⟨fd, He.glo_ok X G (c.fact 20 (f := .glo "_law_parting") rfl), F, F.bindsN fun _ _ _ _ _ _ us hl => match us, hl with | [_, _], _ => rfl, L3.FunD.okG F sc__law_parting fun cdv A outer s H E hr hgd => ?_⟩
  have nd := sc__law_parting.nd
  exact xss_cons (xs_setComp (new := true) (i := 2) (own := [("turn", 5)]) rfl nd rfl rfl rfl (xi_range1 rfl e_range (x_bin o_add (x_int) (x_call (G__law_draw.mono (by decide)) B__law_draw K__law_draw hr hgd rfl M__law_draw (xa_cons (x_var (i := 0) rfl (.inl rfl)) (xa_cons (x_var (i := 1) rfl (.inl rfl)) (xa_nil)))))) (blkOk_by (by kernel_rfl)) (fun _ _ _ _ _ => xg_name (i := 5) nd rfl (.inl rfl)) (fun _ _ _ _ _ => xts_nil) (fun _ _ _ _ _ => x_lstNew (xa_nil)) (by decide)) (xss_cons (xs_for PassesOwn.leaving rfl (xi_range1 rfl e_range (x_var (i := 1) rfl (.inl rfl))) (xg_name (i := 3) nd rfl (.inl rfl)) (xss_one (xs_exp (x_append (x_idx (x_var (i := 2) rfl (.inl rfl)) (x_call (G__law_draw.mono (by decide)) B__law_draw K__law_draw hr hgd rfl M__law_draw (xa_cons (x_var (i := 0) rfl (.inl rfl)) (xa_cons (x_callB o_len rfl e_len (by rfl) (xa_cons (x_var (i := 2) rfl (.inl rfl)) (xa_nil))) (xa_nil)))) (fun _ _ => rfl)) (xa_cons (x_var (i := 3) rfl (.inl rfl)) (xa_nil)))))) (xss_cons (xs_set (i := 4) nd rfl (.inl rfl) (x_callB (o_sorted (r100 hr)) rfl e_sorted (by rfl) (xa_cons (x_comp (own := [("part", 6)]) rfl nd (xi_seq (x_var (i := 2) rfl (.inl rfl))) (blkOk_by (by kernel_rfl)) (fun _ _ _ _ _ => xg_name (i := 6) nd rfl (.inl rfl)) (fun _ _ _ _ _ => xts_one (xt_cmp (o_ne (r64 hr)) (x_var (i := 6) rfl (.inl rfl)) (x_lst (xa_nil)) (by rfl))) (fun _ _ _ _ _ => x_callTy o_tuple rfl e_tuple (by rfl) (xa_cons (x_var (i := 6) rfl (.inl rfl)) (xa_nil))) (by decide)) (xa_nil)))) (xss_one (xs_ret (x_if (xt_cmp o_gt (x_callB o_len rfl e_len (by rfl) (xa_cons (x_var (i := 4) rfl (.inl rfl)) (xa_nil))) (x_int) (by rfl)) (x_callTy o_tuple rfl e_tuple (by rfl) (xa_cons (x_var (i := 4) rfl (.inl rfl)) (xa_nil))) (x_tup (xa_cons (x_tup (xa_cons (x_int) (xa_nil))) (xa_cons (x_tupRg2 rfl rfl e_tuple rfl e_range (x_int) (x_var (i := 1) rfl (.inl rfl))) (xa_nil)))))))))
theorem sc__law_is_finer : FnScope ["one", "other", "part", "late", "place"] ["one", "other"] (defScope (top 48)) := ⟨rfl, rfl, rfl, by decide +kernel, rfl, by decide +kernel, by decide +kernel⟩
theorem ok__law_is_finer (X : K.In base) (G : base.Ns mainGlobals mg) (c : Says K) : ∃ fd, Has P w K mg base "_law_is_finer" (top 48) 1 ["one", "other"] F__law_is_finer fd := by
  obtain ⟨fd, F⟩ := c.def_ 21 (d := d__law_is_finer) rfl
  refine ⟨fd, He.glo_ok X G (c.fact 21 (f := .glo "_law_is_finer") rfl), F, F.bindsN fun _ _ _ _ _ _ us hl => match us, hl with | [_, _], _ => rfl, L3.FunD.okG F sc__law_is_finer fun cdv A outer s H E hr hgd => ?_⟩
  have nd := sc__law_is_finer.nd
  exact xss_one (xs_ret (x_cmp (o_eq (r64 hr)) (x_comp (own := [("part", 2)]) rfl nd (xi_seq (x_var (i := 0) rfl (.inl rfl))) (blkOk_by (by kernel_rfl)) (fun _ _ _ _ _ => xg_name (i := 2) nd rfl (.inr rfl)) (fun _ _ _ _ _ => xts_one (xt_cmp (o_eq (r64 hr)) (x_comp (own := [("late", 3)]) rfl nd (xi_seq (x_var (i := 1) rfl (.inr (.inl rfl)))) (blkOk_by (by kernel_rfl)) (fun _ _ _ _ _ => xg_name (i := 3) nd rfl (.inr rfl)) (fun _ _ _ _ _ => xts_one (xt_cmp (o_eq (r64 hr)) (x_comp (own := [("place", 4)]) rfl nd (xi_seq (x_var (i := 2) rfl (.inr (.inl rfl)))) (blkOk_by (by kernel_rfl)) (fun _ _ _ _ _ => xg_name (i := 4) nd rfl (.inl rfl)) (fun _ _ _ _ _ => xts_one (xt_cmp (o_notIn (r65 hr)) (x_var (i := 4) rfl (.inl rfl)) (x_var (i := 3) rfl (.inr (.inl rfl))) (by rfl))) (fun _ _ _ _ _ => x_var (i := 4) rfl (.inl rfl)) (by decide)) (x_lst (xa_nil)) (by rfl))) (fun _ _ _ _ _ => x_var (i := 3) rfl (.inr (.inl rfl))) (by decide)) (x_lst (xa_nil)) (by rfl))) (fun _ _ _ _ _ => x_var (i := 2) rfl (.inr (.inl rfl))) (by decide)) (x_lst (xa_nil)) (by rfl)))
theorem sc_is_parting : FnScope ["web", "value"] ["web", "value"] (defScope (top 36)) := ⟨rfl, rfl, rfl, by decide +kernel, rfl, by decide +kernel, by decide +kernel⟩
theorem ok_is_parting (X : K.In base) (G : base.Ns mainGlobals mg) (c : Says K) : ∃ fd, Has P w K mg base "is_parting" (top 36) 7 ["web", "value"] F_is_parting fd := by
  obtain ⟨fd, F⟩ := c.def_ 22 (d := d_is_parting) rfl
  obtain ⟨fd_is_parting_of, M_is_parting_of, U_is_parting_of, B_is_parting_of, G_is_parting_of⟩ := ok_is_parting_of (P := P) (w := w) X G c
  have K_is_parting_of := U_is_parting_of.kp
  obtain ⟨fd_want_web, M_want_web, U_want_web, B_want_web, G_want_web⟩ := ok_want_web (P := P) (w := w) X G c
  have K_want_web := U_want_web.kp
  refine ⟨fd, He.glo_ok X G (c.fact 22 (f := .glo "is_parting") rfl), F, F.bindsN fun _ _ _ _ _ _ us hl => match us, hl with | [_, _], _ => rfl, L3.FunD.okG F sc_is_parting fun cdv A outer s H E hr hgd => ?_⟩
  have nd := sc_is_parting.nd
  exact xss_one (xs_ret (x_call (G_is_parting_of.mono (by decide)) B_is_parting_of K_is_parting_of hr hgd rfl M_is_parting_of (xa_cons (x_call (G_want_web.mono (by decide)) B_want_web K_want_web hr hgd rfl M_want_web (xa_cons (x_var (i := 0) rfl (.inl rfl)) (xa_nil))) (xa_cons (x_var (i := 1) rfl (.inl rfl)) (xa_nil)))))
theorem sc_want_partings : FnScope ["web", "parting", "other_parting"] ["web", "parting", "other_parting"] (defScope (top 35)) := ⟨rfl, rfl, rfl, by decide +kernel, rfl, by decide +kernel, by decide +kernel⟩
theorem ok_want_partings (X : K.In base) (G : base.Ns mainGlobals mg) (c : Says K) : ∃ fd, Has P w K mg base "want_partings" (top 35) 8 ["web", "parting", "other_parting"] F_want_partings fd := by
  obtain ⟨fd, F⟩ := c.def_ 23 (d := d_want_partings) rfl
  obtain ⟨fd_want_parting, M_want_parting, U_want_parting, B_want_parting, G_want_parting⟩ := ok_want_parting (P := P) (w := w) X G c
  have K_want_parting := U_want_parting.kp
  obtain ⟨fd_want_web, M_want_web, U_want_web, B_want_web, G_want_web⟩ := ok_want_web (P := P) (w := w) X G c
  have K_want_web := U_want_web.kp
  refine ⟨fd, He.glo_ok X G (c.fact 23 (f := .glo "want_partings") rfl), F, F.bindsN fun _ _ _ _ _ _ us hl => match us, hl with | [_, _, _], _ => rfl, L3.FunD.okG F sc_want_partings fun cdv A outer s H E hr hgd => ?_⟩
  have nd := sc_want_partings.nd
  exact xss_cons (xs_exp (x_call (G_want_parting.mono (by decide)) B_want_parting K_want_parting hr hgd rfl M_want_parting (xa_cons (x_call (G_want_web.mono (by decide)) B_want_web K_want_web hr hgd rfl M_want_web (xa_cons (x_var (i := 0) rfl (.inl rfl)) (xa_nil))) (xa_cons (x_var (i := 1) rfl (.inl rfl)) (xa_nil))))) (xss_one (xs_exp (x_call (G_want_parting.mono (by decide)) B_want_parting K_want_parting hr hgd rfl M_want_parting (xa_cons (x_var (i := 0) rfl (.inl rfl)) (xa_cons (x_var (i := 2) rfl (.inl rfl)) (xa_nil))))))
theorem sc_is_finer_of : FnScope ["parting", "other", "part", "late", "place"] ["parting", "other"] (defScope (top 32)) := ⟨rfl, rfl, rfl, by decide +kernel, rfl, by decide +kernel, by decide +kernel⟩
theorem ok_is_finer_of (X : K.In base) (G : base.Ns mainGlobals mg) (c : Says K) : ∃ fd, Has P w K mg base "is_finer_of" (top 32) 1 ["parting", "other"] F_is_finer_of fd := by
  obtain ⟨fd, F⟩ := c.def_ 24 (d := d_is_finer_of) rfl
  have e_all : mg "all" = none := He.free_ok X G (c.fact 47 (f := .free "all") rfl)
  have e_any : mg "any" = none := He.free_ok X G (c.fact 56 (f := .free "any") rfl)
  refine ⟨fd, He.glo_ok X G (c.fact 24 (f := .glo "is_finer_of") rfl), F, F.bindsN fun _ _ _ _ _ _ us hl => match us, hl with | [_, _], _ => rfl, L3.FunD.okG F sc_is_finer_of fun cdv A outer s H E hr hgd => ?_⟩
  have nd := sc_is_finer_of.nd
  exact xss_one (xs_ret (x_callB (o_all rfl) rfl e_all (by rfl) (xa_cons (x_comp (own := [("part", 2)]) rfl nd (xi_seq (x_var (i := 0) rfl (.inl rfl))) (blkOk_by (by kernel_rfl)) (fun _ _ _ _ _ => xg_name (i := 2) nd rfl (.inr rfl)) (fun _ _ _ _ _ => xts_nil) (fun _ _ _ _ _ => x_callB (o_any rfl) rfl e_any (by rfl) (xa_cons (x_comp (own := [("late", 3)]) rfl nd (xi_seq (x_var (i := 1) rfl (.inr (.inl rfl)))) (blkOk_by (by kernel_rfl)) (fun _ _ _ _ _ => xg_name (i := 3) nd rfl (.inr rfl)) (fun _ _ _ _ _ => xts_nil) (fun _ _ _ _ _ => x_callB (o_all rfl) rfl e_all (by rfl) (xa_cons (x_comp (own := [("place", 4)]) rfl nd (xi_seq (x_var (i := 2) rfl (.inr (.inl rfl)))) (blkOk_by (by kernel_rfl)) (fun _ _ _ _ _ => xg_name (i := 4) nd rfl (.inl rfl)) (fun _ _ _ _ _ => xts_nil) (fun _ _ _ _ _ => x_cmp (o_in (r65 hr)) (x_var (i := 4) rfl (.inl rfl)) (x_var (i := 3) rfl (.inr (.inl rfl))) (by rfl)) (by decide)) (xa_nil))) (by decide)) (xa_nil))) (by decide)) (xa_nil))))
theorem sc_is_finer : FnScope ["web", "parting", "other_parting"] ["web", "parting", "other_parting"] (defScope (top 39)) := ⟨rfl, rfl, rfl, by decide +kernel, rfl, by decide +kernel, by decide +kernel⟩
theorem ok_is_finer (X : K.In base) (G : base.Ns mainGlobals mg) (c : Says K) : ∃ fd, Has P w K mg base "is_finer" (top 39) 9 ["web", "parting", "other_parting"] F_is_finer fd := by
  obtain ⟨fd, F⟩ := c.def_ 25 (d := d_is_finer) rfl
  obtain ⟨fd_want_partings, M_want_partings, U_want_partings, B_want_partings, G_want_partings⟩ := ok_want_partings (P := P) (w := w) X G c
  have K_want_partings := U_want_partings.kp
  obtain ⟨fd_is_finer_of, M_is_finer_of, U_is_finer_of, B_is_finer_of, G_is_finer_of⟩ := ok_is_finer_of (P := P) (w := w) X G c
  have K_is_finer_of := U_is_finer_of.kp
  refine ⟨fd, He.glo_ok X G (c.fact 25 (f := .glo "is_finer") rfl), F, F.bindsN fun _ _ _ _ _ _ us hl => match us, hl with | [_, _, _], _ => rfl, L3.FunD.okG F sc_is_finer fun cdv A outer s H E hr hgd => ?_⟩
  have nd := sc_is_finer.nd
  exact xss_cons (xs_exp (x_call (G_want_partings.mono (by decide)) B_want_partings K_want_partings hr hgd rfl M_want_partings (xa_cons (x_var (i := 0) rfl (.inl rfl)) (xa_cons (x_var (i := 1) rfl (.inl rfl)) (xa_cons (x_var (i := 2) rfl (.inl rfl)) (xa_nil)))))) (xss_one (xs_ret (x_call (G_is_finer_of.mono (by decide)) B_is_finer_of K_is_finer_of hr hgd rfl M_is_finer_of (xa_cons (x_var (i := 1) rfl (.inl rfl)) (xa_cons (x_var (i := 2) rfl (.inl rfl)) (xa_nil))))))
theorem sc__law_between : FnScope ["web", "parting", "found", "tie", "one", "other", "part"] ["web", "parting"] (defScope (top 45)) := ⟨rfl, rfl, rfl, by decide +kernel, rfl, by decide +kernel, by decide +kernel⟩
theorem ok__law_between (X : K.In base) (G : base.Ns mainGlobals mg) (c : Says K) : ∃ fd, Has P w K mg base "_law_between" (top 45) 1 ["web", "parting"] F__law_between fd := by
  obtain ⟨fd, F⟩ := c.def_ 26 (d := d__law_between) rfl
  have e_enumerate : mg "enumerate" = none := He.free_ok X G (c.fact 52 (f := .free "enumerate") rfl)
  have e_tuple : mg "tuple" = none := He.free_ok X G (c.fact 42 (f := .free "tuple") rfl)
  refine ⟨fd, He.glo_ok X G (c.fact 26 (f := .glo "_law_between") rfl), F, F.bindsN fun _ _ _ _ _ _ us hl => match us, hl with | [_, _], _ => rfl, L3.FunD.okG F sc__law_between fun cdv A outer s H E hr hgd => ?_⟩
  have nd := sc__law_between.nd
  exact xss_cons (xs_set (i := 2) nd rfl (.inl rfl) (x_lstNew (xa_nil))) (xss_cons (xs_for PassesOwn.leaving rfl (xi_enum rfl e_enumerate (x_idx (x_var (i := 0) rfl (.inl rfl)) (x_int) (fun _ _ => rfl))) (xg_tup rfl (xgs_cons (xg_name (i := 3) nd rfl (.inl rfl)) (xgs_cons (xg_tup rfl (xgs_cons (xg_name (i := 4) nd rfl (.inr rfl)) (xgs_cons (xg_name (i := 5) nd rfl (.inr rfl)) (xgs_nil)))) (xgs_nil)))) (xss_one (xs_exp (x_extend (x_var (i := 2) rfl (.inl rfl)) (xa_cons (x_if (xt_cmp (o_eq (r64 hr)) (x_comp (own := [("part", 6)]) rfl nd (xi_seq (x_var (i := 1) rfl (.inl rfl))) (blkOk_by (by kernel_rfl)) (fun _ _ _ _ _ => xg_name (i := 6) nd rfl (.inl rfl)) (fun _ _ _ _ _ => xts_one (PW.pt (xw_and (xt_cmp (o_in (r65 hr)) (x_var (i := 4) rfl (.inr (.inl rfl))) (x_var (i := 6) rfl (.inl rfl)) (by rfl)) (pw_and1 (xt_cmp (o_in (r65 hr)) (x_var (i := 5) rfl (.inr (.inl rfl))) (x_var (i := 6) rfl (.inl rfl)) (by rfl)))))) (fun _ _ _ _ _ => x_var (i := 6) rfl (.inl rfl)) (by decide)) (x_lst (xa_nil)) (by rfl)) (x_lst (xa_cons (x_var (i := 3) rfl (.inl rfl)) (xa_nil))) (x_lst (xa_nil))) (xa_nil)))))) (xss_one (xs_ret (x_callTy o_tuple rfl e_tuple (by rfl) (xa_cons (x_var (i := 2) rfl (.inl rfl)) (xa_nil))))))
theorem sc_want_many : FnScope ["value", "least", "most"] ["value", "least", "most"] (defScope (top 11)) := ⟨rfl, rfl, rfl, by decide +kernel, rfl, by decide +kernel, by decide +kernel⟩
theorem ok_want_many (X : K.In base) (G : base.Ns mainGlobals mg) (c : Says K) : ∃ fd, Has P w K mg base "want_many" (top 11) 3 ["value", "least", "most"] F_want_many fd := by
  obtain ⟨fd, F⟩ := c.def_ 27 (d := d_want_many) rfl
  obtain ⟨fd_is_count, M_is_count, U_is_count, B_is_count, G_is_count⟩ := ok_is_count (P := P) (w := w) X G c
  have K_is_count := U_is_count.kp
  refine ⟨fd, He.glo_ok X G (c.fact 27 (f := .glo "want_many") rfl), F, F.bindsN fun _ _ _ _ _ _ us hl => match us, hl with | [_, _, _], _ => rfl, L3.FunD.okG F sc_want_many fun cdv A outer s H E hr hgd => ?_⟩
  have nd := sc_want_many.nd
  exact xss_cons (xs_if (PW.pt (xw_or (xt_not (xt_val (x_call (G_is_count.mono (by decide)) B_is_count K_is_count hr hgd rfl M_is_count (xa_cons (x_var (i := 0) rfl (.inl rfl)) (xa_nil))))) (pw_or1 (xt_not (xt_chain (o_le (r0 hr)) (o_le (r0 hr)) (x_var (i := 1) rfl (.inl rfl)) (x_var (i := 0) rfl (.inl rfl)) (x_var (i := 2) rfl (.inl rfl))))))) (xss_one (xs_bad)) (xss_nil)) (xss_one (xs_ret (x_var (i := 0) rfl (.inl rfl))))
theorem sc_want_k : FnScope ["value"] ["value"] (defScope (top 26)) := ⟨rfl, rfl, rfl, by decide +kernel, rfl, by decide +kernel, by decide +kernel⟩
theorem ok_want_k (X : K.In base) (G : base.Ns mainGlobals mg) (c : Says K) : ∃ fd, Has P w K mg base "want_k" (top 26) 4 ["value"] F_want_k fd := by
  obtain ⟨fd, F⟩ := c.def_ 28 (d := d_want_k) rfl
  obtain ⟨t_MOST_K, e_MOST_K⟩ := He.int_ok X G (c.fact 57 (f := .int "MOST_K" 6) rfl)
  obtain ⟨fd_want_many, M_want_many, U_want_many, B_want_many, G_want_many⟩ := ok_want_many (P := P) (w := w) X G c
  have K_want_many := U_want_many.kp
  refine ⟨fd, He.glo_ok X G (c.fact 28 (f := .glo "want_k") rfl), F, F.bindsN fun _ _ _ _ _ _ us hl => match us, hl with | [_], _ => rfl, L3.FunD.okG F sc_want_k fun cdv A outer s H E hr hgd => ?_⟩
  have nd := sc_want_k.nd
  exact xss_one (xs_ret (x_call (G_want_many.mono (by decide)) B_want_many K_want_many hr hgd rfl M_want_many (xa_cons (x_var (i := 0) rfl (.inl rfl)) (xa_cons (x_int) (xa_cons (x_globI rfl e_MOST_K) (xa_nil))))))
theorem sc_want_both : FnScope ["web", "many"] ["web", "many"] (defScope (top 28)) := ⟨rfl, rfl, rfl, by decide +kernel, rfl, by decide +kernel, by decide +kernel⟩
theorem ok_want_both (X : K.In base) (G : base.Ns mainGlobals mg) (c : Says K) : ∃ fd, Has P w K mg base "want_both" (top 28) 7 ["web", "many"] F_want_both fd := by
  obtain ⟨fd, F⟩ := c.def_ 29 (d := d_want_both) rfl
  obtain ⟨fd_want_web, M_want_web, U_want_web, B_want_web, G_want_web⟩ := ok_want_web (P := P) (w := w) X G c
  have K_want_web := U_want_web.kp
  obtain ⟨fd_want_k, M_want_k, U_want_k, B_want_k, G_want_k⟩ := ok_want_k (P := P) (w := w) X G c
  have K_want_k := U_want_k.kp
  refine ⟨fd, He.glo_ok X G (c.fact 29 (f := .glo "want_both") rfl), F, F.bindsN fun _ _ _ _ _ _ us hl => match us, hl with | [_, _], _ => rfl, L3.FunD.okG F sc_want_both fun cdv A outer s H E hr hgd => ?_⟩
  have nd := sc_want_both.nd
  exact xss_cons (xs_exp (x_call (G_want_web.mono (by decide)) B_want_web K_want_web hr hgd rfl M_want_web (xa_cons (x_var (i := 0) rfl (.inl rfl)) (xa_nil)))) (xss_one (xs_exp (x_call (G_want_k.mono (by decide)) B_want_k K_want_k hr hgd rfl M_want_k (xa_cons (x_var (i := 1) rfl (.inl rfl)) (xa_nil)))))
theorem sc_looseness_of : FnScope ["web", "many", "parting"] ["web", "many", "parting"] (defScope (top 31)) := ⟨rfl, rfl, rfl, by decide +kernel, rfl, by decide +kernel, by decide +kernel⟩
theorem ok_looseness_of (X : K.In base) (G : base.Ns mainGlobals mg) (c : Says K) : ∃ fd, Has P w K mg base "looseness_of" (top 31) 3 ["web", "many", "parting"] F_looseness_of fd := by
  obtain ⟨fd, F⟩ := c.def_ 30 (d := d_looseness_of) rfl
  have e_len : mg "len" = none := He.free_ok X G (c.fact 38 (f := .free "len") rfl)
  obtain ⟨fd_between_of, M_between_of, U_between_of, B_between_of, G_between_of⟩ := ok_between_of (P := P) (w := w) X G c
  have K_between_of := U_between_of.kp
  refine ⟨fd, He.glo_ok X G (c.fact 30 (f := .glo "looseness_of") rfl), F, F.bindsN fun _ _ _ _ _ _ us hl => match us, hl with | [_, _, _], _ => rfl, L3.FunD.okG F sc_looseness_of fun cdv A outer s H E hr hgd => ?_⟩
  have nd := sc_looseness_of.nd
  exact xss_one (xs_ret (x_bin o_sub (x_bin o_mul (x_var (i := 1) rfl (.inl rfl)) (x_bin o_sub (x_callB o_len rfl e_len (by rfl) (xa_cons (x_var (i := 2) rfl (.inl rfl)) (xa_nil))) (x_int))) (x_callB o_len rfl e_len (by rfl) (xa_cons (x_call (G_between_of.mono (by decide)) B_between_of K_between_of hr hgd rfl M_between_of (xa_cons (x_var (i := 0) rfl (.inl rfl)) (xa_cons (x_var (i := 2) rfl (.inl rfl)) (xa_nil)))) (xa_nil)))))
theorem sc_looseness : FnScope ["web", "many", "parting"] ["web", "many", "parting"] (defScope (top 38)) := ⟨rfl, rfl, rfl, by decide +kernel, rfl, by decide +kernel, by decide +kernel⟩
theorem ok_looseness (X : K.In base) (G : base.Ns mainGlobals mg) (c : Says K) : ∃ fd, Has P w K mg base "looseness" (top 38) 8 ["web", "many", "parting"] F_looseness fd := by
  obtain ⟨fd, F⟩ := c.def_ 31 (d := d_looseness) rfl
  obtain ⟨fd_want_both, M_want_both, U_want_both, B_want_both, G_want_both⟩ := ok_want_both (P := P) (w := w) X G c
  have K_want_both := U_want_both.kp
  obtain ⟨fd_looseness_of, M_looseness_of, U_looseness_of, B_looseness_of, G_looseness_of⟩ := ok_looseness_of (P := P) (w := w) X G c
  have K_looseness_of := U_looseness_of.kp
  obtain ⟨fd_want_parting, M_want_parting, U_want_parting, B_want_parting, G_want_parting⟩ := ok_want_parting (P := P) (w := w) X G c
  have K_want_parting := U_want_parting.kp
  refine ⟨fd, He.glo_ok X G (c.fact 31 (f := .glo "looseness") rfl), F, F.bindsN fun _ _ _ _ _ _ us hl => match us, hl with | [_, _, _], _ => rfl, L3.FunD.okG F sc_looseness fun cdv A outer s H E hr hgd => ?_⟩
  have nd := sc_looseness.nd
  exact xss_cons (xs_exp (x_call (G_want_both.mono (by decide)) B_want_both K_want_both hr hgd rfl M_want_both (xa_cons (x_var (i := 0) rfl (.inl rfl)) (xa_cons (x_var (i := 1) rfl (.inl rfl)) (xa_nil))))) (xss_one (xs_ret (x_call (G_looseness_of.mono (by decide)) B_looseness_of K_looseness_of hr hgd rfl M_looseness_of (xa_cons (x_var (i := 0) rfl (.inl rfl)) (xa_cons (x_var (i := 1) rfl (.inl rfl)) (xa_cons (x_call (G_want_parting.mono (by decide)) B_want_parting K_want_parting hr hgd rfl M_want_parting (xa_cons (x_var (i := 0) rfl (.inl rfl)) (xa_cons (x_var (i := 2) rfl (.inl rfl)) (xa_nil)))) (xa_nil)))))))
theorem sc__law_looseness : FnScope ["web", "many", "parting"] ["web", "many", "parting"] (defScope (top 46)) := ⟨rfl, rfl, rfl, by decide +kernel, rfl, by decide +kernel, by decide +kernel⟩
theorem ok__law_looseness (X : K.In base) (G : base.Ns mainGlobals mg) (c : Says K) : ∃ fd, Has P w K mg base "_law_looseness" (top 46) 2 ["web", "many", "parting"] F__law_looseness fd := by
  obtain ⟨fd, F⟩ := c.def_ 32 (d := d__law_looseness) rfl
  have e_len : mg "len" = none := He.free_ok X G (c.fact 38 (f := .free "len") rfl)
  obtain ⟨fd__law_between, M__law_between, U__law_between, B__law_between, G__law_between⟩ := ok__law_between (P := P) (w := w) X G c
  have K__law_between := U__law_between.kp
  refine ⟨fd, He.glo_ok X G (c.fact 32 (f := .glo "_law_looseness") rfl), F, F.bindsN fun _ _ _ _ _ _ us hl => match us, hl with | [_, _, _], _ => rfl, L3.FunD.okG F sc__law_looseness fun cdv A outer s H E hr hgd => ?_⟩
  have nd := sc__law_looseness.nd
  exact xss_one (xs_ret (x_bin o_sub (x_bin o_mul (x_var (i := 1) rfl (.inl rfl)) (x_bin o_sub (x_callB o_len rfl e_len (by rfl) (xa_cons (x_var (i := 2) rfl (.inl rfl)) (xa_nil))) (x_int))) (x_callB o_len rfl e_len (by rfl) (xa_cons (x_call (G__law_between.mono (by decide)) B__law_between K__law_between hr hgd rfl M__law_between (xa_cons (x_var (i := 0) rfl (.inl rfl)) (xa_cons (x_var (i := 2) rfl (.inl rfl)) (xa_nil)))) (xa_nil)))))
theorem sc__law_ties : FnScope ["pot", "many", "most", "found", "turn", "one", "other", "tie"] ["pot", "many", "most"] (defScope (top 44)) := ⟨rfl, rfl, rfl, by decide +kernel, rfl, by decide +kernel, by decide +kernel⟩
theorem ok__law_ties (X : K.In base) (G : base.Ns mainGlobals mg) (c : Says K) : ∃ fd, Has P w K mg base "_law_ties" (top 44) 2 ["pot", "many", "most"] F__law_ties fd := by
  obtain ⟨fd, F⟩ := c.def_ 33 (d := d__law_ties) rfl
  have e_range : mg "range" = none := He.free_ok X G (c.fact 54 (f := .free "range") rfl)
  have e_sorted : mg "sorted" = none := He.free_ok X G (c.fact 43 (f := .free "sorted") rfl)
  have e_tuple : mg "tuple" = none := He.free_ok X G (c.fact 42 (f := .free "tuple") rfl)
  obtain ⟨fd__law_draw, M__law_draw, U__law_draw, B__law_draw, G__law_draw⟩ := ok__law_draw (P := P) (w := w) X G c
  have K__law_draw := U__law_draw.kp
  refine ⟨fd, He.glo_ok X G (c.fact 33 (f := .glo "_law_ties") rfl), F, F.bindsN fun _ _ _ _ _ _ us hl => match us, hl with | [_, _, _], _ => rfl, L3.FunD.okG F sc__law_ties fun cdv A outer s H E hr hgd => ?_⟩
  have nd := sc__law_ties.nd
  exact xss_cons (xs_set (i := 3) nd rfl (.inl rfl) (x_lstNew (xa_nil))) (xss_cons (xs_for PassesOwn.leaving rfl (xi_range1 rfl e_range (x_if (xt_cmp o_gt (x_var (i := 1) rfl (.inl rfl)) (x_int) (by rfl)) (x_call (G__law_draw.mono (by decide)) B__law_draw K__law_draw hr hgd rfl M__law_draw (xa_cons (x_var (i := 0) rfl (.inl rfl)) (xa_cons (x_bin o_add (x_var (i := 2) rfl (.inl rfl)) (x_int)) (xa_nil)))) (x_int))) (xg_name (i := 4) nd rfl (.inl rfl)) (xss_cons (xs_set (i := 5) nd rfl (.inl rfl) (x_call (G__law_draw.mono (by decide)) B__law_draw K__law_draw hr hgd rfl M__law_draw (xa_cons (x_var (i := 0) rfl (.inl rfl)) (xa_cons (x_var (i := 1) rfl (.inl rfl)) (xa_nil))))) (xss_cons (xs_set (i := 6) nd rfl (.inl rfl) (x_bin o_add (x_bin o_add (x_var (i := 5) rfl (.inl rfl)) (x_int)) (x_call (G__law_draw.mono (by decide)) B__law_draw K__law_draw hr hgd rfl M__law_draw (xa_cons (x_var (i := 0) rfl (.inl rfl)) (xa_cons (x_bin o_sub (x_var (i := 1) rfl (.inl rfl)) (x_int)) (xa_nil)))))) (xss_one (xs_exp (x_append (x_var (i := 3) rfl (.inl rfl)) (xa_cons (x_tup (xa_cons (x_var (i := 5) rfl (.inl rfl)) (xa_cons (x_bin o_sub (x_var (i := 6) rfl (.inl rfl)) (x_bin o_mul (x_bin o_div (x_var (i := 6) rfl (.inl rfl)) (x_var (i := 1) rfl (.inl rfl))) (x_var (i := 1) rfl (.inl rfl)))) (xa_nil)))) (xa_nil)))))))) (xss_one (xs_ret (x_comp (own := [("tie", 7)]) rfl nd (xi_seq (x_var (i := 3) rfl (.inl rfl))) (blkOk_by (by kernel_rfl)) (fun _ _ _ _ _ => xg_name (i := 7) nd rfl (.inl rfl)) (fun _ _ _ _ _ => xts_nil) (fun _ _ _ _ _ => x_callTy o_tuple rfl e_tuple (by rfl) (xa_cons (x_callB (o_sorted (r100 hr)) rfl e_sorted (by rfl) (xa_cons (x_var (i := 7) rfl (.inl rfl)) (xa_nil))) (xa_nil))) (by decide)))))
theorem sc_meet_of : FnScope ["parting", "other", "found", "part", "some", "late", "place"] ["parting", "other"] (defScope (top 33)) := ⟨rfl, rfl, rfl, by decide +kernel, rfl, by decide +kernel, by decide +kernel⟩
theorem ok_meet_of (X : K.In base) (G : base.Ns mainGlobals mg) (c : Says K) : ∃ fd, Has P w K mg base "meet_of" (top 33) 1 ["parting", "other"] F_meet_of fd := by
  obtain ⟨fd, F⟩ := c.def_ 34 (d := d_meet_of) rfl
  have e_tuple : mg "tuple" = none := He.free_ok X G (c.fact 42 (f := .free "tuple") rfl)
  have e_sorted : mg "sorted" = none := He.free_ok X G (c.fact 43 (f := .free "sorted") rfl)
  refine ⟨fd, He.glo_ok X G (c.fact 34 (f := .glo "meet_of") rfl), F, F.bindsN fun _ _ _ _ _ _ us hl => match us, hl with | [_, _], _ => rfl, L3.FunD.okG F sc_meet_of fun cdv A outer s H E hr hgd => ?_⟩
  have nd := sc_meet_of.nd
  exact xss_cons (xs_set (i := 2) nd rfl (.inl rfl) (x_lstNew (xa_nil))) (xss_cons (xs_for PassesOwn.leaving rfl (xi_seq (x_var (i := 0) rfl (.inl rfl))) (xg_name (i := 3) nd rfl (.inr rfl)) (xss_cons (xs_setComp (new := false) (i := 4) (own := [("late", 5)]) rfl nd rfl rfl rfl (xi_seq (x_var (i := 1) rfl (.inl rfl))) (blkOk_by (by kernel_rfl)) (fun _ _ _ _ _ => xg_name (i := 5) nd rfl (.inr rfl)) (fun _ _ _ _ _ => xts_nil) (fun _ _ _ _ _ => x_callTy o_tuple rfl e_tuple (by rfl) (xa_cons (x_comp (own := [("place", 6)]) rfl nd (xi_seq (x_var (i := 3) rfl (.inr (.inl rfl)))) (blkOk_by (by kernel_rfl)) (fun _ _ _ _ _ => xg_name (i := 6) nd rfl (.inl rfl)) (fun _ _ _ _ _ => xts_one (xt_cmp (o_in (r65 hr)) (x_var (i := 6) rfl (.inl rfl)) (x_var (i := 5) rfl (.inr (.inl rfl))) (by rfl))) (fun _ _ _ _ _ => x_var (i := 6) rfl (.inl rfl)) (by decide)) (xa_nil))) (by decide)) (xss_one (xs_exp (x_extend (x_var (i := 2) rfl (.inl rfl)) (xa_cons (x_comp (own := [("late", 5)]) rfl nd (xi_seq (x_var (i := 4) rfl (.inl rfl))) (blkOk_by (by kernel_rfl)) (fun _ _ _ _ _ => xg_name (i := 5) nd rfl (.inl rfl)) (fun _ _ _ _ _ => xts_one (xt_cmp (o_ne (r64 hr)) (x_var (i := 5) rfl (.inl rfl)) (x_tup (xa_nil)) (by rfl))) (fun _ _ _ _ _ => x_var (i := 5) rfl (.inl rfl)) (by decide)) (xa_nil))))))) (xss_one (xs_ret (x_callTy o_tuple rfl e_tuple (by rfl) (xa_cons (x_callB (o_sorted (r100 hr)) rfl e_sorted (by rfl) (xa_cons (x_var (i := 2) rfl (.inl rfl)) (xa_nil))) (xa_nil))))))
theorem sc_meet : FnScope ["web", "parting", "other_parting"] ["web", "parting", "other_parting"] (defScope (top 40)) := ⟨rfl, rfl, rfl, by decide +kernel, rfl, by decide +kernel, by decide +kernel⟩
theorem ok_meet (X : K.In base) (G : base.Ns mainGlobals mg) (c : Says K) : ∃ fd, Has P w K mg base "meet" (top 40) 9 ["web", "parting", "other_parting"] F_meet fd := by
  obtain ⟨fd, F⟩ := c.def_ 35 (d := d_meet) rfl
  obtain ⟨fd_want_partings, M_want_partings, U_want_partings, B_want_partings, G_want_partings⟩ := ok_want_partings (P := P) (w := w) X G c
  have K_want_partings := U_want_partings.kp
  obtain ⟨fd_meet_of, M_meet_of, U_meet_of, B_meet_of, G_meet_of⟩ := ok_meet_of (P := P) (w := w) X G c
  have K_meet_of := U_meet_of.kp
  refine ⟨fd, He.glo_ok X G (c.fact 35 (f := .glo "meet") rfl), F, F.bindsN fun _ _ _ _ _ _ us hl => match us, hl with | [_, _, _], _ => rfl, L3.FunD.okG F sc_meet fun cdv A outer s H E hr hgd => ?_⟩
  have nd := sc_meet.nd
  exact xss_cons (xs_exp (x_call (G_want_partings.mono (by decide)) B_want_partings K_want_partings hr hgd rfl M_want_partings (xa_cons (x_var (i := 0) rfl (.inl rfl)) (xa_cons (x_var (i := 1) rfl (.inl rfl)) (xa_cons (x_var (i := 2) rfl (.inl rfl)) (xa_nil)))))) (xss_one (xs_ret (x_call (G_meet_of.mono (by decide)) B_meet_of K_meet_of hr hgd rfl M_meet_of (xa_cons (x_var (i := 1) rfl (.inl rfl)) (xa_cons (x_var (i := 2) rfl (.inl rfl)) (xa_nil))))))
theorem sc__law_right : FnScope ["pot", "many", "web", "one", "other", "third", "due", "near", "far", "told", "ties", "more", "k"] ["pot"] (defScope (top 50)) := ⟨rfl, rfl, rfl, by decide +kernel, rfl, by decide +kernel, by decide +kernel⟩
theorem ok__law_right (X : K.In base) (G : base.Ns mainGlobals mg) (c : Says K) : ∃ fd, Has P w K mg base "_law_right" (top 50) 10 ["pot"] F__law_right fd := by
  obtain ⟨fd, F⟩ := c.def_ 36 (d := d__law_right) rfl
  have e_sorted : mg "sorted" = none := He.free_ok X G (c.fact 43 (f := .free "sorted") rfl)
  have e_tuple : mg "tuple" = none := He.free_ok X G (c.fact 42 (f := .free "tuple") rfl)
  have e_repr : mg "repr" = none := He.free_ok X G (c.fact 58 (f := .free "repr") rfl)
  have e_set : mg "set" = none := He.free_ok X G (c.fact 59 (f := .free "set") rfl)
  obtain ⟨fd__law_draw, M__law_draw, U__law_draw, B__law_draw, G__law_draw⟩ := ok__law_draw (P := P) (w := w) X G c
  have K__law_draw := U__law_draw.kp
  obtain ⟨fd__law_ties, M__law_ties, U__law_ties, B__law_ties, G__law_ties⟩ := ok__law_ties (P := P) (w := w) X G c
  have K__law_ties := U__law_ties.kp
  obtain ⟨fd__law_parting, M__law_parting, U__law_parting, B__law_parting, G__law_parting⟩ := ok__law_parting (P := P) (w := w) X G c
  have K__law_parting := U__law_parting.kp
  obtain ⟨fd__law_meet, M__law_meet, U__law_meet, B__law_meet, G__law_meet⟩ := ok__law_meet (P := P) (w := w) X G c
  have K__law_meet := U__law_meet.kp
  obtain ⟨fd_meet, M_meet, U_meet, B_meet, G_meet⟩ := ok_meet (P := P) (w := w) X G c
  have K_meet := U_meet.kp
  obtain ⟨fd_is_parting, M_is_parting, U_is_parting, B_is_parting, G_is_parting⟩ := ok_is_parting (P := P) (w := w) X G c
  have K_is_parting := U_is_parting.kp
  obtain ⟨fd__law_is_finer, M__law_is_finer, U__law_is_finer, B__law_is_finer, G__law_is_finer⟩ := ok__law_is_finer (P := P) (w := w) X G c
  have K__law_is_finer := U__law_is_finer.kp
  obtain ⟨fd_is_finer, M_is_finer, U_is_finer, B_is_finer, G_is_finer⟩ := ok_is_finer (P := P) (w := w) X G c
  have K_is_finer := U_is_finer.kp
  obtain ⟨fd_between, M_between, U_between, B_between, G_between⟩ := ok_between (P := P) (w := w) X G c
  have K_between := U_between.kp
  obtain ⟨fd__law_between, M__law_between, U__law_between, B__law_between, G__law_between⟩ := ok__law_between (P := P) (w := w) X G c
  have K__law_between := U__law_between.kp
  obtain ⟨fd_looseness, M_looseness, U_looseness, B_looseness, G_looseness⟩ := ok_looseness (P := P) (w := w) X G c
  have K_looseness := U_looseness.kp
  obtain ⟨fd__law_looseness, M__law_looseness, U__law_looseness, B__law_looseness, G__law_looseness⟩ := ok__law_looseness (P := P) (w := w) X G c
  have K__law_looseness := U__law_looseness.kp
  refine ⟨fd, He.glo_ok X G (c.fact 36 (f := .glo "_law_right") rfl), F, F.bindsN fun _ _ _ _ _ _ us hl => match us, hl with | [_], _ => rfl, L3.FunD.okG F sc__law_right fun cdv A outer s H E hr hgd => ?_⟩
  have nd := sc__law_right.nd
  exact xss_cons (xs_set (i := 1) nd rfl (.inl rfl) (x_bin o_add (x_int) (x_call (G__law_draw.mono (by decide)) B__law_draw K__law_draw hr hgd rfl M__law_draw (xa_cons (x_var (i := 0) rfl (.inl rfl)) (xa_cons (x_int) (xa_nil)))))) (xss_cons (xs_set (i := 2) nd rfl (.inl rfl) (x_tup (xa_cons (x_str) (xa_cons (x_var (i := 1) rfl (.inl rfl)) (xa_cons (x_callTy o_tuple rfl e_tuple (by rfl) (xa_cons (x_callB (o_sorted (r100 hr)) rfl e_sorted (by rfl) (xa_cons (x_call (G__law_ties.mono (by decide)) B__law_ties K__law_ties hr hgd rfl M__law_ties (xa_cons (x_var (i := 0) rfl (.inl rfl)) (xa_cons (x_var (i := 1) rfl (.inl rfl)) (xa_cons (x_int) (xa_nil))))) (xa_nil))) (xa_nil))) (xa_nil)))))) (xss_cons (xs_par3 (i := 3) (j := 4) (l := 5) rfl nd rfl rfl rfl (by decide) (by decide) (by decide) rfl rfl rfl (xa_cons (x_call (G__law_parting.mono (by decide)) B__law_parting K__law_parting hr hgd rfl M__law_parting (xa_cons (x_var (i := 0) rfl (.inl rfl)) (xa_cons (x_var (i := 1) rfl (.inl rfl)) (xa_nil)))) (xa_cons (x_call (G__law_parting.mono (by decide)) B__law_parting K__law_parting hr hgd rfl M__law_parting (xa_cons (x_var (i := 0) rfl (.inl rfl)) (xa_cons (x_var (i := 1) rfl (.inl rfl)) (xa_nil)))) (xa_cons (x_call (G__law_parting.mono (by decide)) B__law_parting K__law_parting hr hgd rfl M__law_parting (xa_cons (x_var (i := 0) rfl (.inl rfl)) (xa_cons (x_var (i := 1) rfl (.inl rfl)) (xa_nil)))) (xa_nil))))) (xss_cons (xs_set (i := 6) nd rfl (.inl rfl) (x_call (G__law_meet.mono (by decide)) B__law_meet K__law_meet hr hgd rfl M__law_meet (xa_cons (x_var (i := 3) rfl (.inl rfl)) (xa_cons (x_var (i := 4) rfl (.inl rfl)) (xa_nil))))) (xss_cons (xs_if (PW.pt (xw_or (xt_cmp (o_ne (r64 hr)) (x_callB (o_repr hgd (r100 hr)) rfl e_repr (by rfl) (xa_cons (x_lst (xa_cons (x_call (G_meet.mono (by decide)) B_meet K_meet hr hgd rfl M_meet (xa_cons (x_var (i := 2) rfl (.inl rfl)) (xa_cons (x_var (i := 3) rfl (.inl rfl)) (xa_cons (x_var (i := 4) rfl (.inl rfl)) (xa_nil))))) (xa_cons (x_callKw (ks := ["other_parting", "parting", "web"]) [2, 1, 0] (G_meet.mono (by decide)) (kwb_of U_meet fun _ _ _ _ _ _ ws hl => match ws, hl with | [_, _, _], _ => rfl) K_meet hr hgd rfl M_meet (xk_cons (x_var (i := 4) rfl (.inl rfl)) (xk_cons (x_var (i := 3) rfl (.inl rfl)) (xk_cons (x_var (i := 2) rfl (.inl rfl)) (xk_nil))))) (xa_nil)))) (xa_nil))) (x_callB (o_repr hgd (r100 hr)) rfl e_repr (by rfl) (xa_cons (x_lst (xa_cons (x_var (i := 6) rfl (.inl rfl)) (xa_cons (x_var (i := 6) rfl (.inl rfl)) (xa_nil)))) (xa_nil))) (by rfl)) (pw_or1 (xt_cmp o_isNot (x_call (G_is_parting.mono (by decide)) B_is_parting K_is_parting hr hgd rfl M_is_parting (xa_cons (x_var (i := 2) rfl (.inl rfl)) (xa_cons (x_var (i := 6) rfl (.inl rfl)) (xa_nil)))) (x_bl) (by rfl))))) (xss_one (xs_ret (x_bl))) (xss_nil)) (xss_cons (xs_for PassesOwn.leaving rfl (xi_seq (x_tup (xa_cons (x_tup (xa_cons (x_var (i := 3) rfl (.inl rfl)) (xa_cons (x_var (i := 4) rfl (.inl rfl)) (xa_nil)))) (xa_cons (x_tup (xa_cons (x_var (i := 6) rfl (.inl rfl)) (xa_cons (x_var (i := 3) rfl (.inl rfl)) (xa_nil)))) (xa_cons (x_tup (xa_cons (x_var (i := 6) rfl (.inl rfl)) (xa_cons (x_var (i := 4) rfl (.inl rfl)) (xa_nil)))) (xa_cons (x_tup (xa_cons (x_var (i := 5) rfl (.inl rfl)) (xa_cons (x_var (i := 6) rfl (.inl rfl)) (xa_nil)))) (xa_cons (x_tup (xa_cons (x_var (i := 3) rfl (.inl rfl)) (xa_cons (x_var (i := 3) rfl (.inl rfl)) (xa_nil)))) (xa_nil)))))))) (xg_tup rfl (xgs_cons (xg_name (i := 7) nd rfl (.inl rfl)) (xgs_cons (xg_name (i := 8) nd rfl (.inl rfl)) (xgs_nil)))) (xss_cons (xs_set (i := 9) nd rfl (.inl rfl) (x_call (G__law_is_finer.mono (by decide)) B__law_is_finer K__law_is_finer hr hgd rfl M__law_is_finer (xa_cons (x_var (i := 7) rfl (.inl rfl)) (xa_cons (x_var (i := 8) rfl (.inl rfl)) (xa_nil))))) (xss_one (xs_if (xt_cmp (o_ne (r64 hr)) (x_callB (o_repr hgd (r100 hr)) rfl e_repr (by rfl) (xa_cons (x_lst (xa_cons (x_call (G_is_finer.mono (by decide)) B_is_finer K_is_finer hr hgd rfl M_is_finer (xa_cons (x_var (i := 2) rfl (.inl rfl)) (xa_cons (x_var (i := 7) rfl (.inl rfl)) (xa_cons (x_var (i := 8) rfl (.inl rfl)) (xa_nil))))) (xa_cons (x_callKw (ks := ["other_parting", "parting", "web"]) [2, 1, 0] (G_is_finer.mono (by decide)) (kwb_of U_is_finer fun _ _ _ _ _ _ ws hl => match ws, hl with | [_, _, _], _ => rfl) K_is_finer hr hgd rfl M_is_finer (xk_cons (x_var (i := 8) rfl (.inl rfl)) (xk_cons (x_var (i := 7) rfl (.inl rfl)) (xk_cons (x_var (i := 2) rfl (.inl rfl)) (xk_nil))))) (xa_nil)))) (xa_nil))) (x_callB (o_repr hgd (r100 hr)) rfl e_repr (by rfl) (xa_cons (x_lst (xa_cons (x_var (i := 9) rfl (.inl rfl)) (xa_cons (x_var (i := 9) rfl (.inl rfl)) (xa_nil)))) (xa_nil))) (by rfl)) (xss_one (xs_ret (x_bl))) (xss_nil))))) (xss_cons (xs_if (PW.pt (xw_or (xt_cmp o_isNot (x_call (G_is_finer.mono (by decide)) B_is_finer K_is_finer hr hgd rfl M_is_finer (xa_cons (x_var (i := 2) rfl (.inl rfl)) (xa_cons (x_var (i := 6) rfl (.inl rfl)) (xa_cons (x_var (i := 3) rfl (.inl rfl)) (xa_nil))))) (x_bl) (by rfl)) (xw_or (xt_cmp o_isNot (x_call (G_is_finer.mono (by decide)) B_is_finer K_is_finer hr hgd rfl M_is_finer (xa_cons (x_var (i := 2) rfl (.inl rfl)) (xa_cons (x_var (i := 6) rfl (.inl rfl)) (xa_cons (x_var (i := 4) rfl (.inl rfl)) (xa_nil))))) (x_bl) (by rfl)) (pw_or1 (PW.pt (xw_and (xt_val (x_call (G__law_is_finer.mono (by decide)) B__law_is_finer K__law_is_finer hr hgd rfl M__law_is_finer (xa_cons (x_var (i := 5) rfl (.inl rfl)) (xa_cons (x_var (i := 3) rfl (.inl rfl)) (xa_nil))))) (xw_and (xt_val (x_call (G__law_is_finer.mono (by decide)) B__law_is_finer K__law_is_finer hr hgd rfl M__law_is_finer (xa_cons (x_var (i := 5) rfl (.inl rfl)) (xa_cons (x_var (i := 4) rfl (.inl rfl)) (xa_nil))))) (pw_and1 (xt_cmp o_isNot (x_call (G_is_finer.mono (by decide)) B_is_finer K_is_finer hr hgd rfl M_is_finer (xa_cons (x_var (i := 2) rfl (.inl rfl)) (xa_cons (x_var (i := 5) rfl (.inl rfl)) (xa_cons (x_var (i := 6) rfl (.inl rfl)) (xa_nil))))) (x_bl) (by rfl)))))))))) (xss_one (xs_ret (x_bl))) (xss_nil)) (xss_cons (xs_set (i := 10) nd rfl (.inl rfl) (x_call (G_between.mono (by decide)) B_between K_between hr hgd rfl M_between (xa_cons (x_var (i := 2) rfl (.inl rfl)) (xa_cons (x_var (i := 6) rfl (.inl rfl)) (xa_nil))))) (xss_cons (xs_if (PW.pt (xw_or (xt_cmp (o_ne (r64 hr)) (x_var (i := 10) rfl (.inl rfl)) (x_callTy o_tuple rfl e_tuple (by rfl) (xa_cons (x_sortSetT rfl rfl e_sorted rfl e_set (x_bin o_add (x_call (G_between.mono (by decide)) B_between K_between hr hgd rfl M_between (xa_cons (x_var (i := 2) rfl (.inl rfl)) (xa_cons (x_var (i := 3) rfl (.inl rfl)) (xa_nil)))) (x_call (G_between.mono (by decide)) B_between K_between hr hgd rfl M_between (xa_cons (x_var (i := 2) rfl (.inl rfl)) (xa_cons (x_var (i := 4) rfl (.inl rfl)) (xa_nil)))))) (xa_nil))) (by rfl)) (pw_or1 (xt_cmp (o_ne (r64 hr)) (x_var (i := 10) rfl (.inl rfl)) (x_call (G__law_between.mono (by decide)) B__law_between K__law_between hr hgd rfl M__law_between (xa_cons (x_var (i := 2) rfl (.inl rfl)) (xa_cons (x_var (i := 6) rfl (.inl rfl)) (xa_nil)))) (by rfl))))) (xss_one (xs_ret (x_bl))) (xss_nil)) (xss_cons (xs_set (i := 11) nd rfl (.inl rfl) (x_tup (xa_cons (x_str) (xa_cons (x_var (i := 1) rfl (.inl rfl)) (xa_cons (x_callTy o_tuple rfl e_tuple (by rfl) (xa_cons (x_callB (o_sorted (r100 hr)) rfl e_sorted (by rfl) (xa_cons (x_bin o_add (x_idx (x_var (i := 2) rfl (.inl rfl)) (x_int) (fun _ _ => rfl)) (x_tup (xa_cons (x_if (xt_cmp (o_lt (r0 hr)) (x_idx (x_idx (x_var (i := 3) rfl (.inl rfl)) (x_int) (fun _ _ => rfl)) (x_int) (fun _ _ => rfl)) (x_idx (x_idx (x_var (i := 3) rfl (.inl rfl)) (x_int) (fun _ _ => rfl)) (x_int) (fun _ _ => rfl)) (by rfl)) (x_tup (xa_cons (x_idx (x_idx (x_var (i := 3) rfl (.inl rfl)) (x_int) (fun _ _ => rfl)) (x_int) (fun _ _ => rfl)) (xa_cons (x_idx (x_idx (x_var (i := 3) rfl (.inl rfl)) (x_int) (fun _ _ => rfl)) (x_int) (fun _ _ => rfl)) (xa_nil)))) (x_tup (xa_cons (x_idx (x_idx (x_var (i := 3) rfl (.inl rfl)) (x_int) (fun _ _ => rfl)) (x_int) (fun _ _ => rfl)) (xa_cons (x_idx (x_idx (x_var (i := 3) rfl (.inl rfl)) (x_int) (fun _ _ => rfl)) (x_int) (fun _ _ => rfl)) (xa_nil))))) (xa_nil)))) (xa_nil))) (xa_nil))) (xa_nil)))))) (xss_cons (xs_set (i := 12) nd rfl (.inl rfl) (x_bin o_add (x_int) (x_call (G__law_draw.mono (by decide)) B__law_draw K__law_draw hr hgd rfl M__law_draw (xa_cons (x_var (i := 0) rfl (.inl rfl)) (xa_cons (x_int) (xa_nil)))))) (xss_one (xs_ret (x_and (x_cmp (o_eq (r64 hr)) (x_call (G_looseness.mono (by decide)) B_looseness K_looseness hr hgd rfl M_looseness (xa_cons (x_var (i := 11) rfl (.inl rfl)) (xa_cons (x_var (i := 12) rfl (.inl rfl)) (xa_cons (x_var (i := 3) rfl (.inl rfl)) (xa_nil))))) (x_bin o_sub (x_call (G_looseness.mono (by decide)) B_looseness K_looseness hr hgd rfl M_looseness (xa_cons (x_var (i := 2) rfl (.inl rfl)) (xa_cons (x_var (i := 12) rfl (.inl rfl)) (xa_cons (x_var (i := 3) rfl (.inl rfl)) (xa_nil))))) (x_int)) (by rfl)) (pe_one (x_cmp (o_eq (r64 hr)) (x_call (G_looseness.mono (by decide)) B_looseness K_looseness hr hgd rfl M_looseness (xa_cons (x_var (i := 2) rfl (.inl rfl)) (xa_cons (x_var (i := 12) rfl (.inl rfl)) (xa_cons (x_var (i := 3) rfl (.inl rfl)) (xa_nil))))) (x_call (G__law_looseness.mono (by decide)) B__law_looseness K__law_looseness hr hgd rfl M__law_looseness (xa_cons (x_var (i := 2) rfl (.inl rfl)) (xa_cons (x_var (i := 12) rfl (.inl rfl)) (xa_cons (x_var (i := 3) rfl (.inl rfl)) (xa_nil))))) (by rfl))))))))))))))))
theorem sc_law : FnScope ["script", "k", "pot", "turn"] ["script"] (defScope (top 51)) := ⟨rfl, rfl, rfl, by decide +kernel, rfl, by decide +kernel, by decide +kernel⟩
theorem ok_law (X : K.In base) (G : base.Ns mainGlobals mg) (c : Says K) : ∃ fd, Has P w K mg base "law" (top 51) 11 ["script"] F_law fd := by
  obtain ⟨fd, F⟩ := c.def_ 37 (d := d_law) rfl
  have e_range : mg "range" = none := He.free_ok X G (c.fact 54 (f := .free "range") rfl)
  obtain ⟨fd__law_pot, M__law_pot, U__law_pot, B__law_pot, G__law_pot⟩ := ok__law_pot (P := P) (w := w) X G c
  have K__law_pot := U__law_pot.kp
  obtain ⟨fd__law_right, M__law_right, U__law_right, B__law_right, G__law_right⟩ := ok__law_right (P := P) (w := w) X G c
  have K__law_right := U__law_right.kp
  refine ⟨fd, He.glo_ok X G (c.fact 37 (f := .glo "law") rfl), F, F.bindsN fun _ _ _ _ _ _ us hl => match us, hl with | [_], _ => rfl, L3.FunD.okG F sc_law fun cdv A outer s H E hr hgd => ?_⟩
  have nd := sc_law.nd
  exact xss_cons (xs_for PassesOwn.leaving rfl (xi_seq (x_tup (xa_cons (x_int) (xa_cons (x_int) (xa_nil))))) (xg_name (i := 1) nd rfl (.inl rfl)) (xss_cons (xs_set (i := 2) nd rfl (.inl rfl) (x_call (G__law_pot.mono (by decide)) B__law_pot K__law_pot hr hgd rfl M__law_pot (xa_cons (x_var (i := 0) rfl (.inl rfl)) (xa_cons (x_var (i := 1) rfl (.inl rfl)) (xa_nil))))) (xss_one (xs_for PassesOwn.leaving rfl (xi_range1 rfl e_range (x_int)) (xg_name (i := 3) nd rfl (.inl rfl)) (xss_one (xs_if (xt_not (xt_val (x_call (G__law_right.mono (by decide)) B__law_right K__law_right hr hgd rfl M__law_right (xa_cons (x_var (i := 2) rfl (.inl rfl)) (xa_nil))))) (xss_one (xs_ret (x_bl))) (xss_nil))))))) (xss_one (xs_ret (x_bl)))
end
end K38
set_option Elab.async false
set_option linter.all false
set_option maxRecDepth 100000
set_option maxHeartbeats 4000000
set_option autoImplicit false
namespace K38
open PySem PySem.Spec PyProof.Rows L2 L3
def loose0 : List Str := ["__name__", "WebError", "InvalidMany", "InvalidWeb", "InvalidParting", "is_integer", "is_count", "is_below", "is_row", "is_rising", "want_many", "WEB", "MOST_PLACES", "MOST_TIES", "MOST_K", "are_ties", "is_many", "is_web_of", "is_place_of", "are_places_of", "many_of", "part_numbers", "between_of", "want_web", "want_k", "want_both", "is_parting_of", "looseness_of", "is_finer_of", "meet_of"]
def loose1 : List Str := ["want_parting", "want_partings", "is_parting", "between", "looseness", "is_finer", "meet", "_law_pot", "_law_draw", "_law_ties", "_law_between", "_law_looseness", "_law_parting", "_law_is_finer", "_law_meet", "_law_right"]
def loose : List Str := loose0 ++ loose1
abbrev hk : PySem.W.Hook := He.hookD 4 fa fn
def ob (s : PySem.W.SharedT) : He.AlD := He.obsDG 4 fa fn (HandSHeadRun.getT s)
theorem ob_eq (s : PySem.W.SharedT) : ob s = hk.obs s.abs := He.obsDG_eq (HandSHeadRun.getT_eq s)
theorem run (w : World) : HandSHeadRun.RunEq row (PySem.W.view row.prog [51]) hk ob 4000 loose w := by
  intro os
  kernel_rfl
theorem holds_of (h : ∀ ns : List Int, ns.length ≤ 63 → ∃ st', F_law [wscr ns] [] = some (.dat (.bool true), st')) : PySem.Challenge.rw_grovesapart_k38_whole_partings_met.Holds := by
  w_on; o_law
  refine HandSHeadRun.head_any (r := PySem.W.OpenLaw.row PySem.Challenge.rw_grovesapart_k38_whole_partings_met) (q := PySem.W.view (PySem.W.OpenLaw.row PySem.Challenge.rw_grovesapart_k38_whole_partings_met).prog [51]) (H := hk) (ob := ob) (M := 4000) (loose := loose) (d := HandSHeadRun.topDef (PySem.W.OpenLaw.row PySem.Challenge.rw_grovesapart_k38_whole_partings_met).prog 51) (kwd := []) ob_eq
    (by kernel_rfl) (fun s => by kernel_rfl) run (by kernel_rfl) (by kernel_rfl) (by kernel_rfl) (by rfl) (by first | assumption | decide +kernel) (by decide +kernel) ⟨rfl, rfl, rfl, rfl, rfl, by decide +kernel⟩ ?hw ?hc
  case hw => w_witness2
  case hc =>
    refine walk_G (l := PySem.Challenge.rw_grovesapart_k38_whole_partings_met) (n := 63) (k := 11) (x := "script") (F := F_law) rfl (by decide) (by kernel_rfl) ⟨rfl, by decide, by decide⟩ ?_ h
    intro w mg K h fa X G c hmg0
    have hmg : mg ("law" : Str) = some (.ref fa) := by
      have e : (HandSHeadRun.topDef (PySem.W.OpenLaw.row PySem.Challenge.rw_grovesapart_k38_whole_partings_met).prog 51).name = ("law" : Str) := by kernel_rfl
      rw [← e]
      exact hmg0
    obtain ⟨fd, F⟩ := c.def_ 37 (d := d_law) rfl
    have e := hmg.symm.trans (He.glo_ok X G (c.fact 37 (f := .glo "law") rfl))
    cases e
    have b := FunD.bindsA (ps := ["script"]) F fun _ _ _ _ _ _ us hl => match us, hl with | [_], _ => rfl
    refine ⟨fd, fun s v => b s [v] rfl, fun base X2 G2 => ?_⟩
    obtain ⟨fd2, m2, F2, _, g2⟩ := ok_law (P := (PySem.Challenge.rw_grovesapart_k38_whole_partings_met).prog) (w := w) X2 G2 c
    have e2 : fd = fd2 := fd_one F F2
    subst e2
    exact g2
end K38
set_option Elab.async false
set_option linter.all false
set_option maxRecDepth 100000
set_option maxHeartbeats 400000
set_option autoImplicit false
namespace K38
open PySem PySem.Spec PyProof.Rows L2 L3
theorem v_is_row (ds : List PyData) (n : Int) (st : Store) : F_is_row [.dat (.tuple ds), .dat (.int n)] st = some (.dat (.bool (decide ((ds.length : Int) = n))), st) := by
  refine run_ret0 (env' := [some (.dat (.tuple ds)), some (.dat (.int n))]) rfl ?_
  unfold b_is_row
  have h : opIsinst [.dat (.tuple ds), .ty "tuple"] st = some (.dat (.bool true), st) := rfl
  have h2 : opLen [.dat (.tuple ds)] st = some (.dat (.int ds.length), st) := by simp only [opLen, seqOf, List.length_map]
  simp only [bSeq, bAsg, bRet, bRetN, bExp, bIfS, bPass, bDat, bVar, bTy, b2, b1, bN, aCons, aNil, bAnd, bOr, bNot, bIf, bChain, tTru, tBl, tNo, tAn, tOr3, tAll, truth, gNm, gTp, gCn, gNl, seqOf, start3, wipe3, bSlice, pSome, pNone, opSlice, Option.bind_some, Option.map_some, Option.bind_eq_bind, List.map_cons, List.map_nil, List.length_cons, List.length_nil, List.set_cons_zero, List.set_cons_succ, List.getElem?_cons_zero, List.getElem?_cons_succ, List.replicate_succ, List.replicate_zero, List.cons_append, List.nil_append, Nat.sub_zero, Nat.sub_self, Nat.reduceAdd, Nat.reduceSub, if_true, if_false, Bool.not_true, Bool.not_false, reduceIte, Bool.false_eq_true, h, h2, opEq_int]
theorem v_is_integer (n : Int) (st : Store) : F_is_integer [.dat (.int n)] st = some (.dat (.bool true), st) := run_ret0 (env' := [some (.dat (.int n))]) rfl rfl
theorem v_is_count (n : Int) (st : Store) : F_is_count [.dat (.int n)] st = some (.dat (.bool (decide (0 ≤ n))), st) := by
  refine run_ret0 (env' := [some (.dat (.int n))]) rfl ?_
  unfold b_is_count
  simp only [bSeq, bAsg, bRet, bRetN, bExp, bIfS, bPass, bDat, bVar, bTy, b2, b1, bN, aCons, aNil, bAnd, bOr, bNot, bIf, bChain, tTru, tBl, tNo, tAn, tOr3, tAll, truth, gNm, gTp, gCn, gNl, seqOf, start3, wipe3, bSlice, pSome, pNone, opSlice, Option.bind_some, Option.map_some, Option.bind_eq_bind, List.map_cons, List.map_nil, List.length_cons, List.length_nil, List.set_cons_zero, List.set_cons_succ, List.getElem?_cons_zero, List.getElem?_cons_succ, List.replicate_succ, List.replicate_zero, List.cons_append, List.nil_append, Nat.sub_zero, Nat.sub_self, Nat.reduceAdd, Nat.reduceSub, if_true, if_false, Bool.not_true, Bool.not_false, reduceIte, Bool.false_eq_true, v_is_integer, opGe]
theorem v_is_below (n m : Int) (st : Store) : F_is_below [.dat (.int n), .dat (.int m)] st = some (.dat (.bool (decide (0 ≤ n ∧ n < m))), st) := by
  refine run_ret0 (env' := [some (.dat (.int n)), some (.dat (.int m))]) rfl ?_
  unfold b_is_below
  simp only [bSeq, bAsg, bRet, bRetN, bExp, bIfS, bPass, bDat, bVar, bTy, b2, b1, bN, aCons, aNil, bAnd, bOr, bNot, bIf, bChain, tTru, tBl, tNo, tAn, tOr3, tAll, truth, gNm, gTp, gCn, gNl, seqOf, start3, wipe3, bSlice, pSome, pNone, opSlice, Option.bind_some, Option.map_some, Option.bind_eq_bind, List.map_cons, List.map_nil, List.length_cons, List.length_nil, List.set_cons_zero, List.set_cons_succ, List.getElem?_cons_zero, List.getElem?_cons_succ, List.replicate_succ, List.replicate_zero, List.cons_append, List.nil_append, Nat.sub_zero, Nat.sub_self, Nat.reduceAdd, Nat.reduceSub, if_true, if_false, Bool.not_true, Bool.not_false, reduceIte, Bool.false_eq_true, v_is_count, opLt]
  by_cases h : 0 ≤ n <;> simp [h]
end K38
set_option Elab.async false
set_option linter.all false
set_option maxRecDepth 100000
set_option maxHeartbeats 400000
set_option autoImplicit false
namespace K38
open PySem PySem.Spec PyProof.Rows L2 L3
def pl (t : Int × Int) : List Int := [t.1, t.2]
def tt (t : Int × Int) : PyData := ti (pl t)
def tts (ts : List (Int × Int)) : PyData := .tuple (ts.map tt)
def wb (n : Int) (ts : List (Int × Int)) : PyData := .tuple [.str "web", .int n, tts ts]
/-- a web of n places -/
structure Web (n : Int) (ts : List (Int × Int)) : Prop where
  lo : 1 ≤ n
  hi : n ≤ 16
  len : ts.length ≤ 40
  ok : ∀ t ∈ ts, 0 ≤ t.1 ∧ t.1 < t.2 ∧ t.2 < n
  ord : ts.Pairwise fun p q => leT (pl p) (pl q) = true
theorem zip_all {α : Type} {p : α → α → Bool} : ∀ {l : List α}, l.Pairwise (fun a b => p a b = true) → (l.zip l.tail).all (fun x => p x.1 x.2) = true
  | [], _ => rfl
  | [_], _ => rfl
  | a :: b :: l, h => by
    rw [List.pairwise_cons] at h
    have := zip_all h.2
    simp only [List.tail_cons, List.zip_cons_cons, List.all_cons] at this ⊢
    rw [h.1 b List.mem_cons_self, this]
    rfl
theorem v_is_many (n : Int) (h1 : 1 ≤ n) (h2 : n ≤ 16) (st : Store) : F_is_many [.dat (.int n)] st = some (.dat (.bool true), st) := by
  refine run_ret0 (env' := [some (.dat (.int n))]) rfl ?_
  unfold b_is_many
  simp only [bSeq, bAsg, bRet, bRetN, bExp, bIfS, bPass, bDat, bVar, bTy, b2, b1, bN, aCons, aNil, bAnd, bOr, bNot, bIf, bChain, tTru, tBl, tNo, tAn, tOr3, tAll, truth, gNm, gTp, gCn, gNl, seqOf, start3, wipe3, bSlice, pSome, pNone, opSlice, Option.bind_some, Option.map_some, Option.bind_eq_bind, List.map_cons, List.map_nil, List.length_cons, List.length_nil, List.set_cons_zero, List.set_cons_succ, List.getElem?_cons_zero, List.getElem?_cons_succ, List.replicate_succ, List.replicate_zero, List.cons_append, List.nil_append, Nat.sub_zero, Nat.sub_self, Nat.reduceAdd, Nat.reduceSub, if_true, if_false, Bool.not_true, Bool.not_false, reduceIte, Bool.false_eq_true, v_is_integer, opLe, h1, h2, decide_true]
theorem v_is_rising_i (l : List Int) (h : l.Pairwise (· < ·)) (st : Store) : F_is_rising [.dat (ti l)] st = some (.dat (.bool true), st) := by
  refine run_ret0 (env' := [some (.dat (ti l)), none, none]) rfl ?_
  unfold b_is_rising
  have hc := comp_zip (f := bVar 0) (f' := bSlice (bVar 0) (pSome (bDat (.int 1))) pNone) (gt := gTp 2 (gCn (gNm 1) (gCn (gNm 2) gNl))) (t := tAll) (el := b2 opLt (bVar 1) (bVar 2)) (vs := [1, 2]) (env := [some (.dat (ti l)), none, none]) (st := st) (xs := l) (ys := l.tail) (e := .int) (e' := .int)
    rfl (by unfold ti; simp only [bSeq, bAsg, bRet, bRetN, bExp, bIfS, bPass, bDat, bVar, bTy, b2, b1, bN, aCons, aNil, bAnd, bOr, bNot, bIf, bChain, tTru, tBl, tNo, tAn, tOr3, tAll, truth, gNm, gTp, gCn, gNl, seqOf, start3, wipe3, bSlice, pSome, pNone, opSlice, Option.bind_some, Option.map_some, Option.bind_eq_bind, List.map_cons, List.map_nil, List.length_cons, List.length_nil, List.set_cons_zero, List.set_cons_succ, List.getElem?_cons_zero, List.getElem?_cons_succ, List.replicate_succ, List.replicate_zero, List.cons_append, List.nil_append, Nat.sub_zero, Nat.sub_self, Nat.reduceAdd, Nat.reduceSub, if_true, if_false, Bool.not_true, Bool.not_false, reduceIte, Bool.false_eq_true, cut1, List.map_tail]) (fun _ => true) (fun x => .bool (decide (x.1 < x.2))) (fun x _ => ⟨[some (.dat (ti l)), some (.dat (.int x.1)), some (.dat (.int x.2))], rfl, rfl, fun _ => rfl⟩)
  have hf : (l.zip l.tail).filter (fun _ => true) = l.zip l.tail := List.filter_eq_self.mpr fun _ _ => rfl
  rw [hf] at hc
  have ha := opAll_map (st := st) (l.zip l.tail) (fun x => decide (x.1 < x.2))
  have hz := zip_all (p := fun a b => decide (a < b)) (h.imp fun q => decide_eq_true q)
  rw [hz] at ha
  simp only [bSeq, bAsg, bRet, bRetN, bExp, bIfS, bPass, bDat, bVar, bTy, b2, b1, bN, aCons, aNil, bAnd, bOr, bNot, bIf, bChain, tTru, tBl, tNo, tAn, tOr3, tAll, truth, gNm, gTp, gCn, gNl, seqOf, start3, wipe3, bSlice, pSome, pNone, opSlice, Option.bind_some, Option.map_some, Option.bind_eq_bind, List.map_cons, List.map_nil, List.length_cons, List.length_nil, List.set_cons_zero, List.set_cons_succ, List.getElem?_cons_zero, List.getElem?_cons_succ, List.replicate_succ, List.replicate_zero, List.cons_append, List.nil_append, Nat.sub_zero, Nat.sub_self, Nat.reduceAdd, Nat.reduceSub, if_true, if_false, Bool.not_true, Bool.not_false, reduceIte, Bool.false_eq_true, hc, ha]
theorem v_is_rising_t (P : List (List Int)) (h : P.Pairwise fun a b => HT.lexLt a b = true) (st : Store) : F_is_rising [.dat (tp P)] st = some (.dat (.bool true), st) := by
  refine run_ret0 (env' := [some (.dat (tp P)), none, none]) rfl ?_
  unfold b_is_rising
  have hc := comp_zip (f := bVar 0) (f' := bSlice (bVar 0) (pSome (bDat (.int 1))) pNone) (gt := gTp 2 (gCn (gNm 1) (gCn (gNm 2) gNl))) (t := tAll) (el := b2 opLt (bVar 1) (bVar 2)) (vs := [1, 2]) (env := [some (.dat (tp P)), none, none]) (st := st) (xs := P) (ys := P.tail) (e := ti) (e' := ti)
    rfl (by unfold tp; simp only [bSeq, bAsg, bRet, bRetN, bExp, bIfS, bPass, bDat, bVar, bTy, b2, b1, bN, aCons, aNil, bAnd, bOr, bNot, bIf, bChain, tTru, tBl, tNo, tAn, tOr3, tAll, truth, gNm, gTp, gCn, gNl, seqOf, start3, wipe3, bSlice, pSome, pNone, opSlice, Option.bind_some, Option.map_some, Option.bind_eq_bind, List.map_cons, List.map_nil, List.length_cons, List.length_nil, List.set_cons_zero, List.set_cons_succ, List.getElem?_cons_zero, List.getElem?_cons_succ, List.replicate_succ, List.replicate_zero, List.cons_append, List.nil_append, Nat.sub_zero, Nat.sub_self, Nat.reduceAdd, Nat.reduceSub, if_true, if_false, Bool.not_true, Bool.not_false, reduceIte, Bool.false_eq_true, cut1, List.map_tail]) (fun _ => true) (fun x => .bool (HT.lexLt x.1 x.2)) (fun x _ => ⟨[some (.dat (tp P)), some (.dat (ti x.1)), some (.dat (ti x.2))], rfl, rfl, fun _ => by simp only [bSeq, bAsg, bRet, bRetN, bExp, bIfS, bPass, bDat, bVar, bTy, b2, b1, bN, aCons, aNil, bAnd, bOr, bNot, bIf, bChain, tTru, tBl, tNo, tAn, tOr3, tAll, truth, gNm, gTp, gCn, gNl, seqOf, start3, wipe3, bSlice, pSome, pNone, opSlice, Option.bind_some, Option.map_some, Option.bind_eq_bind, List.map_cons, List.map_nil, List.length_cons, List.length_nil, List.set_cons_zero, List.set_cons_succ, List.getElem?_cons_zero, List.getElem?_cons_succ, List.replicate_succ, List.replicate_zero, List.cons_append, List.nil_append, Nat.sub_zero, Nat.sub_self, Nat.reduceAdd, Nat.reduceSub, if_true, if_false, Bool.not_true, Bool.not_false, reduceIte, Bool.false_eq_true, opLt_ti]⟩)
  have hf : (P.zip P.tail).filter (fun _ => true) = P.zip P.tail := List.filter_eq_self.mpr fun _ _ => rfl
  rw [hf] at hc
  have ha := opAll_map (st := st) (P.zip P.tail) (fun x => HT.lexLt x.1 x.2)
  have hz := zip_all (p := fun a b => HT.lexLt a b) h
  rw [hz] at ha
  simp only [bSeq, bAsg, bRet, bRetN, bExp, bIfS, bPass, bDat, bVar, bTy, b2, b1, bN, aCons, aNil, bAnd, bOr, bNot, bIf, bChain, tTru, tBl, tNo, tAn, tOr3, tAll, truth, gNm, gTp, gCn, gNl, seqOf, start3, wipe3, bSlice, pSome, pNone, opSlice, Option.bind_some, Option.map_some, Option.bind_eq_bind, List.map_cons, List.map_nil, List.length_cons, List.length_nil, List.set_cons_zero, List.set_cons_succ, List.getElem?_cons_zero, List.getElem?_cons_succ, List.replicate_succ, List.replicate_zero, List.cons_append, List.nil_append, Nat.sub_zero, Nat.sub_self, Nat.reduceAdd, Nat.reduceSub, if_true, if_false, Bool.not_true, Bool.not_false, reduceIte, Bool.false_eq_true, hc, ha]
theorem v_are_ties (n : Int) (ts : List (Int × Int)) (h : Web n ts) (st : Store) : F_are_ties [.dat (.int n), .dat (tts ts)] st = some (.dat (.bool true), st) := by
  refine run_ret0 (env' := [some (.dat (.int n)), some (.dat (tts ts)), none, none, none, none, none]) rfl ?_
  unfold b_are_ties
  have h1 : opIsinst [.dat (tts ts), .ty "tuple"] st = some (.dat (.bool true), st) := rfl
  have h2 : opLen [.dat (tts ts)] st = some (.dat (.int ts.length), st) := by unfold tts; simp only [opLen, seqOf, List.length_map]
  have h3 : decide ((40 : Int) < ts.length) = false := decide_eq_false (by have := h.len; omega)
  have c1 := comp_seq (f := bVar 1) (gt := gNm 2) (t := tAll) (el := bN F_is_row (aCons (bVar 2) (aCons (bDat (.int 2)) aNil))) (vs := [2]) (env := [some (.dat (.int n)), some (.dat (tts ts)), none, none, none, none, none]) (st := st) (xs := ts) (e := tt) rfl rfl (fun _ => true) (fun _ => .bool true)
    (fun x _ => ⟨[some (.dat (.int n)), some (.dat (tts ts)), some (.dat (tt x)), none, none, none, none], rfl, rfl, fun _ => by simp only [bSeq, bAsg, bRet, bRetN, bExp, bIfS, bPass, bDat, bVar, bTy, b2, b1, bN, aCons, aNil, bAnd, bOr, bNot, bIf, bChain, tTru, tBl, tNo, tAn, tOr3, tAll, truth, gNm, gTp, gCn, gNl, seqOf, start3, wipe3, bSlice, pSome, pNone, opSlice, Option.bind_some, Option.map_some, Option.bind_eq_bind, List.map_cons, List.map_nil, List.length_cons, List.length_nil, List.set_cons_zero, List.set_cons_succ, List.getElem?_cons_zero, List.getElem?_cons_succ, List.replicate_succ, List.replicate_zero, List.cons_append, List.nil_append, Nat.sub_zero, Nat.sub_self, Nat.reduceAdd, Nat.reduceSub, if_true, if_false, Bool.not_true, Bool.not_false, reduceIte, Bool.false_eq_true, tt, ti, pl, v_is_row]; rfl⟩)
  have c2 := comp_seq (f := bVar 1) (gt := gTp 2 (gCn (gNm 3) (gCn (gNm 4) gNl))) (t := tAll) (el := bAnd (bN F_is_below (aCons (bVar 3) (aCons (bVar 0) aNil))) (bAnd (bN F_is_below (aCons (bVar 4) (aCons (bVar 0) aNil))) (b2 opLt (bVar 3) (bVar 4)))) (vs := [3, 4]) (env := [some (.dat (.int n)), some (.dat (tts ts)), none, none, none, none, none]) (st := st) (xs := ts) (e := tt) rfl rfl (fun _ => true) (fun _ => .bool true)
    (fun x hx => ⟨[some (.dat (.int n)), some (.dat (tts ts)), none, some (.dat (.int x.1)), some (.dat (.int x.2)), none, none], rfl, rfl, fun _ => by
      obtain ⟨k1, k2, k3⟩ := h.ok x hx
      have e1 : decide (0 ≤ x.1 ∧ x.1 < n) = true := decide_eq_true (by omega)
      have e2 : decide (0 ≤ x.2 ∧ x.2 < n) = true := decide_eq_true (by omega)
      simp only [bSeq, bAsg, bRet, bRetN, bExp, bIfS, bPass, bDat, bVar, bTy, b2, b1, bN, aCons, aNil, bAnd, bOr, bNot, bIf, bChain, tTru, tBl, tNo, tAn, tOr3, tAll, truth, gNm, gTp, gCn, gNl, seqOf, start3, wipe3, bSlice, pSome, pNone, opSlice, Option.bind_some, Option.map_some, Option.bind_eq_bind, List.map_cons, List.map_nil, List.length_cons, List.length_nil, List.set_cons_zero, List.set_cons_succ, List.getElem?_cons_zero, List.getElem?_cons_succ, List.replicate_succ, List.replicate_zero, List.cons_append, List.nil_append, Nat.sub_zero, Nat.sub_self, Nat.reduceAdd, Nat.reduceSub, if_true, if_false, Bool.not_true, Bool.not_false, reduceIte, Bool.false_eq_true, v_is_below, e1, e2, opLt, k2, decide_true]⟩)
  have c3 := comp_zip (f := bVar 1) (f' := bSlice (bVar 1) (pSome (bDat (.int 1))) pNone) (gt := gTp 2 (gCn (gNm 5) (gCn (gNm 6) gNl))) (t := tAll) (el := b2 opLe (bVar 5) (bVar 6)) (vs := [5, 6]) (env := [some (.dat (.int n)), some (.dat (tts ts)), none, none, none, none, none]) (st := st) (xs := ts) (ys := ts.tail) (e := tt) (e' := tt)
    rfl (by unfold tts; simp only [bSeq, bAsg, bRet, bRetN, bExp, bIfS, bPass, bDat, bVar, bTy, b2, b1, bN, aCons, aNil, bAnd, bOr, bNot, bIf, bChain, tTru, tBl, tNo, tAn, tOr3, tAll, truth, gNm, gTp, gCn, gNl, seqOf, start3, wipe3, bSlice, pSome, pNone, opSlice, Option.bind_some, Option.map_some, Option.bind_eq_bind, List.map_cons, List.map_nil, List.length_cons, List.length_nil, List.set_cons_zero, List.set_cons_succ, List.getElem?_cons_zero, List.getElem?_cons_succ, List.replicate_succ, List.replicate_zero, List.cons_append, List.nil_append, Nat.sub_zero, Nat.sub_self, Nat.reduceAdd, Nat.reduceSub, if_true, if_false, Bool.not_true, Bool.not_false, reduceIte, Bool.false_eq_true, cut1, List.map_tail]) (fun _ => true) (fun x => .bool (leT (pl x.1) (pl x.2))) (fun x _ => ⟨[some (.dat (.int n)), some (.dat (tts ts)), none, none, none, some (.dat (tt x.1)), some (.dat (tt x.2))], rfl, rfl, fun _ => by unfold tt; simp only [bSeq, bAsg, bRet, bRetN, bExp, bIfS, bPass, bDat, bVar, bTy, b2, b1, bN, aCons, aNil, bAnd, bOr, bNot, bIf, bChain, tTru, tBl, tNo, tAn, tOr3, tAll, truth, gNm, gTp, gCn, gNl, seqOf, start3, wipe3, bSlice, pSome, pNone, opSlice, Option.bind_some, Option.map_some, Option.bind_eq_bind, List.map_cons, List.map_nil, List.length_cons, List.length_nil, List.set_cons_zero, List.set_cons_succ, List.getElem?_cons_zero, List.getElem?_cons_succ, List.replicate_succ, List.replicate_zero, List.cons_append, List.nil_append, Nat.sub_zero, Nat.sub_self, Nat.reduceAdd, Nat.reduceSub, if_true, if_false, Bool.not_true, Bool.not_false, reduceIte, Bool.false_eq_true, opLe_ti]; rfl⟩)
  have ft : ∀ {α : Type} (l : List α), l.filter (fun _ => true) = l := fun l => List.filter_eq_self.mpr fun _ _ => rfl
  rw [ft] at c1 c2 c3
  have a1 := opAll_map (st := st) ts (fun _ => true)
  have a3 := opAll_map (st := st) (ts.zip ts.tail) (fun x => leT (pl x.1) (pl x.2))
  rw [zip_all (p := fun a b => leT (pl a) (pl b)) h.ord] at a3
  have e0 : ts.all (fun _ => true) = true := List.all_eq_true.mpr fun _ _ => rfl
  rw [e0] at a1
  simp only [bSeq, bAsg, bRet, bRetN, bExp, bIfS, bPass, bDat, bVar, bTy, b2, b1, bN, aCons, aNil, bAnd, bOr, bNot, bIf, bChain, tTru, tBl, tNo, tAn, tOr3, tAll, truth, gNm, gTp, gCn, gNl, seqOf, start3, wipe3, bSlice, pSome, pNone, opSlice, Option.bind_some, Option.map_some, Option.bind_eq_bind, List.map_cons, List.map_nil, List.length_cons, List.length_nil, List.set_cons_zero, List.set_cons_succ, List.getElem?_cons_zero, List.getElem?_cons_succ, List.replicate_succ, List.replicate_zero, List.cons_append, List.nil_append, Nat.sub_zero, Nat.sub_self, Nat.reduceAdd, Nat.reduceSub, if_true, if_false, Bool.not_true, Bool.not_false, reduceIte, Bool.false_eq_true, h1, h2, h3, opGt, c1, c2, c3, a1, a3]
theorem v_is_web_of (n : Int) (ts : List (Int × Int)) (h : Web n ts) (st : Store) : F_is_web_of [.dat (wb n ts)] st = some (.dat (.bool true), st) := by
  refine run_ret0 (env' := [some (.dat (wb n ts))]) rfl ?_
  unfold b_is_web_of wb
  have i0 : opIdx (.dat (.tuple [.str "web", .int n, tts ts])) (.dat (.int 0)) st = some (.dat (.str "web"), st) := rfl
  have i1 : opIdx (.dat (.tuple [.str "web", .int n, tts ts])) (.dat (.int 1)) st = some (.dat (.int n), st) := rfl
  have i2 : opIdx (.dat (.tuple [.str "web", .int n, tts ts])) (.dat (.int 2)) st = some (.dat (tts ts), st) := rfl
  have k1 : opIsinst [.dat (.str "web"), .ty "str"] st = some (.dat (.bool true), st) := rfl
  have k2 : opNe (.dat (.str "web")) (.dat (.str "web")) st = some (.dat (.bool false), st) := by
    rw [opNe_dat (.str (k := 0) (by decide +kernel)) (.str (k := 0) (by decide +kernel))]
    rfl
  have r3 : F_is_row [.dat (.tuple [.str "web", .int n, tts ts]), .dat (.int 3)] st = some (.dat (.bool true), st) := v_is_row _ _ _
  simp only [bSeq, bAsg, bRet, bRetN, bExp, bIfS, bPass, bDat, bVar, bTy, b2, b1, bN, aCons, aNil, bAnd, bOr, bNot, bIf, bChain, tTru, tBl, tNo, tAn, tOr3, tAll, truth, gNm, gTp, gCn, gNl, seqOf, start3, wipe3, bSlice, pSome, pNone, opSlice, Option.bind_some, Option.map_some, Option.bind_eq_bind, List.map_cons, List.map_nil, List.length_cons, List.length_nil, List.set_cons_zero, List.set_cons_succ, List.getElem?_cons_zero, List.getElem?_cons_succ, List.replicate_succ, List.replicate_zero, List.cons_append, List.nil_append, Nat.sub_zero, Nat.sub_self, Nat.reduceAdd, Nat.reduceSub, if_true, if_false, Bool.not_true, Bool.not_false, reduceIte, Bool.false_eq_true, r3, i0, i1, i2, k1, k2, v_is_many n h.lo h.hi, v_are_ties n ts h]
theorem v_want_web (n : Int) (ts : List (Int × Int)) (h : Web n ts) (st : Store) : F_want_web [.dat (wb n ts)] st = some (.dat (wb n ts), st) := by
  refine run_ret0 (env' := [some (.dat (wb n ts))]) rfl ?_
  unfold b_want_web
  simp only [bSeq, bAsg, bRet, bRetN, bExp, bIfS, bPass, bDat, bVar, bTy, b2, b1, bN, aCons, aNil, bAnd, bOr, bNot, bIf, bChain, tTru, tBl, tNo, tAn, tOr3, tAll, truth, gNm, gTp, gCn, gNl, seqOf, start3, wipe3, bSlice, pSome, pNone, opSlice, Option.bind_some, Option.map_some, Option.bind_eq_bind, List.map_cons, List.map_nil, List.length_cons, List.length_nil, List.set_cons_zero, List.set_cons_succ, List.getElem?_cons_zero, List.getElem?_cons_succ, List.replicate_succ, List.replicate_zero, List.cons_append, List.nil_append, Nat.sub_zero, Nat.sub_self, Nat.reduceAdd, Nat.reduceSub, if_true, if_false, Bool.not_true, Bool.not_false, reduceIte, Bool.false_eq_true, v_is_web_of n ts h]
end K38
set_option Elab.async false
set_option linter.all false
set_option maxRecDepth 100000
set_option maxHeartbeats 400000
set_option autoImplicit false
namespace K38
open PySem PySem.Spec PyProof.Rows L2 L3
def rg (n : Int) : List Int := (List.range n.toNat).map fun (i : Nat) => (i : Int)
theorem mem_rg {n x : Int} : x ∈ rg n ↔ 0 ≤ x ∧ x < n := by
  unfold rg
  rw [List.mem_map]
  constructor
  · rintro ⟨i, hi, rfl⟩; rw [List.mem_range] at hi; omega
  · intro h; exact ⟨x.toNat, by rw [List.mem_range]; omega, by omega⟩
theorem rg_sorted (n : Int) : (rg n).Pairwise (· < ·) := by
  unfold rg
  rw [List.pairwise_map]
  exact List.pairwise_lt_range.imp fun h => by omega
theorem rg_nodup (n : Int) : (rg n).Nodup := (rg_sorted n).imp fun h => by omega
theorem rg_len (n : Int) : (rg n).length = n.toNat := by unfold rg; rw [List.length_map, List.length_range]
theorem rgD_rg (n : Int) : rgD 0 n = (rg n).map .int := by
  unfold rgD rg
  rw [List.map_map, Int.sub_zero]
  refine List.map_congr_left fun i _ => ?_
  show PyData.int (0 + i) = .int i
  rw [Int.zero_add]
/-- a parting of n places -/
structure Part (n : Int) (P : List (List Int)) : Prop where
  two : 2 ≤ P.length
  ne : ∀ p ∈ P, p ≠ []
  inc : ∀ p ∈ P, p.Pairwise (· < ·)
  lex : P.Pairwise fun a b => HT.lexLt a b = true
  perm : P.flatten.Perm (rg n)
theorem Part.rng {n : Int} {P : List (List Int)} (h : Part n P) {p : List Int} (hp : p ∈ P) {x : Int} (hx : x ∈ p) : 0 ≤ x ∧ x < n := mem_rg.mp (h.perm.mem_iff.mp (List.mem_flatten.mpr ⟨p, hp, hx⟩))
theorem Part.cov {n : Int} {P : List (List Int)} (h : Part n P) {x : Int} (h1 : 0 ≤ x) (h2 : x < n) : ∃ p ∈ P, x ∈ p := List.mem_flatten.mp (h.perm.mem_iff.mpr (mem_rg.mpr ⟨h1, h2⟩))
theorem Part.nd {n : Int} {P : List (List Int)} (h : Part n P) : P.flatten.Nodup := h.perm.symm.nodup (rg_nodup n)
theorem nd_one {P : List (List Int)} (h : P.flatten.Nodup) : ∀ {i j : Nat} {p q : List Int} {x : Int}, P[i]? = some p → P[j]? = some q → x ∈ p → x ∈ q → i = j := by
  induction P with
  | nil => intro i j p q x h1; simp at h1
  | cons a P ih =>
    rw [List.flatten_cons, List.nodup_append] at h
    intro i j p q x h1 h2 hp hq
    cases i with
    | zero =>
      cases j with
      | zero => rfl
      | succ j =>
        simp at h1 h2
        subst h1
        exact absurd rfl (h.2.2 x hp x (List.mem_flatten.mpr ⟨q, List.mem_of_getElem? h2, hq⟩))
    | succ i =>
      cases j with
      | zero =>
        simp at h1 h2
        subst h2
        exact absurd rfl (h.2.2 x hq x (List.mem_flatten.mpr ⟨p, List.mem_of_getElem? h1, hp⟩))
      | succ j =>
        have := ih h.2.1 (i := i) (j := j) (p := p) (q := q) (x := x) (by simpa using h1) (by simpa using h2) hp hq
        omega
theorem v_is_place_of (n : Int) (ts : List (Int × Int)) (x : Int) (st : Store) : F_is_place_of [.dat (wb n ts), .dat (.int x)] st = some (.dat (.bool (decide (0 ≤ x ∧ x < n))), st) := by
  refine run_ret0 (env' := [some (.dat (wb n ts)), some (.dat (.int x))]) rfl ?_
  unfold b_is_place_of
  have i1 : opIdx (.dat (wb n ts)) (.dat (.int 1)) st = some (.dat (.int n), st) := rfl
  simp only [bSeq, bAsg, bRet, bRetN, bExp, bIfS, bPass, bDat, bVar, bTy, b2, b1, bN, aCons, aNil, bAnd, bOr, bNot, bIf, bChain, tTru, tBl, tNo, tAn, tOr3, tAll, truth, gNm, gTp, gCn, gNl, seqOf, start3, wipe3, bSlice, pSome, pNone, opSlice, Option.bind_some, Option.map_some, Option.bind_eq_bind, List.map_cons, List.map_nil, List.length_cons, List.length_nil, List.set_cons_zero, List.set_cons_succ, List.getElem?_cons_zero, List.getElem?_cons_succ, List.replicate_succ, List.replicate_zero, List.cons_append, List.nil_append, Nat.sub_zero, Nat.sub_self, Nat.reduceAdd, Nat.reduceSub, if_true, if_false, Bool.not_true, Bool.not_false, reduceIte, Bool.false_eq_true, i1, v_is_below]
theorem v_are_places_of (n : Int) (ts : List (Int × Int)) (p : List Int) (h1 : p.Pairwise (· < ·)) (h2 : ∀ x ∈ p, 0 ≤ x ∧ x < n) (st : Store) : F_are_places_of [.dat (wb n ts), .dat (ti p)] st = some (.dat (.bool true), st) := by
  refine run_ret0 (env' := [some (.dat (wb n ts)), some (.dat (ti p)), none]) rfl ?_
  unfold b_are_places_of
  have k1 : opIsinst [.dat (ti p), .ty "tuple"] st = some (.dat (.bool true), st) := rfl
  have c1 := comp_seq (f := bVar 1) (gt := gNm 2) (t := tAll) (el := bN F_is_place_of (aCons (bVar 0) (aCons (bVar 2) aNil))) (vs := [2]) (env := [some (.dat (wb n ts)), some (.dat (ti p)), none]) (st := st) (xs := p) (e := .int) rfl rfl (fun _ => true) (fun x => .bool (decide (0 ≤ x ∧ x < n)))
    (fun x _ => ⟨[some (.dat (wb n ts)), some (.dat (ti p)), some (.dat (.int x))], rfl, rfl, fun _ => by simp only [bSeq, bAsg, bRet, bRetN, bExp, bIfS, bPass, bDat, bVar, bTy, b2, b1, bN, aCons, aNil, bAnd, bOr, bNot, bIf, bChain, tTru, tBl, tNo, tAn, tOr3, tAll, truth, gNm, gTp, gCn, gNl, seqOf, start3, wipe3, bSlice, pSome, pNone, opSlice, Option.bind_some, Option.map_some, Option.bind_eq_bind, List.map_cons, List.map_nil, List.length_cons, List.length_nil, List.set_cons_zero, List.set_cons_succ, List.getElem?_cons_zero, List.getElem?_cons_succ, List.replicate_succ, List.replicate_zero, List.cons_append, List.nil_append, Nat.sub_zero, Nat.sub_self, Nat.reduceAdd, Nat.reduceSub, if_true, if_false, Bool.not_true, Bool.not_false, reduceIte, Bool.false_eq_true, v_is_place_of]⟩)
  rw [ft] at c1
  have a1 := opAll_map (st := st) p (fun x => decide (0 ≤ x ∧ x < n))
  have e0 : (p.all fun x => decide (0 ≤ x ∧ x < n)) = true := List.all_eq_true.mpr fun x hx => decide_eq_true (h2 x hx)
  rw [e0] at a1
  simp only [bSeq, bAsg, bRet, bRetN, bExp, bIfS, bPass, bDat, bVar, bTy, b2, b1, bN, aCons, aNil, bAnd, bOr, bNot, bIf, bChain, tTru, tBl, tNo, tAn, tOr3, tAll, truth, gNm, gTp, gCn, gNl, seqOf, start3, wipe3, bSlice, pSome, pNone, opSlice, Option.bind_some, Option.map_some, Option.bind_eq_bind, List.map_cons, List.map_nil, List.length_cons, List.length_nil, List.set_cons_zero, List.set_cons_succ, List.getElem?_cons_zero, List.getElem?_cons_succ, List.replicate_succ, List.replicate_zero, List.cons_append, List.nil_append, Nat.sub_zero, Nat.sub_self, Nat.reduceAdd, Nat.reduceSub, if_true, if_false, Bool.not_true, Bool.not_false, reduceIte, Bool.false_eq_true, k1, c1, a1, v_is_rising_i p h1]
theorem Part.places {n : Int} {P : List (List Int)} (h : Part n P) (ts : List (Int × Int)) {p : List Int} (hp : p ∈ P) (st : Store) : F_are_places_of [.dat (wb n ts), .dat (ti p)] st = some (.dat (.bool true), st) := v_are_places_of n ts p (h.inc p hp) (fun _ hx => h.rng hp hx) st
theorem v_many_of (n : Int) (ts : List (Int × Int)) (st : Store) : F_many_of [.dat (wb n ts)] st = some (.dat (.int n), st) := run_ret0 (env' := [some (.dat (wb n ts))]) rfl rfl
theorem flat_le {P : List (List Int)} : ∀ (i : Nat), (P.take i).flatten.length ≤ P.flatten.length := fun i => by
  have := List.take_append_drop i P
  have e := congrArg (fun l => l.flatten.length) this
  simp only [List.flatten_append, List.length_append] at e
  omega
theorem v_is_parting_of (n : Int) (ts : List (Int × Int)) (P : List (List Int)) (hn : n ≤ 16) (h : Part n P) (st : Store) : F_is_parting_of [.dat (wb n ts), .dat (tp P)] st = some (.dat (.bool true), st) := by
  have hlen : P.flatten.length ≤ 16 := by rw [h.perm.length_eq, rg_len]; omega
  -- the places in a row
  obtain ⟨env', st', hf, o, e1, e2⟩ := bFor_inv (fi := iSeq (bVar 1)) (g := gNm 3) (u := bExp (bMeth opExtend (bVar 2) (aCons (bN opList (aCons (bVar 3) aNil)) aNil))) (env := [some (.dat (wb n ts)), some (.dat (tp P)), some (.loc st.length), none]) (st := st ++ [.list []]) (ws := (P.map ti).map .dat) rfl
    (gives_tup (S := fun _ => True)) (fun i env s => ∃ o, env = [some (.dat (wb n ts)), some (.dat (tp P)), some (.loc st.length), o] ∧ s = st ++ [.list (((P.take i).flatten.map PyData.int).map .dat)]) (fun _ _ _ _ => trivial) ⟨none, rfl, rfl⟩
    (fun i w env s hw ⟨o, q1, q2⟩ => by
      subst q1 q2
      rw [List.getElem?_map, List.getElem?_map] at hw
      cases hp : P[i]? with
      | none => rw [hp] at hw; cases hw
      | some p =>
        rw [hp] at hw
        cases hw
        have hz : (((P.take i).flatten.map PyData.int).map W.dat).length + (p.map PyData.int).length ≤ sizeLine := by
          have h1 := flat_le (P := P) (i + 1)
          rw [take_next hp, List.flatten_append, List.length_append] at h1
          simp only [List.length_map, List.flatten_cons, List.flatten_nil, List.append_nil] at h1 ⊢
          exact small _ (by omega)
        refine ⟨_, _, .inl ?_, some (.dat (ti p)), rfl, rfl⟩
        have l1 : opList [.dat (ti p)] (st ++ [.list (((P.take i).flatten.map PyData.int).map .dat)]) = some (.dat (.list (p.map .int)), _) := opList_tup _
        simp only [stepOf, bMeth, isL, opExtend, bSeq, bAsg, bRet, bRetN, bExp, bIfS, bPass, bDat, bVar, bTy, b2, b1, bN, aCons, aNil, bAnd, bOr, bNot, bIf, bChain, tTru, tBl, tNo, tAn, tOr3, tAll, truth, gNm, gTp, gCn, gNl, seqOf, start3, wipe3, bSlice, pSome, pNone, opSlice, Option.bind_some, Option.map_some, Option.bind_eq_bind, List.map_cons, List.map_nil, List.length_cons, List.length_nil, List.set_cons_zero, List.set_cons_succ, List.getElem?_cons_zero, List.getElem?_cons_succ, List.replicate_succ, List.replicate_zero, List.cons_append, List.nil_append, Nat.sub_zero, Nat.sub_self, Nat.reduceAdd, Nat.reduceSub, if_true, if_false, Bool.not_true, Bool.not_false, reduceIte, Bool.false_eq_true, l1, get_last, hz, set_last, take_next hp, List.flatten_append, List.map_append, List.flatten_cons, List.flatten_nil, List.append_nil])
  subst e1 e2
  have e4 : (P.take ((P.map ti).map W.dat).length).flatten = P.flatten := by rw [List.length_map, List.length_map, List.take_length]
  rw [e4] at hf
  refine run_ret (ext := [.list ((P.flatten.map PyData.int).map .dat)]) (env' := [some (.dat (wb n ts)), some (.dat (tp P)), some (.loc st.length), o]) rfl ?_
  unfold b_is_parting_of
  have k1 : opIsinst [.dat (tp P), .ty "tuple"] st = some (.dat (.bool true), st) := rfl
  have k2 : opLen [.dat (tp P)] st = some (.dat (.int P.length), st) := by unfold tp; simp only [opLen, seqOf, List.length_map]
  have k3 : decide ((P.length : Int) < 2) = false := decide_eq_false (by have := h.two; omega)
  have c1 := comp_seq (f := bVar 1) (gt := gNm 3) (t := tAll) (el := bN F_are_places_of (aCons (bVar 0) (aCons (bVar 3) aNil))) (vs := [3]) (env := [some (.dat (wb n ts)), some (.dat (tp P)), none, none]) (st := st) (xs := P) (e := ti) rfl rfl (fun _ => true) (fun x => .bool true)
    (fun x hx => ⟨[some (.dat (wb n ts)), some (.dat (tp P)), none, some (.dat (ti x))], rfl, rfl, fun _ => by simp only [bSeq, bAsg, bRet, bRetN, bExp, bIfS, bPass, bDat, bVar, bTy, b2, b1, bN, aCons, aNil, bAnd, bOr, bNot, bIf, bChain, tTru, tBl, tNo, tAn, tOr3, tAll, truth, gNm, gTp, gCn, gNl, seqOf, start3, wipe3, bSlice, pSome, pNone, opSlice, Option.bind_some, Option.map_some, Option.bind_eq_bind, List.map_cons, List.map_nil, List.length_cons, List.length_nil, List.set_cons_zero, List.set_cons_succ, List.getElem?_cons_zero, List.getElem?_cons_succ, List.replicate_succ, List.replicate_zero, List.cons_append, List.nil_append, Nat.sub_zero, Nat.sub_self, Nat.reduceAdd, Nat.reduceSub, if_true, if_false, Bool.not_true, Bool.not_false, reduceIte, Bool.false_eq_true, h.places ts hx]⟩)
  rw [ft] at c1
  have a1 := opAll_map (st := st) P (fun _ => true)
  have e0 : P.all (fun _ => true) = true := List.all_eq_true.mpr fun _ _ => rfl
  rw [e0] at a1
  have l0 : opLstNew [] st = some (.loc st.length, st ++ [.list []]) := by unfold opLstNew; exact if_pos (Nat.zero_le _)
  have t0 : ∀ s : Store, opTup [] s = some (.dat (ti []), s) := fun s => by unfold opTup; rfl
  have i0 : ∀ s : Store, opIn true (.dat (ti [])) (.dat (tp P)) s = some (.dat (.bool true), s) := fun s => by
    rw [opIn_tp, decide_eq_false (fun q => h.ne _ q rfl)]; rfl
  have s0 : opSorted [.loc st.length] (st ++ [.list ((P.flatten.map PyData.int).map .dat)]) = some (.dat (li (rg n)), st ++ [.list ((P.flatten.map PyData.int).map .dat)]) := by
    rw [opSorted_ints (l := P.flatten) (by simp only [seqOf, get_last]), sI_eq h.perm ((rg_sorted n).imp fun q => by omega)]
  have r0 : opRg false false (.dat (.int 0)) (.dat (.int n)) (st ++ [.list ((P.flatten.map PyData.int).map .dat)]) = some (.dat (li (rg n)), st ++ [.list ((P.flatten.map PyData.int).map .dat)]) := by
    have hr : rgOk 0 n = true := by
      unfold rgOk
      have : 0 ≤ n := by have := h.two; have := (rg_len n).symm.trans h.perm.length_eq.symm; by_cases z : 0 ≤ n; exact z; exfalso; have hz : P.flatten.length = 0 := by omega
                         have hP : P ≠ [] := fun q => by rw [q] at this; have := h.two; rw [q] at this; simp at this
                         obtain ⟨a, b, rfl⟩ := List.exists_cons_of_ne_nil hP
                         have := h.ne a List.mem_cons_self
                         rw [List.flatten_cons, List.length_append] at hz
                         exact this (List.eq_nil_of_length_eq_zero (by omega))
      simp only [Bool.and_eq_true, decide_eq_true_eq]
      omega
    show (if rgOk 0 n = true then _ else none) = _
    rw [if_pos hr]
    show some (W.dat (.list (rgD 0 n)), _) = _
    rw [rgD_rg]; rfl
  simp only [bSeq, bAsg, bRet, bRetN, bExp, bIfS, bPass, bDat, bVar, bTy, b2, b1, bN, aCons, aNil, bAnd, bOr, bNot, bIf, bChain, tTru, tBl, tNo, tAn, tOr3, tAll, truth, gNm, gTp, gCn, gNl, seqOf, start3, wipe3, bSlice, pSome, pNone, opSlice, Option.bind_some, Option.map_some, Option.bind_eq_bind, List.map_cons, List.map_nil, List.length_cons, List.length_nil, List.set_cons_zero, List.set_cons_succ, List.getElem?_cons_zero, List.getElem?_cons_succ, List.replicate_succ, List.replicate_zero, List.cons_append, List.nil_append, Nat.sub_zero, Nat.sub_self, Nat.reduceAdd, Nat.reduceSub, if_true, if_false, Bool.not_true, Bool.not_false, reduceIte, Bool.false_eq_true, k1, k2, k3, opGt, opLt, c1, a1, l0, hf, v_is_rising_t P h.lex, t0, i0, s0, v_many_of, r0, opEq_li, decide_true]
end K38
set_option Elab.async false
set_option linter.all false
set_option maxRecDepth 100000
set_option maxHeartbeats 400000
set_option autoImplicit false
namespace K38
open PySem PySem.Spec PyProof.Rows L2 L3
section
variable {n : Int} {ts : List (Int × Int)} {P Q : List (List Int)}
theorem v_want_parting (hw : Web n ts) (h : Part n P) (st : Store) : F_want_parting [.dat (wb n ts), .dat (tp P)] st = some (.dat (tp P), st) := by
  refine run_ret0 (env' := [some (.dat (wb n ts)), some (.dat (tp P))]) rfl ?_
  unfold b_want_parting
  simp only [bSeq, bAsg, bRet, bRetN, bExp, bIfS, bPass, bDat, bVar, bTy, b2, b1, bN, aCons, aNil, bAnd, bOr, bNot, bIf, bChain, tTru, tBl, tNo, tAn, tOr3, tAll, truth, gNm, gTp, gCn, gNl, seqOf, start3, wipe3, bSlice, pSome, pNone, opSlice, Option.bind_some, Option.map_some, Option.bind_eq_bind, List.map_cons, List.map_nil, List.length_cons, List.length_nil, List.set_cons_zero, List.set_cons_succ, List.getElem?_cons_zero, List.getElem?_cons_succ, List.replicate_succ, List.replicate_zero, List.cons_append, List.nil_append, Nat.sub_zero, Nat.sub_self, Nat.reduceAdd, Nat.reduceSub, if_true, if_false, Bool.not_true, Bool.not_false, reduceIte, Bool.false_eq_true, v_is_parting_of n ts P hw.hi h]
theorem v_want_partings (hw : Web n ts) (h : Part n P) (h' : Part n Q) (st : Store) : F_want_partings [.dat (wb n ts), .dat (tp P), .dat (tp Q)] st = some (.dat .none, st) := by
  refine run_nx0 (env' := [some (.dat (wb n ts)), some (.dat (tp P)), some (.dat (tp Q))]) rfl ?_
  unfold b_want_partings
  simp only [bSeq, bAsg, bRet, bRetN, bExp, bIfS, bPass, bDat, bVar, bTy, b2, b1, bN, aCons, aNil, bAnd, bOr, bNot, bIf, bChain, tTru, tBl, tNo, tAn, tOr3, tAll, truth, gNm, gTp, gCn, gNl, seqOf, start3, wipe3, bSlice, pSome, pNone, opSlice, Option.bind_some, Option.map_some, Option.bind_eq_bind, List.map_cons, List.map_nil, List.length_cons, List.length_nil, List.set_cons_zero, List.set_cons_succ, List.getElem?_cons_zero, List.getElem?_cons_succ, List.replicate_succ, List.replicate_zero, List.cons_append, List.nil_append, Nat.sub_zero, Nat.sub_self, Nat.reduceAdd, Nat.reduceSub, if_true, if_false, Bool.not_true, Bool.not_false, reduceIte, Bool.false_eq_true, v_want_web n ts hw, v_want_parting hw h, v_want_parting hw h']
theorem v_is_parting (hw : Web n ts) (h : Part n P) (st : Store) : F_is_parting [.dat (wb n ts), .dat (tp P)] st = some (.dat (.bool true), st) := by
  refine run_ret0 (env' := [some (.dat (wb n ts)), some (.dat (tp P))]) rfl ?_
  unfold b_is_parting
  simp only [bSeq, bAsg, bRet, bRetN, bExp, bIfS, bPass, bDat, bVar, bTy, b2, b1, bN, aCons, aNil, bAnd, bOr, bNot, bIf, bChain, tTru, tBl, tNo, tAn, tOr3, tAll, truth, gNm, gTp, gCn, gNl, seqOf, start3, wipe3, bSlice, pSome, pNone, opSlice, Option.bind_some, Option.map_some, Option.bind_eq_bind, List.map_cons, List.map_nil, List.length_cons, List.length_nil, List.set_cons_zero, List.set_cons_succ, List.getElem?_cons_zero, List.getElem?_cons_succ, List.replicate_succ, List.replicate_zero, List.cons_append, List.nil_append, Nat.sub_zero, Nat.sub_self, Nat.reduceAdd, Nat.reduceSub, if_true, if_false, Bool.not_true, Bool.not_false, reduceIte, Bool.false_eq_true, v_want_web n ts hw, v_is_parting_of n ts P hw.hi h]
/-! ### meets -/
def cell (p q : List Int) : List Int := p.filter fun x => decide (x ∈ q)
def meetL (P Q : List (List Int)) : List (List Int) := P.flatMap fun p => (Q.map (cell p)).filter fun l => !decide (l = [])
theorem filter_any {α : Type} (p : List α) (f : α → Bool) : p.filter (fun x => false ^^ f x) = p.filter f := List.filter_congr fun x _ => by rw [Bool.false_xor]
theorem opTuple_li {st : Store} (l : List Int) : opTuple [.dat (li l)] st = some (.dat (ti l), st) := opTuple_lst _
theorem opTuple_lp {st : Store} (l : List (List Int)) : opTuple [.dat (lp l)] st = some (.dat (tp l), st) := opTuple_lst _
theorem meetL_len (P Q : List (List Int)) : (meetL P Q).length ≤ P.length * Q.length := by
  unfold meetL
  induction P with
  | nil => simp
  | cons p P ih =>
    rw [List.flatMap_cons, List.length_append, List.length_cons, Nat.succ_mul]
    have := List.length_filter_le (fun l : List Int => !decide (l = [])) (Q.map (cell p))
    rw [List.length_map] at this
    omega
theorem meetL_ne (P Q : List (List Int)) : ∀ x ∈ meetL P Q, x ≠ [] := by
  intro x hx
  obtain ⟨p, _, hx⟩ := List.mem_flatMap.mp hx
  have := (List.mem_filter.mp hx).2
  simpa using this
theorem sT_seq {st : Store} {l : List (List Int)} (hn : ∀ x ∈ l, x ≠ []) : opSorted [.dat (lp l)] st = some (.dat (lp (sT l)), st) := opSorted_tis rfl hn
theorem v_meet_of (hz : P.length * Q.length ≤ 16777216) (st : Store) : F_meet_of [.dat (tp P), .dat (tp Q)] st = some (.dat (tp (sT (meetL P Q))), st) := by
  obtain ⟨env', hf, o, o', rfl⟩ := bFor_ext (fi := iSeq (bVar 0)) (g := gNm 3) (u := bSeq (bAsg (bComp (iSeq (bVar 1)) (gNm 5) tAll (bN opTuple (aCons (bComp (iSeq (bVar 3)) (gNm 6) (tBl (b2 (opIn false) (bVar 6) (bVar 5))) (bVar 6) [6]) aNil)) [5]) (gNm 4)) (bExp (bMeth opExtend (bVar 2) (aCons (bComp (iSeq (bVar 4)) (gNm 5) (tBl (b2 opNe (bVar 5) (bN opTup aNil))) (bVar 5) [5]) aNil))))
    (env := [some (.dat (tp P)), some (.dat (tp Q)), some (.loc st.length), none, none, none, none]) (st := st) (acc0 := []) P (fun p => .dat (ti p)) rfl (gives_tupm P ti) (fun p => ((Q.map (cell p)).filter fun l => !decide (l = [])).map ti) (fun env => ∃ o o', env = [some (.dat (tp P)), some (.dat (tp Q)), some (.loc st.length), o, o', none, none]) ⟨none, none, rfl⟩
    (by
      have := meetL_len P Q
      unfold meetL at this
      have e : (P.flatMap fun p => ((Q.map (cell p)).filter fun l => !decide (l = [])).map ti).length = (P.flatMap fun p => (Q.map (cell p)).filter fun l => !decide (l = [])).length := by rw [← List.map_flatMap, List.length_map]
      rw [e, List.length_nil]; omega)
    (fun p hp env acc ⟨o, o', q⟩ hz => by
      subst q
      generalize hs : st ++ [Cell.list (acc.map W.dat)] = s
      have c1 := comp_seq (f := bVar 1) (gt := gNm 5) (t := tAll) (el := bN opTuple (aCons (bComp (iSeq (bVar 3)) (gNm 6) (tBl (b2 (opIn false) (bVar 6) (bVar 5))) (bVar 6) [6]) aNil)) (vs := [5]) (env := [some (.dat (tp P)), some (.dat (tp Q)), some (.loc st.length), some (.dat (ti p)), o', none, none]) (st := s) (xs := Q) (e := ti) rfl rfl (fun _ => true) (fun q => ti (cell p q)) (fun q _ => ⟨[some (.dat (tp P)), some (.dat (tp Q)), some (.loc st.length), some (.dat (ti p)), o', some (.dat (ti q)), none], rfl, rfl, fun _ => by
        have k := keepIn_ti (f := bVar 3) (i := 6) (j := 5) (vs := [6]) (env := [some (.dat (tp P)), some (.dat (tp Q)), some (.loc st.length), some (.dat (ti p)), o', some (.dat (ti q)), none]) (st := s) (env1 := []) p q rfl (fun _ => rfl) (fun _ => rfl) (fun _ => rfl) false
        rw [filter_any] at k
        simp only [bSeq, bAsg, bRet, bRetN, bExp, bIfS, bPass, bDat, bVar, bTy, b2, b1, bN, aCons, aNil, bAnd, bOr, bNot, bIf, bChain, tTru, tBl, tNo, tAn, tOr3, tAll, truth, gNm, gTp, gCn, gNl, seqOf, start3, wipe3, bSlice, pSome, pNone, opSlice, Option.bind_some, Option.map_some, Option.bind_eq_bind, List.map_cons, List.map_nil, List.length_cons, List.length_nil, List.set_cons_zero, List.set_cons_succ, List.getElem?_cons_zero, List.getElem?_cons_succ, List.replicate_succ, List.replicate_zero, List.cons_append, List.nil_append, Nat.sub_zero, Nat.sub_self, Nat.reduceAdd, Nat.reduceSub, if_true, if_false, Bool.not_true, Bool.not_false, reduceIte, Bool.false_eq_true, k, opTuple_li]; rfl⟩)
      rw [ft] at c1
      have c2 := comp_seq (f := bVar 4) (gt := gNm 5) (t := tBl (b2 opNe (bVar 5) (bN opTup aNil))) (el := bVar 5) (vs := [5]) (env := [some (.dat (tp P)), some (.dat (tp Q)), some (.loc st.length), some (.dat (ti p)), some (.dat (lp (Q.map (cell p)))), none, none]) (st := s) (xs := Q.map (cell p)) (e := ti) rfl rfl (fun l => !decide (l = [])) ti (fun q _ => ⟨[some (.dat (tp P)), some (.dat (tp Q)), some (.loc st.length), some (.dat (ti p)), some (.dat (lp (Q.map (cell p)))), some (.dat (ti q)), none], rfl, by
        have t0 : opTup [] s = some (.dat (ti []), s) := by unfold opTup; rfl
        simp only [bSeq, bAsg, bRet, bRetN, bExp, bIfS, bPass, bDat, bVar, bTy, b2, b1, bN, aCons, aNil, bAnd, bOr, bNot, bIf, bChain, tTru, tBl, tNo, tAn, tOr3, tAll, truth, gNm, gTp, gCn, gNl, seqOf, start3, wipe3, bSlice, pSome, pNone, opSlice, Option.bind_some, Option.map_some, Option.bind_eq_bind, List.map_cons, List.map_nil, List.length_cons, List.length_nil, List.set_cons_zero, List.set_cons_succ, List.getElem?_cons_zero, List.getElem?_cons_succ, List.replicate_succ, List.replicate_zero, List.cons_append, List.nil_append, Nat.sub_zero, Nat.sub_self, Nat.reduceAdd, Nat.reduceSub, if_true, if_false, Bool.not_true, Bool.not_false, reduceIte, Bool.false_eq_true, t0, opNe_ti], fun _ => rfl⟩)
      refine ⟨[some (.dat (tp P)), some (.dat (tp Q)), some (.loc st.length), some (.dat (ti p)), some (.dat (lp (Q.map (cell p)))), none, none], ?_, _, _, rfl⟩
      have e1 : Q.map (fun q => ti (cell p q)) = (Q.map (cell p)).map ti := by rw [List.map_map]; rfl
      rw [e1] at c1
      change _ = some (W.dat (lp (Q.map (cell p))), s) at c1
      have c3 := ext_last (st := st) (acc := acc) (f := bVar 2) (g := aCons (bComp (iSeq (bVar 4)) (gNm 5) (tBl (b2 opNe (bVar 5) (bN opTup aNil))) (bVar 5) [5]) aNil) (env := [some (.dat (tp P)), some (.dat (tp Q)), some (.loc st.length), some (.dat (ti p)), some (.dat (lp (Q.map (cell p)))), none, none]) rfl (by rw [hs]; simp only [bSeq, bAsg, bRet, bRetN, bExp, bIfS, bPass, bDat, bVar, bTy, b2, b1, bN, aCons, aNil, bAnd, bOr, bNot, bIf, bChain, tTru, tBl, tNo, tAn, tOr3, tAll, truth, gNm, gTp, gCn, gNl, seqOf, start3, wipe3, bSlice, pSome, pNone, opSlice, Option.bind_some, Option.map_some, Option.bind_eq_bind, List.map_cons, List.map_nil, List.length_cons, List.length_nil, List.set_cons_zero, List.set_cons_succ, List.getElem?_cons_zero, List.getElem?_cons_succ, List.replicate_succ, List.replicate_zero, List.cons_append, List.nil_append, Nat.sub_zero, Nat.sub_self, Nat.reduceAdd, Nat.reduceSub, if_true, if_false, Bool.not_true, Bool.not_false, reduceIte, Bool.false_eq_true, c2]) hz
      rw [hs] at c3
      simp only [stepOf, bSeq, bAsg, bRet, bRetN, bExp, bIfS, bPass, bDat, bVar, bTy, b2, b1, bN, aCons, aNil, bAnd, bOr, bNot, bIf, bChain, tTru, tBl, tNo, tAn, tOr3, tAll, truth, gNm, gTp, gCn, gNl, seqOf, start3, wipe3, bSlice, pSome, pNone, opSlice, Option.bind_some, Option.map_some, Option.bind_eq_bind, List.map_cons, List.map_nil, List.length_cons, List.length_nil, List.set_cons_zero, List.set_cons_succ, List.getElem?_cons_zero, List.getElem?_cons_succ, List.replicate_succ, List.replicate_zero, List.cons_append, List.nil_append, Nat.sub_zero, Nat.sub_self, Nat.reduceAdd, Nat.reduceSub, if_true, if_false, Bool.not_true, Bool.not_false, reduceIte, Bool.false_eq_true, c1, c3])
  refine run_ret (ext := [.list ((([] : List PyData) ++ P.flatMap fun p => ((Q.map (cell p)).filter fun l => !decide (l = [])).map ti).map .dat)]) (env' := [some (.dat (tp P)), some (.dat (tp Q)), some (.loc st.length), o, o', none, none]) rfl ?_
  unfold b_meet_of
  have l0 : opLstNew [] st = some (.loc st.length, st ++ [.list (([] : List PyData).map .dat)]) := new_list
  have e1 : (P.flatMap fun p => ((Q.map (cell p)).filter fun l => !decide (l = [])).map ti) = (meetL P Q).map ti := by rw [← List.map_flatMap]; rfl
  rw [e1, List.nil_append] at hf ⊢
  have s0 : opSorted [.loc st.length] (st ++ [.list (((meetL P Q).map ti).map .dat)]) = some (.dat (lp (sT (meetL P Q))), st ++ [.list (((meetL P Q).map ti).map .dat)]) := opSorted_tis (by simp only [seqOf, get_last]) (meetL_ne P Q)
  simp only [List.map_nil] at hf l0
  simp only [bSeq, bAsg, bRet, bRetN, bExp, bIfS, bPass, bDat, bVar, bTy, b2, b1, bN, aCons, aNil, bAnd, bOr, bNot, bIf, bChain, tTru, tBl, tNo, tAn, tOr3, tAll, truth, gNm, gTp, gCn, gNl, seqOf, start3, wipe3, bSlice, pSome, pNone, opSlice, Option.bind_some, Option.map_some, Option.bind_eq_bind, List.map_cons, List.map_nil, List.length_cons, List.length_nil, List.set_cons_zero, List.set_cons_succ, List.getElem?_cons_zero, List.getElem?_cons_succ, List.replicate_succ, List.replicate_zero, List.cons_append, List.nil_append, Nat.sub_zero, Nat.sub_self, Nat.reduceAdd, Nat.reduceSub, if_true, if_false, Bool.not_true, Bool.not_false, reduceIte, Bool.false_eq_true, l0, hf, s0, opTuple_lp]
end
end K38
set_option Elab.async false
set_option linter.all false
set_option maxRecDepth 100000
set_option maxHeartbeats 400000
set_option autoImplicit false
namespace K38
open PySem PySem.Spec PyProof.Rows L2 L3
section
variable {n : Int} {ts : List (Int × Int)} {P Q : List (List Int)}
theorem v_meet (hw : Web n ts) (h : Part n P) (h' : Part n Q) (hz : P.length * Q.length ≤ 16777216) (st : Store) : F_meet [.dat (wb n ts), .dat (tp P), .dat (tp Q)] st = some (.dat (tp (sT (meetL P Q))), st) := by
  refine run_ret0 (env' := [some (.dat (wb n ts)), some (.dat (tp P)), some (.dat (tp Q))]) rfl ?_
  unfold b_meet
  simp only [bSeq, bAsg, bRet, bRetN, bExp, bIfS, bPass, bDat, bVar, bTy, b2, b1, bN, aCons, aNil, bAnd, bOr, bNot, bIf, bChain, tTru, tBl, tNo, tAn, tOr3, tAll, truth, gNm, gTp, gCn, gNl, seqOf, start3, wipe3, bSlice, pSome, pNone, opSlice, Option.bind_some, Option.map_some, Option.bind_eq_bind, List.map_cons, List.map_nil, List.length_cons, List.length_nil, List.set_cons_zero, List.set_cons_succ, List.getElem?_cons_zero, List.getElem?_cons_succ, List.replicate_succ, List.replicate_zero, List.cons_append, List.nil_append, Nat.sub_zero, Nat.sub_self, Nat.reduceAdd, Nat.reduceSub, if_true, if_false, Bool.not_true, Bool.not_false, reduceIte, Bool.false_eq_true, v_want_partings hw h h', v_meet_of hz]
theorem opEq_lp {st : Store} (a b : List (List Int)) : opEq (.dat (lp a)) (.dat (lp b)) st = some (.dat (.bool (decide (a = b))), st) := by
  rw [opEq_dat (.lp a (k := 0)) (.lp b (k := 0))]
  exact congrArg (fun b => some (W.dat (.bool b), st)) (eqv_list eqv_ti a b)
theorem opNe_lp {st : Store} (a b : List (List Int)) : opNe (.dat (lp a)) (.dat (lp b)) st = some (.dat (.bool (!decide (a = b))), st) := by
  rw [opNe_dat (.lp a (k := 0)) (.lp b (k := 0))]
  exact congrArg (fun b => some (W.dat (.bool (!b)), st)) (eqv_list eqv_ti a b)
theorem opLst_nil {st : Store} : opLst [] st = some (.dat (li []), st) := rfl
theorem v__law_meet (hz : P.length * Q.length ≤ 16777216) (st : Store) : F__law_meet [.dat (tp P), .dat (tp Q)] st = some (.dat (tp (sT (meetL P Q))), st) := by
  obtain ⟨env', hf, o, rfl⟩ := bFor_ext (fi := iSeq (bVar 0)) (g := gNm 3) (u := bExp (bMeth opExtend (bVar 2) (aCons (bComp (iSeq (bVar 1)) (gNm 4) tAll (bN opTuple (aCons (bComp (iSeq (bVar 3)) (gNm 5) (tBl (b2 (opIn false) (bVar 5) (bVar 4))) (bVar 5) [5]) aNil)) [4]) aNil)))
    (env := [some (.dat (tp P)), some (.dat (tp Q)), some (.loc st.length), none, none, none]) (st := st) (acc0 := []) P (fun p => .dat (ti p)) rfl (gives_tupm P ti) (fun p => (Q.map (cell p)).map ti) (fun env => ∃ o, env = [some (.dat (tp P)), some (.dat (tp Q)), some (.loc st.length), o, none, none]) ⟨none, rfl⟩
    (by
      have e : (P.flatMap fun p => (Q.map (cell p)).map ti).length = P.length * Q.length := by
        clear hz
        induction P with
        | nil => simp
        | cons p P ih => rw [List.flatMap_cons, List.length_append, ih, List.length_map, List.length_map, List.length_cons, Nat.succ_mul]; omega
      rw [e, List.length_nil]; omega)
    (fun p hp env acc ⟨o, q⟩ hz => by
      subst q
      generalize hs : st ++ [Cell.list (acc.map W.dat)] = s
      have c1 := comp_seq (f := bVar 1) (gt := gNm 4) (t := tAll) (el := bN opTuple (aCons (bComp (iSeq (bVar 3)) (gNm 5) (tBl (b2 (opIn false) (bVar 5) (bVar 4))) (bVar 5) [5]) aNil)) (vs := [4]) (env := [some (.dat (tp P)), some (.dat (tp Q)), some (.loc st.length), some (.dat (ti p)), none, none]) (st := s) (xs := Q) (e := ti) rfl rfl (fun _ => true) (fun q => ti (cell p q)) (fun q _ => ⟨[some (.dat (tp P)), some (.dat (tp Q)), some (.loc st.length), some (.dat (ti p)), some (.dat (ti q)), none], rfl, rfl, fun _ => by
        have k := keepIn_ti (f := bVar 3) (i := 5) (j := 4) (vs := [5]) (env := [some (.dat (tp P)), some (.dat (tp Q)), some (.loc st.length), some (.dat (ti p)), some (.dat (ti q)), none]) (st := s) (env1 := []) p q rfl (fun _ => rfl) (fun _ => rfl) (fun _ => rfl) false
        rw [filter_any] at k
        simp only [bSeq, bAsg, bRet, bRetN, bExp, bIfS, bPass, bDat, bVar, bTy, b2, b1, bN, aCons, aNil, bAnd, bOr, bNot, bIf, bChain, tTru, tBl, tNo, tAn, tOr3, tAll, truth, gNm, gTp, gCn, gNl, seqOf, start3, wipe3, bSlice, pSome, pNone, opSlice, Option.bind_some, Option.map_some, Option.bind_eq_bind, List.map_cons, List.map_nil, List.length_cons, List.length_nil, List.set_cons_zero, List.set_cons_succ, List.getElem?_cons_zero, List.getElem?_cons_succ, List.replicate_succ, List.replicate_zero, List.cons_append, List.nil_append, Nat.sub_zero, Nat.sub_self, Nat.reduceAdd, Nat.reduceSub, if_true, if_false, Bool.not_true, Bool.not_false, reduceIte, Bool.false_eq_true, k, opTuple_li]; rfl⟩)
      rw [ft] at c1
      refine ⟨[some (.dat (tp P)), some (.dat (tp Q)), some (.loc st.length), some (.dat (ti p)), none, none], ?_, _, rfl⟩
      have e1 : Q.map (fun q => ti (cell p q)) = (Q.map (cell p)).map ti := by rw [List.map_map]; rfl
      rw [e1] at c1
      have c3 := ext_last (st := st) (acc := acc) (f := bVar 2) (g := aCons (bComp (iSeq (bVar 1)) (gNm 4) tAll (bN opTuple (aCons (bComp (iSeq (bVar 3)) (gNm 5) (tBl (b2 (opIn false) (bVar 5) (bVar 4))) (bVar 5) [5]) aNil)) [4]) aNil) (env := [some (.dat (tp P)), some (.dat (tp Q)), some (.loc st.length), some (.dat (ti p)), none, none]) rfl (by rw [hs]; simp only [bSeq, bAsg, bRet, bRetN, bExp, bIfS, bPass, bDat, bVar, bTy, b2, b1, bN, aCons, aNil, bAnd, bOr, bNot, bIf, bChain, tTru, tBl, tNo, tAn, tOr3, tAll, truth, gNm, gTp, gCn, gNl, seqOf, start3, wipe3, bSlice, pSome, pNone, opSlice, Option.bind_some, Option.map_some, Option.bind_eq_bind, List.map_cons, List.map_nil, List.length_cons, List.length_nil, List.set_cons_zero, List.set_cons_succ, List.getElem?_cons_zero, List.getElem?_cons_succ, List.replicate_succ, List.replicate_zero, List.cons_append, List.nil_append, Nat.sub_zero, Nat.sub_self, Nat.reduceAdd, Nat.reduceSub, if_true, if_false, Bool.not_true, Bool.not_false, reduceIte, Bool.false_eq_true, c1]) hz
      rw [hs] at c3
      simp only [stepOf, bSeq, bAsg, bRet, bRetN, bExp, bIfS, bPass, bDat, bVar, bTy, b2, b1, bN, aCons, aNil, bAnd, bOr, bNot, bIf, bChain, tTru, tBl, tNo, tAn, tOr3, tAll, truth, gNm, gTp, gCn, gNl, seqOf, start3, wipe3, bSlice, pSome, pNone, opSlice, Option.bind_some, Option.map_some, Option.bind_eq_bind, List.map_cons, List.map_nil, List.length_cons, List.length_nil, List.set_cons_zero, List.set_cons_succ, List.getElem?_cons_zero, List.getElem?_cons_succ, List.replicate_succ, List.replicate_zero, List.cons_append, List.nil_append, Nat.sub_zero, Nat.sub_self, Nat.reduceAdd, Nat.reduceSub, if_true, if_false, Bool.not_true, Bool.not_false, reduceIte, Bool.false_eq_true, c3])
  refine run_ret (ext := [.list ((([] : List PyData) ++ P.flatMap fun p => (Q.map (cell p)).map ti).map .dat)]) (env' := [some (.dat (tp P)), some (.dat (tp Q)), some (.loc st.length), o, none, none]) rfl ?_
  unfold b__law_meet
  have l0 : opLstNew [] st = some (.loc st.length, st ++ [.list (([] : List PyData).map .dat)]) := new_list
  have e1 : (P.flatMap fun p => (Q.map (cell p)).map ti) = (P.flatMap fun p => Q.map (cell p)).map ti := by rw [← List.map_flatMap]
  rw [e1, List.nil_append] at hf ⊢
  generalize hs : st ++ [Cell.list (((P.flatMap fun p => Q.map (cell p)).map ti).map W.dat)] = s at *
  have c2 := comp_seq (f := bVar 2) (gt := gNm 3) (t := tBl (b2 opNe (bVar 3) (bN opTup aNil))) (el := bVar 3) (vs := [3]) (env := [some (.dat (tp P)), some (.dat (tp Q)), some (.loc st.length), o, none, none]) (st := s) (xs := P.flatMap fun p => Q.map (cell p)) (e := ti) rfl (by rw [← hs]; simp only [seqOf, get_last]) (fun l => !decide (l = [])) ti (fun q _ => ⟨[some (.dat (tp P)), some (.dat (tp Q)), some (.loc st.length), some (.dat (ti q)), none, none], rfl, by
    have t0 : opTup [] s = some (.dat (ti []), s) := by unfold opTup; rfl
    simp only [bSeq, bAsg, bRet, bRetN, bExp, bIfS, bPass, bDat, bVar, bTy, b2, b1, bN, aCons, aNil, bAnd, bOr, bNot, bIf, bChain, tTru, tBl, tNo, tAn, tOr3, tAll, truth, gNm, gTp, gCn, gNl, seqOf, start3, wipe3, bSlice, pSome, pNone, opSlice, Option.bind_some, Option.map_some, Option.bind_eq_bind, List.map_cons, List.map_nil, List.length_cons, List.length_nil, List.set_cons_zero, List.set_cons_succ, List.getElem?_cons_zero, List.getElem?_cons_succ, List.replicate_succ, List.replicate_zero, List.cons_append, List.nil_append, Nat.sub_zero, Nat.sub_self, Nat.reduceAdd, Nat.reduceSub, if_true, if_false, Bool.not_true, Bool.not_false, reduceIte, Bool.false_eq_true, t0, opNe_ti], fun _ => rfl⟩)
  have e2 : (P.flatMap fun p => Q.map (cell p)).filter (fun l => !decide (l = [])) = meetL P Q := by rw [List.filter_flatMap]; rfl
  rw [e2] at c2
  change _ = some (W.dat (lp (meetL P Q)), s) at c2
  have s0 : opSorted [.dat (lp (meetL P Q))] s = some (.dat (lp (sT (meetL P Q))), s) := sT_seq (meetL_ne P Q)
  simp only [List.map_nil] at hf l0
  simp only [bSeq, bAsg, bRet, bRetN, bExp, bIfS, bPass, bDat, bVar, bTy, b2, b1, bN, aCons, aNil, bAnd, bOr, bNot, bIf, bChain, tTru, tBl, tNo, tAn, tOr3, tAll, truth, gNm, gTp, gCn, gNl, seqOf, start3, wipe3, bSlice, pSome, pNone, opSlice, Option.bind_some, Option.map_some, Option.bind_eq_bind, List.map_cons, List.map_nil, List.length_cons, List.length_nil, List.set_cons_zero, List.set_cons_succ, List.getElem?_cons_zero, List.getElem?_cons_succ, List.replicate_succ, List.replicate_zero, List.cons_append, List.nil_append, Nat.sub_zero, Nat.sub_self, Nat.reduceAdd, Nat.reduceSub, if_true, if_false, Bool.not_true, Bool.not_false, reduceIte, Bool.false_eq_true, l0, hf, c2, s0, opTuple_lp]
/-! ### finer -/
def finer (P Q : List (List Int)) : Bool := P.all fun p => Q.any fun q => p.all fun x => decide (x ∈ q)
theorem v_is_finer_of (st : Store) : F_is_finer_of [.dat (tp P), .dat (tp Q)] st = some (.dat (.bool (finer P Q)), st) := by
  refine run_ret0 (env' := [some (.dat (tp P)), some (.dat (tp Q)), none, none, none]) rfl ?_
  unfold b_is_finer_of
  have c1 := comp_seq (f := bVar 0) (gt := gNm 2) (t := tAll) (el := bN opAny (aCons (bComp (iSeq (bVar 1)) (gNm 3) tAll (bN opAll (aCons (bComp (iSeq (bVar 2)) (gNm 4) tAll (b2 (opIn false) (bVar 4) (bVar 3)) [4]) aNil)) [3]) aNil)) (vs := [2]) (env := [some (.dat (tp P)), some (.dat (tp Q)), none, none, none]) (st := st) (xs := P) (e := ti) rfl rfl (fun _ => true) (fun p => .bool (Q.any fun q => p.all fun x => decide (x ∈ q)))
    (fun p _ => ⟨[some (.dat (tp P)), some (.dat (tp Q)), some (.dat (ti p)), none, none], rfl, rfl, fun _ => by
      have c2 := comp_seq (f := bVar 1) (gt := gNm 3) (t := tAll) (el := bN opAll (aCons (bComp (iSeq (bVar 2)) (gNm 4) tAll (b2 (opIn false) (bVar 4) (bVar 3)) [4]) aNil)) (vs := [3]) (env := [some (.dat (tp P)), some (.dat (tp Q)), some (.dat (ti p)), none, none]) (st := st) (xs := Q) (e := ti) rfl rfl (fun _ => true) (fun q => .bool (p.all fun x => decide (x ∈ q)))
        (fun q _ => ⟨[some (.dat (tp P)), some (.dat (tp Q)), some (.dat (ti p)), some (.dat (ti q)), none], rfl, rfl, fun _ => by
          have c3 := comp_seq (f := bVar 2) (gt := gNm 4) (t := tAll) (el := b2 (opIn false) (bVar 4) (bVar 3)) (vs := [4]) (env := [some (.dat (tp P)), some (.dat (tp Q)), some (.dat (ti p)), some (.dat (ti q)), none]) (st := st) (xs := p) (e := .int) rfl rfl (fun _ => true) (fun x => .bool (decide (x ∈ q)))
            (fun x _ => ⟨[some (.dat (tp P)), some (.dat (tp Q)), some (.dat (ti p)), some (.dat (ti q)), some (.dat (.int x))], rfl, rfl, fun _ => by simp only [bSeq, bAsg, bRet, bRetN, bExp, bIfS, bPass, bDat, bVar, bTy, b2, b1, bN, aCons, aNil, bAnd, bOr, bNot, bIf, bChain, tTru, tBl, tNo, tAn, tOr3, tAll, truth, gNm, gTp, gCn, gNl, seqOf, start3, wipe3, bSlice, pSome, pNone, opSlice, Option.bind_some, Option.map_some, Option.bind_eq_bind, List.map_cons, List.map_nil, List.length_cons, List.length_nil, List.set_cons_zero, List.set_cons_succ, List.getElem?_cons_zero, List.getElem?_cons_succ, List.replicate_succ, List.replicate_zero, List.cons_append, List.nil_append, Nat.sub_zero, Nat.sub_self, Nat.reduceAdd, Nat.reduceSub, if_true, if_false, Bool.not_true, Bool.not_false, reduceIte, Bool.false_eq_true, opIn_ti, Bool.false_xor]⟩)
          rw [ft] at c3
          simp only [bSeq, bAsg, bRet, bRetN, bExp, bIfS, bPass, bDat, bVar, bTy, b2, b1, bN, aCons, aNil, bAnd, bOr, bNot, bIf, bChain, tTru, tBl, tNo, tAn, tOr3, tAll, truth, gNm, gTp, gCn, gNl, seqOf, start3, wipe3, bSlice, pSome, pNone, opSlice, Option.bind_some, Option.map_some, Option.bind_eq_bind, List.map_cons, List.map_nil, List.length_cons, List.length_nil, List.set_cons_zero, List.set_cons_succ, List.getElem?_cons_zero, List.getElem?_cons_succ, List.replicate_succ, List.replicate_zero, List.cons_append, List.nil_append, Nat.sub_zero, Nat.sub_self, Nat.reduceAdd, Nat.reduceSub, if_true, if_false, Bool.not_true, Bool.not_false, reduceIte, Bool.false_eq_true, c3, opAll_map]⟩)
      rw [ft] at c2
      simp only [bSeq, bAsg, bRet, bRetN, bExp, bIfS, bPass, bDat, bVar, bTy, b2, b1, bN, aCons, aNil, bAnd, bOr, bNot, bIf, bChain, tTru, tBl, tNo, tAn, tOr3, tAll, truth, gNm, gTp, gCn, gNl, seqOf, start3, wipe3, bSlice, pSome, pNone, opSlice, Option.bind_some, Option.map_some, Option.bind_eq_bind, List.map_cons, List.map_nil, List.length_cons, List.length_nil, List.set_cons_zero, List.set_cons_succ, List.getElem?_cons_zero, List.getElem?_cons_succ, List.replicate_succ, List.replicate_zero, List.cons_append, List.nil_append, Nat.sub_zero, Nat.sub_self, Nat.reduceAdd, Nat.reduceSub, if_true, if_false, Bool.not_true, Bool.not_false, reduceIte, Bool.false_eq_true, c2, opAny_map]⟩)
  rw [ft] at c1
  simp only [bSeq, bAsg, bRet, bRetN, bExp, bIfS, bPass, bDat, bVar, bTy, b2, b1, bN, aCons, aNil, bAnd, bOr, bNot, bIf, bChain, tTru, tBl, tNo, tAn, tOr3, tAll, truth, gNm, gTp, gCn, gNl, seqOf, start3, wipe3, bSlice, pSome, pNone, opSlice, Option.bind_some, Option.map_some, Option.bind_eq_bind, List.map_cons, List.map_nil, List.length_cons, List.length_nil, List.set_cons_zero, List.set_cons_succ, List.getElem?_cons_zero, List.getElem?_cons_succ, List.replicate_succ, List.replicate_zero, List.cons_append, List.nil_append, Nat.sub_zero, Nat.sub_self, Nat.reduceAdd, Nat.reduceSub, if_true, if_false, Bool.not_true, Bool.not_false, reduceIte, Bool.false_eq_true, c1, opAll_map]
  rfl
theorem v_is_finer (hw : Web n ts) (h : Part n P) (h' : Part n Q) (st : Store) : F_is_finer [.dat (wb n ts), .dat (tp P), .dat (tp Q)] st = some (.dat (.bool (finer P Q)), st) := by
  refine run_ret0 (env' := [some (.dat (wb n ts)), some (.dat (tp P)), some (.dat (tp Q))]) rfl ?_
  unfold b_is_finer
  simp only [bSeq, bAsg, bRet, bRetN, bExp, bIfS, bPass, bDat, bVar, bTy, b2, b1, bN, aCons, aNil, bAnd, bOr, bNot, bIf, bChain, tTru, tBl, tNo, tAn, tOr3, tAll, truth, gNm, gTp, gCn, gNl, seqOf, start3, wipe3, bSlice, pSome, pNone, opSlice, Option.bind_some, Option.map_some, Option.bind_eq_bind, List.map_cons, List.map_nil, List.length_cons, List.length_nil, List.set_cons_zero, List.set_cons_succ, List.getElem?_cons_zero, List.getElem?_cons_succ, List.replicate_succ, List.replicate_zero, List.cons_append, List.nil_append, Nat.sub_zero, Nat.sub_self, Nat.reduceAdd, Nat.reduceSub, if_true, if_false, Bool.not_true, Bool.not_false, reduceIte, Bool.false_eq_true, v_want_partings hw h h', v_is_finer_of]
theorem nil_filter {α : Type} [DecidableEq α] (l : List α) (f : α → Bool) : decide (l.filter f = []) = l.all fun x => !f x := by
  rw [Bool.eq_iff_iff, decide_eq_true_eq, List.filter_eq_nil_iff, List.all_eq_true]
  exact forall_congr' fun x => forall_congr' fun _ => by cases f x <;> simp
theorem v__law_is_finer (st : Store) : F__law_is_finer [.dat (tp P), .dat (tp Q)] st = some (.dat (.bool (finer P Q)), st) := by
  refine run_ret0 (env' := [some (.dat (tp P)), some (.dat (tp Q)), none, none, none]) rfl ?_
  unfold b__law_is_finer
  have c1 := comp_seq (f := bVar 0) (gt := gNm 2) (t := tBl (b2 opEq (bComp (iSeq (bVar 1)) (gNm 3) (tBl (b2 opEq (bComp (iSeq (bVar 2)) (gNm 4) (tBl (b2 (opIn true) (bVar 4) (bVar 3))) (bVar 4) [4]) (bN opLst aNil))) (bVar 3) [3]) (bN opLst aNil))) (el := bVar 2) (vs := [2]) (env := [some (.dat (tp P)), some (.dat (tp Q)), none, none, none]) (st := st) (xs := P) (e := ti) rfl rfl
    (fun p => !(Q.any fun q => p.all fun x => decide (x ∈ q))) ti
    (fun p _ => ⟨[some (.dat (tp P)), some (.dat (tp Q)), some (.dat (ti p)), none, none], rfl, by
      have c2 := comp_seq (f := bVar 1) (gt := gNm 3) (t := tBl (b2 opEq (bComp (iSeq (bVar 2)) (gNm 4) (tBl (b2 (opIn true) (bVar 4) (bVar 3))) (bVar 4) [4]) (bN opLst aNil))) (el := bVar 3) (vs := [3]) (env := [some (.dat (tp P)), some (.dat (tp Q)), some (.dat (ti p)), none, none]) (st := st) (xs := Q) (e := ti) rfl rfl (fun q => p.all fun x => decide (x ∈ q)) ti
        (fun q _ => ⟨[some (.dat (tp P)), some (.dat (tp Q)), some (.dat (ti p)), some (.dat (ti q)), none], rfl, by
          have k := keepIn_ti (f := bVar 2) (i := 4) (j := 3) (vs := [4]) (env := [some (.dat (tp P)), some (.dat (tp Q)), some (.dat (ti p)), some (.dat (ti q)), none]) (st := st) (env1 := []) p q rfl (fun _ => rfl) (fun _ => rfl) (fun _ => rfl) true
          simp only [bSeq, bAsg, bRet, bRetN, bExp, bIfS, bPass, bDat, bVar, bTy, b2, b1, bN, aCons, aNil, bAnd, bOr, bNot, bIf, bChain, tTru, tBl, tNo, tAn, tOr3, tAll, truth, gNm, gTp, gCn, gNl, seqOf, start3, wipe3, bSlice, pSome, pNone, opSlice, Option.bind_some, Option.map_some, Option.bind_eq_bind, List.map_cons, List.map_nil, List.length_cons, List.length_nil, List.set_cons_zero, List.set_cons_succ, List.getElem?_cons_zero, List.getElem?_cons_succ, List.replicate_succ, List.replicate_zero, List.cons_append, List.nil_append, Nat.sub_zero, Nat.sub_self, Nat.reduceAdd, Nat.reduceSub, if_true, if_false, Bool.not_true, Bool.not_false, reduceIte, Bool.false_eq_true, k, opLst_nil, opEq_li, nil_filter, Bool.true_xor, Bool.not_not], fun _ => rfl⟩)
      change _ = some (W.dat (lp (Q.filter fun q => p.all fun x => decide (x ∈ q))), st) at c2
      have e0 : ∀ l, opEq (.dat (lp l)) (.dat (li [])) st = some (.dat (.bool (decide (l = []))), st) := fun l => opEq_lp l []
      simp only [bSeq, bAsg, bRet, bRetN, bExp, bIfS, bPass, bDat, bVar, bTy, b2, b1, bN, aCons, aNil, bAnd, bOr, bNot, bIf, bChain, tTru, tBl, tNo, tAn, tOr3, tAll, truth, gNm, gTp, gCn, gNl, seqOf, start3, wipe3, bSlice, pSome, pNone, opSlice, Option.bind_some, Option.map_some, Option.bind_eq_bind, List.map_cons, List.map_nil, List.length_cons, List.length_nil, List.set_cons_zero, List.set_cons_succ, List.getElem?_cons_zero, List.getElem?_cons_succ, List.replicate_succ, List.replicate_zero, List.cons_append, List.nil_append, Nat.sub_zero, Nat.sub_self, Nat.reduceAdd, Nat.reduceSub, if_true, if_false, Bool.not_true, Bool.not_false, reduceIte, Bool.false_eq_true, c2, opLst_nil, e0, nil_filter]
      rw [List.any_eq_not_all_not, Bool.not_not], fun _ => rfl⟩)
  change _ = some (W.dat (lp (P.filter fun p => !(Q.any fun q => p.all fun x => decide (x ∈ q)))), st) at c1
  have e0 : ∀ l, opEq (.dat (lp l)) (.dat (li [])) st = some (.dat (.bool (decide (l = []))), st) := fun l => opEq_lp l []
  simp only [bSeq, bAsg, bRet, bRetN, bExp, bIfS, bPass, bDat, bVar, bTy, b2, b1, bN, aCons, aNil, bAnd, bOr, bNot, bIf, bChain, tTru, tBl, tNo, tAn, tOr3, tAll, truth, gNm, gTp, gCn, gNl, seqOf, start3, wipe3, bSlice, pSome, pNone, opSlice, Option.bind_some, Option.map_some, Option.bind_eq_bind, List.map_cons, List.map_nil, List.length_cons, List.length_nil, List.set_cons_zero, List.set_cons_succ, List.getElem?_cons_zero, List.getElem?_cons_succ, List.replicate_succ, List.replicate_zero, List.cons_append, List.nil_append, Nat.sub_zero, Nat.sub_self, Nat.reduceAdd, Nat.reduceSub, if_true, if_false, Bool.not_true, Bool.not_false, reduceIte, Bool.false_eq_true, c1, opLst_nil, e0, nil_filter, Bool.not_not]
  rfl
end
end K38
set_option Elab.async false
set_option linter.all false
set_option maxRecDepth 100000
set_option maxHeartbeats 400000
set_option autoImplicit false
namespace K38
open PySem PySem.Spec PyProof.Rows L2 L3
section
variable {n : Int} {ts : List (Int × Int)} {P Q : List (List Int)}
theorem v_part_numbers (hd : P.flatten.Nodup) (hz : P.flatten.length ≤ 1000) (st : Store) : ∃ kvs, F_part_numbers [.dat (tp P)] st = some (.loc st.length, st ++ [.dict kvs]) ∧ ∀ (i : Nat) (p : List Int) (x : Int), P[i]? = some p → x ∈ p → valW kvs (.inl x) = some (.dat (.int i)) := by
  have hE := gives_enum_tupm (S := fun _ => True) P ti
  obtain ⟨env', st', hf, o, o', kvs, q1, q2, q3, q4⟩ := bFor_inv (fi := iEnu (bVar 0)) (g := gTp 2 (gCn (gNm 2) (gCn (gNm 3) gNl))) (u := bExp (bUpdC (bVar 1) (iSeq (bVar 3)) (gNm 4) tAll (bVar 4) (bVar 2) [4])) (env := [some (.dat (tp P)), some (.loc st.length), none, none, none]) (st := st ++ [.dict []]) rfl hE
    (fun i env s => ∃ o o' kvs, env = [some (.dat (tp P)), some (.loc st.length), o, o', none] ∧ s = st ++ [.dict kvs] ∧ kvs.length ≤ (P.take i).flatten.length ∧ ∀ (j : Nat) (p : List Int) (x : Int), j < i → P[j]? = some p → x ∈ p → valW kvs (.inl x) = some (.dat (.int j))) (fun _ _ _ _ => trivial) ⟨none, none, [], rfl, rfl, Nat.zero_le _, fun j p x h => absurd h (Nat.not_lt_zero _)⟩
    (fun i w env s hw ⟨o, o', kvs, q1, q2, q3, q4⟩ => by
      subst q1 q2
      rw [List.getElem?_map, List.getElem?_zipIdx] at hw
      cases hp : P[i]? with
      | none => rw [hp] at hw; cases hw
      | some p =>
        rw [hp] at hw
        simp only [Option.map_some, Option.some.injEq, Nat.zero_add] at hw
        subst hw
        generalize hs : st ++ [Cell.dict kvs] = s
        have hget : s[st.length]? = some (.dict kvs) := by rw [← hs]; exact get_last
        have hset : ∀ c, s.set st.length c = st ++ [c] := fun c => by rw [← hs]; exact set_last
        have d1 := dcAll_pure (fi := iSeq (bVar 3)) (gt := gNm 4) (t := tAll) (kx := bVar 4) (vx := bVar 2) (vs := [4]) (env := [some (.dat (tp P)), some (.loc st.length), some (.dat (.int i)), some (.dat (ti p)), none]) (st := s) (xs := p) (e := fun x => .dat (.int x)) rfl (gives_tupm p .int) (fun x => .dat (.int x)) (fun x => .inl x) (fun _ => .dat (.int i))
          (fun x _ => ⟨[some (.dat (tp P)), some (.loc st.length), some (.dat (.int i)), some (.dat (ti p)), some (.dat (.int x))], rfl, rfl, rfl, rfl, rfl⟩)
        obtain ⟨m1, m2, m3⟩ := foldl_put (fun x : Int => (Sum.inl x : Key)) (W.dat (.int i)) p [] (fun e he => absurd he (by simp))
        have hput : putAll p (fun x : Int => (Sum.inl x : Key)) (fun _ => W.dat (.int i)) = p.foldl (fun acc x => putG acc (Sum.inl x) (W.dat (.int i))) [] := rfl
        rw [← hput] at m1 m2 m3
        rw [List.length_nil, Nat.zero_add] at m3
        have hl : ((P.take (i + 1)).flatten).length = (P.take i).flatten.length + p.length := by rw [take_next hp, List.flatten_append, List.length_append]; simp
        have hle : (P.take (i + 1)).flatten.length ≤ P.flatten.length := flat_le (i + 1)
        have hz2 : kvs.length + (putAll p (fun x : Int => (Sum.inl x : Key)) (fun _ => W.dat (.int i))).length ≤ sizeLine := small _ (by omega)
        refine ⟨_, _, .inl ?_, some (.dat (.int i)), some (.dat (ti p)), mergeG kvs (putAll p (fun x : Int => (Sum.inl x : Key)) (fun _ => W.dat (.int i))), rfl, rfl, ?_, ?_⟩
        · simp only [stepOf, bSeq, bAsg, bRet, bRetN, bExp, bIfS, bPass, bDat, bVar, bTy, b2, b1, bN, aCons, aNil, bAnd, bOr, bNot, bIf, bChain, tTru, tBl, tNo, tAn, tOr3, tAll, truth, gNm, gTp, gCn, gNl, seqOf, start3, wipe3, bSlice, pSome, pNone, opSlice, Option.bind_some, Option.map_some, Option.bind_eq_bind, List.map_cons, List.map_nil, List.length_cons, List.length_nil, List.set_cons_zero, List.set_cons_succ, List.getElem?_cons_zero, List.getElem?_cons_succ, List.replicate_succ, List.replicate_zero, List.cons_append, List.nil_append, Nat.sub_zero, Nat.sub_self, Nat.reduceAdd, Nat.reduceSub, if_true, if_false, Bool.not_true, Bool.not_false, reduceIte, Bool.false_eq_true, bUpdC, isD, hget, d1, hz2, hset]
        · have := mergeG_len (putAll p (fun x : Int => (Sum.inl x : Key)) (fun _ => W.dat (.int i))) kvs
          omega
        · intro j q x hj hq hx
          rw [valW_merge (.dat (.int i)) _ _ m1]
          by_cases hji : j = i
          · subst hji
            rw [hp] at hq
            cases hq
            rw [if_pos ((m2 _).mpr (.inl (List.mem_map.mpr ⟨x, hx, rfl⟩)))]
          · rw [if_neg]
            · exact q4 j q x (by omega) hq hx
            · intro hk
              rcases (m2 _).mp hk with hk | hk
              · obtain ⟨y, hy, e⟩ := List.mem_map.mp hk
                cases e
                exact hji (nd_one hd hq hp hx hy)
              · simp at hk)
  subst q1 q2
  refine ⟨kvs, ?_, fun i p x hp hx => q4 i p x (by rw [List.length_map, List.length_zipIdx]; exact (List.getElem?_eq_some_iff.mp hp).1) hp hx⟩
  have l0 : bDictNew [some (.dat (tp P)), none, none, none, none] st = some (.loc st.length, st ++ [.dict []]) := rfl
  have hb : b_part_numbers (start3 5 [.dat (tp P)]) st = some (.rt (.loc st.length), [some (.dat (tp P)), some (.loc st.length), o, o', none], st ++ [.dict kvs]) := by
    unfold b_part_numbers
    simp only [bSeq, bAsg, bRet, bRetN, bExp, bIfS, bPass, bDat, bVar, bTy, b2, b1, bN, aCons, aNil, bAnd, bOr, bNot, bIf, bChain, tTru, tBl, tNo, tAn, tOr3, tAll, truth, gNm, gTp, gCn, gNl, seqOf, start3, wipe3, bSlice, pSome, pNone, opSlice, Option.bind_some, Option.map_some, Option.bind_eq_bind, List.map_cons, List.map_nil, List.length_cons, List.length_nil, List.set_cons_zero, List.set_cons_succ, List.getElem?_cons_zero, List.getElem?_cons_succ, List.replicate_succ, List.replicate_zero, List.cons_append, List.nil_append, Nat.sub_zero, Nat.sub_self, Nat.reduceAdd, Nat.reduceSub, if_true, if_false, Bool.not_true, Bool.not_false, reduceIte, Bool.false_eq_true, l0, hf]
  exact run_loc rfl hb (Nat.le_refl _)
theorem len_flat : ∀ {P : List (List Int)}, (∀ p ∈ P, p ≠ []) → P.length ≤ P.flatten.length
  | [], _ => Nat.le_refl _
  | p :: P, h => by
    have ih := len_flat (P := P) fun q hq => h q (List.mem_cons_of_mem _ hq)
    have := List.length_pos_iff.mpr (h p List.mem_cons_self)
    rw [List.flatten_cons, List.length_append, List.length_cons]; omega
theorem Part.len16 {n : Int} {P : List (List Int)} (h : Part n P) (hn : n ≤ 16) : P.length ≤ 16 := by
  have := len_flat h.ne
  rw [h.perm.length_eq, rg_len] at this
  omega
/-- no part holds both -/
def sep (P : List (List Int)) (a b : Int) : Bool := !(P.any fun p => decide (a ∈ p) && decide (b ∈ p))
def btw (P : List (List Int)) (ts : List (Int × Int)) : List Int := (ts.zipIdx.filter fun x => sep P x.1.1 x.1.2).map fun x => (x.2 : Int)
theorem v_between_of (hok : ∀ t ∈ ts, 0 ≤ t.1 ∧ t.1 < t.2 ∧ t.2 < n) (h : Part n P) (hn : n ≤ 16) (st : Store) : F_between_of [.dat (wb n ts), .dat (tp P)] st = some (.dat (ti (btw P ts)), st) := by
  have hlen : P.flatten.length ≤ 1000 := by rw [h.perm.length_eq, rg_len]; omega
  obtain ⟨kvs, h1, h2⟩ := v_part_numbers h.nd hlen st
  refine run_ret (ext := [.dict kvs]) (env' := [some (.dat (wb n ts)), some (.dat (tp P)), some (.loc st.length), none, none]) rfl ?_
  unfold b_between_of
  generalize hs : st ++ [Cell.dict kvs] = s at *
  have hget : s[st.length]? = some (.dict kvs) := by rw [← hs]; exact get_last
  have c1 := comp_enum (f := b2 opIdx (bVar 0) (bDat (.int 2))) (gt := gTp 2 (gCn (gNm 3) (gCn (gNm 4) gNl))) (t := tBl (b2 opNe (b2 opGetD (bVar 2) (b2 opIdx (bVar 4) (bDat (.int 0)))) (b2 opGetD (bVar 2) (b2 opIdx (bVar 4) (bDat (.int 1)))))) (el := bVar 3) (vs := [3, 4]) (env := [some (.dat (wb n ts)), some (.dat (tp P)), some (.loc st.length), none, none]) (st := s) (xs := ts) (e := tt) (w := .dat (tts ts)) rfl rfl
    (fun x => sep P x.1.1 x.1.2) (fun x => .int x.2) (fun x hx => by
      have hm : x.1 ∈ ts := by
        have := List.mem_zipIdx hx
        simp only [Nat.zero_le, Nat.zero_add, Nat.sub_zero, true_and] at this
        rw [this.2]; exact List.getElem_mem _
      obtain ⟨k1, k2, k3⟩ := hok _ hm
      obtain ⟨p, hp, xp⟩ := h.cov k1 (by omega)
      obtain ⟨q, hq, xq⟩ := h.cov (x := x.1.2) (by omega) k3
      obtain ⟨i, hi⟩ := List.getElem?_of_mem hp
      obtain ⟨j, hj⟩ := List.getElem?_of_mem hq
      have e1 := h2 i p _ hi xp
      have e2 := h2 j q _ hj xq
      refine ⟨[some (.dat (wb n ts)), some (.dat (tp P)), some (.loc st.length), some (.dat (.int x.2)), some (.dat (tt x.1))], rfl, ?_, fun _ => rfl⟩
      have i0 : opIdx (.dat (tt x.1)) (.dat (.int 0)) s = some (.dat (.int x.1.1), s) := rfl
      have i1 : opIdx (.dat (tt x.1)) (.dat (.int 1)) s = some (.dat (.int x.1.2), s) := rfl
      have g0 : opGetD (.loc st.length) (.dat (.int x.1.1)) s = some (.dat (.int i), s) := by simp only [opGetD, L3.keyOf, hget, e1, Option.map_some]
      have g1 : opGetD (.loc st.length) (.dat (.int x.1.2)) s = some (.dat (.int j), s) := by simp only [opGetD, L3.keyOf, hget, e2, Option.map_some]
      have es : sep P x.1.1 x.1.2 = !decide ((i : Int) = (j : Int)) := by
        unfold sep
        congr 1
        rw [Bool.eq_iff_iff, List.any_eq_true, decide_eq_true_eq]
        constructor
        · rintro ⟨r, hr, e⟩
          simp only [Bool.and_eq_true, decide_eq_true_eq] at e
          obtain ⟨k, hk⟩ := List.getElem?_of_mem hr
          have a1 := nd_one h.nd hi hk xp e.1
          have a2 := nd_one h.nd hj hk xq e.2
          omega
        · intro e
          have e : i = j := by omega
          subst e
          rw [hi] at hj
          cases hj
          exact ⟨p, hp, by simp [xp, xq]⟩
      simp only [bSeq, bAsg, bRet, bRetN, bExp, bIfS, bPass, bDat, bVar, bTy, b2, b1, bN, aCons, aNil, bAnd, bOr, bNot, bIf, bChain, tTru, tBl, tNo, tAn, tOr3, tAll, truth, gNm, gTp, gCn, gNl, seqOf, start3, wipe3, bSlice, pSome, pNone, opSlice, Option.bind_some, Option.map_some, Option.bind_eq_bind, List.map_cons, List.map_nil, List.length_cons, List.length_nil, List.set_cons_zero, List.set_cons_succ, List.getElem?_cons_zero, List.getElem?_cons_succ, List.replicate_succ, List.replicate_zero, List.cons_append, List.nil_append, Nat.sub_zero, Nat.sub_self, Nat.reduceAdd, Nat.reduceSub, if_true, if_false, Bool.not_true, Bool.not_false, reduceIte, Bool.false_eq_true, i0, i1, g0, g1, opNe_int, es])
  have e1 : (ts.zipIdx.filter fun x => sep P x.1.1 x.1.2).map (fun x => PyData.int (x.2 : Int)) = (btw P ts).map .int := by unfold btw; rw [List.map_map]; rfl
  rw [e1] at c1
  change _ = some (W.dat (li (btw P ts)), s) at c1
  simp only [bSeq, bAsg, bRet, bRetN, bExp, bIfS, bPass, bDat, bVar, bTy, b2, b1, bN, aCons, aNil, bAnd, bOr, bNot, bIf, bChain, tTru, tBl, tNo, tAn, tOr3, tAll, truth, gNm, gTp, gCn, gNl, seqOf, start3, wipe3, bSlice, pSome, pNone, opSlice, Option.bind_some, Option.map_some, Option.bind_eq_bind, List.map_cons, List.map_nil, List.length_cons, List.length_nil, List.set_cons_zero, List.set_cons_succ, List.getElem?_cons_zero, List.getElem?_cons_succ, List.replicate_succ, List.replicate_zero, List.cons_append, List.nil_append, Nat.sub_zero, Nat.sub_self, Nat.reduceAdd, Nat.reduceSub, if_true, if_false, Bool.not_true, Bool.not_false, reduceIte, Bool.false_eq_true, h1, c1, opTuple_li]
theorem v_between (hw : Web n ts) (h : Part n P) (st : Store) : F_between [.dat (wb n ts), .dat (tp P)] st = some (.dat (ti (btw P ts)), st) := by
  refine run_ret0 (env' := [some (.dat (wb n ts)), some (.dat (tp P))]) rfl ?_
  unfold b_between
  simp only [bSeq, bAsg, bRet, bRetN, bExp, bIfS, bPass, bDat, bVar, bTy, b2, b1, bN, aCons, aNil, bAnd, bOr, bNot, bIf, bChain, tTru, tBl, tNo, tAn, tOr3, tAll, truth, gNm, gTp, gCn, gNl, seqOf, start3, wipe3, bSlice, pSome, pNone, opSlice, Option.bind_some, Option.map_some, Option.bind_eq_bind, List.map_cons, List.map_nil, List.length_cons, List.length_nil, List.set_cons_zero, List.set_cons_succ, List.getElem?_cons_zero, List.getElem?_cons_succ, List.replicate_succ, List.replicate_zero, List.cons_append, List.nil_append, Nat.sub_zero, Nat.sub_self, Nat.reduceAdd, Nat.reduceSub, if_true, if_false, Bool.not_true, Bool.not_false, reduceIte, Bool.false_eq_true, v_want_web n ts hw, v_want_parting hw h, v_between_of hw.ok h hw.hi]
theorem v_want_k (k : Int) (h1 : 1 ≤ k) (h2 : k ≤ 6) (st : Store) : F_want_k [.dat (.int k)] st = some (.dat (.int k), st) := by
  have hm : F_want_many [.dat (.int k), .dat (.int 1), .dat (.int 6)] st = some (.dat (.int k), st) := by
    refine run_ret0 (env' := [some (.dat (.int k)), some (.dat (.int 1)), some (.dat (.int 6))]) rfl ?_
    unfold b_want_many
    have h0 : decide (0 ≤ k) = true := decide_eq_true (by omega)
    simp only [bSeq, bAsg, bRet, bRetN, bExp, bIfS, bPass, bDat, bVar, bTy, b2, b1, bN, aCons, aNil, bAnd, bOr, bNot, bIf, bChain, tTru, tBl, tNo, tAn, tOr3, tAll, truth, gNm, gTp, gCn, gNl, seqOf, start3, wipe3, bSlice, pSome, pNone, opSlice, Option.bind_some, Option.map_some, Option.bind_eq_bind, List.map_cons, List.map_nil, List.length_cons, List.length_nil, List.set_cons_zero, List.set_cons_succ, List.getElem?_cons_zero, List.getElem?_cons_succ, List.replicate_succ, List.replicate_zero, List.cons_append, List.nil_append, Nat.sub_zero, Nat.sub_self, Nat.reduceAdd, Nat.reduceSub, if_true, if_false, Bool.not_true, Bool.not_false, reduceIte, Bool.false_eq_true, v_is_count, h0, opLe, h1, h2, decide_true]
  refine run_ret0 (env' := [some (.dat (.int k))]) rfl ?_
  unfold b_want_k
  simp only [bSeq, bAsg, bRet, bRetN, bExp, bIfS, bPass, bDat, bVar, bTy, b2, b1, bN, aCons, aNil, bAnd, bOr, bNot, bIf, bChain, tTru, tBl, tNo, tAn, tOr3, tAll, truth, gNm, gTp, gCn, gNl, seqOf, start3, wipe3, bSlice, pSome, pNone, opSlice, Option.bind_some, Option.map_some, Option.bind_eq_bind, List.map_cons, List.map_nil, List.length_cons, List.length_nil, List.set_cons_zero, List.set_cons_succ, List.getElem?_cons_zero, List.getElem?_cons_succ, List.replicate_succ, List.replicate_zero, List.cons_append, List.nil_append, Nat.sub_zero, Nat.sub_self, Nat.reduceAdd, Nat.reduceSub, if_true, if_false, Bool.not_true, Bool.not_false, reduceIte, Bool.false_eq_true, hm]
theorem v_looseness (k : Int) (h1 : 1 ≤ k) (h2 : k ≤ 6) (hw : Web n ts) (h : Part n P) (st : Store) : F_looseness [.dat (wb n ts), .dat (.int k), .dat (tp P)] st = some (.dat (.int (k * ((P.length : Int) - 1) - ((btw P ts).length : Int))), st) := by
  have l1 : ∀ l : List (List Int), opLen [.dat (tp l)] st = some (.dat (.int l.length), st) := fun l => by unfold tp; simp only [opLen, seqOf, List.length_map]
  have l2 : ∀ l : List Int, opLen [.dat (ti l)] st = some (.dat (.int l.length), st) := fun l => by unfold ti; simp only [opLen, seqOf, List.length_map]
  have hb : F_want_both [.dat (wb n ts), .dat (.int k)] st = some (.dat .none, st) := by
    refine run_nx0 (env' := [some (.dat (wb n ts)), some (.dat (.int k))]) rfl ?_
    unfold b_want_both
    simp only [bSeq, bAsg, bRet, bRetN, bExp, bIfS, bPass, bDat, bVar, bTy, b2, b1, bN, aCons, aNil, bAnd, bOr, bNot, bIf, bChain, tTru, tBl, tNo, tAn, tOr3, tAll, truth, gNm, gTp, gCn, gNl, seqOf, start3, wipe3, bSlice, pSome, pNone, opSlice, Option.bind_some, Option.map_some, Option.bind_eq_bind, List.map_cons, List.map_nil, List.length_cons, List.length_nil, List.set_cons_zero, List.set_cons_succ, List.getElem?_cons_zero, List.getElem?_cons_succ, List.replicate_succ, List.replicate_zero, List.cons_append, List.nil_append, Nat.sub_zero, Nat.sub_self, Nat.reduceAdd, Nat.reduceSub, if_true, if_false, Bool.not_true, Bool.not_false, reduceIte, Bool.false_eq_true, v_want_web n ts hw, v_want_k k h1 h2]
  have ho : F_looseness_of [.dat (wb n ts), .dat (.int k), .dat (tp P)] st = some (.dat (.int (k * ((P.length : Int) - 1) - ((btw P ts).length : Int))), st) := by
    refine run_ret0 (env' := [some (.dat (wb n ts)), some (.dat (.int k)), some (.dat (tp P))]) rfl ?_
    unfold b_looseness_of
    simp only [bSeq, bAsg, bRet, bRetN, bExp, bIfS, bPass, bDat, bVar, bTy, b2, b1, bN, aCons, aNil, bAnd, bOr, bNot, bIf, bChain, tTru, tBl, tNo, tAn, tOr3, tAll, truth, gNm, gTp, gCn, gNl, seqOf, start3, wipe3, bSlice, pSome, pNone, opSlice, Option.bind_some, Option.map_some, Option.bind_eq_bind, List.map_cons, List.map_nil, List.length_cons, List.length_nil, List.set_cons_zero, List.set_cons_succ, List.getElem?_cons_zero, List.getElem?_cons_succ, List.replicate_succ, List.replicate_zero, List.cons_append, List.nil_append, Nat.sub_zero, Nat.sub_self, Nat.reduceAdd, Nat.reduceSub, if_true, if_false, Bool.not_true, Bool.not_false, reduceIte, Bool.false_eq_true, l1, l2, opSub, opMul_s k ((P.length : Int) - 1) (natAbs_s (by omega) (by omega)) (natAbs_s (by omega) (by have := h.len16 hw.hi; omega)), L3.opI, v_between_of hw.ok h hw.hi]
  refine run_ret0 (env' := [some (.dat (wb n ts)), some (.dat (.int k)), some (.dat (tp P))]) rfl ?_
  unfold b_looseness
  simp only [bSeq, bAsg, bRet, bRetN, bExp, bIfS, bPass, bDat, bVar, bTy, b2, b1, bN, aCons, aNil, bAnd, bOr, bNot, bIf, bChain, tTru, tBl, tNo, tAn, tOr3, tAll, truth, gNm, gTp, gCn, gNl, seqOf, start3, wipe3, bSlice, pSome, pNone, opSlice, Option.bind_some, Option.map_some, Option.bind_eq_bind, List.map_cons, List.map_nil, List.length_cons, List.length_nil, List.set_cons_zero, List.set_cons_succ, List.getElem?_cons_zero, List.getElem?_cons_succ, List.replicate_succ, List.replicate_zero, List.cons_append, List.nil_append, Nat.sub_zero, Nat.sub_self, Nat.reduceAdd, Nat.reduceSub, if_true, if_false, Bool.not_true, Bool.not_false, reduceIte, Bool.false_eq_true, hb, v_want_parting hw h, ho]
theorem v__law_between (hz : ts.length ≤ 1000) (st : Store) : F__law_between [.dat (wb n ts), .dat (tp P)] st = some (.dat (ti (btw P ts)), st) := by
  obtain ⟨env', hf, o, o', o'', o3, rfl⟩ := bFor_ext (fi := iEnu (b2 opIdx (bVar 0) (bDat (.int 2)))) (g := gTp 2 (gCn (gNm 3) (gCn (gTp 2 (gCn (gNm 4) (gCn (gNm 5) gNl))) gNl))) (u := bExp (bMeth opExtend (bVar 2) (aCons (bIf (tBl (b2 opEq (bComp (iSeq (bVar 1)) (gNm 6) (tAn (tBl (b2 (opIn false) (bVar 4) (bVar 6))) (tBl (b2 (opIn false) (bVar 5) (bVar 6)))) (bVar 6) [6]) (bN opLst aNil))) (bN opLst (aCons (bVar 3) aNil)) (bN opLst aNil)) aNil)))
    (env := [some (.dat (wb n ts)), some (.dat (tp P)), some (.loc st.length), none, none, none, none]) (st := st) (acc0 := []) ts.zipIdx (fun x => .dat (.tuple [.int x.2, tt x.1])) rfl (gives_enum_tupm ts tt) (fun x => if sep P x.1.1 x.1.2 = true then [.int x.2] else []) (fun env => ∃ o o' o'' o3, env = [some (.dat (wb n ts)), some (.dat (tp P)), some (.loc st.length), o, o', o'', o3]) ⟨none, none, none, none, rfl⟩
    (by
      have e : ∀ l : List ((Int × Int) × Nat), (l.flatMap fun x => if sep P x.1.1 x.1.2 = true then [PyData.int x.2] else []).length ≤ l.length := fun l => by
        induction l with
        | nil => simp
        | cons p l ih =>
          have h1 : (if sep P p.1.1 p.1.2 = true then [PyData.int p.2] else []).length ≤ 1 := by split <;> simp
          rw [List.flatMap_cons, List.length_append, List.length_cons]; omega
      have := e ts.zipIdx
      rw [List.length_zipIdx] at this
      rw [List.length_nil]; omega)
    (fun x hx env acc ⟨o, o', o'', o3, q⟩ hz => by
      subst q
      generalize hs : st ++ [Cell.list (acc.map W.dat)] = s
      have c1 := comp_seq (f := bVar 1) (gt := gNm 6) (t := tAn (tBl (b2 (opIn false) (bVar 4) (bVar 6))) (tBl (b2 (opIn false) (bVar 5) (bVar 6)))) (el := bVar 6) (vs := [6]) (env := [some (.dat (wb n ts)), some (.dat (tp P)), some (.loc st.length), some (.dat (.int x.2)), some (.dat (.int x.1.1)), some (.dat (.int x.1.2)), o3]) (st := s) (xs := P) (e := ti) rfl rfl (fun p => decide (x.1.1 ∈ p) && decide (x.1.2 ∈ p)) ti
        (fun p _ => ⟨[some (.dat (wb n ts)), some (.dat (tp P)), some (.loc st.length), some (.dat (.int x.2)), some (.dat (.int x.1.1)), some (.dat (.int x.1.2)), some (.dat (ti p))], rfl, by
          simp only [bSeq, bAsg, bRet, bRetN, bExp, bIfS, bPass, bDat, bVar, bTy, b2, b1, bN, aCons, aNil, bAnd, bOr, bNot, bIf, bChain, tTru, tBl, tNo, tAn, tOr3, tAll, truth, gNm, gTp, gCn, gNl, seqOf, start3, wipe3, bSlice, pSome, pNone, opSlice, Option.bind_some, Option.map_some, Option.bind_eq_bind, List.map_cons, List.map_nil, List.length_cons, List.length_nil, List.set_cons_zero, List.set_cons_succ, List.getElem?_cons_zero, List.getElem?_cons_succ, List.replicate_succ, List.replicate_zero, List.cons_append, List.nil_append, Nat.sub_zero, Nat.sub_self, Nat.reduceAdd, Nat.reduceSub, if_true, if_false, Bool.not_true, Bool.not_false, reduceIte, Bool.false_eq_true, opIn_ti, Bool.false_xor]
          by_cases h : x.1.1 ∈ p <;> simp [h], fun _ => rfl⟩)
      change _ = some (W.dat (lp (P.filter fun p => decide (x.1.1 ∈ p) && decide (x.1.2 ∈ p))), s) at c1
      have e0 : ∀ l, opEq (.dat (lp l)) (.dat (li [])) s = some (.dat (.bool (decide (l = []))), s) := fun l => opEq_lp l []
      have es : decide (P.filter (fun p => decide (x.1.1 ∈ p) && decide (x.1.2 ∈ p)) = []) = sep P x.1.1 x.1.2 := by
        rw [nil_filter]; unfold sep; rw [List.any_eq_not_all_not, Bool.not_not]
      refine ⟨[some (.dat (wb n ts)), some (.dat (tp P)), some (.loc st.length), some (.dat (.int x.2)), some (.dat (.int x.1.1)), some (.dat (.int x.1.2)), o3], ?_, _, _, _, _, rfl⟩
      have hg : gTp 2 (gCn (gNm 3) (gCn (gTp 2 (gCn (gNm 4) (gCn (gNm 5) gNl))) gNl)) (.dat (.tuple [.int x.2, tt x.1])) [some (.dat (wb n ts)), some (.dat (tp P)), some (.loc st.length), o, o', o'', o3] s = some ([some (.dat (wb n ts)), some (.dat (tp P)), some (.loc st.length), some (.dat (.int x.2)), some (.dat (.int x.1.1)), some (.dat (.int x.1.2)), o3], s) := rfl
      have l1 : opLst [.dat (.int (x.2 : Int))] s = some (.dat (.list [.int x.2]), s) := rfl
      have l2 : opLst [] s = some (.dat (.list []), s) := rfl
      have c3 := ext_last (st := st) (acc := acc) (ds := if sep P x.1.1 x.1.2 = true then [.int x.2] else []) (f := bVar 2) (g := aCons (bIf (tBl (b2 opEq (bComp (iSeq (bVar 1)) (gNm 6) (tAn (tBl (b2 (opIn false) (bVar 4) (bVar 6))) (tBl (b2 (opIn false) (bVar 5) (bVar 6)))) (bVar 6) [6]) (bN opLst aNil))) (bN opLst (aCons (bVar 3) aNil)) (bN opLst aNil)) aNil) (env := [some (.dat (wb n ts)), some (.dat (tp P)), some (.loc st.length), some (.dat (.int x.2)), some (.dat (.int x.1.1)), some (.dat (.int x.1.2)), o3]) rfl (by
        rw [hs]
        simp only [bSeq, bAsg, bRet, bRetN, bExp, bIfS, bPass, bDat, bVar, bTy, b2, b1, bN, aCons, aNil, bAnd, bOr, bNot, bIf, bChain, tTru, tBl, tNo, tAn, tOr3, tAll, truth, gNm, gTp, gCn, gNl, seqOf, start3, wipe3, bSlice, pSome, pNone, opSlice, Option.bind_some, Option.map_some, Option.bind_eq_bind, List.map_cons, List.map_nil, List.length_cons, List.length_nil, List.set_cons_zero, List.set_cons_succ, List.getElem?_cons_zero, List.getElem?_cons_succ, List.replicate_succ, List.replicate_zero, List.cons_append, List.nil_append, Nat.sub_zero, Nat.sub_self, Nat.reduceAdd, Nat.reduceSub, if_true, if_false, Bool.not_true, Bool.not_false, reduceIte, Bool.false_eq_true, c1, opLst_nil, e0, es]
        by_cases h : sep P x.1.1 x.1.2 = true
        · simp only [bSeq, bAsg, bRet, bRetN, bExp, bIfS, bPass, bDat, bVar, bTy, b2, b1, bN, aCons, aNil, bAnd, bOr, bNot, bIf, bChain, tTru, tBl, tNo, tAn, tOr3, tAll, truth, gNm, gTp, gCn, gNl, seqOf, start3, wipe3, bSlice, pSome, pNone, opSlice, Option.bind_some, Option.map_some, Option.bind_eq_bind, List.map_cons, List.map_nil, List.length_cons, List.length_nil, List.set_cons_zero, List.set_cons_succ, List.getElem?_cons_zero, List.getElem?_cons_succ, List.replicate_succ, List.replicate_zero, List.cons_append, List.nil_append, Nat.sub_zero, Nat.sub_self, Nat.reduceAdd, Nat.reduceSub, if_true, if_false, Bool.not_true, Bool.not_false, reduceIte, Bool.false_eq_true, h, l1]
        · rw [Bool.not_eq_true] at h
          simp only [bSeq, bAsg, bRet, bRetN, bExp, bIfS, bPass, bDat, bVar, bTy, b2, b1, bN, aCons, aNil, bAnd, bOr, bNot, bIf, bChain, tTru, tBl, tNo, tAn, tOr3, tAll, truth, gNm, gTp, gCn, gNl, seqOf, start3, wipe3, bSlice, pSome, pNone, opSlice, Option.bind_some, Option.map_some, Option.bind_eq_bind, List.map_cons, List.map_nil, List.length_cons, List.length_nil, List.set_cons_zero, List.set_cons_succ, List.getElem?_cons_zero, List.getElem?_cons_succ, List.replicate_succ, List.replicate_zero, List.cons_append, List.nil_append, Nat.sub_zero, Nat.sub_self, Nat.reduceAdd, Nat.reduceSub, if_true, if_false, Bool.not_true, Bool.not_false, reduceIte, Bool.false_eq_true, h, l2]
          rfl) hz
      rw [hs] at c3
      unfold stepOf
      rw [hg]
      simp only [bSeq, bAsg, bRet, bRetN, bExp, bIfS, bPass, bDat, bVar, bTy, b2, b1, bN, aCons, aNil, bAnd, bOr, bNot, bIf, bChain, tTru, tBl, tNo, tAn, tOr3, tAll, truth, gNm, gTp, gCn, gNl, seqOf, start3, wipe3, bSlice, pSome, pNone, opSlice, Option.bind_some, Option.map_some, Option.bind_eq_bind, List.map_cons, List.map_nil, List.length_cons, List.length_nil, List.set_cons_zero, List.set_cons_succ, List.getElem?_cons_zero, List.getElem?_cons_succ, List.replicate_succ, List.replicate_zero, List.cons_append, List.nil_append, Nat.sub_zero, Nat.sub_self, Nat.reduceAdd, Nat.reduceSub, if_true, if_false, Bool.not_true, Bool.not_false, reduceIte, Bool.false_eq_true, c3])
  refine run_ret (ext := [.list ((([] : List PyData) ++ ts.zipIdx.flatMap fun (x : (Int × Int) × Nat) => if sep P x.1.1 x.1.2 = true then [PyData.int x.2] else []).map W.dat)]) (env' := [some (.dat (wb n ts)), some (.dat (tp P)), some (.loc st.length), o, o', o'', o3]) rfl ?_
  unfold b__law_between
  have l0 : opLstNew [] st = some (.loc st.length, st ++ [.list (([] : List PyData).map .dat)]) := new_list
  have e1 : (ts.zipIdx.flatMap fun x => if sep P x.1.1 x.1.2 = true then [PyData.int x.2] else []) = (btw P ts).map .int := by
    unfold btw
    rw [List.map_map]
    generalize ts.zipIdx = l
    induction l with
    | nil => rfl
    | cons x l ih =>
      rw [List.flatMap_cons, ih, List.filter_cons]
      by_cases h : sep P x.1.1 x.1.2 = true
      · rw [if_pos h, if_pos h]; rfl
      · rw [if_neg h, if_neg h]; rfl
  rw [e1, List.nil_append] at hf ⊢
  generalize hs : st ++ [Cell.list (((btw P ts).map PyData.int).map W.dat)] = s at *
  have t0 : opTuple [.loc st.length] s = some (.dat (ti (btw P ts)), s) := by
    unfold opTuple
    have : seqOf s (.loc st.length) = some (((btw P ts).map PyData.int).map W.dat) := by rw [← hs]; simp only [seqOf, get_last]
    simp only [tupOf, this, mapM_dat]
    rfl
  simp only [List.map_nil] at hf l0
  simp only [bSeq, bAsg, bRet, bRetN, bExp, bIfS, bPass, bDat, bVar, bTy, b2, b1, bN, aCons, aNil, bAnd, bOr, bNot, bIf, bChain, tTru, tBl, tNo, tAn, tOr3, tAll, truth, gNm, gTp, gCn, gNl, seqOf, start3, wipe3, bSlice, pSome, pNone, opSlice, Option.bind_some, Option.map_some, Option.bind_eq_bind, List.map_cons, List.map_nil, List.length_cons, List.length_nil, List.set_cons_zero, List.set_cons_succ, List.getElem?_cons_zero, List.getElem?_cons_succ, List.replicate_succ, List.replicate_zero, List.cons_append, List.nil_append, Nat.sub_zero, Nat.sub_self, Nat.reduceAdd, Nat.reduceSub, if_true, if_false, Bool.not_true, Bool.not_false, reduceIte, Bool.false_eq_true, l0, hf, t0]
theorem v__law_looseness (k : Int) (h1 : 1 ≤ k) (h2 : k ≤ 6) (hP : P.length ≤ 1000) (hz : ts.length ≤ 1000) (st : Store) : F__law_looseness [.dat (wb n ts), .dat (.int k), .dat (tp P)] st = some (.dat (.int (k * ((P.length : Int) - 1) - ((btw P ts).length : Int))), st) := by
  have l1 : ∀ l : List (List Int), opLen [.dat (tp l)] st = some (.dat (.int l.length), st) := fun l => by unfold tp; simp only [opLen, seqOf, List.length_map]
  have l2 : ∀ l : List Int, opLen [.dat (ti l)] st = some (.dat (.int l.length), st) := fun l => by unfold ti; simp only [opLen, seqOf, List.length_map]
  refine run_ret0 (env' := [some (.dat (wb n ts)), some (.dat (.int k)), some (.dat (tp P))]) rfl ?_
  unfold b__law_looseness
  simp only [bSeq, bAsg, bRet, bRetN, bExp, bIfS, bPass, bDat, bVar, bTy, b2, b1, bN, aCons, aNil, bAnd, bOr, bNot, bIf, bChain, tTru, tBl, tNo, tAn, tOr3, tAll, truth, gNm, gTp, gCn, gNl, seqOf, start3, wipe3, bSlice, pSome, pNone, opSlice, Option.bind_some, Option.map_some, Option.bind_eq_bind, List.map_cons, List.map_nil, List.length_cons, List.length_nil, List.set_cons_zero, List.set_cons_succ, List.getElem?_cons_zero, List.getElem?_cons_succ, List.replicate_succ, List.replicate_zero, List.cons_append, List.nil_append, Nat.sub_zero, Nat.sub_self, Nat.reduceAdd, Nat.reduceSub, if_true, if_false, Bool.not_true, Bool.not_false, reduceIte, Bool.false_eq_true, l1, l2, opSub, opMul_s k ((P.length : Int) - 1) (natAbs_s (by omega) (by omega)) (natAbs_s (by omega) (by omega)), L3.opI, v__law_between hz]
end
end K38
set_option Elab.async false
set_option linter.all false
set_option maxRecDepth 100000
set_option maxHeartbeats 400000
set_option autoImplicit false
namespace K38
open PySem PySem.Spec PyProof.Rows L2 L3
/-! ### the pot -/
def pc (a b : Int) : Cell := .list [.dat (.int a), .dat (.int b)]
theorem pc_below (k : Nat) (a b : Int) : CBelow k (pc a b) := by
  intro w hw
  simp only [List.mem_cons, List.mem_nil_iff, or_false] at hw
  rcases hw with e | e <;> subst e <;> trivial
theorem pot_shut {st : Store} {n k : Nat} {a b : Int} (i : Nat) (c : Cell) (h : (st.set n (pc a b))[i]? = some c) : st[i]? = some c ∨ CBelow k c := by
  by_cases e : n = i
  · subst e
    by_cases hl : n < st.length
    · rw [List.getElem?_set_self hl] at h
      cases h
      exact .inr (pc_below _ _ _)
    · rw [List.getElem?_eq_none (by rw [List.length_set]; omega)] at h
      cases h
  · rw [List.getElem?_set_ne e] at h
    exact .inl h
theorem run_pot {fz : Bool} {n m k : Nat} {b : Eb} {ws : List W} {st ext : Store} {env' : E3} {d : PyData} {x y : Int} (hl : ws.length = m) (h : b (start3 n ws) st = some (.rt (.dat d), env', st.set k (pc x y) ++ ext)) : runB fz n m b ws st = some (.dat d, st.set k (pc x y)) :=
  run_of hl h List.length_set fun i c _ e => pot_shut i c e
theorem pylong_no (a m : Int) (h : m.natAbs < 2 ^ 64) : Builtin.divisionGoesByPylong a m = false := by
  unfold Builtin.divisionGoesByPylong
  have h1 := log2_small h (by decide)
  have : decide ((if m == 0 then 0 else m.natAbs.log2 / 30 + 1) > 300) = false := by
    rw [decide_eq_false_iff_not]
    split
    · omega
    · have : m.natAbs.log2 / 30 ≤ 64 / 30 := Nat.div_le_div_right (by omega)
      omega
  simp only [this, Bool.false_and]
theorem v_draw {st : Store} {n : Nat} {a b m : Int} (h : st[n]? = some (pc a b)) (hb : 0 ≤ b) (hb2 : b ≤ 2147483587) (hm : 0 < m) (hm2 : m ≤ 1000000) :
    ∃ d x y, F__law_draw [.loc n, .dat (.int m)] st = some (.dat (.int d), st.set n (pc x y)) ∧ 0 ≤ d ∧ d < m ∧ 0 ≤ y ∧ y ≤ 2147483587 := by
  have i0 : opIdx (.loc n) (.dat (.int 0)) st = some (.dat (.int a), st) := by simp only [opIdx, seqOf, h, pc]; rfl
  have hnl : n < st.length := (List.getElem?_eq_some_iff.mp h).1
  by_cases ha : 0 < a
  · refine ⟨a % m, a / m, b, ?_, Int.emod_nonneg _ (by omega), Int.emod_lt_of_pos _ hm, hb, hb2⟩
    refine run_pot (ext := []) (env' := [some (.loc n), some (.dat (.int m)), some (.dat (.int (a % m)))]) rfl ?_
    unfold b__law_draw
    have dm : opDivmod [.dat (.int a), .dat (.int m)] st = some (.dat (.tuple [.int (a / m), .int (a % m)]), st) := by
      unfold opDivmod
      exact if_pos ⟨hm, pylong_no a m (by omega)⟩
    have g0 : opSet (.loc n) (.dat (.int 0)) (.dat (.int (a / m))) st = some (st.set n (pc (a / m) b)) := by simp only [opSet, h, pc]; rfl
    have ha' : decide (0 < a) = true := decide_eq_true ha
    simp only [bSeq, bAsg, bRet, bRetN, bExp, bIfS, bPass, bDat, bVar, bTy, b2, b1, bN, aCons, aNil, bAnd, bOr, bNot, bIf, bChain, tTru, tBl, tNo, tAn, tOr3, tAll, truth, gNm, gTp, gCn, gNl, seqOf, start3, wipe3, bSlice, pSome, pNone, opSlice, Option.bind_some, Option.map_some, Option.bind_eq_bind, List.map_cons, List.map_nil, List.length_cons, List.length_nil, List.set_cons_zero, List.set_cons_succ, List.getElem?_cons_zero, List.getElem?_cons_succ, List.replicate_succ, List.replicate_zero, List.cons_append, List.nil_append, Nat.sub_zero, Nat.sub_self, Nat.reduceAdd, Nat.reduceSub, if_true, if_false, Bool.not_true, Bool.not_false, reduceIte, Bool.false_eq_true, i0, opGt, ha', dm, gSb, g0, List.append_nil]
  · have hy1 : 0 ≤ (b * 48271 + 1091) % 2147483587 := Int.emod_nonneg _ (by decide)
    have hy2 : (b * 48271 + 1091) % 2147483587 < 2147483587 := Int.emod_lt_of_pos _ (by decide)
    generalize hy : (b * 48271 + 1091) % 2147483587 = y at hy1 hy2
    refine ⟨y * y % 2147483563 / 19 % m, a, y, ?_, Int.emod_nonneg _ (by omega), Int.emod_lt_of_pos _ hm, hy1, by omega⟩
    refine run_pot (ext := []) (env' := [some (.loc n), some (.dat (.int m)), none]) rfl ?_
    unfold b__law_draw
    have i1 : opIdx (.loc n) (.dat (.int 1)) st = some (.dat (.int b), st) := by simp only [opIdx, seqOf, h, pc]; rfl
    have j1 : opIdx (.loc n) (.dat (.int 1)) (st.set n (pc a y)) = some (.dat (.int y), st.set n (pc a y)) := by simp only [opIdx, seqOf, List.getElem?_set_self hnl, pc]; rfl
    have g1 : opSet (.loc n) (.dat (.int 1)) (.dat (.int y)) st = some (st.set n (pc a y)) := by simp only [opSet, h, pc]; rfl
    have ha' : decide (0 < a) = false := decide_eq_false ha
    have m1 := opMul_s (st := st) b 48271 (natAbs_s (by omega) (by omega)) (natAbs_s (by omega) (by omega))
    have m2 := opMul_s (st := st.set n (pc a y)) y y (natAbs_s (by omega) (by omega)) (natAbs_s (by omega) (by omega))
    have p1 : opMod (.dat (.int (b * 48271 + 1091))) (.dat (.int 2147483587)) st = some (.dat (.int y), st) := by rw [← hy]; rfl
    have p2 : opMod (.dat (.int (y * y))) (.dat (.int 2147483563)) (st.set n (pc a y)) = some (.dat (.int (y * y % 2147483563)), st.set n (pc a y)) := rfl
    have p3 : opDiv (.dat (.int (y * y % 2147483563))) (.dat (.int 19)) (st.set n (pc a y)) = some (.dat (.int (y * y % 2147483563 / 19)), st.set n (pc a y)) := by
      unfold opDiv L3.opI
      exact if_pos (show (decide ((0 : Int) < 19) && decide (bits 19 < 9000)) = true by decide +kernel)
    have p4 : opMod (.dat (.int (y * y % 2147483563 / 19))) (.dat (.int m)) (st.set n (pc a y)) = some (.dat (.int (y * y % 2147483563 / 19 % m)), st.set n (pc a y)) := if_pos (decide_eq_true hm)
    simp only [bSeq, bAsg, bRet, bRetN, bExp, bIfS, bPass, bDat, bVar, bTy, b2, b1, bN, aCons, aNil, bAnd, bOr, bNot, bIf, bChain, tTru, tBl, tNo, tAn, tOr3, tAll, truth, gNm, gTp, gCn, gNl, seqOf, start3, wipe3, bSlice, pSome, pNone, opSlice, Option.bind_some, Option.map_some, Option.bind_eq_bind, List.map_cons, List.map_nil, List.length_cons, List.length_nil, List.set_cons_zero, List.set_cons_succ, List.getElem?_cons_zero, List.getElem?_cons_succ, List.replicate_succ, List.replicate_zero, List.cons_append, List.nil_append, Nat.sub_zero, Nat.sub_self, Nat.reduceAdd, Nat.reduceSub, if_true, if_false, Bool.not_true, Bool.not_false, reduceIte, Bool.false_eq_true, i0, i1, j1, opGt, ha', opInt, opAdd, m1, m2, p1, p2, p3, p4, gSb, g1, List.append_nil]
end K38
set_option Elab.async false
set_option linter.all false
set_option maxRecDepth 100000
set_option maxHeartbeats 400000
set_option autoImplicit false
namespace K38
open PySem PySem.Spec PyProof.Rows L2 L3
/-- a tie with its ends in order -/
def ord2 (t : Int × Int) : Int × Int := if t.1 ≤ t.2 then t else (t.2, t.1)
theorem sI_pl (t : Int × Int) : sI (pl t) = pl (ord2 t) := by
  unfold ord2
  split
  · rename_i h
    exact sI_eq (List.Perm.refl _) (by unfold pl; simp [h])
  · rename_i h
    exact sI_eq (List.Perm.swap _ _ _) (by unfold pl; simp; omega)
theorem set_app {st ext : Store} {n : Nat} {c : Cell} (h : n < st.length) : (st ++ ext).set n c = st.set n c ++ ext := by rw [List.set_append, if_pos h]
theorem get_app {st ext : Store} {n : Nat} (h : n < st.length) : (st ++ ext)[n]? = st[n]? := List.getElem?_append_left h
theorem wrap {m x d : Int} (h1 : 0 ≤ x) (h2 : x < m) (h3 : 0 ≤ d) (h4 : d < m - 1) : ∃ y, x + 1 + d - (x + 1 + d) / m * m = y ∧ 0 ≤ y ∧ y < m ∧ y ≠ x := by
  have e : x + 1 + d - (x + 1 + d) / m * m = (x + 1 + d) % m := by
    have := Int.emod_add_mul_ediv (x + 1 + d) m
    rw [Int.mul_comm] at this; omega
  refine ⟨_, rfl, ?_⟩
  rw [e]
  have k1 := Int.emod_nonneg (x + 1 + d) (show m ≠ 0 by omega)
  have k2 := Int.emod_lt_of_pos (x + 1 + d) (show 0 < m by omega)
  refine ⟨k1, k2, ?_⟩
  by_cases hl : x + 1 + d < m
  · rw [Int.emod_eq_of_lt (by omega) hl]; omega
  · have : (x + 1 + d) % m = (x + 1 + d - m) % m := by rw [Int.sub_emod_right]
    rw [this, Int.emod_eq_of_lt (by omega) (by omega)]; omega
structure Drawn (y : Int) : Prop where
  lo : 0 ≤ y
  hi : y ≤ 2147483587
theorem draw {st : Store} {n : Nat} {a b m : Int} (h : st[n]? = some (pc a b)) (hb : Drawn b) (hm : 0 < m) (hm2 : m ≤ 1000000) : ∃ d x y, F__law_draw [.loc n, .dat (.int m)] st = some (.dat (.int d), st.set n (pc x y)) ∧ 0 ≤ d ∧ d < m ∧ Drawn y := by
  obtain ⟨d, x, y, h1, h2, h3, h4, h5⟩ := v_draw h hb.lo hb.hi hm hm2
  exact ⟨d, x, y, h1, h2, h3, h4, h5⟩
/-- over what stands behind -/
theorem drawA {st : Store} (ext : Store) {n : Nat} {a b m : Int} (hn : n < st.length) (hb : Drawn b) (hm : 0 < m) (hm2 : m ≤ 1000000) : ∃ d x y, F__law_draw [.loc n, .dat (.int m)] (st.set n (pc a b) ++ ext) = some (.dat (.int d), st.set n (pc x y) ++ ext) ∧ 0 ≤ d ∧ d < m ∧ Drawn y := by
  have h0 : (st.set n (pc a b) ++ ext)[n]? = some (pc a b) := by rw [get_app (by rw [List.length_set]; exact hn), List.getElem?_set_self hn]
  obtain ⟨d, x, y, h1, h2⟩ := draw h0 hb hm hm2
  rw [set_app (by rw [List.length_set]; exact hn), List.set_set] at h1
  exact ⟨d, x, y, h1, h2⟩
theorem set_same {st : Store} {n : Nat} {c : Cell} (h : st[n]? = some c) : st.set n c = st := by
  obtain ⟨hl, e⟩ := List.getElem?_eq_some_iff.mp h
  subst e
  exact List.set_getElem_self hl
theorem v_ties {st : Store} {n : Nat} {a b m : Int} {k : Int} (h : st[n]? = some (pc a b)) (hb : Drawn b) (hm : 2 ≤ m) (hm2 : m ≤ 16) (hk : 0 ≤ k) (hk2 : k ≤ 40) :
    ∃ (ts : List (Int × Int)) (x y : Int), F__law_ties [.loc n, .dat (.int m), .dat (.int k)] st = some (.dat (lp (ts.map pl)), st.set n (pc x y)) ∧ (ts.length : Int) ≤ k ∧ (∀ t ∈ ts, 0 ≤ t.1 ∧ t.1 < t.2 ∧ t.2 < m) ∧ Drawn y := by
  have hn : n < st.length := (List.getElem?_eq_some_iff.mp h).1
  have est : st = st.set n (pc a b) := (set_same h).symm
  -- how many
  obtain ⟨c, x0, y0, d1, d2, d3, d4⟩ := drawA (st := st) (a := a) [.list []] hn hb (m := k + 1) (by omega) (by omega)
  have hg : rgOk 0 c = true := by unfold rgOk; simp only [Bool.and_eq_true, decide_eq_true_eq]; omega
  have hi : iRange (bDat (.int 0)) (bIf (tBl (b2 opGt (bVar 1) (bDat (.int 1)))) (bN F__law_draw (aCons (bVar 0) (aCons (b2 opAdd (bVar 2) (bDat (.int 1))) aNil))) (bDat (.int 0))) [some (.loc n), some (.dat (.int m)), some (.dat (.int k)), some (.loc st.length), none, none, none, none] (st ++ [.list []])
      = some (itRange 0 c, st.set n (pc x0 y0) ++ [.list []]) := by
    rw [← est] at d1
    have hm1 : decide ((1 : Int) < m) = true := decide_eq_true (by omega)
    simp only [iRange, bSeq, bAsg, bRet, bRetN, bExp, bIfS, bPass, bDat, bVar, bTy, b2, b1, bN, aCons, aNil, bAnd, bOr, bNot, bIf, bChain, tTru, tBl, tNo, tAn, tOr3, tAll, truth, gNm, gTp, gCn, gNl, seqOf, start3, wipe3, bSlice, pSome, pNone, opSlice, Option.bind_some, Option.map_some, Option.bind_eq_bind, List.map_cons, List.map_nil, List.length_cons, List.length_nil, List.set_cons_zero, List.set_cons_succ, List.getElem?_cons_zero, List.getElem?_cons_succ, List.replicate_succ, List.replicate_zero, List.cons_append, List.nil_append, Nat.sub_zero, Nat.sub_self, Nat.reduceAdd, Nat.reduceSub, if_true, if_false, Bool.not_true, Bool.not_false, reduceIte, Bool.false_eq_true, opGt, hm1, opAdd, d1, hg]
  obtain ⟨env', st', hf, xa, yb, ts, o4, o5, o6, q1, q2, q3, q4, q5⟩ := bFor_inv (g := gNm 4) (u := bSeq (bAsg (bN F__law_draw (aCons (bVar 0) (aCons (bVar 1) aNil))) (gNm 5)) (bSeq (bAsg (b2 opAdd (b2 opAdd (bVar 5) (bDat (.int 1))) (bN F__law_draw (aCons (bVar 0) (aCons (b2 opSub (bVar 1) (bDat (.int 1))) aNil)))) (gNm 6)) (bExp (bMeth opAppend (bVar 3) (aCons (bN opTup (aCons (bVar 5) (aCons (b2 opSub (bVar 6) (b2 opMul (b2 opDiv (bVar 6) (bVar 1)) (bVar 1))) aNil))) aNil))))) hi (gives_range (S := fun _ => True))
    (fun i env s => ∃ a b ts o4 o5 o6, env = [some (.loc n), some (.dat (.int m)), some (.dat (.int k)), some (.loc st.length), o4, o5, o6, none] ∧ s = st.set n (pc a b) ++ [.list ((ts.map tt).map .dat)] ∧ Drawn b ∧ ts.length ≤ i ∧ ∀ t ∈ ts, (0 ≤ t.1 ∧ t.1 < m) ∧ (0 ≤ t.2 ∧ t.2 < m) ∧ t.1 ≠ t.2) (fun _ _ _ _ => trivial)
    ⟨x0, y0, [], none, none, none, rfl, rfl, d4, Nat.le_refl _, fun t ht => by cases ht⟩ (fun i w env s hw ⟨a, b, ts, o4, o5, o6, q1, q2, q3, q4, q5⟩ => by
      subst q1 q2
      have hi16 : i < 64 := by
        have := (List.getElem?_eq_some_iff.mp hw).1
        rw [List.length_map, List.length_range] at this
        omega
      generalize hE : ts.map tt = tz
      obtain ⟨p, x1, y1, k1, k2, k3, k4⟩ := drawA (st := st) (a := a) (b := b) [.list (tz.map .dat)] hn q3 (m := m) (by omega) (by omega)
      obtain ⟨d, x2, y2, l1, l2, l3, l4⟩ := drawA (st := st) (a := x1) (b := y1) [.list (tz.map .dat)] hn k4 (m := m - 1) (by omega) (by omega)
      obtain ⟨r, e1, e2, e3, e4⟩ := wrap k2 k3 l2 l3
      have hlen : (st.set n (pc x2 y2)).length = st.length := List.length_set
      have hz : (tz.map W.dat).length < sizeLine := by
        rw [← hE, List.length_map, List.length_map]
        exact Nat.lt_of_lt_of_le (show ts.length < 64 by omega) (small 64 (by decide))
      have a0 := app_last (st := st.set n (pc x2 y2)) (acc := tz) (d := tt (p, r)) (f := bVar 3) (g := aCons (bN opTup (aCons (bVar 5) (aCons (b2 opSub (bVar 6) (b2 opMul (b2 opDiv (bVar 6) (bVar 1)) (bVar 1))) aNil))) aNil) (env := [some (.loc n), some (.dat (.int m)), some (.dat (.int k)), some (.loc st.length), some w, some (.dat (.int p)), some (.dat (.int (p + 1 + d))), none])
        (by rw [hlen]; rfl) (by
          generalize st.set n (pc x2 y2) ++ [Cell.list (tz.map W.dat)] = s
          have v1 : opDiv (.dat (.int (p + 1 + d))) (.dat (.int m)) s = some (.dat (.int ((p + 1 + d) / m)), s) := by
            unfold opDiv L3.opI
            refine if_pos ?_
            have : bits m < 9000 := by unfold bits; have := log2_small (show m.natAbs < 2 ^ 5 by omega) (by decide); omega
            rw [Bool.and_eq_true, decide_eq_true_eq, decide_eq_true_eq]
            exact ⟨by omega, this⟩
          have hq : 0 ≤ (p + 1 + d) / m ∧ (p + 1 + d) / m ≤ p + 1 + d := ⟨Int.ediv_nonneg (by omega) (by omega), Int.ediv_le_self _ (by omega)⟩
          have v2 := opMul_s (st := s) ((p + 1 + d) / m) m (natAbs_s (by omega) (by omega)) (natAbs_s (by omega) (by omega))
          have v3 : opTup [.dat (.int p), .dat (.int r)] s = some (.dat (tt (p, r)), s) := rfl
          simp only [bSeq, bAsg, bRet, bRetN, bExp, bIfS, bPass, bDat, bVar, bTy, b2, b1, bN, aCons, aNil, bAnd, bOr, bNot, bIf, bChain, tTru, tBl, tNo, tAn, tOr3, tAll, truth, gNm, gTp, gCn, gNl, seqOf, start3, wipe3, bSlice, pSome, pNone, opSlice, Option.bind_some, Option.map_some, Option.bind_eq_bind, List.map_cons, List.map_nil, List.length_cons, List.length_nil, List.set_cons_zero, List.set_cons_succ, List.getElem?_cons_zero, List.getElem?_cons_succ, List.replicate_succ, List.replicate_zero, List.cons_append, List.nil_append, Nat.sub_zero, Nat.sub_self, Nat.reduceAdd, Nat.reduceSub, if_true, if_false, Bool.not_true, Bool.not_false, reduceIte, Bool.false_eq_true, opSub, L3.opI, v1, v2, e1, v3]) hz
      refine ⟨_, st.set n (pc x2 y2) ++ [Cell.list ((tz ++ [tt (p, r)]).map W.dat)], .inl ?_, x2, y2, ts ++ [(p, r)], some w, some (.dat (.int p)), some (.dat (.int (p + 1 + d))), rfl, ?_, l4, ?_, ?_⟩
      · simp only [stepOf, bSeq, bAsg, bRet, bRetN, bExp, bIfS, bPass, bDat, bVar, bTy, b2, b1, bN, aCons, aNil, bAnd, bOr, bNot, bIf, bChain, tTru, tBl, tNo, tAn, tOr3, tAll, truth, gNm, gTp, gCn, gNl, seqOf, start3, wipe3, bSlice, pSome, pNone, opSlice, Option.bind_some, Option.map_some, Option.bind_eq_bind, List.map_cons, List.map_nil, List.length_cons, List.length_nil, List.set_cons_zero, List.set_cons_succ, List.getElem?_cons_zero, List.getElem?_cons_succ, List.replicate_succ, List.replicate_zero, List.cons_append, List.nil_append, Nat.sub_zero, Nat.sub_self, Nat.reduceAdd, Nat.reduceSub, if_true, if_false, Bool.not_true, Bool.not_false, reduceIte, Bool.false_eq_true, k1, opSub_int, opAdd_int, l1, a0]
      · rw [List.map_append (f := tt), hE]; rfl
      · rw [List.length_append, List.length_cons, List.length_nil]; omega
      · intro t ht
        rcases List.mem_append.mp ht with ht | ht
        · exact q5 t ht
        · simp only [List.mem_singleton] at ht; subst ht; exact ⟨⟨k2, k3⟩, ⟨e2, e3⟩, Ne.symm e4⟩)
  subst q1 q2
  refine ⟨ts.map ord2, xa, yb, ?_, ?_, ?_, q3⟩
  · refine run_pot (ext := [.list ((ts.map tt).map .dat)]) (env' := [some (.loc n), some (.dat (.int m)), some (.dat (.int k)), some (.loc st.length), o4, o5, o6, none]) rfl ?_
    unfold b__law_ties
    have l0 : opLstNew [] st = some (.loc st.length, st ++ [.list []]) := new_list
    generalize hs : st.set n (pc xa yb) ++ [Cell.list ((ts.map tt).map W.dat)] = s at *
    have hlen : (st.set n (pc xa yb)).length = st.length := List.length_set
    have hget : s[st.length]? = some (.list ((ts.map tt).map .dat)) := by rw [← hs, ← hlen]; exact get_last
    have c1 := comp_seq (f := bVar 3) (gt := gNm 7) (t := tAll) (el := bN opTuple (aCons (bN opSorted (aCons (bVar 7) aNil)) aNil)) (vs := [7]) (env := [some (.loc n), some (.dat (.int m)), some (.dat (.int k)), some (.loc st.length), o4, o5, o6, none]) (st := s) (xs := ts) (e := tt) rfl (by simp only [seqOf, hget]) (fun _ => true) (fun t => tt (ord2 t))
      (fun t _ => ⟨[some (.loc n), some (.dat (.int m)), some (.dat (.int k)), some (.loc st.length), o4, o5, o6, some (.dat (tt t))], rfl, rfl, fun _ => by
        have s0 : opSorted [.dat (tt t)] s = some (.dat (li (sI (pl t))), s) := opSorted_ints rfl
        simp only [bSeq, bAsg, bRet, bRetN, bExp, bIfS, bPass, bDat, bVar, bTy, b2, b1, bN, aCons, aNil, bAnd, bOr, bNot, bIf, bChain, tTru, tBl, tNo, tAn, tOr3, tAll, truth, gNm, gTp, gCn, gNl, seqOf, start3, wipe3, bSlice, pSome, pNone, opSlice, Option.bind_some, Option.map_some, Option.bind_eq_bind, List.map_cons, List.map_nil, List.length_cons, List.length_nil, List.set_cons_zero, List.set_cons_succ, List.getElem?_cons_zero, List.getElem?_cons_succ, List.replicate_succ, List.replicate_zero, List.cons_append, List.nil_append, Nat.sub_zero, Nat.sub_self, Nat.reduceAdd, Nat.reduceSub, if_true, if_false, Bool.not_true, Bool.not_false, reduceIte, Bool.false_eq_true, s0, opTuple_li, sI_pl]; rfl⟩)
    rw [ft] at c1
    have e1 : ts.map (fun t => tt (ord2 t)) = ((ts.map ord2).map pl).map ti := by rw [List.map_map, List.map_map]; rfl
    rw [e1] at c1
    change _ = some (W.dat (lp ((ts.map ord2).map pl)), s) at c1
    simp only [bSeq, bAsg, bRet, bRetN, bExp, bIfS, bPass, bDat, bVar, bTy, b2, b1, bN, aCons, aNil, bAnd, bOr, bNot, bIf, bChain, tTru, tBl, tNo, tAn, tOr3, tAll, truth, gNm, gTp, gCn, gNl, seqOf, start3, wipe3, bSlice, pSome, pNone, opSlice, Option.bind_some, Option.map_some, Option.bind_eq_bind, List.map_cons, List.map_nil, List.length_cons, List.length_nil, List.set_cons_zero, List.set_cons_succ, List.getElem?_cons_zero, List.getElem?_cons_succ, List.replicate_succ, List.replicate_zero, List.cons_append, List.nil_append, Nat.sub_zero, Nat.sub_self, Nat.reduceAdd, Nat.reduceSub, if_true, if_false, Bool.not_true, Bool.not_false, reduceIte, Bool.false_eq_true, l0, hf, c1]
  · rw [List.length_map]
    rw [List.length_map, List.length_range] at q4
    omega
  · intro t ht
    obtain ⟨u, hu, rfl⟩ := List.mem_map.mp ht
    obtain ⟨⟨h1, h2⟩, ⟨h3, h4⟩, h5⟩ := q5 u hu
    unfold ord2
    split
    · omega
    · exact ⟨h3, by show u.2 < u.1; omega, h2⟩
end K38
set_option Elab.async false
set_option linter.all false
set_option maxRecDepth 100000
set_option maxHeartbeats 400000
set_option autoImplicit false
namespace K38
open PySem PySem.Spec PyProof.Rows L2 L3
def locs (L k : Nat) : List W := (List.range k).map fun j => W.loc (L + j)
def cellI (l : List Int) : Cell := .list ((l.map PyData.int).map W.dat)
def cells (C : List (List Int)) : Store := C.map cellI
theorem locs_len (L k : Nat) : (locs L k).length = k := by unfold locs; rw [List.length_map, List.length_range]
theorem locs_at {L k j : Nat} (h : j < k) : (locs L k)[j]? = some (.loc (L + j)) := by unfold locs; rw [List.getElem?_map, List.getElem?_range h]; rfl
theorem locs_zip (L : Nat) (C : List (List Int)) : C.zipIdx.map (fun x => W.loc (L + x.2)) = locs L C.length := by
  refine List.ext_getElem? fun j => ?_
  unfold locs
  rw [List.getElem?_map, List.getElem?_map, List.getElem?_zipIdx]
  by_cases h : j < C.length
  · rw [List.getElem?_eq_getElem h, List.getElem?_range h]; simp
  · rw [List.getElem?_eq_none (by omega), List.getElem?_eq_none (by rw [List.length_range]; omega)]; rfl
theorem flat_set {x : Int} : ∀ {C : List (List Int)} {d : Nat} {l : List Int}, C[d]? = some l → ((C.set d (l ++ [x])).flatten).Perm (C.flatten ++ [x])
  | [], d, l, h => by simp at h
  | c :: C, 0, l, h => by
    simp at h
    subst h
    rw [List.set_cons_zero, List.flatten_cons, List.flatten_cons, List.append_assoc, List.append_assoc]
    exact List.Perm.append_left _ List.perm_append_comm
  | c :: C, d + 1, l, h => by
    have ih := flat_set (x := x) (C := C) (d := d) (l := l) (by simpa using h)
    rw [List.set_cons_succ, List.flatten_cons, List.flatten_cons, List.append_assoc]
    exact List.Perm.append_left _ ih
theorem rg_succ (i : Nat) : rg ((i + 1 : Nat) : Int) = rg (i : Int) ++ [(i : Int)] := by
  unfold rg
  rw [Int.toNat_natCast, Int.toNat_natCast, List.range_succ, List.map_append]
  rfl
theorem rg_cons (m : Int) (h : 1 ≤ m) : rg m = 0 :: (List.range (m - 1).toNat).map fun (i : Nat) => 1 + (i : Int) := by
  unfold rg
  obtain ⟨k, hk⟩ : ∃ k : Nat, m.toNat = k + 1 := ⟨m.toNat - 1, by omega⟩
  have : (m - 1).toNat = k := by omega
  rw [hk, this, List.range_succ_eq_map, List.map_cons, List.map_map]
  congr 1
  refine List.map_congr_left fun i _ => ?_
  show ((i + 1 : Nat) : Int) = 1 + (i : Int)
  omega
theorem flat_filter (C : List (List Int)) : (C.filter fun l => !decide (l = [])).flatten = C.flatten := by
  induction C with
  | nil => rfl
  | cons c C ih =>
    rw [List.filter_cons]
    by_cases h : c = []
    · subst h; simp [ih]
    · simp [h, ih]
theorem nodup_parts {C : List (List Int)} (h : C.flatten.Nodup) (hn : ∀ l ∈ C, l ≠ []) : C.Nodup := by
  induction C with
  | nil => exact .nil
  | cons c C ih =>
    rw [List.flatten_cons, List.nodup_append] at h
    refine List.nodup_cons.mpr ⟨fun hc => ?_, ih h.2.1 fun l hl => hn l (List.mem_cons_of_mem _ hl)⟩
    obtain ⟨x, r, e⟩ := List.exists_cons_of_ne_nil (hn c List.mem_cons_self)
    have hx : x ∈ c := by rw [e]; exact List.mem_cons_self
    exact h.2.2 x hx x (List.mem_flatten.mpr ⟨c, hc, hx⟩) rfl
/-- sorted parts are a parting -/
theorem part_sT {m : Int} {C : List (List Int)} (hp : C.flatten.Perm (rg m)) (hi : ∀ l ∈ C, l.Pairwise (· < ·)) (hn : ∀ l ∈ C, l ≠ []) (h2 : 2 ≤ C.length) : Part m (sT C) := by
  have nd : C.flatten.Nodup := hp.symm.nodup (rg_nodup m)
  refine ⟨by rw [(sT_perm C).length_eq]; exact h2, fun p hp => hn p ((sT_perm C).mem_iff.mp hp), fun p hp => hi p ((sT_perm C).mem_iff.mp hp), sT_strict (nodup_parts nd hn), (sT_perm C).flatten.trans hp⟩
theorem part_two {m : Int} (hm : 2 ≤ m) : Part m [[0], (List.range (m - 1).toNat).map fun (i : Nat) => 1 + (i : Int)] := by
  obtain ⟨k, hk⟩ : ∃ k : Nat, (m - 1).toNat = k + 1 := ⟨(m - 1).toNat - 1, by omega⟩
  have e : (List.range (m - 1).toNat).map (fun (i : Nat) => 1 + (i : Int)) = 1 :: ((List.range k).map fun (i : Nat) => 1 + ((i + 1 : Nat) : Int)) := by
    rw [hk, List.range_succ_eq_map, List.map_cons, List.map_map]; rfl
  refine ⟨Nat.le_refl _, fun p hp => ?_, fun p hp => ?_, ?_, ?_⟩
  · simp only [List.mem_cons, List.mem_nil_iff, or_false] at hp
    rcases hp with h | h
    · subst h; simp
    · subst h; rw [e]; simp
  · simp only [List.mem_cons, List.mem_nil_iff, or_false] at hp
    rcases hp with h | h
    · subst h; simp
    · subst h
      rw [List.pairwise_map]
      exact List.pairwise_lt_range.imp fun h => by omega
  · rw [e]
    refine List.pairwise_cons.mpr ⟨fun q hq => ?_, List.pairwise_singleton _ _⟩
    simp only [List.mem_singleton] at hq
    subst hq
    rfl
  · have := rg_cons m (by omega)
    rw [this]
    simp
theorem opNe_cell {s : Store} {j : Nat} {l : List Int} (h : s[j]? = some (cellI l)) : opNe (.loc j) (.dat (li [])) s = some (.dat (.bool (!decide (l = []))), s) := by
  have h1 := opNe_li (st := s) l []
  have e : L3.dataOf s (.loc j) = some (li l) := by
    simp only [L3.dataOf, h, cellI, mapM_dat]; rfl
  have e1 : txts (.loc j) (.dat (li [])) = none := rfl
  have e2 : txts (.dat (li l)) (.dat (li [])) = none := rfl
  unfold opNe at h1 ⊢
  rw [e1]
  rw [e2] at h1
  simp only [e]
  exact h1
theorem opTuple_cell {s : Store} {j : Nat} {l : List Int} (h : s[j]? = some (cellI l)) : opTuple [.loc j] s = some (.dat (ti l), s) := by
  unfold opTuple
  have e : seqOf s (.loc j) = some ((l.map PyData.int).map W.dat) := by simp only [seqOf, h, cellI]
  simp only [tupOf, e, mapM_dat]
  rfl
theorem opTuple_lp' {st : Store} (l : List (List Int)) : opTuple [.dat (lp l)] st = some (.dat (tp l), st) := opTuple_lst _
theorem v_parting {st : Store} {n : Nat} {a b m : Int} (h : st[n]? = some (pc a b)) (hb : Drawn b) (hm : 2 ≤ m) (hm2 : m ≤ 16) :
    ∃ (P : List (List Int)) (x y : Int), F__law_parting [.loc n, .dat (.int m)] st = some (.dat (tp P), st.set n (pc x y)) ∧ Part m P ∧ Drawn y := by
  have hn : n < st.length := (List.getElem?_eq_some_iff.mp h).1
  have est : st = st.set n (pc a b) := (set_same h).symm
  have hL : ∀ x y, (st.set n (pc x y)).length = st.length := fun _ _ => List.length_set
  obtain ⟨c, x0, y0, d1, d2, d3, d4⟩ := draw h hb (m := m) (by omega) (by omega)
  have hg : rgOk 0 (1 + c) = true := by unfold rgOk; simp only [Bool.and_eq_true, decide_eq_true_eq]; omega
  -- the empty parts
  obtain ⟨acc1, st1, hc, q1, q2⟩ := compAll_inv (fi := iRange (bDat (.int 0)) (b2 opAdd (bDat (.int 1)) (bN F__law_draw (aCons (bVar 0) (aCons (bVar 1) aNil))))) (gt := gNm 5) (t := tAll) (el := bN opLstNew aNil) (vs := [5]) (env := [some (.loc n), some (.dat (.int m)), none, none, none, none, none]) (st := st) (st0 := st.set n (pc x0 y0)) (it := itRange 0 (1 + c))
    (by simp only [iRange, bSeq, bAsg, bRet, bRetN, bExp, bIfS, bPass, bDat, bVar, bTy, b2, b1, bN, aCons, aNil, bAnd, bOr, bNot, bIf, bChain, tTru, tBl, tNo, tAn, tOr3, tAll, truth, gNm, gTp, gCn, gNl, seqOf, start3, wipe3, bSlice, pSome, pNone, opSlice, Option.bind_some, Option.map_some, Option.bind_eq_bind, List.map_cons, List.map_nil, List.length_cons, List.length_nil, List.set_cons_zero, List.set_cons_succ, List.getElem?_cons_zero, List.getElem?_cons_succ, List.replicate_succ, List.replicate_zero, List.cons_append, List.nil_append, Nat.sub_zero, Nat.sub_self, Nat.reduceAdd, Nat.reduceSub, if_true, if_false, Bool.not_true, Bool.not_false, reduceIte, Bool.false_eq_true, d1, opAdd_int, hg]) (gives_range (S := fun _ => True)) (fun i s acc => s = st.set n (pc x0 y0) ++ cells (List.replicate i []) ∧ acc = locs st.length i) (fun _ _ _ _ => trivial) ⟨by simp [cells], rfl⟩
    (fun i w s acc hw ⟨q1, q2⟩ => by
      subst q1 q2
      refine ⟨_, _, true, _, rfl, rfl, fun e => (by cases e), fun _ => ⟨.loc (st.length + i), (st.set n (pc x0 y0) ++ cells (List.replicate i [])) ++ [.list []], ?_, ?_, ?_⟩⟩
      · have : (st.set n (pc x0 y0) ++ cells (List.replicate i [])).length = st.length + i := by rw [List.length_append, hL]; unfold cells; rw [List.length_map, List.length_replicate]
        have nl : opLstNew [] (st.set n (pc x0 y0) ++ cells (List.replicate i [])) = some (.loc (st.set n (pc x0 y0) ++ cells (List.replicate i [])).length, (st.set n (pc x0 y0) ++ cells (List.replicate i [])) ++ [.list []]) := new_list
        rw [this] at nl
        simp only [bSeq, bAsg, bRet, bRetN, bExp, bIfS, bPass, bDat, bVar, bTy, b2, b1, bN, aCons, aNil, bAnd, bOr, bNot, bIf, bChain, tTru, tBl, tNo, tAn, tOr3, tAll, truth, gNm, gTp, gCn, gNl, seqOf, start3, wipe3, bSlice, pSome, pNone, opSlice, Option.bind_some, Option.map_some, Option.bind_eq_bind, List.map_cons, List.map_nil, List.length_cons, List.length_nil, List.set_cons_zero, List.set_cons_succ, List.getElem?_cons_zero, List.getElem?_cons_succ, List.replicate_succ, List.replicate_zero, List.cons_append, List.nil_append, Nat.sub_zero, Nat.sub_self, Nat.reduceAdd, Nat.reduceSub, if_true, if_false, Bool.not_true, Bool.not_false, reduceIte, Bool.false_eq_true, nl]
      · rw [List.append_assoc, List.replicate_succ']
        unfold cells
        rw [List.map_append]; rfl
      · unfold locs
        rw [List.range_succ, List.map_append]; rfl)
  subst q1 q2
  rw [List.length_map, List.length_range] at hc
  obtain ⟨k, hk⟩ : ∃ k : Nat, (1 + c - 0).toNat = k := ⟨_, rfl⟩
  rw [hk] at hc
  have hk1 : 1 ≤ k := by omega
  have hk2 : k ≤ 16 := by omega
  have hlen1 : (st.set n (pc x0 y0) ++ cells (List.replicate k [])).length = st.length + k := by rw [List.length_append, hL]; unfold cells; rw [List.length_map, List.length_replicate]
  have hparts : bCompNew (iRange (bDat (.int 0)) (b2 opAdd (bDat (.int 1)) (bN F__law_draw (aCons (bVar 0) (aCons (bVar 1) aNil))))) (gNm 5) tAll (bN opLstNew aNil) [5] [some (.loc n), some (.dat (.int m)), none, none, none, none, none] st = some (.loc (st.length + k), st.set n (pc x0 y0) ++ (cells (List.replicate k []) ++ [.list (locs st.length k)])) := by
    unfold bCompNew
    rw [hc]
    show some (W.loc _, _) = _
    rw [hlen1, List.append_assoc]
  have hgm : rgOk 0 m = true := by unfold rgOk; simp only [Bool.and_eq_true, decide_eq_true_eq]; omega
  -- the places dealt out
  obtain ⟨env', st', hf, xa, yb, C, o, q1, q2, q3, q4, q5, q6⟩ := bFor_inv (fi := iRange (bDat (.int 0)) (bVar 1)) (g := gNm 3) (u := bExp (bMeth opAppend (b2 opIdx (bVar 2) (bN F__law_draw (aCons (bVar 0) (aCons (bN opLen (aCons (bVar 2) aNil)) aNil)))) (aCons (bVar 3) aNil))) (env := [some (.loc n), some (.dat (.int m)), some (.loc (st.length + k)), none, none, none, none]) (st := st.set n (pc x0 y0) ++ (cells (List.replicate k []) ++ [.list (locs st.length k)])) (st0 := st.set n (pc x0 y0) ++ (cells (List.replicate k []) ++ [.list (locs st.length k)])) (it := itRange 0 m)
    (by simp only [iRange, bSeq, bAsg, bRet, bRetN, bExp, bIfS, bPass, bDat, bVar, bTy, b2, b1, bN, aCons, aNil, bAnd, bOr, bNot, bIf, bChain, tTru, tBl, tNo, tAn, tOr3, tAll, truth, gNm, gTp, gCn, gNl, seqOf, start3, wipe3, bSlice, pSome, pNone, opSlice, Option.bind_some, Option.map_some, Option.bind_eq_bind, List.map_cons, List.map_nil, List.length_cons, List.length_nil, List.set_cons_zero, List.set_cons_succ, List.getElem?_cons_zero, List.getElem?_cons_succ, List.replicate_succ, List.replicate_zero, List.cons_append, List.nil_append, Nat.sub_zero, Nat.sub_self, Nat.reduceAdd, Nat.reduceSub, if_true, if_false, Bool.not_true, Bool.not_false, reduceIte, Bool.false_eq_true, hgm]) (gives_range (S := fun _ => True))
    (fun i env s => ∃ (x y : Int) (C : List (List Int)) (o : Option W), env = [some (.loc n), some (.dat (.int m)), some (.loc (st.length + k)), o, none, none, none] ∧ s = st.set n (pc x y) ++ (cells C ++ [.list (locs st.length k)]) ∧ Drawn y ∧ C.length = k ∧ C.flatten.Perm (rg (i : Int)) ∧ ∀ l ∈ C, l.Pairwise (· < ·)) (fun _ _ _ _ => trivial)
    ⟨x0, y0, List.replicate k [], none, rfl, rfl, d4, List.length_replicate, by simp [rg], fun l hl => by rw [List.eq_of_mem_replicate hl]; exact .nil⟩
    (fun i w env s hw ⟨x, y, C, o, q1, q2, q3, q4, q5, q6⟩ => by
      subst q1 q2
      rw [List.getElem?_map] at hw
      obtain ⟨i', hi', e⟩ := Option.map_eq_some_iff.mp hw
      have hii : i' = i ∧ i < (m - 0).toNat := by
        obtain ⟨h1, h2⟩ := List.getElem?_eq_some_iff.mp hi'
        rw [List.length_range] at h1
        rw [List.getElem_range] at h2
        exact ⟨h2.symm, h1⟩
      obtain ⟨rfl, hlt⟩ := hii
      rw [Int.zero_add] at e
      subst e
      obtain ⟨d, x1, y1, k1, k2, k3, k4⟩ := drawA (st := st) (a := x) (b := y) (cells C ++ [.list (locs st.length k)]) hn q3 (m := (k : Int)) (by omega) (by omega)
      obtain ⟨dn, rfl⟩ : ∃ dn : Nat, d = dn := ⟨d.toNat, by omega⟩
      have hdn : dn < C.length := by omega
      obtain ⟨l, hl⟩ : ∃ l, C[dn]? = some l := ⟨_, List.getElem?_eq_getElem hdn⟩
      have hlm : l ∈ C := List.mem_of_getElem? hl
      -- where things stand
      have gparts : ∀ x y, (st.set n (pc x y) ++ (cells C ++ [Cell.list (locs st.length k)]))[st.length + k]? = some (.list (locs st.length k)) := fun x y => by
        rw [List.getElem?_append_right (by rw [hL]; omega), hL, List.getElem?_append_right (by unfold cells; rw [List.length_map]; omega)]
        unfold cells
        rw [List.length_map]
        have : st.length + k - st.length - C.length = 0 := by omega
        rw [this]; rfl
      have gcell : (st.set n (pc x1 y1) ++ (cells C ++ [Cell.list (locs st.length k)]))[st.length + dn]? = some (cellI l) := by
        rw [List.getElem?_append_right (by rw [hL]; omega), hL, List.getElem?_append_left (by unfold cells; rw [List.length_map]; omega)]
        unfold cells
        have : st.length + dn - st.length = dn := by omega
        rw [List.getElem?_map, this, hl]; rfl
      have hset : (st.set n (pc x1 y1) ++ (cells C ++ [Cell.list (locs st.length k)])).set (st.length + dn) (cellI (l ++ [(i' : Int)])) = st.set n (pc x1 y1) ++ (cells (C.set dn (l ++ [(i' : Int)])) ++ [Cell.list (locs st.length k)]) := by
        rw [List.set_append, if_neg (by rw [hL]; omega), hL]
        have : st.length + dn - st.length = dn := by omega
        rw [this, List.set_append, if_pos (by unfold cells; rw [List.length_map]; exact hdn)]
        unfold cells
        rw [List.map_set]
      refine ⟨[some (.loc n), some (.dat (.int m)), some (.loc (st.length + k)), some (.dat (.int (i' : Int))), none, none, none], _, .inl ?_, x1, y1, C.set dn (l ++ [(i' : Int)]), some (.dat (.int (i' : Int))), rfl, rfl, k4, by rw [List.length_set]; exact q4, ?_, ?_⟩
      · have ln : opLen [.loc (st.length + k)] (st.set n (pc x y) ++ (cells C ++ [Cell.list (locs st.length k)])) = some (.dat (.int (k : Int)), st.set n (pc x y) ++ (cells C ++ [Cell.list (locs st.length k)])) := by
          simp only [opLen, gparts, locs_len]
        have ix : opIdx (.loc (st.length + k)) (.dat (.int (dn : Int))) (st.set n (pc x1 y1) ++ (cells C ++ [Cell.list (locs st.length k)])) = some (.loc (st.length + dn), st.set n (pc x1 y1) ++ (cells C ++ [Cell.list (locs st.length k)])) := by
          have ha : atI (locs st.length k) (dn : Int) = some (.loc (st.length + dn)) := by
            unfold atI ixN
            rw [if_pos (by omega), if_pos (by rw [locs_len]; omega)]
            show (locs st.length k)[((dn : Int)).toNat]? = _
            rw [Int.toNat_natCast, locs_at (by omega)]
          simp only [opIdx, seqOf, gparts, ha, Option.map_some]
        have hz : ((l.map PyData.int).map W.dat).length < sizeLine := by
          rw [List.length_map, List.length_map]
          have : l.length ≤ C.flatten.length := by
            obtain ⟨p, q, e⟩ := List.append_of_mem hlm
            rw [e, List.flatten_append, List.flatten_cons, List.length_append, List.length_append]; omega
          rw [q5.length_eq, rg_len] at this
          exact Nat.lt_of_lt_of_le (show l.length < 64 by omega) (small 64 (by decide))
        have e2 : Cell.list ((l.map PyData.int).map W.dat ++ [W.dat (.int (i' : Int))]) = cellI (l ++ [(i' : Int)]) := by unfold cellI; rw [List.map_append, List.map_append]; rfl
        have gcell' : (st.set n (pc x1 y1) ++ (cells C ++ [Cell.list (locs st.length k)]))[st.length + dn]? = some (Cell.list ((l.map PyData.int).map W.dat)) := gcell
        simp only [stepOf, bMeth, bSeq, bAsg, bRet, bRetN, bExp, bIfS, bPass, bDat, bVar, bTy, b2, b1, bN, aCons, aNil, bAnd, bOr, bNot, bIf, bChain, tTru, tBl, tNo, tAn, tOr3, tAll, truth, gNm, gTp, gCn, gNl, seqOf, start3, wipe3, bSlice, pSome, pNone, opSlice, Option.bind_some, Option.map_some, Option.bind_eq_bind, List.map_cons, List.map_nil, List.length_cons, List.length_nil, List.set_cons_zero, List.set_cons_succ, List.getElem?_cons_zero, List.getElem?_cons_succ, List.replicate_succ, List.replicate_zero, List.cons_append, List.nil_append, Nat.sub_zero, Nat.sub_self, Nat.reduceAdd, Nat.reduceSub, if_true, if_false, Bool.not_true, Bool.not_false, reduceIte, Bool.false_eq_true, ln, k1, ix, isL, gcell', opAppend, hz, e2, hset]
      · rw [rg_succ]
        exact (flat_set hl).trans (List.Perm.append_right _ q5)
      · intro r hr
        rcases List.mem_or_eq_of_mem_set hr with hr | hr
        · exact q6 r hr
        · subst hr
          refine List.pairwise_append.mpr ⟨q6 l hlm, List.pairwise_singleton _ _, fun p hp q hq => ?_⟩
          simp only [List.mem_singleton] at hq
          subst hq
          have := mem_rg.mp (q5.mem_iff.mp (List.mem_flatten.mpr ⟨l, hlm, hp⟩))
          omega)
  subst q1 q2
  have hlen2 : (List.map (fun (i : Nat) => W.dat (PyData.int (0 + (i : Int)))) (List.range (m - 0).toNat)).length = m.toNat := by rw [List.length_map, List.length_range, Int.sub_zero]
  rw [hlen2] at q5
  have q5' : C.flatten.Perm (rg m) := by
    have : ((m.toNat : Nat) : Int) = m := by omega
    rwa [this] at q5
  generalize hs : st.set n (pc xa yb) ++ (cells C ++ [Cell.list (locs st.length k)]) = s at *
  have gparts : s[st.length + k]? = some (.list (locs st.length k)) := by
    rw [← hs, List.getElem?_append_right (by rw [hL]; omega), hL, List.getElem?_append_right (by unfold cells; rw [List.length_map]; omega)]
    unfold cells
    rw [List.length_map]
    have : st.length + k - st.length - C.length = 0 := by omega
    rw [this]; rfl
  have gcell : ∀ (j : Nat) (l : List Int), C[j]? = some l → s[st.length + j]? = some (cellI l) := fun j l hl => by
    have hj := (List.getElem?_eq_some_iff.mp hl).1
    rw [← hs, List.getElem?_append_right (by rw [hL]; omega), hL, List.getElem?_append_left (by unfold cells; rw [List.length_map]; omega)]
    unfold cells
    have : st.length + j - st.length = j := by omega
    rw [List.getElem?_map, this, hl]; rfl
  have c1 := bComp_pure (fi := iSeq (bVar 2)) (gt := gNm 6) (t := tBl (b2 opNe (bVar 6) (bN opLst aNil))) (el := bN opTuple (aCons (bVar 6) aNil)) (vs := [6]) (env := [some (.loc n), some (.dat (.int m)), some (.loc (st.length + k)), o, none, none, none]) (st := s) (xs := C.zipIdx) (e := fun x => W.loc (st.length + x.2)) (it := liveSeq (.loc (st.length + k)) (locs st.length k)) (by simp only [iSeq, bSeq, bAsg, bRet, bRetN, bExp, bIfS, bPass, bDat, bVar, bTy, b2, b1, bN, aCons, aNil, bAnd, bOr, bNot, bIf, bChain, tTru, tBl, tNo, tAn, tOr3, tAll, truth, gNm, gTp, gCn, gNl, seqOf, start3, wipe3, bSlice, pSome, pNone, opSlice, Option.bind_some, Option.map_some, Option.bind_eq_bind, List.map_cons, List.map_nil, List.length_cons, List.length_nil, List.set_cons_zero, List.set_cons_succ, List.getElem?_cons_zero, List.getElem?_cons_succ, List.replicate_succ, List.replicate_zero, List.cons_append, List.nil_append, Nat.sub_zero, Nat.sub_self, Nat.reduceAdd, Nat.reduceSub, if_true, if_false, Bool.not_true, Bool.not_false, reduceIte, Bool.false_eq_true, gparts]) (by
      rw [locs_zip, q4]
      exact gives_seq fun s' e => by subst e; simp only [seqOf, gparts]) (fun x => !decide (x.1 = [])) (fun x => ti x.1)
    (fun x hx => by
      have hx' : C[x.2]? = some x.1 := List.mk_mem_zipIdx_iff_getElem?.mp hx
      have g := gcell _ _ hx'
      refine ⟨[some (.loc n), some (.dat (.int m)), some (.loc (st.length + k)), o, none, none, some (.loc (st.length + x.2))], rfl, ?_, fun _ => ?_⟩
      · simp only [bSeq, bAsg, bRet, bRetN, bExp, bIfS, bPass, bDat, bVar, bTy, b2, b1, bN, aCons, aNil, bAnd, bOr, bNot, bIf, bChain, tTru, tBl, tNo, tAn, tOr3, tAll, truth, gNm, gTp, gCn, gNl, seqOf, start3, wipe3, bSlice, pSome, pNone, opSlice, Option.bind_some, Option.map_some, Option.bind_eq_bind, List.map_cons, List.map_nil, List.length_cons, List.length_nil, List.set_cons_zero, List.set_cons_succ, List.getElem?_cons_zero, List.getElem?_cons_succ, List.replicate_succ, List.replicate_zero, List.cons_append, List.nil_append, Nat.sub_zero, Nat.sub_self, Nat.reduceAdd, Nat.reduceSub, if_true, if_false, Bool.not_true, Bool.not_false, reduceIte, Bool.false_eq_true, opLst_nil, opNe_cell g]
      · simp only [bSeq, bAsg, bRet, bRetN, bExp, bIfS, bPass, bDat, bVar, bTy, b2, b1, bN, aCons, aNil, bAnd, bOr, bNot, bIf, bChain, tTru, tBl, tNo, tAn, tOr3, tAll, truth, gNm, gTp, gCn, gNl, seqOf, start3, wipe3, bSlice, pSome, pNone, opSlice, Option.bind_some, Option.map_some, Option.bind_eq_bind, List.map_cons, List.map_nil, List.length_cons, List.length_nil, List.set_cons_zero, List.set_cons_succ, List.getElem?_cons_zero, List.getElem?_cons_succ, List.replicate_succ, List.replicate_zero, List.cons_append, List.nil_append, Nat.sub_zero, Nat.sub_self, Nat.reduceAdd, Nat.reduceSub, if_true, if_false, Bool.not_true, Bool.not_false, reduceIte, Bool.false_eq_true, opTuple_cell g])
  have e1 : (C.zipIdx.filter fun x => !decide (x.1 = [])).map (fun x => ti x.1) = (C.filter fun l => !decide (l = [])).map ti := by
    have h1 : C.filter (fun l => !decide (l = [])) = (C.zipIdx.filter fun x => !decide (x.1 = [])).map (·.1) := by
      have h2 : C = C.zipIdx.map (·.1) := by simp
      conv => lhs; rw [h2]
      rw [List.filter_map]
      rfl
    rw [h1, List.map_map]; rfl
  rw [e1] at c1
  change _ = some (W.dat (lp (C.filter fun l => !decide (l = []))), s) at c1
  have hne : ∀ l ∈ C.filter (fun l => !decide (l = [])), l ≠ [] := fun l hl => by simpa using (List.mem_filter.mp hl).2
  have s0 : opSorted [.dat (lp (C.filter fun l => !decide (l = [])))] s = some (.dat (lp (sT (C.filter fun l => !decide (l = [])))), s) := sT_seq hne
  have hpart : 2 ≤ (C.filter fun l => !decide (l = [])).length → Part m (sT (C.filter fun l => !decide (l = []))) := fun h2 => part_sT (by rw [flat_filter]; exact q5') (fun l hl => q6 l (List.mem_filter.mp hl).1) hne h2
  have ll : opLen [.dat (lp (sT (C.filter fun l => !decide (l = []))))] s = some (.dat (.int ((C.filter fun l => !decide (l = [])).length : Int)), s) := by
    have : (sT (C.filter fun l => !decide (l = []))).length = (C.filter fun l => !decide (l = [])).length := (sT_perm _).length_eq
    rw [← this]
    unfold lp; simp only [opLen, seqOf, List.length_map]
  by_cases h2 : 2 ≤ (C.filter fun l => !decide (l = [])).length
  · refine ⟨_, xa, yb, ?_, hpart h2, q3⟩
    refine run_pot (ext := cells C ++ [.list (locs st.length k)]) (env' := [some (.loc n), some (.dat (.int m)), some (.loc (st.length + k)), o, some (.dat (lp (sT (C.filter fun l => !decide (l = []))))), none, none]) rfl ?_
    rw [hs]
    unfold b__law_parting
    have hd : decide ((1 : Int) < ((C.filter fun l => !decide (l = [])).length : Int)) = true := decide_eq_true (by omega)
    simp only [bSeq, bAsg, bRet, bRetN, bExp, bIfS, bPass, bDat, bVar, bTy, b2, b1, bN, aCons, aNil, bAnd, bOr, bNot, bIf, bChain, tTru, tBl, tNo, tAn, tOr3, tAll, truth, gNm, gTp, gCn, gNl, seqOf, start3, wipe3, bSlice, pSome, pNone, opSlice, Option.bind_some, Option.map_some, Option.bind_eq_bind, List.map_cons, List.map_nil, List.length_cons, List.length_nil, List.set_cons_zero, List.set_cons_succ, List.getElem?_cons_zero, List.getElem?_cons_succ, List.replicate_succ, List.replicate_zero, List.cons_append, List.nil_append, Nat.sub_zero, Nat.sub_self, Nat.reduceAdd, Nat.reduceSub, if_true, if_false, Bool.not_true, Bool.not_false, reduceIte, Bool.false_eq_true, hparts, hf, c1, s0, ll, opGt_int, hd, opTuple_lp]
  · refine ⟨_, xa, yb, ?_, part_two hm, q3⟩
    refine run_pot (ext := cells C ++ [.list (locs st.length k)]) (env' := [some (.loc n), some (.dat (.int m)), some (.loc (st.length + k)), o, some (.dat (lp (sT (C.filter fun l => !decide (l = []))))), none, none]) rfl ?_
    rw [hs]
    unfold b__law_parting
    have hd : decide ((1 : Int) < ((C.filter fun l => !decide (l = [])).length : Int)) = false := decide_eq_false (by omega)
    have hr : rgOk 1 m = true := by unfold rgOk; simp only [Bool.and_eq_true, decide_eq_true_eq]; omega
    have r0 : opRg true false (.dat (.int 1)) (.dat (.int m)) s = some (.dat (ti ((List.range (m - 1).toNat).map fun (i : Nat) => 1 + (i : Int))), s) := by
      show (if rgOk 1 m = true then _ else none) = _
      rw [if_pos hr]
      show some (W.dat (.tuple (rgD 1 m)), s) = _
      unfold rgD ti
      rw [List.map_map]; rfl
    have t1 : opTup [.dat (.int 0)] s = some (.dat (ti [0]), s) := rfl
    have t2 : ∀ l, opTup [.dat (ti [0]), .dat (ti l)] s = some (.dat (tp [[0], l]), s) := fun _ => rfl
    simp only [bSeq, bAsg, bRet, bRetN, bExp, bIfS, bPass, bDat, bVar, bTy, b2, b1, bN, aCons, aNil, bAnd, bOr, bNot, bIf, bChain, tTru, tBl, tNo, tAn, tOr3, tAll, truth, gNm, gTp, gCn, gNl, seqOf, start3, wipe3, bSlice, pSome, pNone, opSlice, Option.bind_some, Option.map_some, Option.bind_eq_bind, List.map_cons, List.map_nil, List.length_cons, List.length_nil, List.set_cons_zero, List.set_cons_succ, List.getElem?_cons_zero, List.getElem?_cons_succ, List.replicate_succ, List.replicate_zero, List.cons_append, List.nil_append, Nat.sub_zero, Nat.sub_self, Nat.reduceAdd, Nat.reduceSub, if_true, if_false, Bool.not_true, Bool.not_false, reduceIte, Bool.false_eq_true, hparts, hf, c1, s0, ll, opGt_int, hd, t1, r0, t2]
end K38
set_option Elab.async false
set_option linter.all false
set_option maxRecDepth 100000
set_option maxHeartbeats 400000
set_option autoImplicit false
namespace K38
open PySem PySem.Spec PyProof.Rows L2 L3
/-! ### meets are partings -/
theorem cell_cons_in {x : Int} {p q : List Int} (h : x ∈ q) : cell (x :: p) q = x :: cell p q := by unfold cell; rw [List.filter_cons_of_pos (by simp [h])]
theorem cell_cons_out {x : Int} {p q : List Int} (h : x ∉ q) : cell (x :: p) q = cell p q := by unfold cell; rw [List.filter_cons_of_neg (by simp [h])]
theorem cells_out {x : Int} {p : List Int} : ∀ {Q : List (List Int)}, x ∉ Q.flatten → Q.map (cell (x :: p)) = Q.map (cell p)
  | [], _ => rfl
  | q :: Q, h => by
    rw [List.flatten_cons, List.mem_append, not_or] at h
    rw [List.map_cons, List.map_cons, cell_cons_out h.1, cells_out h.2]
theorem cells_in {x : Int} {p : List Int} : ∀ {Q : List (List Int)}, Q.flatten.Nodup → x ∈ Q.flatten → ((Q.map (cell (x :: p))).flatten).Perm (x :: (Q.map (cell p)).flatten)
  | [], _, h => by simp at h
  | q :: Q, nd, h => by
    rw [List.flatten_cons, List.nodup_append] at nd
    rw [List.map_cons, List.map_cons, List.flatten_cons, List.flatten_cons]
    by_cases hx : x ∈ q
    · have hn : x ∉ Q.flatten := fun hq => nd.2.2 x hx x hq rfl
      rw [cell_cons_in hx, cells_out hn]
      exact List.Perm.refl _
    · rw [cell_cons_out hx]
      have hq : x ∈ Q.flatten := by rw [List.flatten_cons, List.mem_append] at h; exact h.resolve_left hx
      exact (List.Perm.append_left _ (cells_in nd.2.1 hq)).trans List.perm_middle
theorem cells_perm {Q : List (List Int)} (nd : Q.flatten.Nodup) : ∀ {p : List Int}, (∀ x ∈ p, x ∈ Q.flatten) → ((Q.map (cell p)).flatten).Perm p
  | [], _ => by
    have : (Q.map (cell [])).flatten = [] := by
      rw [List.flatten_eq_nil_iff]
      intro l hl
      obtain ⟨q, _, rfl⟩ := List.mem_map.mp hl
      rfl
    rw [this]
  | x :: p, h => (cells_in nd (h x List.mem_cons_self)).trans (List.Perm.cons _ (cells_perm nd fun y hy => h y (List.mem_cons_of_mem _ hy)))
theorem meetL_cons (p : List Int) (P Q : List (List Int)) : meetL (p :: P) Q = (Q.map (cell p)).filter (fun l => !decide (l = [])) ++ meetL P Q := rfl
theorem meetL_perm {Q : List (List Int)} (nd : Q.flatten.Nodup) : ∀ {P : List (List Int)}, (∀ x ∈ P.flatten, x ∈ Q.flatten) → (meetL P Q).flatten.Perm P.flatten
  | [], _ => List.Perm.refl _
  | p :: P, h => by
    rw [meetL_cons, List.flatten_append, flat_filter, List.flatten_cons]
    rw [List.flatten_cons] at h
    exact List.Perm.append (cells_perm nd fun x hx => h x (List.mem_append_left _ hx)) (meetL_perm nd fun x hx => h x (List.mem_append_right _ hx))
theorem meetL_many {Q : List (List Int)} (nd : Q.flatten.Nodup) : ∀ {P : List (List Int)}, (∀ x ∈ P.flatten, x ∈ Q.flatten) → (∀ p ∈ P, p ≠ []) → P.length ≤ (meetL P Q).length
  | [], _, _ => Nat.zero_le _
  | p :: P, h, hn => by
    rw [List.flatten_cons] at h
    have ih := meetL_many nd (P := P) (fun x hx => h x (List.mem_append_right _ hx)) fun q hq => hn q (List.mem_cons_of_mem _ hq)
    have hp := cells_perm nd (p := p) fun x hx => h x (List.mem_append_left _ hx)
    rw [← flat_filter] at hp
    have h1 : 1 ≤ ((Q.map (cell p)).filter (fun l => !decide (l = []))).length := by
      refine Nat.one_le_iff_ne_zero.mpr fun z => ?_
      rw [List.eq_nil_of_length_eq_zero z] at hp
      exact hn p List.mem_cons_self (List.nil_perm.mp hp)
    rw [meetL_cons, List.length_append, List.length_cons]
    omega
theorem mem_meetL {P Q : List (List Int)} {l : List Int} : l ∈ meetL P Q ↔ (∃ p ∈ P, ∃ q ∈ Q, l = cell p q) ∧ l ≠ [] := by
  unfold meetL
  rw [List.mem_flatMap]
  constructor
  · rintro ⟨p, hp, h⟩
    obtain ⟨h1, h2⟩ := List.mem_filter.mp h
    obtain ⟨q, hq, rfl⟩ := List.mem_map.mp h1
    exact ⟨⟨p, hp, q, hq, rfl⟩, by simpa using h2⟩
  · rintro ⟨⟨p, hp, q, hq, rfl⟩, h⟩
    exact ⟨p, hp, List.mem_filter.mpr ⟨List.mem_map_of_mem hq, by simpa using h⟩⟩
theorem mem_cell {x : Int} {p q : List Int} : x ∈ cell p q ↔ x ∈ p ∧ x ∈ q := by unfold cell; rw [List.mem_filter, decide_eq_true_eq]
def meetP (P Q : List (List Int)) : List (List Int) := sT (meetL P Q)
theorem mem_meetP {P Q : List (List Int)} {l : List Int} : l ∈ meetP P Q ↔ (∃ p ∈ P, ∃ q ∈ Q, l = cell p q) ∧ l ≠ [] := by unfold meetP; rw [(sT_perm _).mem_iff, mem_meetL]
section
variable {m : Int} {P Q T : List (List Int)}
theorem part_meet (h : Part m P) (h' : Part m Q) : Part m (meetP P Q) := by
  have hin : ∀ x ∈ P.flatten, x ∈ Q.flatten := fun x hx => h'.perm.mem_iff.mpr (h.perm.mem_iff.mp hx)
  refine part_sT ((meetL_perm h'.nd hin).trans h.perm) (fun l hl => ?_) (fun l hl => (mem_meetL.mp hl).2) (Nat.le_trans h.two (meetL_many h'.nd hin h.ne))
  obtain ⟨⟨p, hp, q, hq, rfl⟩, _⟩ := mem_meetL.mp hl
  exact (h.inc p hp).filter _
theorem finer_iff : finer P Q = true ↔ ∀ p ∈ P, ∃ q ∈ Q, ∀ x ∈ p, x ∈ q := by
  unfold finer
  simp only [List.all_eq_true, List.any_eq_true, decide_eq_true_eq]
theorem finer_l : finer (meetP P Q) P = true := finer_iff.mpr fun l hl => by
  obtain ⟨⟨p, hp, q, hq, rfl⟩, _⟩ := mem_meetP.mp hl
  exact ⟨p, hp, fun x hx => (mem_cell.mp hx).1⟩
theorem finer_r : finer (meetP P Q) Q = true := finer_iff.mpr fun l hl => by
  obtain ⟨⟨p, hp, q, hq, rfl⟩, _⟩ := mem_meetP.mp hl
  exact ⟨q, hq, fun x hx => (mem_cell.mp hx).2⟩
theorem finer_m (hT : ∀ t ∈ T, t ≠ []) (h1 : finer T P = true) (h2 : finer T Q = true) : finer T (meetP P Q) = true := finer_iff.mpr fun t ht => by
  obtain ⟨p, hp, k1⟩ := finer_iff.mp h1 t ht
  obtain ⟨q, hq, k2⟩ := finer_iff.mp h2 t ht
  refine ⟨cell p q, mem_meetP.mpr ⟨⟨p, hp, q, hq, rfl⟩, fun e => ?_⟩, fun x hx => mem_cell.mpr ⟨k1 x hx, k2 x hx⟩⟩
  obtain ⟨x, r, e2⟩ := List.exists_cons_of_ne_nil (hT t ht)
  have hx : x ∈ t := by rw [e2]; exact List.mem_cons_self
  have : x ∈ cell p q := mem_cell.mpr ⟨k1 x hx, k2 x hx⟩
  rw [e] at this
  cases this
theorem sep_meet (a b : Int) : sep (meetP P Q) a b = (sep P a b || sep Q a b) := by
  unfold sep
  rw [← Bool.not_and]
  congr 1
  rw [Bool.eq_iff_iff, Bool.and_eq_true]
  simp only [List.any_eq_true, Bool.and_eq_true, decide_eq_true_eq]
  constructor
  · rintro ⟨l, hl, h1, h2⟩
    obtain ⟨⟨p, hp, q, hq, rfl⟩, _⟩ := mem_meetP.mp hl
    exact ⟨⟨p, hp, (mem_cell.mp h1).1, (mem_cell.mp h2).1⟩, ⟨q, hq, (mem_cell.mp h1).2, (mem_cell.mp h2).2⟩⟩
  · rintro ⟨⟨p, hp, h1, h2⟩, ⟨q, hq, h3, h4⟩⟩
    have k1 : a ∈ cell p q := mem_cell.mpr ⟨h1, h3⟩
    exact ⟨cell p q, mem_meetP.mpr ⟨⟨p, hp, q, hq, rfl⟩, fun e => by rw [e] at k1; cases k1⟩, k1, mem_cell.mpr ⟨h2, h4⟩⟩
/-! ### between -/
theorem btw_sorted (ts : List (Int × Int)) : (btw P ts).Pairwise (· < ·) := by
  unfold btw
  rw [List.pairwise_map]
  refine List.Pairwise.filter _ ?_
  have h : (ts.zipIdx.map (·.2)).Pairwise (· < ·) := by
    rw [List.zipIdx_map_snd]
    exact List.pairwise_lt_range'
  rw [List.pairwise_map] at h
  exact h.imp fun h => by omega
theorem mem_btw {ts : List (Int × Int)} {i : Int} : i ∈ btw P ts ↔ ∃ x ∈ ts.zipIdx, sep P x.1.1 x.1.2 = true ∧ (x.2 : Int) = i := by
  unfold btw
  rw [List.mem_map]
  constructor
  · rintro ⟨x, hx, e⟩
    obtain ⟨h1, h2⟩ := List.mem_filter.mp hx
    exact ⟨x, h1, h2, e⟩
  · rintro ⟨x, h1, h2, e⟩
    exact ⟨x, List.mem_filter.mpr ⟨h1, h2⟩, e⟩
theorem btw_meet (ts : List (Int × Int)) : btw (meetP P Q) ts = sset (btw P ts ++ btw Q ts) := by
  refine sorted_unique (btw_sorted ts) (sset_sorted _) fun i => ?_
  rw [mem_sset, List.mem_append, mem_btw, mem_btw, mem_btw]
  constructor
  · rintro ⟨x, hx, h, e⟩
    rw [sep_meet, Bool.or_eq_true] at h
    rcases h with h | h
    · exact .inl ⟨x, hx, h, e⟩
    · exact .inr ⟨x, hx, h, e⟩
  · rintro (⟨x, hx, h, e⟩ | ⟨x, hx, h, e⟩)
    · exact ⟨x, hx, by rw [sep_meet, h]; rfl, e⟩
    · exact ⟨x, hx, by rw [sep_meet, h, Bool.or_true], e⟩
theorem btw_len (ts : List (Int × Int)) : (btw P ts).length = ts.countP fun t => sep P t.1 t.2 := by
  unfold btw
  rw [List.length_map, List.countP_eq_length_filter]
  have h2 : ts = ts.zipIdx.map (·.1) := by simp
  conv => rhs; rw [h2]
  rw [List.filter_map, List.length_map]
  rfl
theorem btw_le (ts : List (Int × Int)) : (btw P ts).length ≤ ts.length := by rw [btw_len]; exact List.countP_le_length
end
/-! ### webs -/
def leP (p q : Int × Int) : Bool := leT (pl p) (pl q)
def sP (ts : List (Int × Int)) : List (Int × Int) := ts.mergeSort leP
theorem sT_pl (ts : List (Int × Int)) : sT (ts.map pl) = (sP ts).map pl := (List.map_mergeSort (r := leP) (s := leT) (f := pl) (l := ts) fun _ _ _ _ => rfl).symm
theorem sP_perm (ts : List (Int × Int)) : (sP ts).Perm ts := List.mergeSort_perm _ _
theorem web_sP {m : Int} {ts : List (Int × Int)} (h1 : 1 ≤ m) (h2 : m ≤ 16) (h3 : ts.length ≤ 40) (h4 : ∀ t ∈ ts, 0 ≤ t.1 ∧ t.1 < t.2 ∧ t.2 < m) : Web m (sP ts) :=
  ⟨h1, h2, by rw [(sP_perm ts).length_eq]; exact h3, fun t ht => h4 t ((sP_perm ts).mem_iff.mp ht), List.pairwise_mergeSort (le := leP) (fun a b c h1 h2 => leT_tr (pl a) (pl b) (pl c) h1 h2) (fun a b => leT_to (pl a) (pl b)) ts⟩
end K38
set_option Elab.async false
set_option linter.all false
set_option maxRecDepth 100000
set_option maxHeartbeats 1000000
set_option autoImplicit false
namespace K38
open PySem PySem.Spec PyProof.Rows L2 L3
theorem v_pot (ns : List Int) (k : Int) (h0 : 0 ≤ k) (h1 : k ≤ 1) (st : Store) : ∃ x y, F__law_pot [wscr ns, .dat (.int k)] st = some (.loc st.length, st ++ [pc x y]) ∧ Drawn y := by
  have hl : opLen [wscr ns] st = some (.dat (.int ns.length), st) := by unfold wscr; simp only [opLen, seqOf, List.length_map]
  have fin : ∀ c : Int, ∃ x y, (bRet (bN opLstNew (aCons (bN opMax (aCons (bDat (.int 0)) (aCons (b2 opSub (bVar 2) (b2 opPow (bDat (.int 10)) (bDat (.int 18)))) aNil))) (aCons (b2 opAdd (b2 opMod (bN opInt (aCons (b2 opAdd (b2 opAdd (b2 opMul (b2 opMod (bN opInt (aCons (bVar 2) aNil)) (bDat (.int 2147483549))) (bDat (.int 41227))) (b2 opMul (bDat (.int 647)) (bVar 1))) (bDat (.int 59))) aNil)) (bDat (.int 2147483563))) (bDat (.int 1))) aNil))))
      [some (wscr ns), some (.dat (.int k)), some (.dat (.int c))] st = some (.rt (.loc st.length), [some (wscr ns), some (.dat (.int k)), some (.dat (.int c))], st ++ [pc x y]) ∧ Drawn y := fun c => by
    have c1 := Int.emod_nonneg c (show (2147483549 : Int) ≠ 0 by decide)
    have c2 := Int.emod_lt_of_pos c (show (0 : Int) < 2147483549 by decide)
    generalize hc : c % 2147483549 = c' at c1 c2
    have m1 := opMul_s (st := st) c' 41227 (natAbs_s (by omega) (by omega)) (natAbs_s (by omega) (by omega))
    have m2 := opMul_s (st := st) 647 k (natAbs_s (by omega) (by omega)) (natAbs_s (by omega) (by omega))
    have p0 : opPow (.dat (.int 10)) (.dat (.int 18)) st = some (.dat (.int 1000000000000000000), st) := rfl
    have p1 : opMod (.dat (.int c)) (.dat (.int 2147483549)) st = some (.dat (.int c'), st) := by rw [← hc]; rfl
    have p2 : opMod (.dat (.int (c' * 41227 + 647 * k + 59))) (.dat (.int 2147483563)) st = some (.dat (.int ((c' * 41227 + 647 * k + 59) % 2147483563)), st) := rfl
    have e1 := Int.emod_nonneg (c' * 41227 + 647 * k + 59) (show (2147483563 : Int) ≠ 0 by decide)
    have e2 := Int.emod_lt_of_pos (c' * 41227 + 647 * k + 59) (show (0 : Int) < 2147483563 by decide)
    generalize (c' * 41227 + 647 * k + 59) % 2147483563 = z at p2 e1 e2
    have nl : ∀ a b : Int, opLstNew [.dat (.int a), .dat (.int b)] st = some (.loc st.length, st ++ [pc a b]) := fun a b => by unfold opLstNew; exact if_pos (small 2 (by decide))
    refine ⟨if c - 1000000000000000000 > 0 then c - 1000000000000000000 else 0, z + 1, ?_, ⟨by omega, by omega⟩⟩
    simp only [bSeq, bAsg, bRet, bRetN, bExp, bIfS, bPass, bDat, bVar, bTy, b2, b1, bN, aCons, aNil, bAnd, bOr, bNot, bIf, bChain, tTru, tBl, tNo, tAn, tOr3, tAll, truth, gNm, gTp, gCn, gNl, seqOf, start3, wipe3, bSlice, pSome, pNone, opSlice, Option.bind_some, Option.map_some, Option.bind_eq_bind, List.map_cons, List.map_nil, List.length_cons, List.length_nil, List.set_cons_zero, List.set_cons_succ, List.getElem?_cons_zero, List.getElem?_cons_succ, List.replicate_succ, List.replicate_zero, List.cons_append, List.nil_append, Nat.sub_zero, Nat.sub_self, Nat.reduceAdd, Nat.reduceSub, if_true, if_false, Bool.not_true, Bool.not_false, reduceIte, Bool.false_eq_true, eq_self, opMax, opSub_int, p0, opInt_int, p1, m1, m2, opAdd_int, p2, nl]
  have m0 := opMul_s (st := st) 1033 k (natAbs_s (by omega) (by omega)) (natAbs_s (by omega) (by omega))
  by_cases hk : k < ns.length
  · obtain ⟨kn, rfl⟩ : ∃ kn : Nat, k = kn := ⟨k.toNat, by omega⟩
    have hkn : kn < ns.length := by omega
    obtain ⟨x, y, h2, h3⟩ := fin (if ns[kn] < 0 then -ns[kn] else ns[kn])
    refine ⟨x, y, run_loc (env' := [some (wscr ns), some (.dat (.int kn)), some (.dat (.int (if ns[kn] < 0 then -ns[kn] else ns[kn])))]) rfl ?_ (Nat.le_refl _), h3⟩
    unfold b__law_pot
    have hi : opIdx (wscr ns) (.dat (.int (kn : Int))) st = some (.dat (.int ns[kn]), st) := by
      have ha : atI ((ns.map PyData.int).map W.dat) (kn : Int) = some (.dat (.int ns[kn])) := by
        unfold atI ixN
        rw [if_pos (by omega), if_pos (by rw [List.length_map, List.length_map]; omega)]
        show ((ns.map PyData.int).map W.dat)[((kn : Int)).toNat]? = _
        rw [Int.toNat_natCast, List.getElem?_map, List.getElem?_map, List.getElem?_eq_getElem hkn]; rfl
      unfold wscr
      simp only [opIdx, seqOf, ha, Option.map_some]
    have hd : decide ((kn : Int) < (ns.length : Int)) = true := decide_eq_true hk
    simp only [bSeq, bAsg, bIfS, tBl, b2, bN, aCons, aNil, bDat, bVar, gNm, start3, bSeq, bAsg, bRet, bRetN, bExp, bIfS, bPass, bDat, bVar, bTy, b2, b1, bN, aCons, aNil, bAnd, bOr, bNot, bIf, bChain, tTru, tBl, tNo, tAn, tOr3, tAll, truth, gNm, gTp, gCn, gNl, seqOf, start3, wipe3, bSlice, pSome, pNone, opSlice, Option.bind_some, Option.map_some, Option.bind_eq_bind, List.map_cons, List.map_nil, List.length_cons, List.length_nil, List.set_cons_zero, List.set_cons_succ, List.getElem?_cons_zero, List.getElem?_cons_succ, List.replicate_succ, List.replicate_zero, List.cons_append, List.nil_append, Nat.sub_zero, Nat.sub_self, Nat.reduceAdd, Nat.reduceSub, if_true, if_false, Bool.not_true, Bool.not_false, reduceIte, Bool.false_eq_true, eq_self, m0, opAdd_int, hl, opLt_int, hd, hi, opAbs] at h2 ⊢
    exact h2
  · obtain ⟨x, y, h2, h3⟩ := fin (1033 * k + 647)
    refine ⟨x, y, run_loc (env' := [some (wscr ns), some (.dat (.int k)), some (.dat (.int (1033 * k + 647)))]) rfl ?_ (Nat.le_refl _), h3⟩
    unfold b__law_pot
    have hd : decide (k < (ns.length : Int)) = false := decide_eq_false hk
    simp only [bSeq, bAsg, bRet, bRetN, bExp, bIfS, bPass, bDat, bVar, bTy, b2, b1, bN, aCons, aNil, bAnd, bOr, bNot, bIf, bChain, tTru, tBl, tNo, tAn, tOr3, tAll, truth, gNm, gTp, gCn, gNl, seqOf, start3, wipe3, bSlice, pSome, pNone, opSlice, Option.bind_some, Option.map_some, Option.bind_eq_bind, List.map_cons, List.map_nil, List.length_cons, List.length_nil, List.set_cons_zero, List.set_cons_succ, List.getElem?_cons_zero, List.getElem?_cons_succ, List.replicate_succ, List.replicate_zero, List.cons_append, List.nil_append, Nat.sub_zero, Nat.sub_self, Nat.reduceAdd, Nat.reduceSub, if_true, if_false, Bool.not_true, Bool.not_false, reduceIte, Bool.false_eq_true, eq_self, m0, opAdd_int, hl, opLt_int, hd] at h2 ⊢
    exact h2
theorem lpl (ts : List (Int × Int)) : tp (ts.map pl) = tts ts := by unfold tp tts; rw [List.map_map]; rfl
theorem pk3 {α : Type} (a b c : α) : pk [2, 1, 0] [a, b, c] = [c, b, a] := rfl
theorem isnt {st : Store} : opIs true (.dat (.bool true)) (.dat (.bool true)) st = some (.dat (.bool false), st) := rfl
theorem lst2 {st : Store} (d e : PyData) : opLst [.dat d, .dat e] st = some (.dat (.list [d, e]), st) := rfl
theorem repr_two {m : Int} {P : List (List Int)} (h : Part m P) (hm : m ≤ 16) (st : Store) : opRepr [.dat (.list [tp P, tp P])] st = some (.dat (.str (PyData.list [tp P, tp P]).shown), st) := by
  have h1 : Shw 2 (16 * (16 * 42 + 1)) (tp P) := Shw.tp (h.len16 hm) (fun l hl => by
    have h2 : l.length ≤ P.flatten.length := by
      obtain ⟨p, q, e⟩ := List.append_of_mem hl
      rw [e, List.flatten_append, List.flatten_cons, List.length_append, List.length_append]; omega
    rw [h.perm.length_eq, rg_len] at h2
    omega) (fun l hl x hx => by have := h.rng hl hx; omega)
  exact (Shw.lst (k := 2) (w := 16 * (16 * 42 + 1)) fun d hd => by
    simp only [List.mem_cons, List.mem_nil_iff, or_false] at hd
    rcases hd with e | e <;> subst e <;> exact h1).repr (by decide) (by simp)
theorem repr_bools (a b : Bool) (st : Store) : opRepr [.dat (.list [.bool a, .bool b])] st = some (.dat (.str (PyData.list [.bool a, .bool b]).shown), st) :=
  (Shw.lst (k := 0) (w := 0) fun d hd => by
    simp only [List.mem_cons, List.mem_nil_iff, or_false] at hd
    rcases hd with e | e <;> subst e <;> exact Shw.bool _).repr (by decide) (by simp)
theorem opAdd_ti {st : Store} (a b : List Int) (h : a.length + b.length ≤ 1000) : opAdd (.dat (ti a)) (.dat (ti b)) st = some (.dat (ti (a ++ b)), st) := by
  unfold ti opAdd
  simp only
  rw [if_pos (by rw [List.length_map, List.length_map]; exact small _ (by omega)), List.map_append]
theorem sortSet_ti {st : Store} (l : List Int) (h : l.length < 64) : opSortSetT (.dat (ti l)) st = some (.dat (li (sset l)), st) := by
  unfold ti opSortSetT
  simp only [L3.ints_of]
  rw [if_pos h]
  rfl
end K38
set_option Elab.async false
set_option linter.all false
set_option maxRecDepth 100000
set_option maxHeartbeats 1000000
set_option autoImplicit false
namespace K38
open PySem PySem.Spec PyProof.Rows L2 L3
theorem kw_meet (a b c : W) (st : Store) : (fun ws st => if ws.length = (["other_parting", "parting", "web"] : List PySem.Str).length then F_meet (pk [2, 1, 0] ws) st else none) [a, b, c] st = F_meet [c, b, a] st := rfl
theorem kw_finer (a b c : W) (st : Store) : (fun ws st => if ws.length = (["other_parting", "parting", "web"] : List PySem.Str).length then F_is_finer (pk [2, 1, 0] ws) st else none) [a, b, c] st = F_is_finer [c, b, a] st := rfl
theorem opIdx_tup {st : Store} {ds : List PyData} {d : PyData} (i : Nat) (h : ds[i]? = some d) : opIdx (.dat (.tuple ds)) (.dat (.int (i : Int))) st = some (.dat d, st) := by
  have hi := (List.getElem?_eq_some_iff.mp h).1
  have ha : atI (ds.map W.dat) (i : Int) = some (.dat d) := by
    unfold atI ixN
    rw [if_pos (by omega), if_pos (by rw [List.length_map]; omega)]
    show (ds.map W.dat)[((i : Int)).toNat]? = _
    rw [Int.toNat_natCast, List.getElem?_map, h]; rfl
  simp only [opIdx, seqOf, ha, Option.map_some]
theorem idx_tp {st : Store} {P : List (List Int)} {l : List Int} (i : Nat) (h : P[i]? = some l) : opIdx (.dat (tp P)) (.dat (.int (i : Int))) st = some (.dat (ti l), st) := opIdx_tup i (by rw [List.getElem?_map, h]; rfl)
theorem idx_ti {st : Store} {P : List Int} {l : Int} (i : Nat) (h : P[i]? = some l) : opIdx (.dat (ti P)) (.dat (.int (i : Int))) st = some (.dat (.int l), st) := opIdx_tup i (by rw [List.getElem?_map, h]; rfl)
theorem v_right {st : Store} {n : Nat} {a b : Int} (h : st[n]? = some (pc a b)) (hb : Drawn b) : ∃ x y, F__law_right [.loc n] st = some (.dat (.bool true), st.set n (pc x y)) ∧ Drawn y := by
  have hn : n < st.length := (List.getElem?_eq_some_iff.mp h).1
  have get : ∀ x y, (st.set n (pc x y))[n]? = some (pc x y) := fun x y => List.getElem?_set_self hn
  -- what is drawn
  obtain ⟨d, x1, y1, r1, d1, d2, b1'⟩ := draw h hb (m := 6) (by decide) (by decide)
  obtain ⟨m, hm⟩ : ∃ m, 2 + d = m := ⟨_, rfl⟩
  have hm1 : 2 ≤ m := by omega
  have hm2 : m ≤ 7 := by omega
  obtain ⟨ts, x2, y2, r2, t1, t2, b2'⟩ := v_ties (get x1 y1) b1' (m := m) (k := 14) hm1 (by omega) (by decide) (by decide)
  rw [List.set_set] at r2
  obtain ⟨P, x3, y3, r3, hP, b3'⟩ := v_parting (get x2 y2) b2' hm1 (by omega)
  rw [List.set_set] at r3
  obtain ⟨Q, x4, y4, r4, hQ, b4'⟩ := v_parting (get x3 y3) b3' hm1 (by omega)
  rw [List.set_set] at r4
  obtain ⟨T, x5, y5, r5, hT, b5'⟩ := v_parting (get x4 y4) b4' hm1 (by omega)
  rw [List.set_set] at r5
  obtain ⟨kd, x6, y6, r6, k1, k2, b6'⟩ := draw (get x5 y5) b5' (m := 6) (by decide) (by decide)
  rw [List.set_set] at r6
  obtain ⟨k, hk⟩ : ∃ k, 1 + kd = k := ⟨_, rfl⟩
  have hW : Web m (sP ts) := web_sP (by omega) (by omega) (by omega) t2
  generalize hts : sP ts = ws at hW
  have hwl : ws.length ≤ 14 := by rw [← hts, (sP_perm ts).length_eq]; omega
  have hD : Part m (meetP P Q) := part_meet hP hQ
  have lP := hP.len16 (by omega : m ≤ 16)
  have lQ := hQ.len16 (by omega : m ≤ 16)
  have hz : P.length * Q.length ≤ 16777216 := Nat.le_trans (Nat.mul_le_mul lP lQ) (by decide)
  -- the web with a tie more
  obtain ⟨p0, p1, R, rfl⟩ : ∃ p0 p1 R, P = p0 :: p1 :: R := by
    match P, hP.two with
    | p0 :: p1 :: R, _ => exact ⟨p0, p1, R, rfl⟩
  obtain ⟨a0, q0, rfl⟩ := List.exists_cons_of_ne_nil (hP.ne p0 List.mem_cons_self)
  obtain ⟨c0, q1, rfl⟩ := List.exists_cons_of_ne_nil (hP.ne p1 (List.mem_cons_of_mem _ List.mem_cons_self))
  generalize hPd : (a0 :: q0) :: (c0 :: q1) :: R = P at *
  have g0 : P[0]? = some (a0 :: q0) := by rw [← hPd]; rfl
  have g1 : P[1]? = some (c0 :: q1) := by rw [← hPd]; rfl
  have ra := hP.rng (List.mem_of_getElem? g0) (x := a0) List.mem_cons_self
  have rc := hP.rng (List.mem_of_getElem? g1) (x := c0) List.mem_cons_self
  have hac : a0 ≠ c0 := fun e => by
    have := nd_one hP.nd g0 g1 (x := a0) List.mem_cons_self (by rw [e]; exact List.mem_cons_self)
    omega
  have hsep : sep P a0 c0 = true := by
    unfold sep
    rw [Bool.not_eq_true', List.any_eq_false]
    intro p hp
    simp only [Bool.and_eq_true, decide_eq_true_eq, not_and]
    intro u1 u2
    obtain ⟨i, hi⟩ := List.getElem?_of_mem hp
    have e1 := nd_one hP.nd g0 hi (x := a0) List.mem_cons_self u1
    have e2 := nd_one hP.nd g1 hi (x := c0) List.mem_cons_self u2
    omega
  have hsep' : sep P c0 a0 = true := by
    rw [← hsep]
    unfold sep
    congr 1
    exact List.any_congr rfl fun p => Bool.and_comm _ _
  obtain ⟨t0, ht0⟩ : ∃ t0, (if a0 < c0 then (a0, c0) else (c0, a0)) = t0 := ⟨_, rfl⟩
  have ht : 0 ≤ t0.1 ∧ t0.1 < t0.2 ∧ t0.2 < m := by rw [← ht0]; split <;> simp only <;> omega
  have hts0 : sep P t0.1 t0.2 = true := by rw [← ht0]; split <;> assumption
  have hW2 : Web m (sP (ws ++ [t0])) := web_sP (by omega) (by omega) (by rw [List.length_append, List.length_cons, List.length_nil]; omega) fun t h => by
    rcases List.mem_append.mp h with h | h
    · exact hW.ok t h
    · simp only [List.mem_singleton] at h; subst h; exact ht
  have hcount : (btw P (sP (ws ++ [t0]))).length = (btw P ws).length + 1 := by
    rw [btw_len, btw_len, (sP_perm _).countP_eq, List.countP_append]
    simp [hts0]
  -- the pairs of partings
  obtain ⟨env', s', hf, o7, o8, o9, q1', q2'⟩ := bFor_inv (fi := iSeq (bN opTup (aCons (bN opTup (aCons (bVar 3) (aCons (bVar 4) aNil))) (aCons (bN opTup (aCons (bVar 6) (aCons (bVar 3) aNil))) (aCons (bN opTup (aCons (bVar 6) (aCons (bVar 4) aNil))) (aCons (bN opTup (aCons (bVar 5) (aCons (bVar 6) aNil))) (aCons (bN opTup (aCons (bVar 3) (aCons (bVar 3) aNil))) aNil)))))))
    (g := gTp 2 (gCn (gNm 7) (gCn (gNm 8) gNl))) (u := bSeq (bAsg (bN F__law_is_finer (aCons (bVar 7) (aCons (bVar 8) aNil))) (gNm 9)) (bIfS (tBl (b2 opNe (bN opRepr (aCons (bN opLst (aCons (bN F_is_finer (aCons (bVar 2) (aCons (bVar 7) (aCons (bVar 8) aNil)))) (aCons (bN (fun ws st => if ws.length = (["other_parting", "parting", "web"] : List PySem.Str).length then F_is_finer (pk [2, 1, 0] ws) st else none) (aCons (bVar 8) (aCons (bVar 7) (aCons (bVar 2) aNil)))) aNil))) aNil)) (bN opRepr (aCons (bN opLst (aCons (bVar 9) (aCons (bVar 9) aNil))) aNil)))) (bRet (bDat (.bool false))) bPass))
    (env := [some (.loc n), some (.dat (.int m)), some (.dat (wb m ws)), some (.dat (tp P)), some (.dat (tp Q)), some (.dat (tp T)), some (.dat (tp (meetP P Q))), none, none, none, none, none, none]) (st := st.set n (pc x5 y5)) (st0 := st.set n (pc x5 y5)) (it := liveSeq (.dat (.tuple ([(P, Q), (meetP P Q, P), (meetP P Q, Q), (T, meetP P Q), (P, P)].map fun x => PyData.tuple [tp x.1, tp x.2]))) (([(P, Q), (meetP P Q, P), (meetP P Q, Q), (T, meetP P Q), (P, P)].map fun x => PyData.tuple [tp x.1, tp x.2]).map .dat)) rfl
    (gives_tupm (S := fun _ => True) [(P, Q), (meetP P Q, P), (meetP P Q, Q), (T, meetP P Q), (P, P)] fun x => .tuple [tp x.1, tp x.2])
    (fun i env s => ∃ o7 o8 o9, env = [some (.loc n), some (.dat (.int m)), some (.dat (wb m ws)), some (.dat (tp P)), some (.dat (tp Q)), some (.dat (tp T)), some (.dat (tp (meetP P Q))), o7, o8, o9, none, none, none] ∧ s = st.set n (pc x5 y5)) (fun _ _ _ _ => trivial) ⟨none, none, none, rfl, rfl⟩
    (fun i w env s hw ⟨o7, o8, o9, q1, q2⟩ => by
      subst q1 q2
      rw [List.getElem?_map] at hw
      obtain ⟨x, hx, rfl⟩ := Option.map_eq_some_iff.mp hw
      have hx2 : Part m x.1 ∧ Part m x.2 := by
        have := List.mem_of_getElem? hx
        simp only [List.mem_cons, List.mem_nil_iff, or_false] at this
        rcases this with e | e | e | e | e <;> subst e <;> exact ⟨by assumption, by assumption⟩
      obtain ⟨f1, f2⟩ := hx2
      refine ⟨[some (.loc n), some (.dat (.int m)), some (.dat (wb m ws)), some (.dat (tp P)), some (.dat (tp Q)), some (.dat (tp T)), some (.dat (tp (meetP P Q))), some (.dat (tp x.1)), some (.dat (tp x.2)), some (.dat (.bool (finer x.1 x.2))), none, none, none], _, .inl ?_, _, _, _, rfl, rfl⟩
      unfold stepOf
      have hg : gTp 2 (gCn (gNm 7) (gCn (gNm 8) gNl)) (.dat (.tuple [tp x.1, tp x.2])) [some (.loc n), some (.dat (.int m)), some (.dat (wb m ws)), some (.dat (tp P)), some (.dat (tp Q)), some (.dat (tp T)), some (.dat (tp (meetP P Q))), o7, o8, o9, none, none, none] (st.set n (pc x5 y5)) = some ([some (.loc n), some (.dat (.int m)), some (.dat (wb m ws)), some (.dat (tp P)), some (.dat (tp Q)), some (.dat (tp T)), some (.dat (tp (meetP P Q))), some (.dat (tp x.1)), some (.dat (tp x.2)), o9, none, none, none], st.set n (pc x5 y5)) := rfl
      rw [hg]
      simp only [bSeq, bAsg, bRet, bRetN, bExp, bIfS, bPass, bDat, bVar, bTy, b2, b1, bN, aCons, aNil, bAnd, bOr, bNot, bIf, bChain, tTru, tBl, tNo, tAn, tOr3, tAll, truth, gNm, gTp, gCn, gNl, seqOf, start3, wipe3, bSlice, pSome, pNone, opSlice, Option.bind_some, Option.map_some, Option.bind_eq_bind, List.map_cons, List.map_nil, List.length_cons, List.length_nil, List.set_cons_zero, List.set_cons_succ, List.getElem?_cons_zero, List.getElem?_cons_succ, List.replicate_succ, List.replicate_zero, List.cons_append, List.nil_append, Nat.sub_zero, Nat.sub_self, Nat.reduceAdd, Nat.reduceSub, if_true, if_false, Bool.not_true, Bool.not_false, reduceIte, Bool.false_eq_true, eq_self, v__law_is_finer, v_is_finer hW f1 f2, pk3, lst2, repr_bools, opNe_str, decide_true])
  subst q1' q2'
  refine ⟨x6, y6, ?_, b6'⟩
  refine run_pot (ext := []) (env' := [some (.loc n), some (.dat (.int m)), some (.dat (wb m ws)), some (.dat (tp P)), some (.dat (tp Q)), some (.dat (tp T)), some (.dat (tp (meetP P Q))), o7, o8, o9, some (.dat (ti (btw (meetP P Q) ws))), some (.dat (wb m (sP (ws ++ [t0])))), some (.dat (.int k))]) rfl ?_
  rw [List.append_nil]
  unfold b__law_right
  -- the parts
  have w1 : ∀ s, opSorted [.dat (lp (ts.map pl))] s = some (.dat (lp (ws.map pl)), s) := fun s => by
    rw [sT_seq (fun x hx => by obtain ⟨t, _, rfl⟩ := List.mem_map.mp hx; simp [pl]), sT_pl, hts]
  have w2 : ∀ (l : List (Int × Int)) s, opTup [.dat (.str "web"), .dat (.int m), .dat (tts l)] s = some (.dat (wb m l), s) := fun _ _ => rfl
  have w3 : ∀ s, F__law_meet [.dat (tp P), .dat (tp Q)] s = some (.dat (tp (meetP P Q)), s) := fun s => v__law_meet hz s
  have w4 : ∀ s, F_meet [.dat (wb m ws), .dat (tp P), .dat (tp Q)] s = some (.dat (tp (meetP P Q)), s) := fun s => v_meet hW hP hQ hz s
  have w5 : ∀ s, F_is_parting [.dat (wb m ws), .dat (tp (meetP P Q))] s = some (.dat (.bool true), s) := fun s => v_is_parting hW hD s
  have w6 : ∀ s, F_is_finer [.dat (wb m ws), .dat (tp (meetP P Q)), .dat (tp P)] s = some (.dat (.bool true), s) := fun s => by rw [v_is_finer hW hD hP, finer_l]
  have w7 : ∀ s, F_is_finer [.dat (wb m ws), .dat (tp (meetP P Q)), .dat (tp Q)] s = some (.dat (.bool true), s) := fun s => by rw [v_is_finer hW hD hQ, finer_r]
  have w9 : ∀ s, F_between [.dat (wb m ws), .dat (tp (meetP P Q))] s = some (.dat (ti (btw (meetP P Q) ws)), s) := fun s => v_between hW hD s
  have w10 : ∀ s, F_between [.dat (wb m ws), .dat (tp P)] s = some (.dat (ti (btw P ws)), s) := fun s => v_between hW hP s
  have w11 : ∀ s, F_between [.dat (wb m ws), .dat (tp Q)] s = some (.dat (ti (btw Q ws)), s) := fun s => v_between hW hQ s
  have n1 : (btw P ws).length ≤ 14 := Nat.le_trans (btw_le ws) hwl
  have n2 : (btw Q ws).length ≤ 14 := Nat.le_trans (btw_le ws) hwl
  have w12 : ∀ s, opAdd (.dat (ti (btw P ws))) (.dat (ti (btw Q ws))) s = some (.dat (ti (btw P ws ++ btw Q ws)), s) := fun s => opAdd_ti _ _ (by omega)
  have w13 : ∀ s, opSortSetT (.dat (ti (btw P ws ++ btw Q ws))) s = some (.dat (li (btw (meetP P Q) ws)), s) := fun s => by rw [sortSet_ti _ (by rw [List.length_append]; omega), btw_meet]
  have w14 : ∀ s, F__law_between [.dat (wb m ws), .dat (tp (meetP P Q))] s = some (.dat (ti (btw (meetP P Q) ws)), s) := fun s => v__law_between (by omega) s
  have w15 : ∀ s, opIdx (.dat (wb m ws)) (.dat (.int 2)) s = some (.dat (tts ws), s) := fun _ => rfl
  have w16 : ∀ s, opIdx (.dat (tp P)) (.dat (.int 0)) s = some (.dat (ti (a0 :: q0)), s) := fun _ => idx_tp 0 g0
  have w17 : ∀ s, opIdx (.dat (tp P)) (.dat (.int 1)) s = some (.dat (ti (c0 :: q1)), s) := fun _ => idx_tp 1 g1
  have w18 : ∀ x (l : List Int) s, opIdx (.dat (ti (x :: l))) (.dat (.int 0)) s = some (.dat (.int x), s) := fun _ _ _ => idx_ti 0 rfl
  have w20 : ∀ x s, opTup [.dat (tt x)] s = some (.dat (tts [x]), s) := fun _ _ => rfl
  have w21 : ∀ s, opAdd (.dat (tts ws)) (.dat (tts [t0])) s = some (.dat (tts (ws ++ [t0])), s) := fun s => by
    unfold tts opAdd
    simp only
    rw [if_pos (by rw [List.length_map, List.length_map]; exact small _ (by simp only [List.length_cons, List.length_nil]; omega)), List.map_append]
  have w22 : ∀ s, opSorted [.dat (tts (ws ++ [t0]))] s = some (.dat (lp ((sP (ws ++ [t0])).map pl)), s) := fun s => by
    rw [opSorted_tis (l := (ws ++ [t0]).map pl) (by unfold tts; simp only [seqOf, List.map_map]; rfl) (fun x hx => by obtain ⟨t, _, rfl⟩ := List.mem_map.mp hx; simp [pl]), sT_pl]
  have w24 : ∀ s, F_looseness [.dat (wb m ws), .dat (.int k), .dat (tp P)] s = some (.dat (.int (k * ((P.length : Int) - 1) - ((btw P ws).length : Int))), s) := fun s => v_looseness k (by omega) (by omega) hW hP s
  have w25 : ∀ s, F_looseness [.dat (wb m (sP (ws ++ [t0]))), .dat (.int k), .dat (tp P)] s = some (.dat (.int (k * ((P.length : Int) - 1) - ((btw P ws).length : Int) - 1)), s) := fun s => by
    rw [v_looseness k (by omega) (by omega) hW2 hP s, hcount]
    have : k * ((P.length : Int) - 1) - (((btw P ws).length + 1 : Nat) : Int) = k * ((P.length : Int) - 1) - ((btw P ws).length : Int) - 1 := by omega
    rw [this]
  have w26 : ∀ s, F__law_looseness [.dat (wb m ws), .dat (.int k), .dat (tp P)] s = some (.dat (.int (k * ((P.length : Int) - 1) - ((btw P ws).length : Int))), s) := fun s => v__law_looseness k (by omega) (by omega) (by omega) (by omega) s
  simp only [List.length_cons, List.length_nil, Nat.reduceAdd] at hf
  by_cases hlt : a0 < c0
  · have hd := decide_eq_true hlt
    have w23 : ∀ s, opTup [.dat (.int a0), .dat (.int c0)] s = some (.dat (tt t0), s) := fun s => by rw [← ht0, if_pos hlt]; rfl
    cases h1 : finer T P with
    | false => simp only [bSeq, bAsg, bRet, bRetN, bExp, bIfS, bPass, bDat, bVar, bTy, b2, b1, bN, aCons, aNil, bAnd, bOr, bNot, bIf, bChain, tTru, tBl, tNo, tAn, tOr3, tAll, truth, gNm, gTp, gCn, gNl, seqOf, start3, wipe3, bSlice, pSome, pNone, opSlice, Option.bind_some, Option.map_some, Option.bind_eq_bind, List.map_cons, List.map_nil, List.length_cons, List.length_nil, List.set_cons_zero, List.set_cons_succ, List.getElem?_cons_zero, List.getElem?_cons_succ, List.replicate_succ, List.replicate_zero, List.cons_append, List.nil_append, Nat.sub_zero, Nat.sub_self, Nat.reduceAdd, Nat.reduceSub, if_true, if_false, Bool.not_true, Bool.not_false, reduceIte, Bool.false_eq_true, eq_self, bPar3, r1, opAdd_int, hm, r2, w1, opTuple_lp, lpl, w2, r3, r4, r5, w3, w4, pk3, lst2, repr_two hD (show m ≤ 16 by omega), opNe_str, decide_true, w5, isnt, hf, w6, w7, w9, w10, w11, w12, w13, opTuple_li, opNe_ti, w14, w15, w16, w17, w18, opLt_int, hd, w23, w20, w21, w22, w24, w25, w26, r6, hk, opSub_int, opEq_int, v__law_is_finer, h1]
    | true =>
      cases h2 : finer T Q with
      | false => simp only [bSeq, bAsg, bRet, bRetN, bExp, bIfS, bPass, bDat, bVar, bTy, b2, b1, bN, aCons, aNil, bAnd, bOr, bNot, bIf, bChain, tTru, tBl, tNo, tAn, tOr3, tAll, truth, gNm, gTp, gCn, gNl, seqOf, start3, wipe3, bSlice, pSome, pNone, opSlice, Option.bind_some, Option.map_some, Option.bind_eq_bind, List.map_cons, List.map_nil, List.length_cons, List.length_nil, List.set_cons_zero, List.set_cons_succ, List.getElem?_cons_zero, List.getElem?_cons_succ, List.replicate_succ, List.replicate_zero, List.cons_append, List.nil_append, Nat.sub_zero, Nat.sub_self, Nat.reduceAdd, Nat.reduceSub, if_true, if_false, Bool.not_true, Bool.not_false, reduceIte, Bool.false_eq_true, eq_self, bPar3, r1, opAdd_int, hm, r2, w1, opTuple_lp, lpl, w2, r3, r4, r5, w3, w4, pk3, lst2, repr_two hD (show m ≤ 16 by omega), opNe_str, decide_true, w5, isnt, hf, w6, w7, w9, w10, w11, w12, w13, opTuple_li, opNe_ti, w14, w15, w16, w17, w18, opLt_int, hd, w23, w20, w21, w22, w24, w25, w26, r6, hk, opSub_int, opEq_int, v__law_is_finer, h1, h2]
      | true =>
        have w8 : ∀ s, F_is_finer [.dat (wb m ws), .dat (tp T), .dat (tp (meetP P Q))] s = some (.dat (.bool true), s) := fun s => by rw [v_is_finer hW hT hD, finer_m hT.ne h1 h2]
        simp only [bSeq, bAsg, bRet, bRetN, bExp, bIfS, bPass, bDat, bVar, bTy, b2, b1, bN, aCons, aNil, bAnd, bOr, bNot, bIf, bChain, tTru, tBl, tNo, tAn, tOr3, tAll, truth, gNm, gTp, gCn, gNl, seqOf, start3, wipe3, bSlice, pSome, pNone, opSlice, Option.bind_some, Option.map_some, Option.bind_eq_bind, List.map_cons, List.map_nil, List.length_cons, List.length_nil, List.set_cons_zero, List.set_cons_succ, List.getElem?_cons_zero, List.getElem?_cons_succ, List.replicate_succ, List.replicate_zero, List.cons_append, List.nil_append, Nat.sub_zero, Nat.sub_self, Nat.reduceAdd, Nat.reduceSub, if_true, if_false, Bool.not_true, Bool.not_false, reduceIte, Bool.false_eq_true, eq_self, bPar3, r1, opAdd_int, hm, r2, w1, opTuple_lp, lpl, w2, r3, r4, r5, w3, w4, pk3, lst2, repr_two hD (show m ≤ 16 by omega), opNe_str, decide_true, w5, isnt, hf, w6, w7, w9, w10, w11, w12, w13, opTuple_li, opNe_ti, w14, w15, w16, w17, w18, opLt_int, hd, w23, w20, w21, w22, w24, w25, w26, r6, hk, opSub_int, opEq_int, v__law_is_finer, h1, h2, w8]
  · have hd := decide_eq_false hlt
    have w23 : ∀ s, opTup [.dat (.int c0), .dat (.int a0)] s = some (.dat (tt t0), s) := fun s => by rw [← ht0, if_neg hlt]; rfl
    cases h1 : finer T P with
    | false => simp only [bSeq, bAsg, bRet, bRetN, bExp, bIfS, bPass, bDat, bVar, bTy, b2, b1, bN, aCons, aNil, bAnd, bOr, bNot, bIf, bChain, tTru, tBl, tNo, tAn, tOr3, tAll, truth, gNm, gTp, gCn, gNl, seqOf, start3, wipe3, bSlice, pSome, pNone, opSlice, Option.bind_some, Option.map_some, Option.bind_eq_bind, List.map_cons, List.map_nil, List.length_cons, List.length_nil, List.set_cons_zero, List.set_cons_succ, List.getElem?_cons_zero, List.getElem?_cons_succ, List.replicate_succ, List.replicate_zero, List.cons_append, List.nil_append, Nat.sub_zero, Nat.sub_self, Nat.reduceAdd, Nat.reduceSub, if_true, if_false, Bool.not_true, Bool.not_false, reduceIte, Bool.false_eq_true, eq_self, bPar3, r1, opAdd_int, hm, r2, w1, opTuple_lp, lpl, w2, r3, r4, r5, w3, w4, pk3, lst2, repr_two hD (show m ≤ 16 by omega), opNe_str, decide_true, w5, isnt, hf, w6, w7, w9, w10, w11, w12, w13, opTuple_li, opNe_ti, w14, w15, w16, w17, w18, opLt_int, hd, w23, w20, w21, w22, w24, w25, w26, r6, hk, opSub_int, opEq_int, v__law_is_finer, h1]
    | true =>
      cases h2 : finer T Q with
      | false => simp only [bSeq, bAsg, bRet, bRetN, bExp, bIfS, bPass, bDat, bVar, bTy, b2, b1, bN, aCons, aNil, bAnd, bOr, bNot, bIf, bChain, tTru, tBl, tNo, tAn, tOr3, tAll, truth, gNm, gTp, gCn, gNl, seqOf, start3, wipe3, bSlice, pSome, pNone, opSlice, Option.bind_some, Option.map_some, Option.bind_eq_bind, List.map_cons, List.map_nil, List.length_cons, List.length_nil, List.set_cons_zero, List.set_cons_succ, List.getElem?_cons_zero, List.getElem?_cons_succ, List.replicate_succ, List.replicate_zero, List.cons_append, List.nil_append, Nat.sub_zero, Nat.sub_self, Nat.reduceAdd, Nat.reduceSub, if_true, if_false, Bool.not_true, Bool.not_false, reduceIte, Bool.false_eq_true, eq_self, bPar3, r1, opAdd_int, hm, r2, w1, opTuple_lp, lpl, w2, r3, r4, r5, w3, w4, pk3, lst2, repr_two hD (show m ≤ 16 by omega), opNe_str, decide_true, w5, isnt, hf, w6, w7, w9, w10, w11, w12, w13, opTuple_li, opNe_ti, w14, w15, w16, w17, w18, opLt_int, hd, w23, w20, w21, w22, w24, w25, w26, r6, hk, opSub_int, opEq_int, v__law_is_finer, h1, h2]
      | true =>
        have w8 : ∀ s, F_is_finer [.dat (wb m ws), .dat (tp T), .dat (tp (meetP P Q))] s = some (.dat (.bool true), s) := fun s => by rw [v_is_finer hW hT hD, finer_m hT.ne h1 h2]
        simp only [bSeq, bAsg, bRet, bRetN, bExp, bIfS, bPass, bDat, bVar, bTy, b2, b1, bN, aCons, aNil, bAnd, bOr, bNot, bIf, bChain, tTru, tBl, tNo, tAn, tOr3, tAll, truth, gNm, gTp, gCn, gNl, seqOf, start3, wipe3, bSlice, pSome, pNone, opSlice, Option.bind_some, Option.map_some, Option.bind_eq_bind, List.map_cons, List.map_nil, List.length_cons, List.length_nil, List.set_cons_zero, List.set_cons_succ, List.getElem?_cons_zero, List.getElem?_cons_succ, List.replicate_succ, List.replicate_zero, List.cons_append, List.nil_append, Nat.sub_zero, Nat.sub_self, Nat.reduceAdd, Nat.reduceSub, if_true, if_false, Bool.not_true, Bool.not_false, reduceIte, Bool.false_eq_true, eq_self, bPar3, r1, opAdd_int, hm, r2, w1, opTuple_lp, lpl, w2, r3, r4, r5, w3, w4, pk3, lst2, repr_two hD (show m ≤ 16 by omega), opNe_str, decide_true, w5, isnt, hf, w6, w7, w9, w10, w11, w12, w13, opTuple_li, opNe_ti, w14, w15, w16, w17, w18, opLt_int, hd, w23, w20, w21, w22, w24, w25, w26, r6, hk, opSub_int, opEq_int, v__law_is_finer, h1, h2, w8]
end K38
set_option Elab.async false
set_option linter.all false
set_option maxRecDepth 100000
set_option maxHeartbeats 1000000
set_option autoImplicit false
namespace K38
open PySem PySem.Spec PyProof.Rows L2 L3
theorem v_law (ns : List Int) : ∃ st', F_law [wscr ns] [] = some (.dat (.bool true), st') := by
  obtain ⟨env', s', hf, o1, o2, o3, q1⟩ := bFor_inv (fi := iSeq (bN opTup (aCons (bDat (.int 0)) (aCons (bDat (.int 1)) aNil)))) (g := gNm 1) (u := bSeq (bAsg (bN F__law_pot (aCons (bVar 0) (aCons (bVar 1) aNil))) (gNm 2)) (bFor (iRange (bDat (.int 0)) (bDat (.int 3))) (gNm 3) (bIfS (tNo (tTru (bN F__law_right (aCons (bVar 2) aNil)))) (bRet (bDat (.bool false))) bPass)))
    (env := [some (wscr ns), none, none, none]) (st := []) (st0 := []) (it := liveSeq (.dat (.tuple ([0, 1].map PyData.int))) (([0, 1].map PyData.int).map .dat)) rfl (gives_tupm (S := fun _ => True) [(0 : Int), 1] .int)
    (fun i env s => ∃ o1 o2 o3, env = [some (wscr ns), o1, o2, o3]) (fun _ _ _ _ => trivial) ⟨none, none, none, rfl⟩ (fun i w env s hw ⟨o1, o2, o3, q1⟩ => by
      subst q1
      rw [List.getElem?_map] at hw
      obtain ⟨k, hk, rfl⟩ := Option.map_eq_some_iff.mp hw
      have hk2 : 0 ≤ k ∧ k ≤ 1 := by
        have := List.mem_of_getElem? hk
        simp only [List.mem_cons, List.mem_nil_iff, or_false] at this
        rcases this with e | e <;> subst e <;> decide
      obtain ⟨x, y, hp, hy⟩ := v_pot ns k hk2.1 hk2.2 s
      obtain ⟨env2, s2, hf2, o3', a, b, e1, e2, e3⟩ := bFor_inv (fi := iRange (bDat (.int 0)) (bDat (.int 3))) (g := gNm 3) (u := bIfS (tNo (tTru (bN F__law_right (aCons (bVar 2) aNil)))) (bRet (bDat (.bool false))) bPass) (env := [some (wscr ns), some (.dat (.int k)), some (.loc s.length), o3]) (st := s ++ [pc x y]) (st0 := s ++ [pc x y]) (it := itRange 0 3) rfl (gives_range (S := fun _ => True))
        (fun i env t => ∃ o3 a b, env = [some (wscr ns), some (.dat (.int k)), some (.loc s.length), o3] ∧ t[s.length]? = some (pc a b) ∧ Drawn b) (fun _ _ _ _ => trivial) ⟨o3, x, y, rfl, get_last, hy⟩ (fun i w env t hw ⟨o3, a, b, q1, q2, q3⟩ => by
          subst q1
          obtain ⟨x, y, r1, r2⟩ := v_right q2 q3
          have hl : s.length < t.length := (List.getElem?_eq_some_iff.mp q2).1
          refine ⟨[some (wscr ns), some (.dat (.int k)), some (.loc s.length), some w], t.set s.length (pc x y), .inl ?_, _, x, y, rfl, List.getElem?_set_self hl, r2⟩
          simp only [stepOf, bSeq, bAsg, bRet, bRetN, bExp, bIfS, bPass, bDat, bVar, bTy, b2, b1, bN, aCons, aNil, bAnd, bOr, bNot, bIf, bChain, tTru, tBl, tNo, tAn, tOr3, tAll, truth, gNm, gTp, gCn, gNl, seqOf, start3, wipe3, bSlice, pSome, pNone, opSlice, Option.bind_some, Option.map_some, Option.bind_eq_bind, List.map_cons, List.map_nil, List.length_cons, List.length_nil, List.set_cons_zero, List.set_cons_succ, List.getElem?_cons_zero, List.getElem?_cons_succ, List.replicate_succ, List.replicate_zero, List.cons_append, List.nil_append, Nat.sub_zero, Nat.sub_self, Nat.reduceAdd, Nat.reduceSub, if_true, if_false, Bool.not_true, Bool.not_false, reduceIte, Bool.false_eq_true, eq_self, r1])
      subst e1
      refine ⟨[some (wscr ns), some (.dat (.int k)), some (.loc s.length), o3'], s2, .inl ?_, _, _, _, rfl⟩
      simp only [stepOf, bSeq, bAsg, bRet, bRetN, bExp, bIfS, bPass, bDat, bVar, bTy, b2, b1, bN, aCons, aNil, bAnd, bOr, bNot, bIf, bChain, tTru, tBl, tNo, tAn, tOr3, tAll, truth, gNm, gTp, gCn, gNl, seqOf, start3, wipe3, bSlice, pSome, pNone, opSlice, Option.bind_some, Option.map_some, Option.bind_eq_bind, List.map_cons, List.map_nil, List.length_cons, List.length_nil, List.set_cons_zero, List.set_cons_succ, List.getElem?_cons_zero, List.getElem?_cons_succ, List.replicate_succ, List.replicate_zero, List.cons_append, List.nil_append, Nat.sub_zero, Nat.sub_self, Nat.reduceAdd, Nat.reduceSub, if_true, if_false, Bool.not_true, Bool.not_false, reduceIte, Bool.false_eq_true, eq_self, hp, hf2])
  subst q1
  refine ⟨[], run_ret (ext := s') (env' := [some (wscr ns), o1, o2, o3]) rfl ?_⟩
  unfold b_law
  simp only [bSeq, bAsg, bRet, bRetN, bExp, bIfS, bPass, bDat, bVar, bTy, b2, b1, bN, aCons, aNil, bAnd, bOr, bNot, bIf, bChain, tTru, tBl, tNo, tAn, tOr3, tAll, truth, gNm, gTp, gCn, gNl, seqOf, start3, wipe3, bSlice, pSome, pNone, opSlice, Option.bind_some, Option.map_some, Option.bind_eq_bind, List.map_cons, List.map_nil, List.length_cons, List.length_nil, List.set_cons_zero, List.set_cons_succ, List.getElem?_cons_zero, List.getElem?_cons_succ, List.replicate_succ, List.replicate_zero, List.cons_append, List.nil_append, Nat.sub_zero, Nat.sub_self, Nat.reduceAdd, Nat.reduceSub, if_true, if_false, Bool.not_true, Bool.not_false, reduceIte, Bool.false_eq_true, eq_self, hf]
end K38
theorem PySem.Challenge.cw_grovesapart_k38_whole_partings_met_holds : PySem.Challenge.rw_grovesapart_k38_whole_partings_met.Holds := by
  exact K38.holds_of fun ns _ => K38.v_law ns
