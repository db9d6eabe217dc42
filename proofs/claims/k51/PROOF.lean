import PyProof.Rows.All
import Wide.All
import OpenK.AllK
import Wide.FinOn
import HandS.ForMost
import HandS.Deep
import HandS.Walk
import HandS.Flow
import HandS.Style
import HandS.IsInst
import HandS.Conv
import HandS.Defaults
import HandS.TupAny
import KE.DataCmp
import KE.DataMinMax
import KE.SortData
import PyProof.ReprRoads
import HandS.RaiseMore
import HandS.Zip
import HandS.Text
import KE.GoesMore
import PyProof.ReprLen
import HandS.More
import HandS.Ends
import HandS.TryOnly
import PyProof.SeqIndex
import KE.KExcSuper
import HandS.Exc
import HandS.ForSpec
import HandS.ExcIs
import HandS.ExcField
import KE.KExcIs
import HandS.TupSets
import KE.KeyNested
import HandS.TupMul
import PyProof.ListMulRoad
import PyProof.FactsAll.tuple_2
import PySem.Challenge.RW_stormhouses_k51_whole_what_detectors_are
set_option Elab.async false
set_option linter.all false
set_option maxRecDepth 100000
set_option maxHeartbeats 4000000
/-! DL0: data states over the hand layer: what a state of plain data in slots says of slots and heap. -/
namespace DL
open PySem PySem.Spec L2

abbrev D := PyData
/-- a slot: data that stands for ever; a list that this slot alone holds; the drawing dict; the script; a range -/
inductive DV where
  | dat (d : D)
  | own (ds : List D)
  | rl
  | scr (ns : List Int)
  | rg (lo hi : Int)
abbrev DS := List (Option DV)
/-- ghosts: the drawing dict and its list; the heap at the entry; what was to be read at the entry -/
structure Gh where
  W : Option (Addr × Addr)
  H0 : Hp
  S0 : Hp
  T : List Addr := []
def inW (W : Option (Addr × Addr)) (b : Addr) : Prop := ∃ r f, W = some (r, f) ∧ (b = r ∨ b = f)
structure RillOk (H : Hp) (r f : Addr) (n : Nat) : Prop where
  ne : r ≠ f
  ex : ∃ (far : List Int) (flow turn : Int), H r = some (.dK [(.inr (Str.ofString "deep"), .ref f), (.inr (Str.ofString "seal"), .int flow), (.inr (Str.ofString "turn"), .int turn)]) ∧ H f = some (.lst (far.map V.int)) ∧
    (∀ x ∈ far, 0 ≤ x) ∧ far.length ≤ 64 ∧ 0 ≤ flow ∧ flow < 2 ^ 33 ∧ 0 ≤ turn ∧ turn + n < 2 ^ 62

/-- a value without a place, as data -/
inductive Scal : V → D → Prop
  | non : Scal .non .none
  | bl (b : Bool) : Scal (.bl b) (.bool b)
  | int (i : Int) : Scal (.int i) (.int i)
  | str (x : Str) : Scal (.str x) (.str x)
def keyD : Key → D
  | .inl i => .int i
  | .inr x => .str x
/-- a dict's entries as data: keys ints and texts, values without a place -/
inductive Flat : List (Key × V) → List (D × D) → Prop
  | nil : Flat [] []
  | cons {k : Key} {v : V} {d : D} {r : List (Key × V)} {q : List (D × D)} : Scal v d → Flat r q → Flat ((k, v) :: r) ((keyD k, d) :: q)
mutual
/-- what a value is as data: lists are tracked ones -/
inductive Dp (K : PySem.W.Frag) (H : Hp) : V → D → Prop
  | non : Dp K H .non .none
  | bl (b : Bool) : Dp K H (.bl b) (.bool b)
  | int (i : Int) : Dp K H (.int i) (.int i)
  | str (x : Str) : Dp K H (.str x) (.str x)
  | lst {a : Addr} {xs : List V} {ds : List D} : H a = some (.lst xs) → DpAll K H xs ds → Dp K H (.ref a) (.list ds)
  | tup {a : Addr} {xs : List V} {ds : List D} : SqT K H a xs → DpAll K H xs ds → Dp K H (.ref a) (.tuple ds)
  | dic {a : Addr} {kvs : List (Key × V)} {ds : List (D × D)} : H a = some (.dK kvs) → Flat kvs ds → Dp K H (.ref a) (.dict ds)
inductive DpAll (K : PySem.W.Frag) (H : Hp) : List V → List D → Prop
  | nil : DpAll K H [] []
  | cons {v : V} {vs : List V} {d : D} {ds : List D} : Dp K H v d → DpAll K H vs ds → DpAll K H (v :: vs) (d :: ds)
end
section
variable {K : PySem.W.Frag}
mutual
theorem Dp.to' {H : Hp} : ∀ (d : D) (v : V), d.hasDict = false → Dp K H v d → L2.Dp K H v d
  | .none, _, _, h => by cases h; exact .non
  | .bool b, _, _, h => by cases h; exact .bl b
  | .int i, _, _, h => by cases h; exact .int i
  | .str x, _, _, h => by cases h; exact .str x
  | .list ds, _, n, h => by
    cases h with
    | lst hs ha => exact .lst (SqL.of hs) (DpAll.to' ds _ (by simpa only [PyData.hasDict] using n) ha)
  | .tuple ds, _, n, h => by
    cases h with
    | tup hs ha => exact .tup hs (DpAll.to' ds _ (by simpa only [PyData.hasDict] using n) ha)
  | .dict _, _, n, h => by simp only [PyData.hasDict] at n; cases n
theorem DpAll.to' {H : Hp} : ∀ (ds : List D) (vs : List V), PyData.hasDictAll ds = false → DpAll K H vs ds → L2.DpAll K H vs ds
  | [], _, _, h => by cases h; exact .nil
  | d :: ds, _, n, h => by
    have n' : d.hasDict = false ∧ PyData.hasDictAll ds = false := by simpa only [PyData.hasDictAll, Bool.or_eq_false_iff] using n
    cases h with
    | cons h1 h2 => exact .cons (Dp.to' d _ n'.1 h1) (DpAll.to' ds _ n'.2 h2)
end
mutual
theorem noDict_lay : ∀ d : D, d.canLay0 = true → d.hasDict = false
  | .none, _ => by simp only [PyData.hasDict]
  | .bool _, _ => by simp only [PyData.hasDict]
  | .int _, _ => by simp only [PyData.hasDict]
  | .str _, _ => by simp only [PyData.hasDict]
  | .list ds, h => by simp only [PyData.hasDict]; exact noDict_lays ds (by simpa only [PyData.canLay0] using h)
  | .tuple ds, h => by simp only [PyData.hasDict]; exact noDict_lays ds (by simpa only [PyData.canLay0] using h)
  | .dict _, h => by simp only [PyData.canLay0] at h; cases h
theorem noDict_lays : ∀ ds : List D, PyData.canLayAll0 ds = true → PyData.hasDictAll ds = false
  | [], _ => by simp only [PyData.hasDictAll]
  | d :: ds, h => by
    have h' : d.canLay0 = true ∧ PyData.canLayAll0 ds = true := by simpa only [PyData.canLayAll0, Bool.and_eq_true] using h
    simp only [PyData.hasDictAll, noDict_lay d h'.1, noDict_lays ds h'.2, Bool.or_self]
end
theorem Dp.to {H : Hp} {d : D} {v : V} (h : Dp K H v d) (hs : SeqAt.shaped d = true) : L2.Dp K H v d := Dp.to' d v (noDict_lay d (SeqAt.canLay_of_shaped hs)) h
mutual
theorem Dp.mono' {H H' : Hp} (e : Same H H') : ∀ (d : D) (v : V), Dp K H v d → Dp K H' v d
  | .none, _, h => by cases h; exact .non
  | .bool b, _, h => by cases h; exact .bl b
  | .int i, _, h => by cases h; exact .int i
  | .str x, _, h => by cases h; exact .str x
  | .list ds, _, h => by
    cases h with
    | lst hs ha => exact .lst (e _ _ hs) (DpAll.mono' e ds _ ha)
  | .tuple ds, _, h => by
    cases h with
    | tup hs ha =>
      refine .tup ?_ (DpAll.mono' e ds _ ha)
      rcases hs with (h | ⟨o, h⟩) | h
      · exact .inl (.inl (e _ _ h))
      · exact .inl (.inr ⟨o, e _ _ h⟩)
      · exact .inr h
  | .dict _, _, h => by
    cases h with
    | dic hs hf => exact .dic (e _ _ hs) hf
theorem DpAll.mono' {H H' : Hp} (e : Same H H') : ∀ (ds : List D) (vs : List V), DpAll K H vs ds → DpAll K H' vs ds
  | [], _, h => by cases h; exact .nil
  | d :: ds, _, h => by
    cases h with
    | cons h1 h2 => exact .cons (Dp.mono' e d _ h1) (DpAll.mono' e ds _ h2)
end
theorem Dp.mono {H H' : Hp} (e : Same H H') {d : D} {v : V} (h : Dp K H v d) : Dp K H' v d := Dp.mono' e d v h
theorem DpAll.mono {H H' : Hp} (e : Same H H') {ds : List D} {vs : List V} (h : DpAll K H vs ds) : DpAll K H' vs ds := DpAll.mono' e ds vs h
theorem DpAll.length {H : Hp} : ∀ {vs : List V} {ds : List D}, DpAll K H vs ds → vs.length = ds.length
  | _, [], h => by cases h; rfl
  | _, d :: ds, h => by
    cases h with
    | cons h1 h2 => rw [List.length_cons, List.length_cons, DpAll.length h2]
theorem DpAll.get {H : Hp} : ∀ {ds : List D} {vs : List V} {i : Nat} {v : V}, DpAll K H vs ds → vs[i]? = some v → ∃ d, ds[i]? = some d ∧ Dp K H v d
  | [], _, _, _, h, e => by cases h; simp at e
  | d :: ds, _, 0, _, h, e => by
    cases h with
    | cons h1 h2 => simp at e; subst e; exact ⟨d, rfl, h1⟩
  | d :: ds, _, i + 1, v, h, e => by
    cases h with
    | cons h1 h2 =>
      obtain ⟨d', e1, e2⟩ := DpAll.get h2 (show _ = some v by simpa using e)
      exact ⟨d', by simpa using e1, e2⟩
theorem DpAll.get' {H : Hp} : ∀ {ds : List D} {vs : List V} {i : Nat} {d : D}, DpAll K H vs ds → ds[i]? = some d → ∃ v, vs[i]? = some v ∧ Dp K H v d
  | [], _, _, _, h, e => by simp at e
  | d :: ds, _, 0, _, h, e => by
    cases h with
    | cons h1 h2 => simp at e; subst e; exact ⟨_, rfl, h1⟩
  | _ :: ds, _, i + 1, d, h, e => by
    cases h with
    | cons h1 h2 =>
      obtain ⟨d', e1, e2⟩ := DpAll.get' h2 (show _ = some d by simpa using e)
      exact ⟨d', by simpa using e1, e2⟩
theorem DpAll.append {H : Hp} : ∀ {ds es : List D} {vs ws : List V}, DpAll K H vs ds → DpAll K H ws es → DpAll K H (vs ++ ws) (ds ++ es)
  | [], _, _, _, h, h' => by cases h; exact h'
  | d :: ds, _, _, _, h, h' => by
    cases h with
    | cons h1 h2 => exact .cons h1 (DpAll.append h2 h')
theorem DpAll.take {H : Hp} : ∀ {ds : List D} {vs : List V} (n : Nat), DpAll K H vs ds → DpAll K H (vs.take n) (ds.take n)
  | ds, vs, 0, _ => by simp only [List.take_zero]; exact .nil
  | [], _, n + 1, h => by cases h; exact .nil
  | d :: ds, _, n + 1, h => by
    cases h with
    | cons h1 h2 => exact .cons h1 (DpAll.take n h2)
theorem DpAll.drop {H : Hp} : ∀ {ds : List D} {vs : List V} (n : Nat), DpAll K H vs ds → DpAll K H (vs.drop n) (ds.drop n)
  | ds, vs, 0, h => by simpa using h
  | [], _, n + 1, h => by cases h; exact .nil
  | d :: ds, _, n + 1, h => by
    cases h with
    | cons h1 h2 => exact DpAll.drop n h2
theorem DpAll.of_get {H : Hp} : ∀ {ds : List D} {vs : List V}, vs.length = ds.length → (∀ (i : Nat) v d, vs[i]? = some v → ds[i]? = some d → Dp K H v d) → DpAll K H vs ds
  | [], [], _, _ => .nil
  | [], _ :: _, h, _ => by simp at h
  | _ :: _, [], h, _ => by simp at h
  | d :: ds, v :: vs, h, f => .cons (f 0 v d rfl rfl) (DpAll.of_get (by simpa using h) fun i v' d' e1 e2 => f (i + 1) v' d' (by simpa using e1) (by simpa using e2))
mutual
/-- no list within -/
def noList : D → Bool
  | .list _ => false
  | .tuple ds => noListAll ds
  | .dict _ => false
  | _ => true
def noListAll : List D → Bool
  | [] => true
  | d :: ds => noList d && noListAll ds
end
mutual
theorem Dp.tups' {H H' : Hp} (e : ∀ b o, H b = some o → H' b = some o ∨ ∃ xs, o = .lst xs) : ∀ (d : D) (v : V), noList d = true → Dp K H v d → Dp K H' v d
  | .none, _, _, h => by cases h; exact .non
  | .bool b, _, _, h => by cases h; exact .bl b
  | .int i, _, _, h => by cases h; exact .int i
  | .str x, _, _, h => by cases h; exact .str x
  | .list ds, _, n, _ => by simp [noList] at n
  | .tuple ds, _, n, h => by
    cases h with
    | tup hs ha =>
      refine .tup ?_ (DpAll.tups' e ds _ (by simpa [noList] using n) ha)
      rcases hs with (h | ⟨o, h⟩) | h
      · rcases e _ _ h with z | ⟨xs, z⟩
        · exact .inl (.inl z)
        · cases z
      · rcases e _ _ h with z | ⟨xs, z⟩
        · exact .inl (.inr ⟨o, z⟩)
        · cases z
      · exact .inr h
  | .dict _, _, n, _ => by simp [noList] at n
theorem DpAll.tups' {H H' : Hp} (e : ∀ b o, H b = some o → H' b = some o ∨ ∃ xs, o = .lst xs) : ∀ (ds : List D) (vs : List V), noListAll ds = true → DpAll K H vs ds → DpAll K H' vs ds
  | [], _, _, h => by cases h; exact .nil
  | d :: ds, _, n, h => by
    cases h with
    | cons h1 h2 =>
      have n' : noList d = true ∧ noListAll ds = true := by simpa [noListAll] using n
      exact .cons (Dp.tups' e d _ n'.1 h1) (DpAll.tups' e ds _ n'.2 h2)
end

def SlotOk (K : PySem.W.Frag) (g : Gh) (S Vs : Hp) : DV → V → Prop
  | .dat d, v => Dp K S v d
  | .own ds, v => ∃ a xs, v = .ref a ∧ Vs a = some (.lst xs) ∧ S a = none ∧ g.H0 a = none ∧ DpAll K S xs ds
  | .rl, v => ∃ r f, g.W = some (r, f) ∧ v = .ref r
  | .scr ns, v => ∃ a, v = .ref a ∧ SqL K g.S0 a (ns.map V.int)
  | .rg lo hi, v => ∃ a, v = .ref a ∧ S a = some (.rng lo hi)

structure SR (K : PySem.W.Frag) (g : Gh) (n : Nat) (δ : DS) (σ : L2.St) (H S Vs : Hp) : Prop where
  S0S : Same g.S0 S
  SV : Same S Vs
  VH : Same Vs H
  VS : ∀ b o, Vs b = some o → S b = some o ∨ ∃ xs, o = .lst xs
  base : ∀ b o, g.H0 b = some o → ¬ inW g.W b → H b = some o
  nW : ∀ b, inW g.W b → Vs b = none
  fresh : ∀ b o, Vs b = some o → g.S0 b = some o ∨ g.H0 b = none
  rill : ∀ r f, g.W = some (r, f) → RillOk H r f n
  len : σ.length = δ.length
  slots : ∀ (i : Nat) x, δ[i]? = some (some x) → ∃ v, σ[i]? = some (some v) ∧ SlotOk K g S Vs x v
  apart : ∀ (i j : Nat) ds es, i ≠ j → δ[i]? = some (some (.own ds)) → δ[j]? = some (some (.own es)) → σ[i]? ≠ σ[j]?
  tmps : ∀ a ∈ g.T, S a = none ∧ (∃ xs, Vs a = some (.lst xs)) ∧ ∀ (i : Nat) ds, δ[i]? = some (some (.own ds)) → σ[i]? ≠ some (some (.ref a))

variable {g : Gh} {n m : Nat} {δ : DS} {σ : L2.St} {H S Vs : Hp} {p a : Addr} {o : HO}

theorem same_upd {H : Hp} {p : Addr} {o : HO} (h : H p = none) : Same H (upd H p o) := fun b x e => by
  rw [upd_ne (ne_of_none e h)]
  exact e
theorem upd_none {H : Hp} {p b : Addr} {o : HO} (hb : b ≠ p) (h : H b = none) : upd H p o b = none := by rw [upd_ne hb]; exact h
theorem SR.SH (h : SR K g n δ σ H S Vs) : Same S H := h.SV.trans h.VH
theorem SR.less (h : SR K g n δ σ H S Vs) (hm : m ≤ n) : SR K g m δ σ H S Vs :=
  ⟨h.S0S, h.SV, h.VH, h.VS, h.base, h.nW, h.fresh, fun r f e => by
    obtain ⟨ne, far, flow, turn, a1, a2, a3, a4, a5, a6, a7, a8⟩ := h.rill r f e
    exact ⟨ne, far, flow, turn, a1, a2, a3, a4, a5, a6, a7, by omega⟩, h.len, h.slots, h.apart, h.tmps⟩
theorem RillOk.has {H : Hp} {r f b : Addr} {n : Nat} (h : RillOk H r f n) (hb : b = r ∨ b = f) : ∃ o, H b = some o := by
  obtain ⟨_, far, flow, turn, a1, a2, _⟩ := h
  rcases hb with rfl | rfl
  · exact ⟨_, a1⟩
  · exact ⟨_, a2⟩
theorem SR.notW (h : SR K g n δ σ H S Vs) (hp : H p = none) : ¬ inW g.W p := fun ⟨r, f, e, hb⟩ => by
  obtain ⟨o, q⟩ := (h.rill r f e).has hb
  rw [hp] at q; cases q
theorem RillOk.upd {H : Hp} {r f p : Addr} {n : Nat} {o : HO} (h : RillOk H r f n) (hp : ¬ (p = r ∨ p = f)) : RillOk (upd H p o) r f n := by
  obtain ⟨ne, far, flow, turn, a1, a2, a3⟩ := h
  refine ⟨ne, far, flow, turn, ?_, ?_, a3⟩
  · rw [upd_ne fun z => hp (.inl z.symm)]; exact a1
  · rw [upd_ne fun z => hp (.inr z.symm)]; exact a2
theorem SR.h0 (h : SR K g n δ σ H S Vs) (hp : H p = none) : g.H0 p = none := by
  cases q : g.H0 p with
  | none => rfl
  | some o => rw [h.base p o q (h.notW hp)] at hp; cases hp
theorem SR.vN (h : SR K g n δ σ H S Vs) (hp : H p = none) : Vs p = none := h.VH.free hp
theorem SR.sN (h : SR K g n δ σ H S Vs) (hp : H p = none) : S p = none := h.SH.free hp
/-- a new object that is not known -/
theorem SR.temp (h : SR K g n δ σ H S Vs) (hp : H p = none) : SR K g n δ σ (upd H p o) S Vs :=
  ⟨h.S0S, h.SV, h.VH.trans (same_upd hp), h.VS, fun b x e w => by rw [upd_ne fun z => by subst z; rw [h.h0 hp] at e; cases e]; exact h.base b x e w, h.nW, h.fresh,
    fun r f e => (h.rill r f e).upd fun z => h.notW hp ⟨r, f, e, z⟩, h.len, h.slots, h.apart, h.tmps⟩
/-- a new object gets known -/
theorem SR.track (h : SR K g n δ σ H S Vs) (hH : H p = some o) (hV : Vs p = none) (h0 : g.H0 p = none) (hw : ¬ inW g.W p) : SR K g n δ σ H (upd S p o) (upd Vs p o) := by
  have hS : S p = none := h.SV.free hV
  refine ⟨h.S0S.trans (same_upd hS), fun b x e => ?_, fun b x e => ?_, fun b x e => ?_, h.base, fun b w => ?_, fun b x e => ?_, h.rill, h.len, fun i x e => ?_, h.apart, fun a ha => ?_⟩
  · by_cases hb : b = p
    · subst hb; rw [upd_same] at e ⊢; exact e
    · rw [upd_ne hb] at e ⊢; exact h.SV b x e
  · by_cases hb : b = p
    · subst hb; rw [upd_same] at e; rw [hH]; exact e
    · rw [upd_ne hb] at e; exact h.VH b x e
  · by_cases hb : b = p
    · subst hb; rw [upd_same] at e ⊢; exact .inl e
    · rw [upd_ne hb] at e ⊢; exact h.VS b x e
  · rw [upd_ne fun z => hw (by rw [← z]; exact w)]; exact h.nW b w
  · by_cases hb : b = p
    · subst hb; exact .inr h0
    · rw [upd_ne hb] at e; exact h.fresh b x e
  · obtain ⟨v, e1, e2⟩ := h.slots i x e
    refine ⟨v, e1, ?_⟩
    cases x with
    | dat d => exact Dp.mono (same_upd hS) e2
    | own ds =>
      obtain ⟨a, xs, ev, ea, es, eh, ed⟩ := e2
      have ne : a ≠ p := ne_of_none ea hV
      exact ⟨a, xs, ev, by rw [upd_ne ne]; exact ea, by rw [upd_ne ne]; exact es, eh, DpAll.mono (same_upd hS) ed⟩
    | rl => exact e2
    | scr _ => exact e2
    | rg _ _ =>
      obtain ⟨a0, ev0, ea0⟩ := e2
      exact ⟨a0, ev0, (same_upd hS) _ _ ea0⟩
  · obtain ⟨q1, ⟨xs, q2⟩, q3⟩ := h.tmps a ha
    have ne : a ≠ p := ne_of_none q2 hV
    exact ⟨by rw [upd_ne ne]; exact q1, ⟨xs, by rw [upd_ne ne]; exact q2⟩, q3⟩
theorem SR.alloc (h : SR K g n δ σ H S Vs) (hp : H p = none) : SR K g n δ σ (upd H p o) (upd S p o) (upd Vs p o) :=
  (h.temp hp).track upd_same (h.vN hp) (h.h0 hp) (h.notW hp)
theorem set_get {α : Type} {l : List (Option α)} {i j : Nat} {x y : α} (e : (l.set i (some y))[j]? = some (some x)) : (i = j ∧ x = y) ∨ (i ≠ j ∧ l[j]? = some (some x)) := by
  by_cases h : i = j
  · subst h
    rw [List.getElem?_set] at e
    split at e
    · split at e
      · exact .inl ⟨rfl, ((Option.some.inj (Option.some.inj e))).symm⟩
      · cases e
    · exact absurd rfl ‹_›
  · rw [List.getElem?_set_ne h] at e
    exact .inr ⟨h, e⟩
/-- a slot is stored: data -/
theorem SR.set (h : SR K g n δ σ H S Vs) {i : Nat} {v : V} {d : D} (hi : i < δ.length) (hd : Dp K S v d) : SR K g n (δ.set i (some (.dat d))) (σ.set i (some v)) H S Vs := by
  refine ⟨h.S0S, h.SV, h.VH, h.VS, h.base, h.nW, h.fresh, h.rill, by simp [h.len], fun j x e => ?_, fun j k ds es hjk e1 e2 => ?_, fun a ha => ?_⟩
  · rcases set_get e with ⟨rfl, rfl⟩ | ⟨hj, e⟩
    · exact ⟨v, by rw [List.getElem?_set_self (by rw [h.len]; exact hi)], hd⟩
    · obtain ⟨u, e1, e2⟩ := h.slots j x e
      exact ⟨u, by rw [List.getElem?_set_ne hj]; exact e1, e2⟩
  · rcases set_get e1 with ⟨_, z⟩ | ⟨hj, e1⟩
    · cases z
    rcases set_get e2 with ⟨_, z⟩ | ⟨hk, e2⟩
    · cases z
    rw [List.getElem?_set_ne hj, List.getElem?_set_ne hk]
    exact h.apart j k ds es hjk e1 e2
  · obtain ⟨q1, q2, q3⟩ := h.tmps a ha
    refine ⟨q1, q2, fun j ds e => ?_⟩
    rcases set_get e with ⟨_, z⟩ | ⟨hj, e⟩
    · cases z
    · rw [List.getElem?_set_ne hj]; exact q3 j ds e
/-- a slot is stored: the drawing dict -/
theorem SR.setR (h : SR K g n δ σ H S Vs) {i : Nat} {r f : Addr} (hi : i < δ.length) (hr : g.W = some (r, f)) : SR K g n (δ.set i (some .rl)) (σ.set i (some (.ref r))) H S Vs := by
  refine ⟨h.S0S, h.SV, h.VH, h.VS, h.base, h.nW, h.fresh, h.rill, by simp [h.len], fun j x e => ?_, fun j k ds es hjk e1 e2 => ?_, fun a ha => ?_⟩
  · rcases set_get e with ⟨rfl, rfl⟩ | ⟨hj, e⟩
    · exact ⟨_, by rw [List.getElem?_set_self (by rw [h.len]; exact hi)], r, f, hr, rfl⟩
    · obtain ⟨u, e1, e2⟩ := h.slots j x e
      exact ⟨u, by rw [List.getElem?_set_ne hj]; exact e1, e2⟩
  · rcases set_get e1 with ⟨_, z⟩ | ⟨hj, e1⟩
    · cases z
    rcases set_get e2 with ⟨_, z⟩ | ⟨hk, e2⟩
    · cases z
    rw [List.getElem?_set_ne hj, List.getElem?_set_ne hk]
    exact h.apart j k ds es hjk e1 e2
  · obtain ⟨q1, q2, q3⟩ := h.tmps a ha
    refine ⟨q1, q2, fun j ds e => ?_⟩
    rcases set_get e with ⟨_, z⟩ | ⟨hj, e⟩
    · cases z
    · rw [List.getElem?_set_ne hj]; exact q3 j ds e
/-- a slot is forgotten -/
theorem set_none_get {α : Type} {l : List (Option α)} {i j : Nat} {x : α} (e : (l.set i none)[j]? = some (some x)) : i ≠ j ∧ l[j]? = some (some x) := by
  by_cases h : i = j
  · subst h
    rw [List.getElem?_set] at e
    split at e
    · split at e <;> cases e
    · exact absurd rfl ‹_›
  · rw [List.getElem?_set_ne h] at e
    exact ⟨h, e⟩
theorem SR.drop (h : SR K g n δ σ H S Vs) (i : Nat) : SR K g n (δ.set i none) σ H S Vs :=
  ⟨h.S0S, h.SV, h.VH, h.VS, h.base, h.nW, h.fresh, h.rill, by simp [h.len], fun j x e => h.slots j x (set_none_get e).2,
    fun j k ds es hjk e1 e2 => h.apart j k ds es hjk (set_none_get e1).2 (set_none_get e2).2,
    fun a ha => ⟨(h.tmps a ha).1, (h.tmps a ha).2.1, fun j ds e => (h.tmps a ha).2.2 j ds (set_none_get e).2⟩⟩
theorem SR.drop2 (h : SR K g n δ σ H S Vs) (i : Nat) : SR K g n (δ.set i none) (σ.set i none) H S Vs :=
  ⟨h.S0S, h.SV, h.VH, h.VS, h.base, h.nW, h.fresh, h.rill, by simp [h.len], fun j x e => by
    obtain ⟨hj, e⟩ := set_none_get e
    obtain ⟨u, e1, e2⟩ := h.slots j x e
    exact ⟨u, by rw [List.getElem?_set_ne hj]; exact e1, e2⟩,
    fun j k ds es hjk e1 e2 => by
      obtain ⟨hj, e1⟩ := set_none_get e1
      obtain ⟨hk, e2⟩ := set_none_get e2
      rw [List.getElem?_set_ne hj, List.getElem?_set_ne hk]
      exact h.apart j k ds es hjk e1 e2,
    fun a ha => ⟨(h.tmps a ha).1, (h.tmps a ha).2.1, fun j ds e => by
      obtain ⟨hj, e⟩ := set_none_get e
      rw [List.getElem?_set_ne hj]
      exact (h.tmps a ha).2.2 j ds e⟩⟩
def wipeD (δ : DS) : List Nat → DS
  | [] => δ
  | v :: vs => (wipeD δ vs).set v none
theorem SR.wip (h : SR K g n δ σ H S Vs) : ∀ vs : List Nat, SR K g n (wipeD δ vs) (L2.wipe σ vs) H S Vs
  | [] => h
  | v :: vs => (SR.wip h vs).drop2 v
/-- a slot is stored: a new list -/
theorem SR.setO (h : SR K g n δ σ H S Vs) {i : Nat} {xs : List V} {ds : List D} (hi : i < δ.length) (hH : H p = some (.lst xs)) (hV : Vs p = none) (h0 : g.H0 p = none) (hw : ¬ inW g.W p) (hd : DpAll K S xs ds) :
    SR K g n (δ.set i (some (.own ds))) (σ.set i (some (.ref p))) H S (upd Vs p (.lst xs)) := by
  have hS : S p = none := h.SV.free hV
  have neo : ∀ (j : Nat) es, δ[j]? = some (some (.own es)) → ∀ v, σ[j]? = some v → v ≠ some (.ref p) := fun j es e v q z => by
    obtain ⟨u, e1, a, xs, e2, e3, _⟩ := h.slots j _ e
    rw [e1] at q; cases q
    subst e2
    cases z
    rw [hV] at e3; cases e3
  refine ⟨h.S0S, h.SV.trans (same_upd hV), fun b x e => ?_, fun b x e => ?_, h.base, fun b w => ?_, fun b x e => ?_, h.rill, by simp [h.len], fun j x e => ?_, fun j k ds' es' hjk e1 e2 => ?_, fun a ha => ?_⟩
  · by_cases hb : b = p
    · subst hb; rw [upd_same] at e; rw [hH]; exact e
    · rw [upd_ne hb] at e; exact h.VH b x e
  · by_cases hb : b = p
    · subst hb; rw [upd_same] at e; cases e; exact .inr ⟨_, rfl⟩
    · rw [upd_ne hb] at e; exact h.VS b x e
  · rw [upd_ne fun z => hw (by rw [← z]; exact w)]; exact h.nW b w
  · by_cases hb : b = p
    · subst hb; exact .inr h0
    · rw [upd_ne hb] at e; exact h.fresh b x e
  · rcases set_get e with ⟨rfl, rfl⟩ | ⟨hj, e⟩
    · exact ⟨_, by rw [List.getElem?_set_self (by rw [h.len]; exact hi)], p, xs, rfl, upd_same, hS, h0, hd⟩
    · obtain ⟨u, e1, e2⟩ := h.slots j x e
      refine ⟨u, by rw [List.getElem?_set_ne hj]; exact e1, ?_⟩
      cases x with
      | dat d => exact e2
      | own ds =>
        obtain ⟨a, ys, ev, ea, es, eh, ed⟩ := e2
        exact ⟨a, ys, ev, by rw [upd_ne (ne_of_none ea hV)]; exact ea, es, eh, ed⟩
      | rl => exact e2
      | scr _ => exact e2
      | rg _ _ => exact e2
  · have hlen : i < σ.length := by rw [h.len]; exact hi
    rcases set_get e1 with ⟨rfl, _⟩ | ⟨hj, e1⟩
    · rcases set_get e2 with ⟨rfl, _⟩ | ⟨hk, e2⟩
      · exact absurd rfl hjk
      · rw [List.getElem?_set_self hlen, List.getElem?_set_ne hk]
        exact fun z => neo k _ e2 _ z.symm rfl
    · rcases set_get e2 with ⟨rfl, _⟩ | ⟨hk, e2⟩
      · rw [List.getElem?_set_self hlen, List.getElem?_set_ne hj]
        exact fun z => neo j _ e1 _ z rfl
      · rw [List.getElem?_set_ne hj, List.getElem?_set_ne hk]
        exact h.apart j k ds' es' hjk e1 e2
  · obtain ⟨q1, ⟨ys, q2⟩, q3⟩ := h.tmps a ha
    have ne : a ≠ p := ne_of_none q2 hV
    refine ⟨q1, ⟨ys, by rw [upd_ne ne]; exact q2⟩, fun j ds e => ?_⟩
    rcases set_get e with ⟨rfl, _⟩ | ⟨hj, e⟩
    · rw [List.getElem?_set_self (by rw [h.len]; exact hi)]
      exact fun z => ne (by cases z; rfl)
    · rw [List.getElem?_set_ne hj]; exact q3 j ds e
/-- an own list is changed -/
theorem SR.mut (h : SR K g n δ σ H S Vs) {i : Nat} {ys : List V} {ds es : List D} (hi : δ[i]? = some (some (.own ds))) (hv : σ[i]? = some (some (.ref a))) (hd : DpAll K S ys es) :
    SR K g n (δ.set i (some (.own es))) σ (upd H a (.lst ys)) S (upd Vs a (.lst ys)) := by
  obtain ⟨v, e1, a', xs, e2, e3, e4, e5, e6⟩ := h.slots i _ hi
  rw [hv] at e1
  cases e1
  cases e2
  have hil : i < δ.length := (List.getElem?_eq_some_iff.mp hi).1
  have hw : ¬ inW g.W a := fun w => by rw [h.nW a w] at e3; cases e3
  refine ⟨h.S0S, fun b x e => ?_, fun b x e => ?_, fun b x e => ?_, fun b x e w => ?_, fun b w => ?_, fun b x e => ?_, fun r f e => (h.rill r f e).upd fun z => hw ⟨r, f, e, z⟩, by simp [h.len], fun j x e => ?_, fun j k ds' es' hjk q1 q2 => ?_, fun b hb => ?_⟩
  · rw [upd_ne (ne_of_none e e4)]; exact h.SV b x e
  · by_cases hb : b = a
    · subst hb; rw [upd_same] at e ⊢; exact e
    · rw [upd_ne hb] at e ⊢; exact h.VH b x e
  · by_cases hb : b = a
    · subst hb; rw [upd_same] at e; cases e; exact .inr ⟨_, rfl⟩
    · rw [upd_ne hb] at e; exact h.VS b x e
  · rw [upd_ne (ne_of_none e e5)]; exact h.base b x e w
  · rw [upd_ne fun z => hw (by rw [← z]; exact w)]; exact h.nW b w
  · by_cases hb : b = a
    · subst hb; exact .inr e5
    · rw [upd_ne hb] at e; exact h.fresh b x e
  · rcases set_get e with ⟨rfl, rfl⟩ | ⟨hj, e⟩
    · exact ⟨_, hv, a, ys, rfl, upd_same, e4, e5, hd⟩
    · obtain ⟨u, q1, q2⟩ := h.slots j x e
      refine ⟨u, q1, ?_⟩
      cases x with
      | dat d => exact q2
      | own ds' =>
        obtain ⟨a', ys', ev, ea, es, eh, ed⟩ := q2
        have ne : a' ≠ a := fun z => by
          subst z
          subst ev
          exact h.apart i j ds ds' hj hi e (by rw [hv, q1])
        exact ⟨a', ys', ev, by rw [upd_ne ne]; exact ea, es, eh, ed⟩
      | rl => exact q2
      | scr _ => exact q2
      | rg _ _ => exact q2
  · rcases set_get q1 with ⟨rfl, _⟩ | ⟨hj, q1⟩
    · rcases set_get q2 with ⟨rfl, _⟩ | ⟨hk, q2⟩
      · exact absurd rfl hjk
      · exact h.apart i k ds es' hjk hi q2
    · rcases set_get q2 with ⟨rfl, _⟩ | ⟨hk, q2⟩
      · exact h.apart j i ds' ds hjk q1 hi
      · exact h.apart j k ds' es' hjk q1 q2
  · obtain ⟨q1, ⟨zs, q2⟩, q3⟩ := h.tmps b hb
    have ne : b ≠ a := fun z => q3 i ds hi (by rw [hv, z])
    refine ⟨q1, ⟨zs, by rw [upd_ne ne]; exact q2⟩, fun j ds' e => ?_⟩
    rcases set_get e with ⟨rfl, _⟩ | ⟨hj, e⟩
    · exact q3 i ds hi
    · exact q3 j ds' e
/-- an own list is given away -/
theorem SR.freeze (h : SR K g n δ σ H S Vs) (hT : g.T = []) {i : Nat} {ds : List D} (hi : δ[i]? = some (some (.own ds))) :
    ∃ S', SR K g n (δ.set i (some (.dat (.list ds)))) σ H S' Vs ∧ Same S S' := by
  obtain ⟨v, e1, a, xs, e2, e3, e4, e5, e6⟩ := h.slots i _ hi
  subst e2
  have hil : i < δ.length := (List.getElem?_eq_some_iff.mp hi).1
  refine ⟨upd S a (.lst xs), ⟨h.S0S.trans (same_upd e4), fun b x e => ?_, h.VH, fun b x e => ?_, h.base, h.nW, h.fresh, h.rill, by simp [h.len], fun j x e => ?_, fun j k ds' es' hjk q1 q2 => ?_, fun b hb => by rw [hT] at hb; cases hb⟩, same_upd e4⟩
  · by_cases hb : b = a
    · subst hb; rw [upd_same] at e; rw [e3]; exact e
    · rw [upd_ne hb] at e; exact h.SV b x e
  · rcases h.VS b x e with z | z
    · exact .inl (same_upd e4 b x z)
    · exact .inr z
  · rcases set_get e with ⟨rfl, rfl⟩ | ⟨hj, e⟩
    · exact ⟨_, e1, .lst upd_same (DpAll.mono (same_upd e4) e6)⟩
    · obtain ⟨u, q1, q2⟩ := h.slots j x e
      refine ⟨u, q1, ?_⟩
      cases x with
      | dat d => exact Dp.mono (same_upd e4) q2
      | own ds' =>
        obtain ⟨a', ys', ev, ea, es, eh, ed⟩ := q2
        have ne : a' ≠ a := fun z => by
          subst z
          subst ev
          exact h.apart i j ds ds' hj hi e (by rw [e1, q1])
        exact ⟨a', ys', ev, ea, by rw [upd_ne ne]; exact es, eh, DpAll.mono (same_upd e4) ed⟩
      | rl => exact q2
      | scr _ => exact q2
      | rg _ _ =>
        obtain ⟨a0, ev0, ea0⟩ := q2
        exact ⟨a0, ev0, (same_upd e4) _ _ ea0⟩
  · rcases set_get q1 with ⟨_, z⟩ | ⟨hj, q1⟩
    · cases z
    rcases set_get q2 with ⟨_, z⟩ | ⟨hk, q2⟩
    · cases z
    exact h.apart j k ds' es' hjk q1 q2
/-- the outer state again, behind what a block did -/
theorem SR.regrow {δw : DS} {σw : L2.St} {H' S' Vs' : Hp} (h : SR K g n δ σ H S Vs) (h' : SR K g m δw σw H' S' Vs') (s1 : Same S S') (s2 : Same Vs Vs')
    (ho : ∀ (i : Nat) ds, δ[i]? = some (some (.own ds)) → δw[i]? = some (some (.own ds)) ∧ σw[i]? = σ[i]?) : SR K g m δ σ H' S' Vs' := by
  refine ⟨h'.S0S, h'.SV, h'.VH, h'.VS, h'.base, h'.nW, h'.fresh, h'.rill, h.len, fun i x e => ?_, h.apart, fun a ha => ?_⟩
  · obtain ⟨v, e1, e2⟩ := h.slots i x e
    refine ⟨v, e1, ?_⟩
    cases x with
    | dat d => exact Dp.mono s1 e2
    | own ds =>
      obtain ⟨a, xs, ev, ea, es, eh, ed⟩ := e2
      obtain ⟨o1, o2⟩ := ho i ds e
      obtain ⟨v', f1, a', xs', fv, fa, fs, fh, fd⟩ := h'.slots i _ o1
      rw [o2, e1] at f1
      cases f1
      rw [ev] at fv
      cases fv
      exact ⟨a, xs, ev, s2 _ _ ea, fs, eh, DpAll.mono s1 ed⟩
    | rl => exact e2
    | scr _ => exact e2
    | rg _ _ =>
      obtain ⟨a0, ev0, ea0⟩ := e2
      exact ⟨a0, ev0, s1 _ _ ea0⟩
  · obtain ⟨q1, ⟨xs, q2⟩, q3⟩ := h.tmps a ha
    exact ⟨(h'.tmps a ha).1, ⟨xs, s2 _ _ q2⟩, q3⟩
/-- a new list that no slot holds -/
theorem SR.withTmp {xs : List V} (h : SR K g n δ σ H S Vs) (hH : H p = some (.lst xs)) (hV : Vs p = none) (h0 : g.H0 p = none) (hw : ¬ inW g.W p) :
    SR K { g with T := p :: g.T } n δ σ H S (upd Vs p (.lst xs)) := by
  refine ⟨h.S0S, h.SV.trans (same_upd hV), fun b x e => ?_, fun b x e => ?_, h.base, fun b w => ?_, fun b x e => ?_, h.rill, h.len, fun j x e => ?_, h.apart, fun b hb => ?_⟩
  · by_cases hb : b = p
    · subst hb; rw [upd_same] at e; rw [hH]; exact e
    · rw [upd_ne hb] at e; exact h.VH b x e
  · by_cases hb : b = p
    · subst hb; rw [upd_same] at e; cases e; exact .inr ⟨_, rfl⟩
    · rw [upd_ne hb] at e; exact h.VS b x e
  · rw [upd_ne fun z => hw (by rw [← z]; exact w)]; exact h.nW b w
  · by_cases hb : b = p
    · subst hb; exact .inr h0
    · rw [upd_ne hb] at e; exact h.fresh b x e
  · obtain ⟨u, e1, e2⟩ := h.slots j x e
    refine ⟨u, e1, ?_⟩
    cases x with
    | dat d => exact e2
    | own ds =>
      obtain ⟨a, ys, ev, ea, es, eh, ed⟩ := e2
      exact ⟨a, ys, ev, by rw [upd_ne (ne_of_none ea hV)]; exact ea, es, eh, ed⟩
    | rl => exact e2
    | scr _ => exact e2
    | rg _ _ => exact e2
  · rcases List.mem_cons.mp hb with rfl | hb
    · refine ⟨h.SV.free hV, ⟨xs, upd_same⟩, fun i ds e z => ?_⟩
      obtain ⟨u, e1, a, ys, ev, ea, _⟩ := h.slots i _ e
      rw [z] at e1
      cases e1
      cases ev
      rw [hV] at ea; cases ea
    · obtain ⟨q1, ⟨ys, q2⟩, q3⟩ := h.tmps b hb
      exact ⟨q1, ⟨ys, by rw [upd_ne (ne_of_none q2 hV)]; exact q2⟩, q3⟩
/-- .. is changed -/
theorem SR.tmpMut {T : List Addr} {ys : List V} (h : SR K { g with T := p :: T } n δ σ H S Vs) (h0 : g.H0 p = none) (hT : p ∉ T) :
    SR K { g with T := p :: T } n δ σ (upd H p (.lst ys)) S (upd Vs p (.lst ys)) := by
  obtain ⟨q1, ⟨xs, q2⟩, q3⟩ := h.tmps p List.mem_cons_self
  have hw : ¬ inW g.W p := fun w => by rw [h.nW p w] at q2; cases q2
  refine ⟨h.S0S, fun b x e => ?_, fun b x e => ?_, fun b x e => ?_, fun b x e w => ?_, fun b w => ?_, fun b x e => ?_, fun r f e => (h.rill r f e).upd fun z => hw ⟨r, f, e, z⟩, h.len, fun j x e => ?_, h.apart, fun b hb => ?_⟩
  · rw [upd_ne (ne_of_none e q1)]; exact h.SV b x e
  · by_cases hb : b = p
    · subst hb; rw [upd_same] at e ⊢; exact e
    · rw [upd_ne hb] at e ⊢; exact h.VH b x e
  · by_cases hb : b = p
    · subst hb; rw [upd_same] at e; cases e; exact .inr ⟨_, rfl⟩
    · rw [upd_ne hb] at e; exact h.VS b x e
  · rw [upd_ne (ne_of_none e h0)]; exact h.base b x e w
  · rw [upd_ne fun z => hw (by rw [← z]; exact w)]; exact h.nW b w
  · by_cases hb : b = p
    · subst hb; exact .inr h0
    · rw [upd_ne hb] at e; exact h.fresh b x e
  · obtain ⟨u, e1, e2⟩ := h.slots j x e
    refine ⟨u, e1, ?_⟩
    cases x with
    | dat d => exact e2
    | own ds =>
      obtain ⟨a, zs, ev, ea, es, eh, ed⟩ := e2
      have ne : a ≠ p := fun z => q3 j ds e (by rw [e1, ev, z])
      exact ⟨a, zs, ev, by rw [upd_ne ne]; exact ea, es, eh, ed⟩
    | rl => exact e2
    | scr _ => exact e2
    | rg _ _ => exact e2
  · rcases List.mem_cons.mp hb with rfl | hb
    · exact ⟨q1, ⟨ys, upd_same⟩, q3⟩
    · obtain ⟨r1, ⟨zs, r2⟩, r3⟩ := h.tmps b (List.mem_cons_of_mem _ hb)
      exact ⟨r1, ⟨zs, by rw [upd_ne (show b ≠ p from fun z => hT (z ▸ hb))]; exact r2⟩, r3⟩
/-- .. is known no longer as one -/
theorem SR.noTmp {T : List Addr} (h : SR K { g with T := T } n δ σ H S Vs) (hs : ∀ a ∈ g.T, a ∈ T) : SR K g n δ σ H S Vs :=
  ⟨h.S0S, h.SV, h.VH, h.VS, h.base, h.nW, h.fresh, h.rill, h.len, h.slots, h.apart, fun a ha => h.tmps a (hs a ha)⟩
end
end DL
/-! DL1: judgements over data states: expressions. -/
namespace DL
open PySem PySem.Spec L2

/-- borrowed: stands for ever, or a list of a slot's own with items that do -/
def BRep (K : PySem.W.Frag) (S Vs : Hp) (v : V) (d : D) : Prop := Dp K S v d ∨ ∃ a xs ds, d = .list ds ∧ v = .ref a ∧ Vs a = some (.lst xs) ∧ DpAll K S xs ds
def Rp (K : PySem.W.Frag) (b : Bool) (S Vs : Hp) (v : V) (d : D) : Prop := if b = true then Dp K S v d else BRep K S Vs v d
abbrev DTE := DS → Nat → (D → Nat → Prop) → Prop
abbrev DTT := DS → Nat → (Bool → Nat → Prop) → Prop
abbrev DTA := DS → Nat → (List D → Nat → Prop) → Prop
def lE (K : PySem.W.Frag) (b : Bool) (t : DTE) : TE := fun σ H Q => ∃ g n δ S Vs P, SR K g n δ σ H S Vs ∧ t δ n P ∧
  ∀ d m v H' S' Vs', P d m → SR K g m δ σ H' S' Vs' → Same S S' → Same Vs Vs' → Rp K b S' Vs' v d → Q v H'
def lT (K : PySem.W.Frag) (t : DTT) : TT := fun σ H Q => ∃ g n δ S Vs P, SR K g n δ σ H S Vs ∧ t δ n P ∧
  ∀ c m H' S' Vs', P c m → SR K g m δ σ H' S' Vs' → Same S S' → Same Vs Vs' → Q c H'
structure DE (X : Cx) (b : Bool) (e : Expr) (t : DTE) : Prop where
  run : PE X e (lE X.K b t)
structure DT (X : Cx) (e : Expr) (t : DTT) : Prop where
  run : PT X e (lT X.K t)
structure DW (X : Cx) (e : Expr) (t : DTT) : Prop where
  run : PW X e (lT X.K t)

section
variable {X : Cx} {K : PySem.W.Frag} {e a b c : Expr} {t u : TE} {pos : Pos}
theorem PE.imp (h : PE X e t) (hi : ∀ σ H Q, u σ H Q → t σ H Q) : PE X e u := ⟨fun pins s σ H Q I q => h.run pins s σ H Q I (hi σ H Q q)⟩
theorem PT.imp {t u : TT} (h : PT X e t) (hi : ∀ σ H Q, u σ H Q → t σ H Q) : PT X e u := ⟨fun pins s σ H Q I q => h.run pins s σ H Q I (hi σ H Q q)⟩
theorem PW.imp {t u : TT} (h : PW X e t) (hi : ∀ σ H Q, u σ H Q → t σ H Q) : PW X e u := ⟨fun wh pins s σ H Q I q => h.run wh pins s σ H Q I (hi σ H Q q)⟩
theorem Rp.br {b : Bool} {S Vs : Hp} {v : V} {d : D} (h : Rp K b S Vs v d) : BRep K S Vs v d := by
  unfold Rp at h
  split at h
  · exact .inl h
  · exact h
theorem BRep.dp {S Vs : Hp} {v : V} {d : D} (h : BRep K S Vs v d) (sv : Same S Vs) : Dp K Vs v d := by
  rcases h with h | ⟨a, xs, ds, rfl, rfl, h1, h2⟩
  · exact Dp.mono sv h
  · exact .lst h1 (DpAll.mono sv h2)
theorem BRep.mono {S Vs S' Vs' : Hp} {v : V} {d : D} (h : BRep K S Vs v d) (s1 : Same S S') (s2 : Same Vs Vs') : BRep K S' Vs' v d := by
  rcases h with h | ⟨a, xs, ds, rfl, rfl, h1, h2⟩
  · exact .inl (Dp.mono s1 h)
  · exact .inr ⟨a, xs, ds, rfl, rfl, s2 _ _ h1, DpAll.mono s1 h2⟩
theorem Rp.mono {b : Bool} {S Vs S' Vs' : Hp} {v : V} {d : D} (h : Rp K b S Vs v d) (s1 : Same S S') (s2 : Same Vs Vs') : Rp K b S' Vs' v d := by
  unfold Rp at h ⊢
  cases b with
  | true => exact Dp.mono s1 h
  | false => exact BRep.mono h s1 s2
theorem Rp.dp {b : Bool} {S Vs : Hp} {v : V} {d : D} (h : Rp K b S Vs v d) (sv : Same S Vs) : Dp K Vs v d := BRep.dp (Rp.br h) sv
theorem Rp.of {b : Bool} {S Vs : Hp} {v : V} {d : D} (h : Dp K S v d) : Rp K b S Vs v d := by
  unfold Rp
  cases b with
  | true => exact h
  | false => exact .inl h
theorem DE.weak {t : DTE} {b : Bool} (h : DE X b e t) : DE X false e t :=
  ⟨PE.imp h.run fun σ H Q ⟨g, n, δ, S, Vs, P, sr, ht, k⟩ => ⟨g, n, δ, S, Vs, P, sr, ht, fun d m v H' S' Vs' p sr' s1 s2 r => k d m v H' S' Vs' p sr' s1 s2 (show Rp X.K false S' Vs' v d from Rp.br r)⟩⟩

/-- data without the heap -/
def Sc (d : D) (v : V) : Prop := ∀ (K : PySem.W.Frag) (B : Hp), Dp K B v d
theorem sc_int (i : Int) : Sc (.int i) (.int i) := fun _ _ => .int i
theorem sc_bl (i : Bool) : Sc (.bool i) (.bl i) := fun _ _ => .bl i
theorem sc_str (i : Str) : Sc (.str i) (.str i) := fun _ _ => .str i
theorem sc_non : Sc .none .non := fun _ _ => .non

/-! ### constants, names -/
def dC (d : D) : DTE := fun _ n Q => Q d n
theorem de_c {v : V} {d : D} (h : PE X e (tC v)) (hs : Sc d v) : DE X true e (dC d) :=
  ⟨PE.imp h fun σ H Q ⟨g, n, δ, S, Vs, P, sr, ht, k⟩ => k d n v H S Vs ht sr (Same.refl _) (Same.refl _) (hs _ _)⟩
theorem de_int {i j pos} : DE X true (.Constant (.int i) j pos) (dC (.int i)) := de_c pe_int (sc_int i)
theorem de_bl {i j pos} : DE X true (.Constant (.bool i) j pos) (dC (.bool i)) := de_c pe_bl (sc_bl i)
theorem de_non {j pos} : DE X true (.Constant .none j pos) (dC .none) := de_c pe_non sc_non
theorem de_str {i j pos} : DE X true (.Constant (.str i) j pos) (dC (.str i)) := de_c pe_str (sc_str i)
def dVar (i : Nat) : DTE := fun δ n Q => ∃ d, δ[i]? = some (some (.dat d)) ∧ Q d n
def dOwn (i : Nat) : DTE := fun δ n Q => ∃ ds, δ[i]? = some (some (.own ds)) ∧ Q (.list ds) n
theorem de_var {i : Nat} (h : PE X e (tVar i)) : DE X true e (dVar i) :=
  ⟨PE.imp h fun σ H Q ⟨g, n, δ, S, Vs, P, sr, ⟨d, e1, ht⟩, k⟩ => by
    obtain ⟨v, e2, r⟩ := sr.slots i _ e1
    exact ⟨v, e2, k d n v H S Vs ht sr (Same.refl _) (Same.refl _) r⟩⟩
theorem de_own {i : Nat} (h : PE X e (tVar i)) : DE X false e (dOwn i) :=
  ⟨PE.imp h fun σ H Q ⟨g, n, δ, S, Vs, P, sr, ⟨ds, e1, ht⟩, k⟩ => by
    obtain ⟨v, e2, a, xs, ev, ea, es, eh, ed⟩ := sr.slots i _ e1
    exact ⟨v, e2, k _ n v H S Vs ht sr (Same.refl _) (Same.refl _) (.inr ⟨a, xs, ds, rfl, ev, ea, ed⟩)⟩⟩
/-- borrowed data without a list within stands for ever -/
def dNL (t : DTE) : DTE := fun δ n Q => t δ n fun d m => noList d = true ∧ Q d m
theorem SR.noList {g : Gh} {n : Nat} {δ : DS} {σ : L2.St} {H S Vs : Hp} {v : V} {d : D} (sr : SR K g n δ σ H S Vs) (h : Dp K Vs v d) (hn : noList d = true) : Dp K S v d := Dp.tups' sr.VS d v hn h
theorem de_nl {b : Bool} {t : DTE} (h : DE X b e t) : DE X true e (dNL t) :=
  ⟨PE.imp h.run fun σ H Q ⟨g, n, δ, S, Vs, P, sr, ht, k⟩ => ⟨g, n, δ, S, Vs, _, sr, ht, fun d m v H' S' Vs' ⟨p1, p2⟩ sr' s1 s2 r => k d m v H' S' Vs' p2 sr' s1 s2 (sr'.noList (Rp.dp r sr'.SV) p1)⟩⟩

/-! ### what an operation gives: known data, or a new object of known data -/
inductive Out (K : PySem.W.Frag) (B H : Hp) : D → V → Hp → Prop
  | same {d : D} {v : V} (h : Dp K B v d) : Out K B H d v H
  | tup {p : Addr} {xs : List V} {ds : List D} (hp : H p = none) (h : DpAll K B xs ds) : Out K B H (.tuple ds) (.ref p) (upd H p (.tup xs))
  | lst {p : Addr} {xs : List V} {ds : List D} (hp : H p = none) (h : DpAll K B xs ds) : Out K B H (.list ds) (.ref p) (upd H p (.lst xs))
theorem SR.out {g : Gh} {n : Nat} {δ : DS} {σ : L2.St} {H S Vs H' : Hp} {v : V} {d : D} (sr : SR K g n δ σ H S Vs) (o : Out K S H d v H') :
    ∃ S' Vs', SR K g n δ σ H' S' Vs' ∧ Same S S' ∧ Same Vs Vs' ∧ Dp K S' v d := by
  cases o with
  | same h => exact ⟨S, Vs, sr, Same.refl _, Same.refl _, h⟩
  | tup hp h => exact ⟨_, _, sr.alloc hp, same_upd (sr.sN hp), same_upd (sr.vN hp), .tup (.inl (.inl upd_same)) (DpAll.mono (same_upd (sr.sN hp)) h)⟩
  | lst hp h => exact ⟨_, _, sr.alloc hp, same_upd (sr.sN hp), same_upd (sr.vN hp), .lst upd_same (DpAll.mono (same_upd (sr.sN hp)) h)⟩
theorem Sc.out {d : D} {v : V} {B H : Hp} (h : Sc d v) : Out K B H d v H := .same (h _ _)

/-- an operation by data: one place, two places -/
abbrev G1 := D → (D → Prop) → Prop
abbrev G2 := D → D → (D → Prop) → Prop
def Sem1 (K : PySem.W.Frag) (r : V → Hp → VK → Prop) (g : G1) : Prop := ∀ (B H : Hp) x dx P (Q : VK), Dp K B x dx → Same B H → g dx P → (∀ d v H', P d → Out K B H d v H' → Q v H') → r x H Q
def Sem2 (K : PySem.W.Frag) (r : R2) (g : G2) : Prop := ∀ (B H : Hp) x y dx dy P (Q : VK), Dp K B x dx → Dp K B y dy → Same B H → g dx dy P → (∀ d v H', P d → Out K B H d v H' → Q v H') → r x y H Q
/-- .. whose answer hangs on no heap -/
def Sem2S (K : PySem.W.Frag) (r : R2) (g : G2) : Prop := ∀ (B H : Hp) x y dx dy P (Q : VK), Dp K B x dx → Dp K B y dy → Same B H → g dx dy P → (∀ d v, P d → Sc d v → Q v H) → r x y H Q
def d1 (g : G1) (t : DTE) : DTE := fun δ n Q => t δ n fun x m => g x fun d => Q d m
def d2 (g : G2) (t u : DTE) : DTE := fun δ n Q => t δ n fun x m => u δ m fun y k => g x y fun d => Q d k
theorem de_un {r : V → Hp → VK → Prop} {g : G1} {t : DTE} (hp : ∀ ta, PE X a ta → PE X e (fun σ H Q => ta σ H fun x H1 => r x H1 Q)) (hs : Sem1 X.K r g) (ha : DE X true a t) : DE X true e (d1 g t) :=
  ⟨PE.imp (hp _ ha.run) fun σ H Q ⟨gh, n, δ, S, Vs, P, sr, ht, k⟩ => ⟨gh, n, δ, S, Vs, _, sr, ht, fun d m v H' S' Vs' p sr' s1 s2 rp =>
    hs S' H' v d _ Q rp sr'.SH p fun d2 v2 H2 p2 o => by
      obtain ⟨S2, V2, sr2, q1, q2, q3⟩ := sr'.out o
      exact k d2 m v2 H2 S2 V2 p2 sr2 (s1.trans q1) (s2.trans q2) q3⟩⟩
theorem de_bin {r : R2} {g : G2} {t u : DTE} (hp : ∀ ta tb, PE X a ta → PE X b tb → PE X e (tOp r ta tb)) (hs : Sem2 X.K r g) (ha : DE X true a t) (hb : DE X true b u) : DE X true e (d2 g t u) :=
  ⟨PE.imp (hp _ _ ha.run hb.run) fun σ H Q ⟨gh, n, δ, S, Vs, P, sr, ht, k⟩ => ⟨gh, n, δ, S, Vs, _, sr, ht, fun d m v H' S' Vs' p sr' s1 s2 rp =>
    ⟨gh, m, δ, S', Vs', _, sr', p, fun d2 m2 v2 H2 S2 V2 p2 sr2 t1 t2 rp2 =>
      hs S2 H2 v v2 d d2 _ Q (Dp.mono t1 rp) rp2 sr2.SH p2 fun d3 v3 H3 p3 o => by
        obtain ⟨S3, V3, sr3, q1, q2, q3⟩ := sr2.out o
        exact k d3 m2 v3 H3 S3 V3 p3 sr3 ((s1.trans t1).trans q1) ((s2.trans t2).trans q2) q3⟩⟩⟩
theorem de_binS {r : R2} {g : G2} {t u : DTE} {b1 b2 : Bool} (hp : ∀ ta tb, PE X a ta → PE X b tb → PE X e (tOp r ta tb)) (hs : Sem2S X.K r g) (ha : DE X b1 a t) (hb : DE X b2 b u) : DE X true e (d2 g t u) :=
  ⟨PE.imp (hp _ _ ha.run hb.run) fun σ H Q ⟨gh, n, δ, S, Vs, P, sr, ht, k⟩ => ⟨gh, n, δ, S, Vs, _, sr, ht, fun d m v H' S' Vs' p sr' s1 s2 rp =>
    ⟨gh, m, δ, S', Vs', _, sr', p, fun d2 m2 v2 H2 S2 V2 p2 sr2 t1 t2 rp2 =>
      hs V2 H2 v v2 d d2 _ Q (Dp.mono t2 (Rp.dp rp sr'.SV)) (Rp.dp rp2 sr2.SV) sr2.VH p2 fun d3 v3 p3 o =>
        k d3 m2 v3 H2 S2 V2 p3 sr2 (s1.trans t1) (s2.trans t2) (o _ _)⟩⟩⟩

/-! ### arithmetic -/
def gI (f : Int → Int → D) : G2 := fun x y P => ∃ i j, x = .int i ∧ y = .int j ∧ P (f i j)
def gIC (C : Int → Int → Prop) (f : Int → Int → D) : G2 := fun x y P => ∃ i j, x = .int i ∧ y = .int j ∧ C i j ∧ P (f i j)
theorem sem_I {f : Int → Int → V} {h : Int → Int → D} (hf : ∀ i j, Sc (h i j) (f i j)) : Sem2S K (rI0 f) (gI h) := by
  intro B H x y dx dy P Q hx hy sb ⟨i, j, e1, e2, p⟩ k
  subst e1 e2
  cases hx
  cases hy
  exact ⟨i, j, rfl, rfl, k _ _ p (hf i j)⟩
theorem sem_IC {C : Int → Int → Prop} {f : Int → Int → V} {h : Int → Int → D} (hf : ∀ i j, Sc (h i j) (f i j)) : Sem2S K (rI C f) (gIC C h) := by
  intro B H x y dx dy P Q hx hy sb ⟨i, j, e1, e2, c, p⟩ k
  subst e1 e2
  cases hx
  cases hy
  exact ⟨i, j, rfl, rfl, c, k _ _ p (hf i j)⟩
variable {t1 t2 : DTE} {b1 b2 : Bool}
theorem de_sub (ha : DE X b1 a t1) (hb : DE X b2 b t2) : DE X true (.BinOp a .Sub b pos) (d2 (gI fun i j => .int (i - j)) t1 t2) := de_binS (fun _ _ h1 h2 => pe_op op_sub h1 h2) (sem_I fun _ _ => sc_int _) ha hb
theorem de_addI (ha : DE X b1 a t1) (hb : DE X b2 b t2) : DE X true (.BinOp a .Add b pos) (d2 (gI fun i j => .int (i + j)) t1 t2) := de_binS (fun _ _ h1 h2 => pe_op op_add h1 h2) (sem_I fun _ _ => sc_int _) ha hb
theorem de_mul (ha : DE X b1 a t1) (hb : DE X b2 b t2) : DE X true (.BinOp a .Mult b pos) (d2 (gIC CMul fun i j => .int (i * j)) t1 t2) := de_binS (fun _ _ h1 h2 => pe_op op_mul h1 h2) (sem_IC fun _ _ => sc_int _) ha hb
theorem de_mod (ha : DE X b1 a t1) (hb : DE X b2 b t2) : DE X true (.BinOp a .Mod b pos) (d2 (gIC (fun _ j => 0 < j) fun i j => .int (i % j)) t1 t2) := de_binS (fun _ _ h1 h2 => pe_op op_mod h1 h2) (sem_IC fun _ _ => sc_int _) ha hb
theorem de_fdiv (ha : DE X b1 a t1) (hb : DE X b2 b t2) : DE X true (.BinOp a .FloorDiv b pos) (d2 (gIC CDiv fun i j => .int (i / j)) t1 t2) := de_binS (fun _ _ h1 h2 => pe_op op_fdiv h1 h2) (sem_IC fun _ _ => sc_int _) ha hb
theorem de_pow (ha : DE X b1 a t1) (hb : DE X b2 b t2) : DE X true (.BinOp a .Pow b pos) (d2 (gIC CPow fun i j => .int (i ^ j.toNat)) t1 t2) := de_binS (fun _ _ h1 h2 => pe_op op_pow h1 h2) (sem_IC fun _ _ => sc_int _) ha hb
def gNeg : G1 := fun x P => ∃ i, x = .int i ∧ P (.int (-i))
theorem de_neg (ha : DE X true a t1) : DE X true (.UnaryOp .USub a pos) (d1 gNeg t1) := de_un (fun _ h => pe_un un_neg h) (by
  intro B H x dx P Q hx sb ⟨i, e, p⟩ k
  subst e
  cases hx
  exact ⟨i, rfl, k _ _ _ p (sc_int _).out⟩) ha

/-! ### comparisons -/
theorem OpR.or {X : Cx} {f : Value → Value → Sem Value} {r r' : R2} (h : OpR X f r) (h' : OpR X f r') : OpR X f (fun x y H Q => r x y H Q ∨ r' x y H Q) := by
  intro pins s σ H x y v u Q I rx ry q
  rcases q with q | q
  · exact h pins s σ H x y v u Q I rx ry q
  · exact h' pins s σ H x y v u Q I rx ry q
def eqOk (x y : D) : Prop := (SeqAt.shaped x = true ∧ SeqAt.shaped y = true) ∨ ∃ s t, x = .str s ∧ y = .str t
def gEq : G2 := fun x y P => eqOk x y ∧ P (.bool (PyData.eqv x y))
def gNe : G2 := fun x y P => eqOk x y ∧ P (.bool (!PyData.eqv x y))
theorem sem_eq : Sem2S K (fun x y H Q => rEqD K x y H Q ∨ rEq x y H Q) gEq := by
  intro B H x y dx dy P Q hx hy sb ⟨s1, p⟩ k
  rcases s1 with ⟨s1, s2⟩ | ⟨s, t, rfl, rfl⟩
  · exact .inl ⟨dx, dy, (Dp.mono sb hx).to s1, (Dp.mono sb hy).to s2, s1, s2, k _ _ p (sc_bl _)⟩
  · cases hx
    cases hy
    have q := k _ _ p (sc_bl _)
    rw [show PyData.eqv (.str s) (.str t) = decide (V.str s = V.str t) from dec_str.symm ▸ (by rw [PyData.eqv])] at q
    exact .inr ⟨rfl, q⟩
theorem sem_ne : Sem2S K (fun x y H Q => rNeD K x y H Q ∨ rNe x y H Q) gNe := by
  intro B H x y dx dy P Q hx hy sb ⟨s1, p⟩ k
  rcases s1 with ⟨s1, s2⟩ | ⟨s, t, rfl, rfl⟩
  · exact .inl ⟨dx, dy, (Dp.mono sb hx).to s1, (Dp.mono sb hy).to s2, s1, s2, k _ _ p (sc_bl _)⟩
  · cases hx
    cases hy
    have q := k _ _ p (sc_bl _)
    rw [show PyData.eqv (.str s) (.str t) = decide (V.str s = V.str t) from dec_str.symm ▸ (by rw [PyData.eqv])] at q
    exact .inr ⟨rfl, q⟩
theorem de_eq (hu : X.A.units + 64 < cLine) (ha : DE X b1 a t1) (hb : DE X b2 b t2) : DE X true (.Compare a [.Eq] [b] pos) (d2 gEq t1 t2) :=
  de_binS (fun _ _ h1 h2 => pe_cmpR (OpR.or (op_eqD hu) op_eq) h1 h2 (nomark _)) sem_eq ha hb
theorem de_ne (hu : X.A.units + 64 < cLine) (ha : DE X b1 a t1) (hb : DE X b2 b t2) : DE X true (.Compare a [.NotEq] [b] pos) (d2 gNe t1 t2) :=
  de_binS (fun _ _ h1 h2 => pe_cmpR (OpR.or (op_neD hu) op_ne) h1 h2 (nomark _)) sem_ne ha hb
/-! ### data, read off the heap -/
section
variable {pins : List (Addr × Obj)} {σ : L2.St} {H : Hp} {s : Shared}
theorem scal_rd {v : V} {u : Value} {d : D} {h : Heap} (q : Scal v d) (r : RelV v u) : Reads h u d [] := by
  cases q with
  | non => cases r; exact .none
  | bl b => cases r; exact .bool b
  | int i => obtain ⟨t, rfl⟩ := r; exact .int i t
  | str x => obtain ⟨t, rfl⟩ := r; exact .str x t
theorem key_rd {w : World} {P : Program} {k : Key} {u : Value} {h : Heap} (q : (mixKind P w).is k u = true) : Reads h u (keyD k) [] := by
  rcases keyIs_shape q with ⟨i, t, rfl, rfl⟩ | ⟨x, t, rfl, rfl⟩
  · exact .int i t
  · exact .str x t
theorem flat_rd {w : World} {P : Program} {h : Heap} : ∀ {kvs : List (Key × V)} {ds : List (D × D)} {vs : List (Key × Value)} {es : List DictEntry}, Flat kvs ds → KV kvs vs → Pairs (mixKind P w) es vs →
    ReadsAll h (es.map (·.key)) (ds.map (·.1)) [] ∧ ReadsAll h (es.map (·.val)) (ds.map (·.2)) []
  | _, _, _, _, .nil, k, p => by
    cases k
    cases p
    exact ⟨.nil, .nil⟩
  | _, _, _, _, .cons q f, k, p => by
    cases k with
    | cons k1 k2 =>
      cases p with
      | cons p1 p2 p3 =>
        obtain ⟨i1, i2⟩ := flat_rd f k2 p3
        obtain ⟨e1, e2⟩ := k1
        rw [← e1] at p1
        refine ⟨.cons (as := []) (bs := []) (key_rd p1) i1, .cons (as := []) (bs := []) (scal_rd q ?_) i2⟩
        show RelV _ (DictEntry.val _)
        rw [p2]; exact e2
mutual
theorem Dp.rd (I : Inv X pins σ H s) : ∀ (d : D) (v : V) (u : Value), Dp X.K H v d → RelV v u → ∃ as, Reads s.heap u d as
  | .none, _, _, h, r => by
    cases h
    cases r
    exact ⟨_, Reads.none⟩
  | .bool b, _, _, h, r => by
    cases h
    cases r
    exact ⟨_, Reads.bool b⟩
  | .int i, _, _, h, r => by
    cases h
    obtain ⟨t, rfl⟩ := r
    exact ⟨_, Reads.int i t⟩
  | .str x, _, _, h, r => by
    cases h
    obtain ⟨t, rfl⟩ := r
    exact ⟨_, Reads.str x t⟩
  | .list ds, _, _, h, r => by
    cases h with
    | lst hs ha =>
      cases r
      obtain ⟨its, rv, ⟨o, n, ho, hc, _, hd⟩, _⟩ := I.list (SqL.of hs)
      obtain ⟨as, hr⟩ := DpAll.rd I ds _ its ha rv
      exact ⟨_, Reads.list ho hc hd hr⟩
  | .tuple ds, _, _, h, r => by
    cases h with
    | tup hs ha =>
      cases r
      obtain ⟨its, rv, ⟨o, ho, hc, n, hd⟩, _⟩ := I.tuple hs
      obtain ⟨as, hr⟩ := DpAll.rd I ds _ its ha rv
      exact ⟨_, Reads.tuple ho hc hd hr⟩
  | .dict ds, _, _, h, r => by
    cases h with
    | dic hs hf =>
      cases r
      obtain ⟨_, _, vs, rel, o, es, ep, ho, hx, hd, _, hp, _⟩ := dk_of I.hok hs
      obtain ⟨r1, r2⟩ := flat_rd (h := s.heap) hf rel hp
      exact ⟨_, Reads.dict ho hx.1 hd r1 r2⟩
theorem DpAll.rd (I : Inv X pins σ H s) : ∀ (ds : List D) (vs : List V) (us : List Value), DpAll X.K H vs ds → Vals vs us → ∃ as, ReadsAll s.heap us ds as
  | [], _, _, h, r => by
    cases h
    cases r
    exact ⟨_, ReadsAll.nil⟩
  | d :: ds, _, _, h, r => by
    cases h with
    | cons h1 h2 =>
      cases r with
      | cons r1 r2 =>
        obtain ⟨as, q1⟩ := Dp.rd I d _ _ h1 r1
        obtain ⟨bs, q2⟩ := DpAll.rd I ds _ _ h2 r2
        exact ⟨_, ReadsAll.cons q1 q2⟩
end
end
/-- order of data that are alike -/
def cmpOk (x y : D) : Prop := PySem.W.alike x y = true ∧ x ≠ .none ∧ x.depth ≤ 64
def rCmp (K : PySem.W.Frag) (f : D → D → Bool) : R2 := fun x y H Q => ∃ d e, Dp K H x d ∧ Dp K H y e ∧ cmpOk d e ∧ Q (.bl (f d e)) H
def gCmp (f : D → D → Bool) : G2 := fun x y P => cmpOk x y ∧ P (.bool (f x y))
theorem op_cmp {op : CmpOp} {f : D → D → Bool} (hr : ∀ (s : Shared) (a b : Value) (da db : D) (as bs : List Addr) (Q E : Value → Shared → Prop), Reads s.heap a da as → Reads s.heap b db bs → PySem.W.alike da db = true → da ≠ .none → X.A.units + min da.depth db.depth < cLine → Q (.bool (f da db)) s → wpAny (model X.prog X.w) X.A (compareOp op a b) Q E s)
    (hu : X.A.units + 64 < cLine) : OpR X (compareOp op) (rCmp X.K f) := by
  intro pins s σ H x y v u Q I rx ry h
  obtain ⟨d, e, hd, he, ⟨c1, c2, c3⟩, q⟩ := h
  obtain ⟨as, r1⟩ := Dp.rd I d x v hd rx
  obtain ⟨bs, r2⟩ := Dp.rd I e y u he ry
  have hm : min d.depth e.depth ≤ d.depth := Nat.min_le_left _ _
  exact hr s v u d e as bs _ _ r1 r2 c1 c2 (by omega) ⟨.bl _, H, I, rfl, q⟩
theorem sem_cmp {f : D → D → Bool} : Sem2S K (rCmp K f) (gCmp f) := by
  intro B H x y dx dy P Q hx hy sb ⟨s1, p⟩ k
  exact ⟨dx, dy, Dp.mono sb hx, Dp.mono sb hy, s1, k _ _ p (sc_bl _)⟩
theorem de_lt (hu : X.A.units + 64 < cLine) (ha : DE X b1 a t1) (hb : DE X b2 b t2) : DE X true (.Compare a [.Lt] [b] pos) (d2 (gCmp fun x y => PySem.W.dataLt x y) t1 t2) :=
  de_binS (fun _ _ h1 h2 => pe_cmpR (op_cmp (fun s a b da db as bs Q E r1 r2 c1 c2 u q => PySem.W.lt_data r1 r2 c1 c2 u q) hu) h1 h2 (nomark _)) sem_cmp ha hb
theorem de_gt (hu : X.A.units + 64 < cLine) (ha : DE X b1 a t1) (hb : DE X b2 b t2) : DE X true (.Compare a [.Gt] [b] pos) (d2 (gCmp fun x y => PySem.W.dataLt y x) t1 t2) :=
  de_binS (fun _ _ h1 h2 => pe_cmpR (op_cmp (fun s a b da db as bs Q E r1 r2 c1 c2 u q => PySem.W.gt_data r1 r2 c1 c2 u q) hu) h1 h2 (nomark _)) sem_cmp ha hb
theorem de_le (hu : X.A.units + 64 < cLine) (ha : DE X b1 a t1) (hb : DE X b2 b t2) : DE X true (.Compare a [.LtE] [b] pos) (d2 (gCmp fun x y => !PySem.W.dataLt y x) t1 t2) :=
  de_binS (fun _ _ h1 h2 => pe_cmpR (op_cmp (fun s a b da db as bs Q E r1 r2 c1 c2 u q => PySem.W.le_data r1 r2 c1 c2 u q) hu) h1 h2 (nomark _)) sem_cmp ha hb
theorem de_ge (hu : X.A.units + 64 < cLine) (ha : DE X b1 a t1) (hb : DE X b2 b t2) : DE X true (.Compare a [.GtE] [b] pos) (d2 (gCmp fun x y => !PySem.W.dataLt x y) t1 t2) :=
  de_binS (fun _ _ h1 h2 => pe_cmpR (op_cmp (fun s a b da db as bs Q E r1 r2 c1 c2 u q => PySem.W.ge_data r1 r2 c1 c2 u q) hu) h1 h2 (nomark _)) sem_cmp ha hb
end
end DL
/-! DL2: expressions, further: +, in, is, tests, subscripts, displays, built-ins. -/
namespace DL
open PySem PySem.Spec L2

section
variable {X : Cx} {K : PySem.W.Frag} {e a b c : Expr} {pos : Pos} {t1 t2 t3 : DTE} {b1 b2 b3 : Bool}
/-! ### + -/
def gAdd : G2 := fun x y P => match x, y with
  | .int i, .int j => P (.int (i + j))
  | .tuple xs, .tuple ys => xs.length + ys.length ≤ sizeLine ∧ P (.tuple (xs ++ ys))
  | .list xs, .list ys => xs.length + ys.length ≤ sizeLine ∧ P (.list (xs ++ ys))
  | .str i, .str j => i.length + j.length ≤ sizeLine ∧ P (.str (i ++ j))
  | _, _ => False
theorem sem_add : Sem2 K (fun x y H Q => (rI0 fun i j => .int (i + j)) x y H Q ∨ rCatA K x y H Q ∨ rCat x y H Q ∨ ∃ i j, x = .str i ∧ y = .str j ∧ i.length + j.length ≤ sizeLine ∧ Q (.str (i ++ j)) H) gAdd := by
  intro B H x y dx dy P Q hx hy sb g k
  cases hx with
  | int i =>
    cases hy <;> first | exact absurd g (fun z => z) | skip
    exact .inl ⟨_, _, rfl, rfl, k _ _ _ g (sc_int _).out⟩
  | tup h1 h2 =>
    rename_i a xs ds
    cases hy with
    | tup h3 h4 =>
      rename_i a' ys es
      obtain ⟨z, p⟩ := g
      have l1 := h2.length
      have l2 := h4.length
      have q1 := (show SqT K H a xs from by rcases h1 with (h | ⟨o, h⟩) | h; exact .inl (.inl (sb _ _ h)); exact .inl (.inr ⟨o, sb _ _ h⟩); exact .inr h)
      have q2 := (show SqT K H a' ys from by rcases h3 with (h | ⟨o, h⟩) | h; exact .inl (.inl (sb _ _ h)); exact .inl (.inr ⟨o, sb _ _ h⟩); exact .inr h)
      refine .inr (.inl ⟨a, a', xs, ys, rfl, rfl, q1, q2, by omega, fun e => ?_, fun e e' => ?_, fun e e' p' hp => ?_⟩)
      · subst e
        cases h2
        exact k _ _ _ p (.same (.tup h3 h4))
      · subst e'
        cases h4
        rw [List.append_nil] at p
        exact k _ _ _ p (.same (.tup h1 h2))
      · exact k _ _ _ p (.tup hp (h2.append h4))
    | _ => exact absurd g (fun z => z)
  | lst h1 h2 =>
    rename_i a xs ds
    cases hy with
    | lst h3 h4 =>
      rename_i a' ys es
      obtain ⟨z, p⟩ := g
      have l1 := h2.length
      have l2 := h4.length
      exact .inr (.inr (.inl ⟨a, a', xs, ys, rfl, rfl, sb _ _ h1, sb _ _ h3, by omega, fun p' hp => k _ _ _ p (.lst hp (h2.append h4))⟩))
    | _ => exact absurd g (fun z => z)
  | str s =>
    cases hy <;> first | exact absurd g (fun z => z) | skip
    exact .inr (.inr (.inr ⟨_, _, rfl, rfl, g.1, k _ _ _ g.2 (sc_str _).out⟩))
  | non => exact absurd g (fun z => z)
  | bl _ => exact absurd g (fun z => z)
  | dic _ _ => exact absurd g (fun z => z)
theorem de_add (ha : DE X true a t1) (hb : DE X true b t2) : DE X true (.BinOp a .Add b pos) (d2 gAdd t1 t2) :=
  de_bin (fun _ _ h1 h2 => pe_op (OpR.or op_add (OpR.or op_catA (OpR.or op_cat op_add_str))) h1 h2) sem_add ha hb

/-! ### in, not in -/
def dIn (x y : D) : Option Bool := match y with
  | .list ds => some (ds.any fun z => PyData.eqv z x)
  | .tuple ds => some (ds.any fun z => PyData.eqv z x)
  | _ => none
def gIn : G2 := fun x y P => SeqAt.shaped x = true ∧ SeqAt.shaped y = true ∧ ∃ c, dIn x y = some c ∧ P (.bool c)
def gNotIn : G2 := fun x y P => SeqAt.shaped x = true ∧ SeqAt.shaped y = true ∧ ∃ c, dIn x y = some c ∧ P (.bool (!c))
def rInA (K : PySem.W.Frag) (neg : Bool) : R2 := fun x y H Q => ∃ d e c, L2.Dp K H x d ∧ L2.Dp K H y e ∧ SeqAt.shaped d = true ∧ SeqAt.shaped e = true ∧ dIn d e = some c ∧ Q (.bl (if neg then !c else c)) H
theorem shaped_tl {ds : List D} (h : SeqAt.shaped (.tuple ds) = true) : PyData.canLayAll0 ds = true := by
  have := SeqAt.canLay_of_shaped h
  simp [PyData.canLay0] at this
  exact this
theorem op_inA (hu : X.A.units + 65 < cLine) : OpR X (compareOp .In) (rInA X.K false) := by
  intro pins s σ H x y v u Q I rx ry h
  obtain ⟨d, e, cc, hd, he, sd, se, hc, q⟩ := h
  obtain ⟨as, r1⟩ := L2.Dp.reads I d x v hd rx
  obtain ⟨bs, r2⟩ := L2.Dp.reads I e y u he ry
  cases e with
  | list ds =>
    cases hc
    exact op_inD hu pins s σ H x y v u Q I rx ry ⟨d, ds, hd, he, sd, se, q⟩
  | tuple ds =>
    cases hc
    exact SeqAt.in_tuple_reads r2 r1 (shaped_tl se) (SeqAt.canLay_of_shaped sd) (PyProof.Rows.room_in_shaped sd hu) ⟨.bl _, H, I, rfl, q⟩
  | _ => cases hc
theorem op_notInA (hu : X.A.units + 65 < cLine) : OpR X (compareOp .NotIn) (rInA X.K true) := by
  intro pins s σ H x y v u Q I rx ry h
  obtain ⟨d, e, cc, hd, he, sd, se, hc, q⟩ := h
  obtain ⟨as, r1⟩ := L2.Dp.reads I d x v hd rx
  obtain ⟨bs, r2⟩ := L2.Dp.reads I e y u he ry
  cases e with
  | list ds =>
    cases hc
    exact op_notInD hu pins s σ H x y v u Q I rx ry ⟨d, ds, hd, he, sd, se, q⟩
  | tuple ds =>
    cases hc
    exact SeqAt.notIn_tuple_reads r2 r1 (shaped_tl se) (SeqAt.canLay_of_shaped sd) (PyProof.Rows.room_in_shaped sd hu) ⟨.bl _, H, I, rfl, q⟩
  | _ => cases hc
theorem de_in (hu : X.A.units + 65 < cLine) (ha : DE X b1 a t1) (hb : DE X b2 b t2) (hm : behindInMarks .In b = false := by with_unfolding_all rfl) : DE X true (.Compare a [.In] [b] pos) (d2 gIn t1 t2) :=
  de_binS (fun _ _ h1 h2 => pe_cmpR (op_inA hu) h1 h2 hm) (by
    intro B H x y dx dy P Q hx hy sb ⟨s1, s2, cc, hc, p⟩ k
    exact ⟨dx, dy, cc, (Dp.mono sb hx).to s1, (Dp.mono sb hy).to s2, s1, s2, hc, k _ _ p (sc_bl _)⟩) ha hb
theorem de_notIn (hu : X.A.units + 65 < cLine) (ha : DE X b1 a t1) (hb : DE X b2 b t2) (hm : behindInMarks .NotIn b = false := by with_unfolding_all rfl) : DE X true (.Compare a [.NotIn] [b] pos) (d2 gNotIn t1 t2) :=
  de_binS (fun _ _ h1 h2 => pe_cmpR (op_notInA hu) h1 h2 hm) (by
    intro B H x y dx dy P Q hx hy sb ⟨s1, s2, cc, hc, p⟩ k
    exact ⟨dx, dy, cc, (Dp.mono sb hx).to s1, (Dp.mono sb hy).to s2, s1, s2, hc, k _ _ p (sc_bl _)⟩) ha hb
/-! ### is -/
def dIs (x y : D) : Option Bool := match x, y with
  | .none, .none => some true
  | _, .none => some false
  | .bool i, .bool j => some (decide (i = j))
  | _, _ => none
def gIs : G2 := fun x y P => ∃ c, dIs x y = some c ∧ P (.bool c)
def gIsNot : G2 := fun x y P => ∃ c, dIs x y = some c ∧ P (.bool (!c))
theorem de_is (ha : DE X b1 a t1) (hb : DE X b2 b t2) : DE X true (.Compare a [.Is] [b] pos) (d2 gIs t1 t2) :=
  de_binS (fun _ _ h1 h2 => pe_cmpR (OpR.or op_isN op_isBl) h1 h2 (nomark _)) (by
    intro B H x y dx dy P Q hx hy sb ⟨cc, hc, p⟩ k
    cases hy with
    | non =>
      refine .inl ⟨rfl, ?_⟩
      have e : Sc (.bool cc) (.bl (decide (x = .non))) := by
        cases hx <;> cases hc <;> exact sc_bl _
      exact k _ _ p e
    | bl j =>
      cases hx with
      | bl i => cases hc; exact .inr ⟨i, j, rfl, rfl, k _ _ p (sc_bl _)⟩
      | _ => cases hc
    | _ => cases hx <;> cases hc) ha hb
theorem de_isNot (ha : DE X b1 a t1) (hb : DE X b2 b t2) : DE X true (.Compare a [.IsNot] [b] pos) (d2 gIsNot t1 t2) :=
  de_binS (fun _ _ h1 h2 => pe_cmpR (OpR.or op_notN op_notBl) h1 h2 (nomark _)) (by
    intro B H x y dx dy P Q hx hy sb ⟨cc, hc, p⟩ k
    cases hy with
    | non =>
      refine .inl ⟨rfl, ?_⟩
      have e : Sc (.bool (!cc)) (.bl (!decide (x = .non))) := by
        cases hx <;> cases hc <;> exact sc_bl _
      exact k _ _ p e
    | bl j =>
      cases hx with
      | bl i => cases hc; exact .inr ⟨i, j, rfl, rfl, k _ _ p (sc_bl _)⟩
      | _ => cases hc
    | _ => cases hx <;> cases hc) ha hb

/-! ### tests -/
/-- a value that is True or False -/
def dB (t : DTE) : DTT := fun δ n Q => t δ n fun d m => ∃ k, d = .bool k ∧ Q k m
theorem dt_val (h : DE X b1 a t1) (he : ∀ whole, isTrue a X.env whole = (do let v ← whole; standAt a.pos; holding [v] (truthy v)) := by intro _; rfl) : DT X a (dB t1) :=
  ⟨PT.imp (pt_val h.run he) fun σ H Q ⟨g, n, δ, S, Vs, P, sr, ht, k⟩ => ⟨g, n, δ, S, Vs, _, sr, ht, fun d m v H' S' Vs' p sr' s1 s2 r => by
    obtain ⟨c, rfl, p⟩ := p
    have r' := Rp.dp r sr'.SV
    cases r'
    exact ⟨c, rfl, k c m H' S' Vs' p sr' s1 s2⟩⟩⟩
theorem dt_cmp {op : CmpOp} {h1 : behindInMarks op b = false} (h : DE X b1 (.Compare a [op] [b] pos) t1) (hp : ∀ whole, isTrue (.Compare a [op] [b] pos) X.env whole = (do let v ← whole; standAt (Expr.pos (.Compare a [op] [b] pos)); holding [v] (truthy v)) := by intro _; rfl) : DT X (.Compare a [op] [b] pos) (dB t1) := dt_val h hp
/-- any value by its truth -/
def dTru : D → Option Bool
  | .none => some false
  | .bool k => some k
  | .int i => some (i != 0)
  | .str s => some ((s.length : Int) != 0)
  | .list ds => some (!ds.isEmpty)
  | .tuple ds => some (!ds.isEmpty)
  | .dict _ => none
def dTr (t : DTE) : DTT := fun δ n Q => t δ n fun d m => (∀ s, d = .str s → s.length ≤ sizeLine) ∧ ∃ k, dTru d = some k ∧ Q k m
theorem tru_of {H : Hp} {v : V} {d : D} {k : Bool} (h : Dp K H v d) (hs : ∀ s, d = .str s → s.length ≤ sizeLine) (e : dTru d = some k) : TruV K v H k := by
  cases h with
  | non => cases e; rfl
  | bl i => cases e; rfl
  | int i => cases e; rfl
  | str s => cases e; exact ⟨hs _ rfl, rfl⟩
  | dic _ _ => cases e
  | lst h1 h2 =>
    cases e
    refine .inl ⟨_, SqL.of h1, ?_⟩
    have l := h2.length
    rename_i a xs ds
    cases xs <;> cases ds <;> first | rfl | (simp at l)
  | tup h1 h2 =>
    cases e
    refine .inr (.inl ⟨_, h1, ?_⟩)
    have l := h2.length
    rename_i a xs ds
    cases xs <;> cases ds <;> first | rfl | (simp at l)
theorem sqt_mono {H H' : Hp} {a : Addr} {xs : List V} (e : Same H H') (h : SqT K H a xs) : SqT K H' a xs := by
  rcases h with (h | ⟨o, h⟩) | h
  · exact .inl (.inl (e _ _ h))
  · exact .inl (.inr ⟨o, e _ _ h⟩)
  · exact .inr h
theorem dt_truth (h : DE X b1 a t1) (he : ∀ whole, isTrue a X.env whole = (do let v ← whole; standAt a.pos; holding [v] (truthy v)) := by intro _; rfl) : DT X a (dTr t1) :=
  ⟨PT.imp (pt_truth h.run he) fun σ H Q ⟨g, n, δ, S, Vs, P, sr, ht, k⟩ => ⟨g, n, δ, S, Vs, _, sr, ht, fun d m v H' S' Vs' p sr' s1 s2 r => by
    obtain ⟨hs, c, e, p⟩ := p
    exact ⟨c, tru_of (Dp.mono sr'.VH (Rp.dp r sr'.SV)) hs e, k c m H' S' Vs' p sr' s1 s2⟩⟩⟩
variable {u1 u2 : DTT} {rest : List Expr}
def dNot (u : DTT) : DTT := fun δ n Q => u δ n fun c m => Q (!c) m
def dAnd (u v : DTT) : DTT := fun δ n Q => u δ n fun c m => if c = true then v δ m Q else Q false m
def dOr (u v : DTT) : DTT := fun δ n Q => u δ n fun c m => if c = true then Q true m else v δ m Q
theorem dt_not (h : DT X a u1) : DT X (.UnaryOp .Not a pos) (dNot u1) :=
  ⟨PT.imp (pt_not h.run) fun σ H Q ⟨g, n, δ, S, Vs, P, sr, ht, k⟩ => ⟨g, n, δ, S, Vs, _, sr, ht, fun c m H' S' Vs' p sr' s1 s2 => k _ m H' S' Vs' p sr' s1 s2⟩⟩
theorem dw_and1 (h : DT X a u1) : DW X (.BoolOp .And [a] pos) u1 := ⟨pw_and1 h.run⟩
theorem dw_or1 (h : DT X a u1) : DW X (.BoolOp .Or [a] pos) u1 := ⟨pw_or1 h.run⟩
theorem dw_and (h : DT X a u1) (h2 : DW X (.BoolOp .And (b :: rest) pos) u2) : DW X (.BoolOp .And (a :: b :: rest) pos) (dAnd u1 u2) :=
  ⟨PW.imp (pw_and h.run h2.run) fun σ H Q ⟨g, n, δ, S, Vs, P, sr, ht, k⟩ => ⟨g, n, δ, S, Vs, _, sr, ht, fun c m H' S' Vs' p sr' s1 s2 => by
    cases c with
    | true => exact ⟨g, m, δ, S', Vs', _, sr', p, fun c m2 H2 S2 V2 p2 sr2 r1 r2 => k c m2 H2 S2 V2 p2 sr2 (s1.trans r1) (s2.trans r2)⟩
    | false => exact k _ m H' S' Vs' p sr' s1 s2⟩⟩
theorem dw_or (h : DT X a u1) (h2 : DW X (.BoolOp .Or (b :: rest) pos) u2) : DW X (.BoolOp .Or (a :: b :: rest) pos) (dOr u1 u2) :=
  ⟨PW.imp (pw_or h.run h2.run) fun σ H Q ⟨g, n, δ, S, Vs, P, sr, ht, k⟩ => ⟨g, n, δ, S, Vs, _, sr, ht, fun c m H' S' Vs' p sr' s1 s2 => by
    cases c with
    | false => exact ⟨g, m, δ, S', Vs', _, sr', p, fun c m2 H2 S2 V2 p2 sr2 r1 r2 => k c m2 H2 S2 V2 p2 sr2 (s1.trans r1) (s2.trans r2)⟩
    | true => exact k _ m H' S' Vs' p sr' s1 s2⟩⟩
theorem DW.dt (h : DW X e u1) : DT X e u1 := ⟨h.run.pt⟩
/-- .. as values: True or False all but the last -/
def dAndV (t u : DTE) : DTE := fun δ n Q => t δ n fun d m => ∃ c, d = .bool c ∧ if c = true then u δ m Q else Q (.bool false) m
def dOrV (t u : DTE) : DTE := fun δ n Q => t δ n fun d m => ∃ c, d = .bool c ∧ if c = true then Q (.bool true) m else u δ m Q
def dNotV (t : DTE) : DTE := fun δ n Q => t δ n fun d m => ∃ c, d = .bool c ∧ Q (.bool (!c)) m
theorem de_one {op} (h : DE X b1 a t1) : DE X b1 (.BoolOp op [a] pos) t1 := ⟨pe_one h.run⟩
theorem de_and (h : DE X b1 a t1) (h2 : DE X b2 (.BoolOp .And (b :: rest) pos) t2) : DE X b2 (.BoolOp .And (a :: b :: rest) pos) (dAndV t1 t2) :=
  ⟨PE.imp (pe_and h.run h2.run) fun σ H Q ⟨g, n, δ, S, Vs, P, sr, ht, k⟩ => ⟨g, n, δ, S, Vs, _, sr, ht, fun d m v H' S' Vs' p sr' s1 s2 r => by
    obtain ⟨c, rfl, p⟩ := p
    have r' := Rp.dp r sr'.SV
    cases r'
    refine ⟨c, rfl, ?_⟩
    cases c with
    | true => exact ⟨g, m, δ, S', Vs', _, sr', p, fun d2 m2 v2 H2 S2 V2 p2 sr2 r1 r2 r => k d2 m2 v2 H2 S2 V2 p2 sr2 (s1.trans r1) (s2.trans r2) r⟩
    | false => exact k _ m _ H' S' Vs' p sr' s1 s2 (Rp.of (.bl _))⟩⟩
theorem de_or (h : DE X b1 a t1) (h2 : DE X b2 (.BoolOp .Or (b :: rest) pos) t2) : DE X b2 (.BoolOp .Or (a :: b :: rest) pos) (dOrV t1 t2) :=
  ⟨PE.imp (pe_or h.run h2.run) fun σ H Q ⟨g, n, δ, S, Vs, P, sr, ht, k⟩ => ⟨g, n, δ, S, Vs, _, sr, ht, fun d m v H' S' Vs' p sr' s1 s2 r => by
    obtain ⟨c, rfl, p⟩ := p
    have r' := Rp.dp r sr'.SV
    cases r'
    refine ⟨c, rfl, ?_⟩
    cases c with
    | false => exact ⟨g, m, δ, S', Vs', _, sr', p, fun d2 m2 v2 H2 S2 V2 p2 sr2 r1 r2 r => k d2 m2 v2 H2 S2 V2 p2 sr2 (s1.trans r1) (s2.trans r2) r⟩
    | true => exact k _ m _ H' S' Vs' p sr' s1 s2 (Rp.of (.bl _))⟩⟩
theorem de_not (h : DE X b1 a t1) : DE X true (.UnaryOp .Not a pos) (dNotV t1) :=
  ⟨PE.imp (pe_not h.run) fun σ H Q ⟨g, n, δ, S, Vs, P, sr, ht, k⟩ => ⟨g, n, δ, S, Vs, _, sr, ht, fun d m v H' S' Vs' p sr' s1 s2 r => by
    obtain ⟨c, rfl, p⟩ := p
    have r' := Rp.dp r sr'.SV
    cases r'
    exact ⟨c, rfl, k _ m _ H' S' Vs' p sr' s1 s2 (Rp.of (.bl _))⟩⟩⟩
def dIf (u : DTT) (t v : DTE) : DTE := fun δ n Q => u δ n fun c m => if c = true then t δ m Q else v δ m Q
theorem de_ifExp {fl : Bool} (hc : DT X c u1) (h : DE X fl a t1) (h2 : DE X fl b t2) : DE X fl (.IfExp c a b pos) (dIf u1 t1 t2) :=
  ⟨PE.imp (pe_ifExp hc.run h.run h2.run) fun σ H Q ⟨g, n, δ, S, Vs, P, sr, ht, k⟩ => ⟨g, n, δ, S, Vs, _, sr, ht, fun d m H' S' Vs' p sr' s1 s2 => by
    cases d with
    | true => exact ⟨g, m, δ, S', Vs', _, sr', p, fun d2 m2 v2 H2 S2 V2 p2 sr2 r1 r2 r => k d2 m2 v2 H2 S2 V2 p2 sr2 (s1.trans r1) (s2.trans r2) r⟩
    | false => exact ⟨g, m, δ, S', Vs', _, sr', p, fun d2 m2 v2 H2 S2 V2 p2 sr2 r1 r2 r => k d2 m2 v2 H2 S2 V2 p2 sr2 (s1.trans r1) (s2.trans r2) r⟩⟩⟩

/-! ### subscripts -/
def gIx : G2 := fun x y P => match x, y with
  | .list ds, .int i => ∃ d, atI ds i = some d ∧ P d
  | .tuple ds, .int i => ∃ d, atI ds i = some d ∧ P d
  | .str z, .int i => z.length ≤ sizeLine ∧ ∃ c, atI z.cps.toList i = some c ∧ P (.str ⟨#[c]⟩)
  | _, _ => False
theorem DpAll.atI {H : Hp} {ds : List D} {xs : List V} {i : Int} {d : D} (h : DpAll K H xs ds) (e : atI ds i = some d) : ∃ v, L2.atI xs i = some v ∧ Dp K H v d := by
  unfold L2.atI at e ⊢
  rw [← h.length] at e
  cases q : ixN xs.length i with
  | none => rw [q] at e; cases e
  | some j =>
    rw [q] at e
    exact h.get' e
theorem de_ix (ha : DE X b1 a t1) (hb : DE X b2 b t2) (hs : PlainIx b := by intro _ _; rfl) : DE X true (.Subscript a b pos) (d2 gIx t1 t2) :=
  ⟨PE.imp (pe_ix ix_seq ha.run hb.run hs) fun σ H Q ⟨gh, n, δ, S, Vs, P, sr, ht, k⟩ => ⟨gh, n, δ, S, Vs, _, sr, ht, fun d m v H' S' Vs' p sr' s1 s2 rp =>
    ⟨gh, m, δ, S', Vs', _, sr', p, fun d2 m2 v2 H2 S2 V2 p2 sr2 q1 q2 rp2 => by
      have hy := Rp.dp rp2 sr2.SV
      have fin : ∀ {d3 : D} {v3 : V}, P d3 m2 → Dp X.K S2 v3 d3 → Q v3 H2 := fun p3 h3 => k _ m2 _ H2 S2 V2 p3 sr2 (s1.trans q1) (s2.trans q2) h3
      rcases BRep.mono (Rp.br rp) q1 q2 with h | ⟨l, xs, ds, e1, e2, h1, h2⟩
      · cases h with
        | lst h1 h2 =>
          cases hy <;> first | exact absurd p2 (fun z => z) | skip
          obtain ⟨d3, e3, p3⟩ := p2
          obtain ⟨v3, e4, r4⟩ := h2.atI e3
          exact .inl ⟨_, _, _, v3, rfl, rfl, SqL.of (sr2.SH _ _ h1), e4, fin p3 r4⟩
        | tup h1 h2 =>
          cases hy <;> first | exact absurd p2 (fun z => z) | skip
          obtain ⟨d3, e3, p3⟩ := p2
          obtain ⟨v3, e4, r4⟩ := h2.atI e3
          exact .inr (.inl ⟨_, _, _, v3, rfl, rfl, sqt_mono sr2.SH h1, e4, fin p3 r4⟩)
        | str z =>
          cases hy <;> first | exact absurd p2 (fun z => z) | skip
          obtain ⟨hz, c, e3, p3⟩ := p2
          exact .inr (.inr ⟨_, _, c, rfl, rfl, hz, e3, fin p3 (.str _)⟩)
        | non => exact absurd p2 (fun z => by cases hy <;> exact z)
        | dic _ _ => exact absurd p2 (fun z => by cases hy <;> exact z)
        | bl _ => exact absurd p2 (fun z => by cases hy <;> exact z)
        | int _ => exact absurd p2 (fun z => by cases hy <;> exact z)
      · subst e1 e2
        cases hy <;> first | exact absurd p2 (fun z => z) | skip
        obtain ⟨d3, e3, p3⟩ := p2
        obtain ⟨v3, e4, r4⟩ := h2.atI e3
        exact .inl ⟨_, _, _, v3, rfl, rfl, SqL.of (sr2.VH _ _ h1), e4, fin p3 r4⟩⟩⟩⟩
end
end DL
/-! DG: promises of defs where it is known that nothing is being shown (repr) around. -/
namespace DL
open PySem PySem.Spec L2

/-- as L2's promise of a def, for calls around which nothing is being shown -/
structure FnG (P : Program) (w : World) (K : PySem.W.Frag) (mg : Str → Option Value) (base : Heap) (CX : CXT) (k : Nat) (f : Addr) (fd : FuncData) (ps : List Str) (sp : Sp) : Prop where
  ar : ∀ vs H Q E, sp vs H Q E → vs.length = ps.length
  go : ∀ (A : Around) (out : List Env) (s : Shared) (H : Hp) (args : Args) (us : List Value) (vs : List V) (Q : VK) (E : XK), A.guards = some [] → Room k A → Env0 P w K mg base A out s H →
    BindsTo s fd args (ps.zip us) → Vals vs us → sp vs H Q E → codeAny (model P w) A (.call (.ref f) args) (CR CX out P w H s Q E) s
section
variable {P : Program} {w : World} {K : PySem.W.Frag} {mg : Str → Option Value} {base : Heap} {CX : CXT} {j k : Nat} {f : Addr} {fd : FuncData} {ps : List Str} {sp sp' : Sp}
theorem FnG.up (F : FnG P w K mg base CX j f fd ps sp) (h : j ≤ k) : FnG P w K mg base CX k f fd ps sp :=
  ⟨F.ar, fun A out s H args us vs Q E hg hr => F.go A out s H args us vs Q E hg (hr.mono h)⟩
theorem FnG.wk (F : FnG P w K mg base CX k f fd ps sp) (h : ∀ vs H Q E, sp' vs H Q E → sp vs H Q E) : FnG P w K mg base CX k f fd ps sp' :=
  ⟨fun vs H Q E q => F.ar vs H Q E (h _ _ _ _ q), fun A out s H args us vs Q E hg hr e b v q => F.go A out s H args us vs Q E hg hr e b v (h _ _ _ _ q)⟩
end
section
variable {X : Cx} {CX : CXT} {k : Nat} {f : Addr} {fd : FuncData} {ps ks : List Str} {sp : Sp} {E : XK} {x : Str} {p pos : Pos} {e : Expr} {es : List Expr} {t tk : TA} {kws : List Keyword}
/-- the call's end, in the caller's context -/
theorem cr_end {pins : List (Addr × Obj)} {σ : L2.St} {H : Hp} {s : Shared} {Q : VK} (I : Inv X pins σ H s) (hx : Passes CX X E) (r : Result) (s' : Shared) (h : CR CX X.stack X.prog X.w H s Q E r s') :
    (match (generalizing := false) r with | .ok (.ret v) => EP X pins σ Q v s' | .ok _ => False | .error e => X.xe e s') := by
  rcases r with e | fl
  · exact hx pins σ H s e s' I h
  · rcases fl with u | _ | _ | _
    all_goals first | exact I.after h | exact h.elim
theorem go_fn {pins : List (Addr × Obj)} {σ : L2.St} {H : Hp} {s : Shared} {Q : VK} {us : List Value} {vs : List V} (F : FnG X.prog X.w X.K X.mg X.base CX k f fd ps sp) (hg : X.A.guards = some []) (hr : Room k X.A) (hb : Binds X.K fd ps []) (hx : Passes CX X E)
    (I : Inv X pins σ H s) (r : Vals vs us) (h : sp vs H Q E) : wpAny (model X.prog X.w) X.A (call (.ref f) us) (EP X pins σ Q) X.xe s := by
  have hl : (us ++ []).length = ps.length := by rw [List.append_nil, ← r.length]; exact F.ar _ _ _ _ h
  have hb' := hb s us I.kIn hl
  rw [List.append_nil] at hb'
  exact wpAny_call (codeAny_mono (F.go X.A X.stack s H ⟨us, []⟩ us vs Q E hg hr I.env0 hb' r h) fun r s' q => cr_end I hx r s' q)
def gCall (sp : Sp) (E : XK) (t : TA) : TE := fun σ H Q => t σ H fun vs H1 => sp vs H1 Q E
/-- f(e, ..) -/
theorem pg_call (F : FnG X.prog X.w X.K X.mg X.base CX k f fd ps sp) (hgd : X.A.guards = some []) (hr : Room k X.A) (hg : Gl X x) (hm : X.mg x = some (.ref f)) (hk : PySem.W.keepIn X.K (.ref f) = true) (hb : Binds X.K fd ps []) (hx : Passes CX X E)
    (ha : PA X (e :: es) t) (hdb : (x == ("__debug__" : Str)) = false := by decide) (he : starEach (e :: es) X.env = (false, eval e X.env) :: starEach es X.env := by rfl) (hpl : (backTo pos (starEach es X.env)).any (·.1) = false := by rfl) :
    PE X (.Call (.Name x p) (e :: es) [] pos) (gCall sp E t) :=
  ⟨fun pins s σ H Q I h => wpAny_Call_Name_kw (ld_glob I hg hm (PySem.W.callWith_K (h₀ := X.base) I.ok.mod.kin hk (thn (ha.run pos pins s σ H _ I h) fun us s1 ⟨vs, H1, I1, r, q⟩ => ⟨I1.kIn, go_fn F hgd hr hb hx I1 r q⟩) he hpl) hdb)⟩
/-- f() -/
theorem pg_call0 (F : FnG X.prog X.w X.K X.mg X.base CX k f fd ps sp) (hgd : X.A.guards = some []) (hr : Room k X.A) (hg : Gl X x) (hm : X.mg x = some (.ref f)) (hk : PySem.W.keepIn X.K (.ref f) = true) (hb : Binds X.K fd ps []) (hx : Passes CX X E)
    (hdb : (x == ("__debug__" : Str)) = false := by decide) : PE X (.Call (.Name x p) [] [] pos) (gCall sp E tNil) :=
  ⟨fun pins s σ H Q I h => wpAny_Call_Name_kw (ld_glob I hg hm (PySem.W.callWith_K0 I.kIn hk (go_fn (us := []) F hgd hr hb hx I .nil h)) hdb)⟩
/-- how keywords bind: the values in the parameters' order -/
structure KwB (K : PySem.W.Frag) (fd : FuncData) (ps ks : List Str) (g : {α : Type} → List α → List α → List α) : Prop where
  to : ∀ (s : Shared) (us ws : List Value), K.In s.heap → (g us ws).length = ps.length → BindsTo s fd ⟨us, ks.zip ws⟩ (ps.zip (g us ws))
  rel : ∀ {vs zs : List V} {us ws : List Value}, Vals vs us → Vals zs ws → Vals (g vs zs) (g us ws)
variable {g : {α : Type} → List α → List α → List α}
theorem go_fnK {pins : List (Addr × Obj)} {σ : L2.St} {H : Hp} {s : Shared} {Q : VK} {us ws : List Value} {vs zs : List V} (F : FnG X.prog X.w X.K X.mg X.base CX k f fd ps sp) (hg : X.A.guards = some []) (hr : Room k X.A) (hb : KwB X.K fd ps ks g) (hx : Passes CX X E)
    (I : Inv X pins σ H s) (r : Vals vs us) (rz : Vals zs ws) (h : sp (g vs zs) H Q E) : wpAny (model X.prog X.w) X.A (call (.ref f) us (ks.zip ws)) (EP X pins σ Q) X.xe s := by
  have r2 := hb.rel r rz
  have hl : (g us ws).length = ps.length := by rw [← r2.length]; exact F.ar _ _ _ _ h
  exact wpAny_call (codeAny_mono (F.go X.A X.stack s H ⟨us, ks.zip ws⟩ (g us ws) (g vs zs) Q E hg hr I.env0 (hb.to s us ws I.kIn hl) r2 h) fun r s' q => cr_end I hx r s' q)
def gCallK (sp : Sp) (g : {α : Type} → List α → List α → List α) (E : XK) (t tk : TA) : TE := fun σ H Q => t σ H fun vs H1 => tk σ H1 fun zs H2 => sp (g vs zs) H2 Q E
/-- f(e, .., k = v, ..) -/
theorem pg_callK (F : FnG X.prog X.w X.K X.mg X.base CX k f fd ps sp) (hgd : X.A.guards = some []) (hr : Room k X.A) (hg : Gl X x) (hm : X.mg x = some (.ref f)) (hk : PySem.W.keepIn X.K (.ref f) = true) (hb : KwB X.K fd ps ks g) (hx : Passes CX X E)
    (ha : PA X (e :: es) t) (hkw : PK X kws tk) (hall : (backToKw pos (keywordEach kws X.env)).all (·.1.isSome) = true := by rfl) (hks : (backToKw pos (keywordEach kws X.env)).filterMap (·.1) = ks := by rfl)
    (hdb : (x == ("__debug__" : Str)) = false := by decide) (he : starEach (e :: es) X.env = (false, eval e X.env) :: starEach es X.env := by rfl)
    (hpl : ((backTo pos (starEach (e :: es) X.env)).any (·.1) || (backToKw pos (keywordEach kws X.env)).any (·.1.isNone)) = false := by rfl) : PE X (.Call (.Name x p) (e :: es) kws pos) (gCallK sp g E t tk) :=
  ⟨fun pins s σ H Q I h => wpAny_Call_Name_kw (ld_glob I hg hm (PySem.W.callWith_KW (h₀ := X.base) I.ok.mod.kin hk hall (thn (ha.run pos pins s σ H _ I h) fun us s1 ⟨vs, H1, I1, r, q⟩ =>
    thn (hkw.run pos pins s1 σ H1 _ I1 q) fun ws s2 ⟨zs, H2, I2, rz, q2⟩ => ⟨I2.kIn, by rw [hks]; exact go_fnK F hgd hr hb hx I2 r rz q2⟩) hpl he) hdb)⟩
/-- f(k = v, ..) -/
theorem pg_callK0 (F : FnG X.prog X.w X.K X.mg X.base CX k f fd ps sp) (hgd : X.A.guards = some []) (hr : Room k X.A) (hg : Gl X x) (hm : X.mg x = some (.ref f)) (hk : PySem.W.keepIn X.K (.ref f) = true) (hb : KwB X.K fd ps ks g) (hx : Passes CX X E)
    (hkw : PK X kws tk) (hall : (backToKw pos (keywordEach kws X.env)).all (·.1.isSome) = true := by rfl) (hks : (backToKw pos (keywordEach kws X.env)).filterMap (·.1) = ks := by rfl)
    (hdb : (x == ("__debug__" : Str)) = false := by decide)
    (hpl : ((backTo pos (starEach [] X.env)).any (·.1) || (backToKw pos (keywordEach kws X.env)).any (·.1.isNone)) = false := by rfl) : PE X (.Call (.Name x p) [] kws pos) (gCallK sp g E tNil tk) :=
  ⟨fun pins s σ H Q I h => wpAny_Call_Name_kw (ld_glob I hg hm (PySem.W.callWith_KW0 (h₀ := X.base) I.ok.mod.kin hk hall (thn (hkw.run pos pins s σ H _ I h) fun ws s2 ⟨zs, H2, I2, rz, q2⟩ =>
    ⟨I2.kIn, by rw [hks, List.append_nil]; exact go_fnK (us := []) F hgd hr hb hx I2 .nil rz q2⟩) hpl) hdb)⟩
end
section
variable {P : Program} {w : World} {K : PySem.W.Frag} {mg : Str → Option Value} {base : Heap} {CX : CXT} {k : Nat} {fa : Addr} {fd : FuncData} {N ps : List Str} {sp : Sp} {x qual : Str} {st : Stmt}
/-- a def by its body -/
theorem fnG_of (F : Fun K x qual st fa fd) (S : FnScope N ps (defScope st)) (len : ∀ vs H Q E, sp vs H Q E → vs.length = ps.length)
    (hb : ∀ (cdv : Value) (A : Around) (out : List Env) (s : Shared) (H : Hp) (vs : List V) (Q : VK) (E : XK), A.guards = some [] → Room k (A.deeper (PyProof.Rows.envOfC qual (defScope st) s.heap.objs.size fa cdv)) → sp vs H Q E →
      ∃ t, PSs (cxOf CX P w K mg base N qual (defScope st) fa cdv A out s H E) (defBody st) t ∧ t { nx := fun _ H' => Q .non H', rt := Q } (L2.start N vs) H) : FnG P w K mg base CX (k + 1) fa fd ps sp := by
  obtain ⟨oc, od, kV, doc, pm, an, cdv, ct, osl, rfl, lk, hcd⟩ := F.ex
  refine ⟨len, ?_⟩
  intro A out s H args us vs Q E hg hr e0 hbd rv hsp
  have hlen := len _ _ _ _ hsp
  have KX : K.In s.heap := e0.mod.kin.keeps fun b o e => (e0.bs b o e).1
  have lim : s.heap.NoLimit := e0.mod.nolimit.keeps fun b o e => (e0.bs b o e).1
  refine codeAny_call_function hr.depth (KX _ _ lk) rfl S.co S.gen rfl (PySem.W.codeRec_of KX hcd) (hbd _ _ _ _ (wpAny_newFunctionEnv_cells S.kind (fun y hy => ?_) fun env he s1 ic => ?_))
  · obtain ⟨n, v⟩ := y
    refine (S.par n (List.of_mem_zip hy).1).imp id fun q => ⟨q, PySem.W.cellsFrom_some _ _ _ (.inl q)⟩
  · subst he
    refine ⟨lim.keeps ic.toInCall.keep, codeAny_func ?_⟩
    obtain ⟨t, ht, hq⟩ := hb cdv A out s H vs Q E hg (hr.deeper _) hsp
    have I := inv_start (CX := CX) (E := E) S hr.hd e0 hlen rv ic
    refine wpAny_mono (ht.run [] s1 (L2.start N vs) H _ I hq) (fun fl s' hs => ?_) fun e s' hs => hs
    rcases fl with _ | _ | _ | u
    all_goals first
      | (obtain ⟨v, σ', H', J, rv, q⟩ := hs; exact ⟨v, H', J.os, J.bare, J.base, J.hok, rv, q⟩)
      | (obtain ⟨σ', H', J, q⟩ := hs; first | exact ⟨V.non, H', J.os, J.bare, J.base, J.hok, rfl, q⟩ | exact q.elim)
end
end DL
/-! DL3: arguments, displays, calls of defs, built-ins over data. -/
namespace DL
open PySem PySem.Spec L2

/-- an argument: data, or the drawing dict -/
inductive Ar where
  | d (d : D)
  | rl
abbrev DTR := DS → Nat → (List Ar → Nat → Prop) → Prop
def RpA (K : PySem.W.Frag) (W : Option (Addr × Addr)) (b : Bool) (S Vs : Hp) : V → Ar → Prop
  | v, .d d => Rp K b S Vs v d
  | v, .rl => ∃ r f, W = some (r, f) ∧ v = .ref r
abbrev RpAs (K : PySem.W.Frag) (W : Option (Addr × Addr)) (b : Bool) (S Vs : Hp) : List V → List Ar → Prop := PySem.Paired (RpA K W b S Vs)
def lR (K : PySem.W.Frag) (b : Bool) (L : Nat) (t : DTR) : TA := fun σ H Q => ∃ g n δ S Vs P, SR K g n δ σ H S Vs ∧ t δ n P ∧
  ∀ as m vs H' S' Vs', P as m → as.length = L → SR K g m δ σ H' S' Vs' → Same S S' → Same Vs Vs' → RpAs K g.W b S' Vs' vs as → Q vs H'
/-- arguments -/
structure DR (X : Cx) (b : Bool) (es : List Expr) (t : DTR) : Prop where
  run : PA X es (lR X.K b es.length t)
def lAs (K : PySem.W.Frag) (t : DTA) : TA := fun σ H Q => ∃ g n δ S Vs P, SR K g n δ σ H S Vs ∧ t δ n P ∧
  ∀ ds m vs H' S' Vs', P ds m → SR K g m δ σ H' S' Vs' → Same S S' → Same Vs Vs' → DpAll K S' vs ds → Q vs H'
/-- items -/
structure DA (X : Cx) (es : List Expr) (t : DTA) : Prop where
  run : PA X es (lAs X.K t)

section
variable {X : Cx} {K : PySem.W.Frag} {e a b c : Expr} {es : List Expr} {pos : Pos} {t1 t2 t3 : DTE} {tr : DTR} {ta : DTA} {b1 b2 b3 : Bool}
theorem PA.imp {t u : TA} (h : PA X es t) (hi : ∀ σ H Q, u σ H Q → t σ H Q) : PA X es u := ⟨fun pos pins s σ H Q I q => h.run pos pins s σ H Q I (hi σ H Q q)⟩
theorem RpA.mono {W : Option (Addr × Addr)} {b : Bool} {S Vs S' Vs' : Hp} {v : V} {x : Ar} (h : RpA K W b S Vs v x) (s1 : Same S S') (s2 : Same Vs Vs') : RpA K W b S' Vs' v x := by
  cases x with
  | d d => exact Rp.mono h s1 s2
  | rl => exact h
def rNil : DTR := fun _ n Q => Q [] n
def rCons (t : DTE) (u : DTR) : DTR := fun δ n Q => t δ n fun d m => u δ m fun as k => Q (.d d :: as) k
def rRl (i : Nat) (u : DTR) : DTR := fun δ n Q => δ[i]? = some (some .rl) ∧ u δ n fun as k => Q (.rl :: as) k
def aNil : DTA := fun _ n Q => Q [] n
def aCons (t : DTE) (u : DTA) : DTA := fun δ n Q => t δ n fun d m => u δ m fun as k => Q (d :: as) k
theorem dr_nil : DR X b1 [] rNil := ⟨PA.imp pa_nil fun σ H Q ⟨g, n, δ, S, Vs, P, sr, ht, k⟩ => k [] n [] H S Vs ht rfl sr (Same.refl _) (Same.refl _) .nil⟩
theorem da_nil : DA X [] aNil := ⟨PA.imp pa_nil fun σ H Q ⟨g, n, δ, S, Vs, P, sr, ht, k⟩ => k [] n [] H S Vs ht sr (Same.refl _) (Same.refl _) .nil⟩
theorem dr_cons (h : DE X b1 e t1) (hr : DR X b1 es tr) (hs : starEach (e :: es) X.env = (false, eval e X.env) :: starEach es X.env := by rfl) : DR X b1 (e :: es) (rCons t1 tr) :=
  ⟨PA.imp (pa_cons h.run hr.run hs) fun σ H Q ⟨g, n, δ, S, Vs, P, sr, ht, k⟩ => ⟨g, n, δ, S, Vs, _, sr, ht, fun d m v H' S' Vs' p sr' s1 s2 r =>
    ⟨g, m, δ, S', Vs', _, sr', p, fun as m2 vs H2 S2 V2 p2 l2 sr2 q1 q2 r2 => k _ m2 (v :: vs) H2 S2 V2 p2 (congrArg (· + 1) l2) sr2 (s1.trans q1) (s2.trans q2) (.cons (show RpA X.K g.W b1 S2 V2 v (.d d) from Rp.mono r q1 q2) r2)⟩⟩⟩
theorem dr_rl {i : Nat} (h : PE X e (tVar i)) (hr : DR X b1 es tr) (hs : starEach (e :: es) X.env = (false, eval e X.env) :: starEach es X.env := by rfl) : DR X b1 (e :: es) (rRl i tr) :=
  ⟨PA.imp (pa_cons h hr.run hs) fun σ H Q ⟨g, n, δ, S, Vs, P, sr, ⟨e1, ht⟩, k⟩ => by
    obtain ⟨v, e2, r⟩ := sr.slots i _ e1
    exact ⟨v, e2, g, n, δ, S, Vs, _, sr, ht, fun as m2 vs H2 S2 V2 p2 l2 sr2 q1 q2 r2 => k _ m2 (v :: vs) H2 S2 V2 p2 (congrArg (· + 1) l2) sr2 q1 q2 (.cons (show RpA X.K g.W b1 S2 V2 v .rl from r) r2)⟩⟩
theorem da_cons (h : DE X true e t1) (hr : DA X es ta) (hs : starEach (e :: es) X.env = (false, eval e X.env) :: starEach es X.env := by rfl) : DA X (e :: es) (aCons t1 ta) :=
  ⟨PA.imp (pa_cons h.run hr.run hs) fun σ H Q ⟨g, n, δ, S, Vs, P, sr, ht, k⟩ => ⟨g, n, δ, S, Vs, _, sr, ht, fun d m v H' S' Vs' p sr' s1 s2 r =>
    ⟨g, m, δ, S', Vs', _, sr', p, fun as m2 vs H2 S2 V2 p2 sr2 q1 q2 r2 => k _ m2 (v :: vs) H2 S2 V2 p2 sr2 (s1.trans q1) (s2.trans q2) (.cons (Dp.mono q1 r) r2)⟩⟩⟩

/-! ### displays -/
def dTup (t : DTA) : DTE := fun δ n Q => t δ n fun ds m => ds.length ≤ sizeLine ∧ Q (.tuple ds) m
theorem de_tup {k : Nat} (h : DA X es ta) : DE X true (.Tuple es k pos) (dTup ta) :=
  ⟨PE.imp (pe_tup h.run) fun σ H Q ⟨g, n, δ, S, Vs, P, sr, ht, k⟩ => ⟨g, n, δ, S, Vs, _, sr, ht, fun ds m vs H' S' Vs' ⟨z, p⟩ sr' s1 s2 r =>
    ⟨by rw [r.length]; exact z, fun q hq => by
      obtain ⟨S2, V2, sr2, q1, q2, q3⟩ := sr'.out (K := X.K) (.tup hq r)
      exact k _ m _ _ S2 V2 p sr2 (s1.trans q1) (s2.trans q2) q3⟩⟩⟩
/-- a new list -/
def lL (K : PySem.W.Frag) (t : DTA) : TE := fun σ H Q => ∃ g n δ S Vs P, SR K g n δ σ H S Vs ∧ t δ n P ∧
  ∀ ds m p xs H' S' Vs', P ds m → SR K g m δ σ H' S' Vs' → Same S S' → Same Vs Vs' → H' p = some (.lst xs) → Vs' p = none → g.H0 p = none → ¬ inW g.W p → DpAll K S' xs ds → Q (.ref p) H'
structure DL (X : Cx) (e : Expr) (t : DTA) : Prop where
  run : PE X e (lL X.K t)
def dL (t : DTA) : DTE := fun δ n Q => t δ n fun ds m => Q (.list ds) m
theorem DL.de (h : DL X e ta) : DE X true e (dL ta) :=
  ⟨PE.imp h.run fun σ H Q ⟨g, n, δ, S, Vs, P, sr, ht, k⟩ => ⟨g, n, δ, S, Vs, _, sr, ht, fun ds m p xs H' S' Vs' p1 sr' s1 s2 e1 e2 e3 e4 r => by
    have hs := sr'.SV.free e2
    exact k _ m _ H' _ _ p1 (sr'.track e1 e2 e3 e4) (s1.trans (same_upd hs)) (s2.trans (same_upd e2)) (.lst upd_same (DpAll.mono (same_upd hs) r))⟩⟩
/-- a rule that lays a list gives a new list -/
theorem dl_of {t : TE} (h : PE X e t) (hi : ∀ σ H Q, lL X.K ta σ H Q → t σ H Q) : DL X e ta := ⟨PE.imp h hi⟩
def aSz (t : DTA) : DTA := fun δ n Q => t δ n fun ds m => ds.length ≤ sizeLine ∧ Q ds m
theorem dl_lst (h : DA X es ta) : DL X (.List es pos) (aSz ta) :=
  ⟨PE.imp (pe_lst h.run) fun σ H Q ⟨g, n, δ, S, Vs, P, sr, ht, k⟩ => ⟨g, n, δ, S, Vs, _, sr, ht, fun ds m vs H' S' Vs' ⟨z, p⟩ sr' s1 s2 r =>
    ⟨by rw [r.length]; exact z, fun q hq => k ds m q vs _ S' Vs' p (sr'.temp hq) s1 s2 upd_same (sr'.vN hq) (sr'.h0 hq) (sr'.notW hq) r⟩⟩⟩

/-! ### what a def promises -/
/-- a def by data: its arguments, how much may be drawn, what is wanted -/
abbrev Fn := List Ar → Nat → (D → Nat → Prop) → Prop
def spD (K : PySem.W.Frag) (ar : Nat) (f : Fn) : Sp := fun vs H Q E => ∃ (W : Option (Addr × Addr)) (n : Nat) (S0 : Hp) (as : List Ar) (P : D → Nat → Prop), as.length = ar ∧ Same S0 H ∧ (∀ b, inW W b → S0 b = none) ∧ (∀ r f, W = some (r, f) → RillOk H r f n) ∧
  RpAs K W true S0 S0 vs as ∧ f as n P ∧
  ∀ d m v H' S', P d m → Same S0 S' → Same S' H' → (∀ b, inW W b → S' b = none) → (∀ b o, S' b = some o → S0 b = some o ∨ H b = none) → (∀ r f, W = some (r, f) → RillOk H' r f m) →
    (∀ b o, H b = some o → ¬ inW W b → H' b = some o) → Dp K S' v d → Q v H'
theorem Paired.len {α β : Type} {F : α → β → Prop} : ∀ {l : List α} {m : List β}, PySem.Paired F l m → l.length = m.length
  | _, _, .nil => rfl
  | _, _, .cons _ t => by rw [List.length_cons, List.length_cons, Paired.len t]
theorem spD_len {ar : Nat} {f : Fn} : ∀ vs H Q E, spD K ar f vs H Q E → vs.length = ar := fun vs H Q E ⟨_, _, _, as, _, e, _, _, _, r, _⟩ => (Paired.len r).trans e
/-- .. a weaker one -/
theorem spD_imp {ar : Nat} {f f' : Fn} (hf : ∀ as n P, as.length = ar → f' as n P → f as n P) : ∀ vs H Q E, spD K ar f' vs H Q E → spD K ar f vs H Q E :=
  fun vs H Q E ⟨W, n, S0, as, P, e, h1, h2, h3, r, hp, k⟩ => ⟨W, n, S0, as, P, e, h1, h2, h3, r, hf as n P e hp, k⟩
/-- behind a call: stable arguments -/
theorem SR.called {g : Gh} {n m : Nat} {δ : DS} {σ : L2.St} {H S Vs H' S' : Hp} (sr : SR K g n δ σ H S Vs) (h1 : Same S S') (h2 : Same S' H') (h3 : ∀ b, inW g.W b → S' b = none) (h4 : ∀ b o, S' b = some o → S b = some o ∨ H b = none)
    (h5 : ∀ r f, g.W = some (r, f) → RillOk H' r f m) (h6 : ∀ b o, H b = some o → ¬ inW g.W b → H' b = some o) : ∃ Vs', SR K g m δ σ H' S' Vs' ∧ Same Vs Vs' := by
  have hVH : Same Vs H' := fun b o e => h6 b o (sr.VH b o e) fun w => by rw [sr.nW b w] at e; cases e
  have hVV : ∀ b o o', Vs b = some o → S' b = some o' → o = o' := fun b o o' e e' => Option.some.inj ((hVH b o e).symm.trans (h2 b o' e'))
  refine ⟨fun b => match S' b with | some o => some o | none => Vs b, ⟨sr.S0S.trans h1, fun b o e => ?_, fun b o e => ?_, fun b o e => ?_, fun b o e w => h6 b o (sr.base b o e w) w, fun b w => ?_, fun b o e => ?_, h5, sr.len, fun i x e => ?_, sr.apart, fun a ha => ?_⟩, fun b o e => ?_⟩
  · show (match S' b with | some o => some o | none => Vs b) = some o
    rw [e]
  · have e : (match S' b with | some o => some o | none => Vs b) = some o := e
    cases q : S' b with
    | some o' => rw [q] at e; cases e; exact h2 b _ q
    | none => rw [q] at e; exact hVH b o e
  · have e : (match S' b with | some o => some o | none => Vs b) = some o := e
    cases q : S' b with
    | some o' => rw [q] at e; exact .inl e
    | none =>
      rw [q] at e
      rcases sr.VS b o e with z | z
      · rw [h1 b o z] at q; cases q
      · exact .inr z
  · show (match S' b with | some o => some o | none => Vs b) = none
    rw [h3 b w]; exact sr.nW b w
  · have e : (match S' b with | some o => some o | none => Vs b) = some o := e
    cases q : S' b with
    | some o' =>
      rw [q] at e
      cases e
      rcases h4 b _ q with z | z
      · exact sr.fresh b _ (sr.SV b _ z)
      · exact .inr (sr.h0 z)
    | none => rw [q] at e; exact sr.fresh b o e
  · obtain ⟨v, e1, e2⟩ := sr.slots i x e
    refine ⟨v, e1, ?_⟩
    cases x with
    | dat d => exact Dp.mono h1 e2
    | own ds =>
      obtain ⟨a, xs, ev, ea, es, eh, ed⟩ := e2
      have sn : S' a = none := by
        cases q : S' a with
        | none => rfl
        | some o =>
          rcases h4 a o q with z | z
          · rw [es] at z; cases z
          · rw [sr.VH a _ ea] at z; cases z
      refine ⟨a, xs, ev, ?_, sn, eh, DpAll.mono h1 ed⟩
      show (match S' a with | some o => some o | none => Vs a) = _
      rw [sn]; exact ea
    | rl => exact e2
    | scr _ => exact e2
    | rg _ _ =>
      obtain ⟨a0, ev0, ea0⟩ := e2
      exact ⟨a0, ev0, h1 _ _ ea0⟩
  · obtain ⟨q1, ⟨xs, q2⟩, q3⟩ := sr.tmps a ha
    have sn : S' a = none := by
      cases q : S' a with
      | none => rfl
      | some o =>
        rcases h4 a o q with z | z
        · rw [q1] at z; cases z
        · rw [sr.VH a _ q2] at z; cases z
    refine ⟨sn, ⟨xs, ?_⟩, q3⟩
    show (match S' a with | some o => some o | none => Vs a) = _
    rw [sn]; exact q2
  · show (match S' b with | some o => some o | none => Vs b) = some o
    cases q : S' b with
    | some o' => rw [hVV b o o' e q]
    | none => exact e
/-- .. borrowed arguments -/
theorem SR.calledB {g : Gh} {n m : Nat} {δ : DS} {σ : L2.St} {H S Vs H' S' : Hp} (sr : SR K g n δ σ H S Vs) (h1 : Same Vs S') (h2 : Same S' H') (h3 : ∀ b, inW g.W b → S' b = none) (h4 : ∀ b o, S' b = some o → Vs b = some o ∨ H b = none)
    (h5 : ∀ r f, g.W = some (r, f) → RillOk H' r f m) (h6 : ∀ b o, H b = some o → ¬ inW g.W b → H' b = some o) : ∃ S2, SR K g m δ σ H' S2 S' ∧ Same S S2 := by
  have hS : Same S (fun b => match Vs b with | some _ => S b | none => S' b) := fun b o e => by
    show (match Vs b with | some _ => S b | none => S' b) = some o
    rw [sr.SV b o e]; exact e
  have hVS : ∀ b o, S' b = some o → (match Vs b with | some _ => S b | none => S' b) = some o ∨ ∃ xs, o = .lst xs := fun b o e => by
    cases q : Vs b with
    | none => exact .inl e
    | some o' =>
      have z := h1 b o' q
      rw [e] at z
      cases z
      exact sr.VS b o q
  refine ⟨fun b => match Vs b with | some _ => S b | none => S' b, ⟨sr.S0S.trans hS, fun b o e => ?_, h2, hVS, fun b o e w => h6 b o (sr.base b o e w) w, h3, fun b o e => ?_, h5, sr.len, fun i x e => ?_, sr.apart, fun a ha => ?_⟩, hS⟩
  · have e : (match Vs b with | some _ => S b | none => S' b) = some o := e
    cases q : Vs b with
    | none => rw [q] at e; exact e
    | some o' => rw [q] at e; exact h1 b o (sr.SV b o e)
  · rcases h4 b o e with z | z
    · exact sr.fresh b o z
    · exact .inr (sr.h0 z)
  · obtain ⟨v, e1, e2⟩ := sr.slots i x e
    refine ⟨v, e1, ?_⟩
    cases x with
    | dat d => exact Dp.mono hS e2
    | own ds =>
      obtain ⟨a, xs, ev, ea, es, eh, ed⟩ := e2
      refine ⟨a, xs, ev, h1 _ _ ea, ?_, eh, DpAll.mono hS ed⟩
      show (match Vs a with | some _ => S a | none => S' a) = none
      rw [ea]; exact es
    | rl => exact e2
    | scr _ => exact e2
    | rg _ _ =>
      obtain ⟨a0, ev0, ea0⟩ := e2
      exact ⟨a0, ev0, hS _ _ ea0⟩
  · obtain ⟨q1, ⟨xs, q2⟩, q3⟩ := sr.tmps a ha
    refine ⟨?_, ⟨xs, h1 _ _ q2⟩, q3⟩
    show (match Vs a with | some _ => S a | none => S' a) = none
    rw [q2]; exact q1
theorem RpAs.tt {W : Option (Addr × Addr)} {S Vs : Hp} {b : Bool} (sv : Same S Vs) : ∀ {vs : List V} {as : List Ar}, RpAs K W b S Vs vs as → RpAs K W true Vs Vs vs as
  | _, _, .nil => .nil
  | _, _, .cons (b := x) h t => .cons (by
      cases x with
      | d d => exact (show Dp K Vs _ d from Rp.dp h sv)
      | rl => exact h) (RpAs.tt sv t)
theorem RpAs.st {W : Option (Addr × Addr)} {S Vs : Hp} : ∀ {vs : List V} {as : List Ar}, RpAs K W true S Vs vs as → RpAs K W true S S vs as
  | _, _, .nil => .nil
  | _, _, .cons (b := x) h t => .cons (by
      cases x with
      | d d => exact h
      | rl => exact h) (RpAs.st t)
def dCall (f : Fn) (tr : DTR) : DTE := fun δ n Q => tr δ n fun as m => f as m Q
def dCallB (f : Fn) (tr : DTR) : DTE := fun δ n Q => tr δ n fun as m => f as m fun d k => noList d = true ∧ Q d k
variable {k : Nat} {fa : Addr} {fd : FuncData} {ps : List Str} {ar : Nat} {f : Fn} {x : Str} {p : Pos}
theorem de_call (F : FnG X.prog X.w X.K X.mg X.base CX0 k fa fd ps (spD X.K ar f)) (hgd : X.A.guards = some []) (hr : Room k X.A) (hg : Gl X x) (hm : X.mg x = some (.ref fa)) (hk : PySem.W.keepIn X.K (.ref fa) = true) (hb : Binds X.K fd ps [])
    (har : (e :: es).length = ar) (ha : DR X true (e :: es) tr) (hdb : (x == ("__debug__" : Str)) = false := by decide)
    (he : starEach (e :: es) X.env = (false, eval e X.env) :: starEach es X.env := by rfl) (hpl : (backTo pos (starEach es X.env)).any (·.1) = false := by rfl) :
    DE X true (.Call (.Name x p) (e :: es) [] pos) (dCall f tr) :=
  ⟨PE.imp (pg_call F hgd hr hg hm hk hb pass0 ha.run hdb he hpl) fun σ H Q ⟨g, n, δ, S, Vs, P, sr, ht, kk⟩ => ⟨g, n, δ, S, Vs, _, sr, ht, fun as m vs H' S' Vs' p hl sr' s1 s2 r =>
    ⟨g.W, m, S', as, P, hl.trans har, sr'.SH, fun b w => sr'.SV.free (sr'.nW b w), sr'.rill, RpAs.st r, p, fun d m2 v H2 S2 p2 h1 h2 h3 h4 h5 h6 hd => by
      obtain ⟨V2, sr2, hv⟩ := sr'.called h1 h2 h3 h4 h5 h6
      exact kk d m2 v H2 S2 V2 p2 sr2 (s1.trans h1) (s2.trans hv) hd⟩⟩⟩
theorem de_callB (F : FnG X.prog X.w X.K X.mg X.base CX0 k fa fd ps (spD X.K ar f)) (hgd : X.A.guards = some []) (hr : Room k X.A) (hg : Gl X x) (hm : X.mg x = some (.ref fa)) (hk : PySem.W.keepIn X.K (.ref fa) = true) (hb : Binds X.K fd ps [])
    (har : (e :: es).length = ar) (ha : DR X false (e :: es) tr) (hdb : (x == ("__debug__" : Str)) = false := by decide)
    (he : starEach (e :: es) X.env = (false, eval e X.env) :: starEach es X.env := by rfl) (hpl : (backTo pos (starEach es X.env)).any (·.1) = false := by rfl) :
    DE X true (.Call (.Name x p) (e :: es) [] pos) (dCallB f tr) :=
  ⟨PE.imp (pg_call F hgd hr hg hm hk hb pass0 ha.run hdb he hpl) fun σ H Q ⟨g, n, δ, S, Vs, P, sr, ht, kk⟩ => ⟨g, n, δ, S, Vs, _, sr, ht, fun as m vs H' S' Vs' p hl sr' s1 s2 r =>
    ⟨g.W, m, Vs', as, _, hl.trans har, sr'.VH, sr'.nW, sr'.rill, RpAs.tt sr'.SV r, p, fun d m2 v H2 S2 ⟨nl, p2⟩ h1 h2 h3 h4 h5 h6 hd => by
      obtain ⟨S3, sr3, hs⟩ := sr'.calledB h1 h2 h3 h4 h5 h6
      exact kk d m2 v H2 S3 S2 p2 sr3 (s1.trans hs) (s2.trans h1) (sr3.noList hd nl)⟩⟩⟩
/-! ### keywords -/
theorem PK.imp {kws : List Keyword} {t u : TA} (h : PK X kws t) (hi : ∀ σ H Q, u σ H Q → t σ H Q) : PK X kws u := ⟨fun pos pins s σ H Q I q => h.run pos pins s σ H Q I (hi σ H Q q)⟩
structure DK (X : Cx) (b : Bool) (kws : List Keyword) (t : DTR) : Prop where
  run : PK X kws (lR X.K b kws.length t)
theorem dk_nil : DK X b1 [] rNil := ⟨PK.imp pk_nil fun σ H Q ⟨g, n, δ, S, Vs, P, sr, ht, k⟩ => k [] n [] H S Vs ht rfl sr (Same.refl _) (Same.refl _) .nil⟩
theorem dk_cons {nm : Option Str} {kpos : Pos} {kws : List Keyword} (h : DE X b1 e t1) (hr : DK X b1 kws tr) : DK X b1 (⟨nm, e, kpos⟩ :: kws) (rCons t1 tr) :=
  ⟨PK.imp (pk_cons h.run hr.run) fun σ H Q ⟨g, n, δ, S, Vs, P, sr, ht, k⟩ => ⟨g, n, δ, S, Vs, _, sr, ht, fun d m v H' S' Vs' p sr' s1 s2 r =>
    ⟨g, m, δ, S', Vs', _, sr', p, fun as m2 vs H2 S2 V2 p2 l2 sr2 q1 q2 r2 => k _ m2 (v :: vs) H2 S2 V2 p2 (congrArg (· + 1) l2) sr2 (s1.trans q1) (s2.trans q2) (.cons (show RpA X.K g.W b1 S2 V2 v (.d d) from Rp.mono r q1 q2) r2)⟩⟩⟩
/-- positional ones, then keywords' ones, put in the parameters' order -/
def gP (a b : Nat) (perm : List Nat) {α : Type} (us ws : List α) : List α := if us.length = a ∧ ws.length = b then perm.filterMap (fun i => (us ++ ws)[i]?) else []
theorem paired_get {α β : Type} {R : α → β → Prop} : ∀ {l : List α} {m : List β} (i : Nat), PySem.Paired R l m → (l[i]? = none ∧ m[i]? = none) ∨ ∃ x y, l[i]? = some x ∧ m[i]? = some y ∧ R x y
  | _, _, _, .nil => .inl ⟨rfl, rfl⟩
  | _, _, 0, .cons r _ => .inr ⟨_, _, rfl, rfl, r⟩
  | _, _, i + 1, .cons _ t => by simpa using paired_get i t
theorem paired_append {α β : Type} {R : α → β → Prop} : ∀ {l l' : List α} {m m' : List β}, PySem.Paired R l m → PySem.Paired R l' m' → PySem.Paired R (l ++ l') (m ++ m')
  | _, _, _, _, .nil, t => t
  | _, _, _, _, .cons r q, t => .cons r (paired_append q t)
theorem paired_pick {α β : Type} {R : α → β → Prop} {l : List α} {m : List β} (h : PySem.Paired R l m) : ∀ perm : List Nat, PySem.Paired R (perm.filterMap (fun i => l[i]?)) (perm.filterMap (fun i => m[i]?))
  | [] => .nil
  | i :: r => by
    rcases paired_get i h with ⟨e1, e2⟩ | ⟨x, y, e1, e2, q⟩
    · rw [List.filterMap_cons, List.filterMap_cons, e1, e2]
      exact paired_pick h r
    · rw [List.filterMap_cons, List.filterMap_cons, e1, e2]
      exact .cons q (paired_pick h r)
theorem paired_gP {α β : Type} {R : α → β → Prop} {a b : Nat} {perm : List Nat} {l l' : List α} {m m' : List β} (h : PySem.Paired R l m) (h' : PySem.Paired R l' m') : PySem.Paired R (gP a b perm l l') (gP a b perm m m') := by
  unfold gP
  rw [Paired.len h, Paired.len h']
  by_cases c : m.length = a ∧ m'.length = b
  · rw [if_pos c, if_pos c]; exact paired_pick (paired_append h h') perm
  · rw [if_neg c, if_neg c]; exact .nil
theorem kwb {qual : Str} {st : Stmt} {ks : List Str} {na nb : Nat} {perm : List Nat} (F : Fun K x qual st fa fd) (hne : 0 < ps.length)
    (h : ∀ (kV doc pm : Value) (an : Option Addr) (cdv ct : Value) (us ws : List Value), us.length = na → ws.length = nb → bindArgs (PySem.W.fnOf x qual (defArgs st) (defBody st) (defScope st) .none kV doc pm an cdv ct) ⟨us, ks.zip ws⟩ = pure (ps.zip (gP na nb perm us ws))) :
    KwB K fd ps ks (gP na nb perm) := by
  obtain ⟨oc, od, kV, doc, pm, an, cdv, ct, osl, rfl, lk, hcd⟩ := F.ex
  refine ⟨fun s us ws _ hl => ?_, fun r rz => paired_gP r rz⟩
  by_cases cc : us.length = na ∧ ws.length = nb
  · exact .of_eq (h kV doc pm an cdv ct us ws cc.1 cc.2)
  · unfold gP at hl
    rw [if_neg cc] at hl
    rw [← hl] at hne
    exact absurd hne (by simp)
def dCallK (f : Fn) (na nb : Nat) (perm : List Nat) (tr tk : DTR) : DTE := fun δ n Q => tr δ n fun as m => tk δ m fun bs k => f (gP na nb perm as bs) k Q
theorem RpAs.mono {W : Option (Addr × Addr)} {b : Bool} {S Vs S' Vs' : Hp} (s1 : Same S S') (s2 : Same Vs Vs') : ∀ {vs : List V} {as : List Ar}, RpAs K W b S Vs vs as → RpAs K W b S' Vs' vs as
  | _, _, .nil => .nil
  | _, _, .cons h t => .cons (RpA.mono h s1 s2) (RpAs.mono s1 s2 t)
theorem de_callK {kws : List Keyword} {tk : DTR} {ks : List Str} {na nb : Nat} {perm : List Nat} (F : FnG X.prog X.w X.K X.mg X.base CX0 k fa fd ps (spD X.K ar f)) (hgd : X.A.guards = some []) (hr : Room k X.A) (hg : Gl X x) (hm : X.mg x = some (.ref fa)) (hk : PySem.W.keepIn X.K (.ref fa) = true)
    (hb : KwB X.K fd ps ks (gP na nb perm)) (ha : DR X true (e :: es) tr) (hkw : DK X true kws tk) (hna : (e :: es).length = na) (hnb : kws.length = nb) (har : ∀ (α : Type) (us ws : List α), us.length = na → ws.length = nb → (gP na nb perm us ws).length = ar)
    (hall : (backToKw pos (keywordEach kws X.env)).all (·.1.isSome) = true := by rfl) (hks : (backToKw pos (keywordEach kws X.env)).filterMap (·.1) = ks := by rfl)
    (hdb : (x == ("__debug__" : Str)) = false := by decide) (he : starEach (e :: es) X.env = (false, eval e X.env) :: starEach es X.env := by rfl)
    (hpl : ((backTo pos (starEach (e :: es) X.env)).any (·.1) || (backToKw pos (keywordEach kws X.env)).any (·.1.isNone)) = false := by rfl) :
    DE X true (.Call (.Name x p) (e :: es) kws pos) (dCallK f na nb perm tr tk) :=
  ⟨PE.imp (pg_callK F hgd hr hg hm hk hb pass0 ha.run hkw.run hall hks hdb he hpl) fun σ H Q ⟨g, n, δ, S, Vs, P, sr, ht, kk⟩ => ⟨g, n, δ, S, Vs, _, sr, ht, fun as m vs H' S' Vs' p hl sr' s1 s2 r =>
    ⟨g, m, δ, S', Vs', _, sr', p, fun bs m1 zs H1 S1 V1 p1 hl1 sr1 q1 q2 rz =>
      ⟨g.W, m1, S1, gP na nb perm as bs, P, har _ _ _ (hl.trans hna) (hl1.trans hnb), sr1.SH, fun b w => sr1.SV.free (sr1.nW b w), sr1.rill, paired_gP (RpAs.st (RpAs.mono q1 q2 r)) (RpAs.st rz), p1, fun d m2 v H2 S2 p2 h1 h2 h3 h4 h5 h6 hd => by
        obtain ⟨V2, sr2, hv⟩ := sr1.called h1 h2 h3 h4 h5 h6
        exact kk d m2 v H2 S2 V2 p2 sr2 ((s1.trans q1).trans h1) ((s2.trans q2).trans hv) hd⟩⟩⟩⟩
theorem de_callK0 {kws : List Keyword} {tk : DTR} {ks : List Str} {nb : Nat} {perm : List Nat} (F : FnG X.prog X.w X.K X.mg X.base CX0 k fa fd ps (spD X.K ar f)) (hgd : X.A.guards = some []) (hr : Room k X.A) (hg : Gl X x) (hm : X.mg x = some (.ref fa)) (hk : PySem.W.keepIn X.K (.ref fa) = true)
    (hb : KwB X.K fd ps ks (gP 0 nb perm)) (hkw : DK X true kws tk) (hnb : kws.length = nb) (har : ∀ (α : Type) (us ws : List α), us.length = 0 → ws.length = nb → (gP 0 nb perm us ws).length = ar)
    (hall : (backToKw pos (keywordEach kws X.env)).all (·.1.isSome) = true := by rfl) (hks : (backToKw pos (keywordEach kws X.env)).filterMap (·.1) = ks := by rfl)
    (hdb : (x == ("__debug__" : Str)) = false := by decide)
    (hpl : ((backTo pos (starEach [] X.env)).any (·.1) || (backToKw pos (keywordEach kws X.env)).any (·.1.isNone)) = false := by rfl) :
    DE X true (.Call (.Name x p) [] kws pos) (dCallK f 0 nb perm rNil tk) :=
  ⟨PE.imp (pg_callK0 F hgd hr hg hm hk hb pass0 hkw.run hall hks hdb hpl) fun σ H Q ⟨g, n, δ, S, Vs, P, sr, ht, kk⟩ => ⟨g, n, δ, S, Vs, _, sr, ht, fun bs m1 zs H1 S1 V1 p1 hl1 sr1 q1 q2 rz =>
      ⟨g.W, m1, S1, gP 0 nb perm [] bs, P, har _ _ _ rfl (hl1.trans hnb), sr1.SH, fun b w => sr1.SV.free (sr1.nW b w), sr1.rill, paired_gP .nil (RpAs.st rz), p1, fun d m2 v H2 S2 p2 h1 h2 h3 h4 h5 h6 hd => by
        obtain ⟨V2, sr2, hv⟩ := sr1.called h1 h2 h3 h4 h5 h6
        exact kk d m2 v H2 S2 V2 p2 sr2 (q1.trans h1) (q2.trans hv) hd⟩⟩⟩
end
end DL
/-! DL4: what is walked, targets, comprehensions. -/
namespace DL
open PySem PySem.Spec L2

/-- what a walk yields, turn by turn: data known ahead -/
def WalkD (K : PySem.W.Frag) (J : It) (B S : Hp) (ds : List D) : Prop :=
  ∀ (i : Nat) (H : Hp), Same B H → (∀ d, ds[i]? = some d → J.go i H ∧ ∀ x H', J.yld i H x H' → Out K S H d x H') ∧ (ds.length ≤ i → J.stop i H)
def lI (K : PySem.W.Frag) (b : Bool) (t : DTA) : TI := fun σ H R => ∃ g n δ S Vs P, SR K g n δ σ H S Vs ∧ t δ n P ∧
  ∀ J H' S' Vs' ds m, P ds m → SR K g m δ σ H' S' Vs' → Same S S' → Same Vs Vs' → WalkD K J (if b = true then S' else Vs') S' ds → R J H'
/-- b: what is walked stands for ever -/
structure DI (X : Cx) (b : Bool) (tg e : Expr) (t : DTA) : Prop where
  run : PI X tg e (lI X.K b t)

section
variable {X : Cx} {K : PySem.W.Frag} {tg e a b c : Expr} {es : List Expr} {pos : Pos} {t1 t2 t3 : DTE} {ta : DTA} {b1 b2 b3 : Bool}
theorem PI.imp {t u : TI} (h : PI X tg e t) (hi : ∀ σ H Q, u σ H Q → t σ H Q) : PI X tg e u := ⟨fun pins s σ H Q I q => h.run pins s σ H Q I (hi σ H Q q)⟩
theorem PI.or {t u : TI} (h : PI X tg e t) (h' : PI X tg e u) : PI X tg e (fun σ H R => t σ H R ∨ u σ H R) := ⟨fun pins s σ H R I q => q.elim (fun q => h.run pins s σ H R I q) fun q => h'.run pins s σ H R I q⟩
theorem Out.mono {B B' H : Hp} {d : D} {v : V} {H' : Hp} (s : Same B B') (o : Out K B H d v H') : Out K B' H d v H' := by
  cases o with
  | same h => exact .same (Dp.mono s h)
  | tup hp h => exact .tup hp (DpAll.mono s h)
  | lst hp h => exact .lst hp (DpAll.mono s h)
theorem walk_l {B S : Hp} {l : Addr} {xs : List V} {ds : List D} (h : B l = some (.lst xs)) (hd : DpAll K S xs ds) : WalkD K (Itl K l) B S ds := fun i H s => by
  have q : SqL K H l xs := SqL.of (s _ _ h)
  refine ⟨fun d e => ?_, fun hl => ⟨xs, q, by rw [hd.length]; exact hl⟩⟩
  obtain ⟨v, e1, r⟩ := hd.get' e
  refine ⟨⟨xs, v, q, e1⟩, fun x H' ⟨e2, f⟩ => ?_⟩
  subst e2
  have := f _ q
  rw [e1] at this
  cases this
  exact .same r
theorem walk_t {B S : Hp} {l : Addr} {xs : List V} {ds : List D} (h : SqT K B l xs) (hd : DpAll K S xs ds) : WalkD K (Itt K l) B S ds := fun i H s => by
  have q : SqT K H l xs := sqt_mono s h
  refine ⟨fun d e => ?_, fun hl => ⟨xs, q, by rw [hd.length]; exact hl⟩⟩
  obtain ⟨v, e1, r⟩ := hd.get' e
  refine ⟨⟨xs, v, q, e1⟩, fun x H' ⟨e2, f⟩ => ?_⟩
  subst e2
  have := f _ q
  rw [e1] at this
  cases this
  exact .same r
def rangeD (lo : Int) (n : Nat) : List D := (List.range n).map fun (i : Nat) => .int (lo + i)
theorem walk_r {B S : Hp} {lo : Int} {n : Nat} : WalkD K (Itr lo n) B S (rangeD lo n) := fun i H s => by
  refine ⟨fun d e => ?_, fun hl => show n ≤ i by simpa [rangeD] using hl⟩
  have hi : i < n := by
    have := (List.getElem?_eq_some_iff.mp e).1
    simpa [rangeD] using this
  refine ⟨hi, fun x H' ⟨e1, e2⟩ => ?_⟩
  subst e1 e2
  have : d = .int (lo + i) := by
    unfold rangeD at e
    rw [List.getElem?_map, List.getElem?_range hi] at e
    exact (Option.some.inj e).symm
  subst this
  exact (sc_int _).out
/-- a list or a tuple, walked -/
def iSeq (t : DTE) : DTA := fun δ n Q => (t δ n fun d m => ∃ ds, d = .list ds ∧ Q ds m) ∨ (t δ n fun d m => ∃ ds, d = .tuple ds ∧ Q ds m)
theorem di_seq (h : DE X b1 e t1) : DI X b1 tg e (iSeq t1) :=
  ⟨PI.imp (PI.or (pi_list h.run) (pi_tup h.run)) fun σ H R ⟨g, n, δ, S, Vs, P, sr, ht, k⟩ => by
    rcases ht with ht | ht
    · refine .inl ⟨g, n, δ, S, Vs, _, sr, ht, fun d m v H' S' Vs' ⟨ds, e1, p⟩ sr' s1 s2 r => ?_⟩
      subst e1
      unfold Rp at r
      cases b1 with
      | true =>
        rw [if_pos rfl] at r
        cases r with
        | lst h1 h2 => exact ⟨_, rfl, ⟨_, SqL.of (sr'.SH _ _ h1)⟩, k _ H' S' Vs' ds m p sr' s1 s2 (by rw [if_pos rfl]; exact walk_l h1 h2)⟩
      | false =>
        rw [if_neg (by decide)] at r
        rcases r with r | ⟨l, xs, ds', q1, q2, h1, h2⟩
        · cases r with
          | lst h1 h2 => exact ⟨_, rfl, ⟨_, SqL.of (sr'.SH _ _ h1)⟩, k _ H' S' Vs' ds m p sr' s1 s2 (by rw [if_neg (by decide)]; exact walk_l (sr'.SV _ _ h1) h2)⟩
        · cases q1
          subst q2
          exact ⟨_, rfl, ⟨_, SqL.of (sr'.VH _ _ h1)⟩, k _ H' S' Vs' ds m p sr' s1 s2 (by rw [if_neg (by decide)]; exact walk_l h1 h2)⟩
    · refine .inr ⟨g, n, δ, S, Vs, _, sr, ht, fun d m v H' S' Vs' ⟨ds, e1, p⟩ sr' s1 s2 r => ?_⟩
      subst e1
      rcases Rp.br r with r | ⟨l, xs, ds', q1, q2, h1, h2⟩
      · cases r with
        | tup h1 h2 =>
          refine ⟨_, rfl, ⟨_, sqt_mono sr'.SH h1⟩, k _ H' S' Vs' ds m p sr' s1 s2 ?_⟩
          cases b1 with
          | true => rw [if_pos rfl]; exact walk_t h1 h2
          | false => rw [if_neg (by decide)]; exact walk_t (sqt_mono sr'.SV h1) h2
      · cases q1⟩
theorem DI.weak (h : DI X b1 tg e ta) : DI X false tg e ta :=
  ⟨PI.imp h.run fun σ H R ⟨g, n, δ, S, Vs, P, sr, ht, k⟩ => ⟨g, n, δ, S, Vs, _, sr, ht, fun J H' S' Vs' ds m p sr' s1 s2 w => k J H' S' Vs' ds m p sr' s1 s2 (by
    rw [if_neg (by decide)]
    cases b1 with
    | true => rw [if_pos rfl] at w; exact fun i H s => w i H (sr'.SV.trans s)
    | false => rw [if_neg (by decide)] at w; exact w)⟩⟩
def iRg1 (t : DTE) : DTA := fun δ n Q => t δ n fun d m => ∃ j : Int, d = .int j ∧ -(2 ^ 62) ≤ j ∧ j < 2 ^ 62 ∧ Q (rangeD 0 j.toNat) m
theorem di_range1 {p : Pos} (h : DE X b1 a t1) (hg : Gl X "range") (hm : X.mg "range" = none) (hs : starEach [a] X.env = [(false, eval a X.env)] := by rfl) (hs2 : starEach (a :: []) X.env = (false, eval a X.env) :: starEach [] X.env := by rfl) :
    DI X true tg (.Call (.Name "range" p) [a] [] pos) (iRg1 t1) :=
  ⟨PI.imp (pi_range1 hg hm (pa_cons h.run pa_nil hs2) hs) fun σ H R ⟨g, n, δ, S, Vs, P, sr, ht, k⟩ => ⟨g, n, δ, S, Vs, _, sr, ht, fun d m v H' S' Vs' ⟨j, e1, q1, q2, p⟩ sr' s1 s2 r => by
    subst e1
    have r' := Rp.dp r sr'.SV
    cases r'
    exact ⟨j, rfl, q1, q2, k _ H' S' Vs' _ m p sr' s1 s2 walk_r⟩⟩⟩
def iRg2 (t u : DTE) : DTA := fun δ n Q => t δ n fun d m => u δ m fun d2 m2 => ∃ i j : Int, d = .int i ∧ d2 = .int j ∧ (-(2 ^ 62) ≤ i ∧ i < 2 ^ 62 ∧ -(2 ^ 62) ≤ j ∧ j < 2 ^ 62) ∧ Q (rangeD i (j - i).toNat) m2
theorem di_range2 {p : Pos} (h : DE X b1 a t1) (h2 : DE X b2 b t2) (hg : Gl X "range") (hm : X.mg "range" = none) (hs : starEach [a, b] X.env = [(false, eval a X.env), (false, eval b X.env)] := by rfl) (hs2 : starEach [b] X.env = [(false, eval b X.env)] := by rfl)
    (hs3 : starEach (a :: [b]) X.env = (false, eval a X.env) :: starEach [b] X.env := by rfl) (hs4 : starEach (b :: []) X.env = (false, eval b X.env) :: starEach [] X.env := by rfl) : DI X true tg (.Call (.Name "range" p) [a, b] [] pos) (iRg2 t1 t2) :=
  ⟨PI.imp (pi_range2 hg hm (pa_cons h.run (pa_cons h2.run pa_nil hs4) hs3) hs hs2) fun σ H R ⟨g, n, δ, S, Vs, P, sr, ht, k⟩ => ⟨g, n, δ, S, Vs, _, sr, ht, fun d m v H' S' Vs' p sr' s1 s2 r =>
    ⟨g, m, δ, S', Vs', _, sr', p, fun d2 m2 v2 H2 S2 V2 ⟨i, j, e1, e2, q, pp⟩ sr2 r1 r2 rp => by
      subst e1 e2
      have r' := Rp.dp r sr'.SV
      have r'' := Rp.dp rp sr2.SV
      cases r'
      cases r''
      exact ⟨i, j, rfl, q, k _ H2 S2 V2 _ m2 pp sr2 (s1.trans r1) (s2.trans r2) walk_r⟩⟩⟩⟩

/-! ### targets: names -/
abbrev DTG := D → DS → (DS → Prop) → Prop
/-- a target of names at slots is, by data -/
def GSem (K : PySem.W.Frag) (g : TG) (is : List Nat) (γ : DTG) : Prop := ∀ (gh : Gh) (n : Nat) (δ : DS) (σ : L2.St) (H S Vs : Hp) (d : D) (v : V) (P : DS → Prop) (Q : L2.St → Hp → Prop), SR K gh n δ σ H S Vs → Dp K S v d → γ d δ P →
    (∀ δ' σ', P δ' → SR K gh n δ' σ' H S Vs → (∀ j, j ∉ is → σ'[j]? = σ[j]? ∧ δ'[j]? = δ[j]?) → σ'.length = σ.length → Q σ' H) → g v σ H Q
abbrev DTGs := List D → DS → (DS → Prop) → Prop
def GsSem (K : PySem.W.Frag) (g : TGs) (is : List Nat) (len : Nat) (γ : DTGs) : Prop := ∀ (gh : Gh) (n : Nat) (δ : DS) (σ : L2.St) (H S Vs : Hp) (ds : List D) (vs : List V) (P : DS → Prop) (Q : L2.St → Hp → Prop), SR K gh n δ σ H S Vs → DpAll K S vs ds → γ ds δ P →
    (∀ δ' σ', P δ' → SR K gh n δ' σ' H S Vs → (∀ j, j ∉ is → σ'[j]? = σ[j]? ∧ δ'[j]? = δ[j]?) → σ'.length = σ.length → Q σ' H) → ds.length = len ∧ g vs σ H Q
def gNm (i : Nat) : DTG := fun d δ P => i < δ.length ∧ P (δ.set i (some (.dat d)))
theorem gs_name {i : Nat} : GSem K (gName i) [i] (gNm i) :=
  fun gh n δ σ H S Vs d v P Q sr hd ⟨hi, hp⟩ k => k _ _ hp (sr.set hi hd) (fun j hj => by
    have ne : i ≠ j := fun z => hj (by simp [z])
    exact ⟨List.getElem?_set_ne ne, List.getElem?_set_ne ne⟩) (by simp)
def gNil' : DTGs := fun ds δ P => ds = [] ∧ P δ
def gCons' (γ : DTG) (γs : DTGs) : DTGs := fun ds δ P => ∃ d r, ds = d :: r ∧ γ d δ fun δ' => γs r δ' P
theorem gs_nil : GsSem K gNil [] 0 gNil' := fun gh n δ σ H S Vs ds vs P Q sr hd ⟨e, hp⟩ k => by
  subst e
  cases hd
  exact ⟨rfl, rfl, k _ _ hp sr (fun _ _ => ⟨rfl, rfl⟩) rfl⟩
theorem gs_cons {i : Nat} {js : List Nat} {g2 : TGs} {l : Nat} {γs : DTGs} (q2 : GsSem K g2 js l γs) : GsSem K (gCons (gName i) g2) (i :: js) (l + 1) (gCons' (gNm i) γs) :=
  fun gh n δ σ H S Vs ds vs P Q sr hd ⟨d, r, e1, hi, hp⟩ k => by
    subst e1
    cases hd with
    | cons h1 h3 =>
      have q := q2 gh n _ _ H S Vs r _ _ Q (sr.set hi h1) h3 hp fun δ2 σ2 hp2 sr2 f2 l2 => k δ2 σ2 hp2 sr2 (fun j hj => by
        have ne : i ≠ j := fun z => hj (by simp [z])
        have a2 := f2 j fun z => hj (List.mem_cons_of_mem _ z)
        exact ⟨a2.1.trans (List.getElem?_set_ne ne), a2.2.trans (List.getElem?_set_ne ne)⟩) (l2.trans (by simp))
      exact ⟨by rw [List.length_cons, q.1], _, _, rfl, q.2⟩
def gTp (γs : DTGs) : DTG := fun d δ P => ∃ ds, d = .tuple ds ∧ γs ds δ P
theorem gs_tup {is : List Nat} {g1 : TGs} {n : Nat} {γs : DTGs} (q1 : GsSem K g1 is n γs) : GSem K (gTup K n g1) is (gTp γs) :=
  fun gh m δ σ H S Vs d v P Q sr hd ⟨ds, e1, hp⟩ k => by
    subst e1
    cases hd with
    | tup h1 h2 =>
      have q := q1 gh m δ σ H S Vs ds _ P Q sr h2 hp k
      exact ⟨_, _, rfl, sqt_mono sr.SH h1, h2.length.trans q.1, q.2⟩

/-! ### comprehensions -/
structure DTs (X : Cx) (ifs : List Expr) (t : DTT) : Prop where
  run : PTs X ifs (lT X.K t)
def dYes : DTT := fun _ n Q => Q true n
theorem dts_nil : DTs X [] dYes := ⟨⟨fun pins s σ H Q I ⟨g, n, δ, S, Vs, P, sr, ht, k⟩ => pts_nil.run pins s σ H Q I (k true n H S Vs ht sr (Same.refl _) (Same.refl _))⟩⟩
theorem dts_one {u : DTT} (h : DT X c u) : DTs X [c] u := ⟨pts_one h.run⟩
/-- the turns of a comprehension: d drawn, what is made so far -/
def compR (γ : DTG) (u : DTT) (t : DTE) (δ : DS) : List D → List D → Nat → (List D → Nat → Prop) → Prop
  | [], acc, n, Q => Q acc n
  | d :: r, acc, n, Q => γ d δ fun δ1 => u δ1 n fun b m => if b = true then t δ1 m fun x k => compR γ u t δ r (acc ++ [x]) k Q else compR γ u t δ r acc m Q
def noOwn (vs : List Nat) (δ : DS) : Bool := vs.all fun i => match δ[i]? with | some (some (.own _)) => false | _ => true
def dComp (s : DTA) (γ : DTG) (u : DTT) (t : DTE) (vs : List Nat) : DTA := fun δ n Q => noOwn vs δ = true ∧ s δ n fun ds m => ds.length ≤ sizeLine ∧ compR γ u t (wipeD δ vs) ds [] m Q
theorem wipe_get {σ : L2.St} {j : Nat} : ∀ {vs : List Nat}, (L2.wipe σ vs)[j]? = if j ∈ vs then (if j < σ.length then some none else none) else σ[j]?
  | [] => by rw [if_neg (by simp)]; rfl
  | v :: vs => by
    show ((L2.wipe σ vs).set v none)[j]? = _
    by_cases h : v = j
    · subst h
      rw [if_pos List.mem_cons_self, List.getElem?_set, if_pos rfl, wipe_length]
    · rw [List.getElem?_set_ne h, wipe_get (vs := vs)]
      by_cases h2 : j ∈ vs
      · rw [if_pos h2, if_pos (List.mem_cons_of_mem _ h2)]
      · rw [if_neg h2, if_neg fun z => (List.mem_cons.mp z).elim (fun q => h q.symm) h2]
theorem wipe_eq {σ σ' : L2.St} {vs : List Nat} (hl : σ'.length = σ.length) (h : ∀ j, j ∉ vs → σ'[j]? = σ[j]?) : L2.wipe σ' vs = L2.wipe σ vs := by
  refine List.ext_getElem? fun j => ?_
  rw [wipe_get, wipe_get, hl]
  by_cases hj : j ∈ vs
  · rw [if_pos hj, if_pos hj]
  · rw [if_neg hj, if_neg hj]; exact h j hj
theorem wipeD_get {δ : DS} {j : Nat} : ∀ {vs : List Nat}, j ∉ vs → (wipeD δ vs)[j]? = δ[j]?
  | [], _ => rfl
  | v :: vs, h => by
    show ((wipeD δ vs).set v none)[j]? = _
    rw [List.getElem?_set_ne fun z => h (by rw [z]; exact List.mem_cons_self)]
    exact wipeD_get fun z => h (List.mem_cons_of_mem _ z)
theorem noOwn_get {vs : List Nat} {δ : DS} (h : noOwn vs δ = true) {i : Nat} {ds : List D} (e : δ[i]? = some (some (.own ds))) : i ∉ vs := fun hi => by
  have := List.all_eq_true.mp h i hi
  rw [e] at this
  exact Bool.false_ne_true this
theorem SR.untmp {g : Gh} {n : Nat} {δ : DS} {σ : L2.St} {H S Vs : Hp} {p : Addr} (h : SR K { g with T := p :: g.T } n δ σ H S Vs) (hT : p ∉ g.T) : SR K g n δ σ H S (fun b => if b = p then none else Vs b) := by
  obtain ⟨q1, ⟨xs, q2⟩, q3⟩ := h.tmps p List.mem_cons_self
  have get : ∀ b o, (if b = p then none else Vs b) = some o → b ≠ p ∧ Vs b = some o := fun b o e => by
    by_cases hb : b = p
    · rw [if_pos hb] at e; cases e
    · rw [if_neg hb] at e; exact ⟨hb, e⟩
  refine ⟨h.S0S, fun b x e => ?_, fun b x e => h.VH b x (get b x e).2, fun b x e => h.VS b x (get b x e).2, h.base, fun b w => ?_, fun b x e => h.fresh b x (get b x e).2, h.rill, h.len, fun j x e => ?_, h.apart, fun b hb => ?_⟩
  · show (if b = p then none else Vs b) = some x
    rw [if_neg (ne_of_none e q1)]; exact h.SV b x e
  · show (if b = p then none else Vs b) = none
    by_cases hb : b = p
    · rw [if_pos hb]
    · rw [if_neg hb]; exact h.nW b w
  · obtain ⟨u, e1, e2⟩ := h.slots j x e
    refine ⟨u, e1, ?_⟩
    cases x with
    | dat d => exact e2
    | own ds =>
      obtain ⟨a, zs, ev, ea, es, eh, ed⟩ := e2
      refine ⟨a, zs, ev, ?_, es, eh, ed⟩
      show (if a = p then none else Vs a) = _
      rw [if_neg fun z => q3 j ds e (by rw [e1, ev, z])]; exact ea
    | rl => exact e2
    | scr _ => exact e2
    | rg _ _ => exact e2
  · obtain ⟨r1, ⟨zs, r2⟩, r3⟩ := h.tmps b (List.mem_cons_of_mem _ hb)
    refine ⟨r1, ⟨zs, ?_⟩, r3⟩
    show (if b = p then none else Vs b) = _
    rw [if_neg (fun z : b = p => hT (z ▸ hb))]; exact r2
/-- the comprehension's reading, by data -/
theorem comp_ok {wi : TI} {s : DTA} {γ : DTG} {u : DTT} {t : DTE} {g : TG} {vs is : List Nat} {b : Bool} {σ : L2.St} {H : Hp} {Q : VK}
    (hg : GSem K g is γ)
    (hw : ∀ σ H R, lI K b s σ H R → wi σ H R) (his : ∀ i ∈ is, i ∈ vs)
    (h : lL K (dComp s γ u t vs) σ H Q) : tLc wi g (lT K u) (lE K true t) vs σ H Q := by
  obtain ⟨gh, n, δ, S, Vs, P, sr, ⟨no, ht⟩, k⟩ := h
  refine hw _ _ _ ⟨gh, n, δ, S, Vs, _, sr, ht, fun J H1 S1 V1 ds m ⟨z, hp⟩ sr1 s1 s2 w D hD => ?_⟩
  have w : WalkD K J V1 S1 ds := by
    cases b with
    | true => rw [if_pos rfl] at w; exact fun i H s => w i H (sr1.SV.trans s)
    | false => rw [if_neg (by decide)] at w; exact w
  have hV := sr1.vN hD
  have h0 := sr1.h0 hD
  have hW := sr1.notW hD
  have hT : D ∉ gh.T := fun z => by
    obtain ⟨_, ⟨xs, q⟩, _⟩ := sr1.tmps D z
    rw [hV] at q; cases q
  have sr1' : SR K { gh with T := D :: gh.T } m δ σ (upd H1 D (.lst [])) S1 (upd V1 D (.lst [])) := (sr1.temp hD).withTmp upd_same hV h0 hW
  have own : ∀ (i : Nat) es, δ[i]? = some (some (.own es)) → (wipeD δ vs)[i]? = some (some (.own es)) ∧ (L2.wipe σ vs)[i]? = σ[i]? := fun i es e => by
    have hi := noOwn_get no e
    exact ⟨by rw [wipeD_get hi]; exact e, by rw [wipe_get, if_neg hi]⟩
  refine ⟨fun i k' H => k' = ds.length - i ∧ i ≤ ds.length ∧ ∃ S2 V2 m2 acc xs, SR K { gh with T := D :: gh.T } m2 δ σ H S2 V2 ∧ Same S1 S2 ∧ Same V1 V2 ∧ V2 D = some (.lst xs) ∧ DpAll K S2 xs acc ∧ acc.length ≤ i ∧ compR γ u t (wipeD δ vs) (ds.drop i) acc m2 P,
    ⟨ds.length, by simp, Nat.zero_le _, S1, _, m, [], [], sr1', Same.refl _, same_upd hV, upd_same, .nil, Nat.zero_le _, hp⟩, fun i k' H2 ⟨hk', hi, S2, V2, m2, acc, xs, sr2, r1, r2, eD, hd, hl, hc⟩ => ?_⟩
  by_cases hlt : i < ds.length
  · have ed : ds[i]? = some ds[i] := List.getElem?_eq_getElem hlt
    obtain ⟨wg, wy⟩ := (w i H2 (r2.trans sr2.VH)).1 _ ed
    rw [List.drop_eq_getElem_cons hlt] at hc
    refine .inr ⟨wg, fun H' => ∃ S3 V3 m3 acc' xs', SR K { gh with T := D :: gh.T } m3 δ σ H' S3 V3 ∧ Same S1 S3 ∧ Same V1 V3 ∧ V3 D = some (.lst xs') ∧ DpAll K S3 xs' acc' ∧ acc'.length ≤ i + 1 ∧ compR γ u t (wipeD δ vs) (ds.drop (i + 1)) acc' m3 P,
      fun H' ⟨S3, V3, m3, acc', xs', a1, a2, a3, a4, a5, a6, a7⟩ => ⟨ds.length - (i + 1), by omega, rfl, hlt, S3, V3, m3, acc', xs', a1, a2, a3, a4, a5, a6, a7⟩, fun x H3 hy => ?_⟩
    obtain ⟨S3, V3, sr3, p1, p2, p3⟩ := sr2.out (Out.mono r1 (wy x H3 hy))
    refine hg _ m2 (wipeD δ vs) (L2.wipe σ vs) H3 S3 V3 _ x _ _ (sr3.wip vs) p3 hc fun δ1 σ1 hc1 sr4 f l => ?_
    have hcl : ∀ j, j ∉ vs → σ1[j]? = (L2.wipe σ vs)[j]? ∧ δ1[j]? = (wipeD δ vs)[j]? := fun j hj => f j fun z => hj (his j z)
    have own1 : ∀ (i : Nat) es, δ[i]? = some (some (.own es)) → δ1[i]? = some (some (.own es)) ∧ σ1[i]? = σ[i]? := fun i es e => by
      have hi := noOwn_get no e
      exact ⟨(hcl i hi).2.trans (own i es e).1, (hcl i hi).1.trans (own i es e).2⟩
    refine ⟨?_, ⟨_, m2, δ1, S3, V3, _, sr4, hc1, fun c m4 H5 S5 V5 hc5 sr5 t1 t2 => ?_⟩⟩
    · rw [wipe_eq l fun j hj => (hcl j hj).1]
      refine wipe_eq (wipe_length _ _) fun j hj => ?_
      rw [wipe_get, if_neg hj]
    · cases c with
      | false =>
        rw [if_neg Bool.false_ne_true] at hc5 ⊢
        exact ⟨S5, V5, m4, acc, xs, sr3.regrow sr5 t1 t2 own1, r1.trans (p1.trans t1), r2.trans (p2.trans t2), t2 _ _ (p2 _ _ eD), DpAll.mono (p1.trans t1) hd, by omega, hc5⟩
      | true =>
        rw [if_pos rfl] at hc5 ⊢
        refine ⟨_, m4, δ1, S5, V5, _, sr5, hc5, fun d6 m6 v6 H6 S6 V6 hc6 sr6 t3 t4 r6 => ?_⟩
        have eD6 : V6 D = some (.lst xs) := t4 _ _ (t2 _ _ (p2 _ _ eD))
        have sr7 := sr3.regrow sr6 (t1.trans t3) (t2.trans t4) own1
        have hd6 := DpAll.mono (p1.trans (t1.trans t3)) hd
        refine ⟨xs, sr6.VH _ _ eD6, ?_, S6, _, m6, acc ++ [d6], xs ++ [v6], sr7.tmpMut h0 hT, r1.trans (p1.trans (t1.trans t3)), fun b o e => ?_, upd_same, hd6.append (.cons r6 .nil), ?_, hc6⟩
        · rw [hd.length]; omega
        · rw [upd_ne (ne_of_none e hV)]; exact t4 _ _ (t2 _ _ (p2 _ _ (r2 _ _ e)))
        · rw [List.length_append, List.length_singleton]; omega
  · have hge : ds.length ≤ i := Nat.le_of_not_lt hlt
    refine .inl ⟨(w i H2 (r2.trans sr2.VH)).2 hge, ?_⟩
    rw [List.drop_eq_nil_of_le hge] at hc
    have hVV : Same Vs (fun b => if b = D then none else V2 b) := fun b o e => by
      have e1 := s2 _ _ e
      show (if b = D then none else V2 b) = some o
      rw [if_neg (ne_of_none e1 hV)]; exact r2 _ _ e1
    exact k acc m2 D xs H2 S2 _ hc (sr2.untmp hT) (s1.trans r1) hVV (sr2.VH _ _ eD) (if_pos rfl) h0 hW hd
theorem dl_comp {elt tg iter : Expr} {ifs : List Expr} {scope : Scope} {own : List (Str × Nat)} {pos : Pos} {b : Bool} {s : DTA} {g : TG} {is : List Nat} {γ : DTG} {u : DTT} {t : DTE} (hc : X.calm = true) (hN : X.N.Nodup) (hi : DI X b tg iter s) (ok : BlkOk X.N X.env.scope scope own)
    (hg : ∀ (s : Shared) (H : Hp) (C : Addr) (cl : List (Str × Addr)) (fp : List Addr), PG (X.blk s H scope (compEnvC scope cl C X.env) fp) tg g) (sem : GSem X.K g is γ) (his : ∀ i ∈ is, i ∈ own.map (·.2))
    (ht : ∀ (s : Shared) (H : Hp) (C : Addr) (cl : List (Str × Addr)) (fp : List Addr), DTs (X.blk s H scope (compEnvC scope cl C X.env) fp) ifs u)
    (he : ∀ (s : Shared) (H : Hp) (C : Addr) (cl : List (Str × Addr)) (fp : List Addr), DE (X.blk s H scope (compEnvC scope cl C X.env) fp) true elt t) (hs : ∀ x, foldedSetIterable iter X.env x = pure x := by intro _; rfl) :
    DL X (.ListComp elt [⟨tg, iter, ifs, 0⟩] scope pos) (dComp s γ u t (own.map (·.2))) :=
  ⟨PE.imp (pe_lc hc hN hi.run ok hg (fun a b c d e => (ht a b c d e).run) (fun a b c d e => (he a b c d e).run) hs) fun σ H Q h => comp_ok sem (fun _ _ _ h => h) his h⟩
end
end DL
/-! DL5: statements, the body of a def. -/
namespace DL
open PySem PySem.Spec L2

structure DEnds where
  nx : DS → Nat → Prop
  rt : D → Nat → Prop
  bk : DS → Nat → Prop := fun _ _ => False
  ct : DS → Nat → Prop := fun _ _ => False
abbrev DTS := DEnds → DS → Nat → Prop
def EndsOk (K : PySem.W.Frag) (g : Gh) (S : Hp) (E : DEnds) (D : Ends) : Prop :=
  (∀ δ' m σ' H' S' Vs', E.nx δ' m → SR K g m δ' σ' H' S' Vs' → Same S S' → D.nx σ' H') ∧
  (∀ d δ' m v σ' H' S' Vs', E.rt d m → SR K g m δ' σ' H' S' Vs' → Same S S' → Dp K S' v d → D.rt v H') ∧
  (∀ δ' m σ' H' S' Vs', E.bk δ' m → SR K g m δ' σ' H' S' Vs' → Same S S' → D.bk σ' H') ∧
  (∀ δ' m σ' H' S' Vs', E.ct δ' m → SR K g m δ' σ' H' S' Vs' → Same S S' → D.ct σ' H')
def lS (K : PySem.W.Frag) (t : DTS) : TS := fun D σ H => ∃ g n δ S Vs E, g.T = [] ∧ SR K g n δ σ H S Vs ∧ t E δ n ∧ EndsOk K g S E D
structure DSt (X : Cx) (st : Stmt) (t : DTS) : Prop where
  run : PS X st (lS X.K t)
structure DSs (X : Cx) (st : List Stmt) (t : DTS) : Prop where
  run : PSs X st (lS X.K t)

section
variable {X : Cx} {K : PySem.W.Frag} {e a b c : Expr} {es : List Expr} {pos : Pos} {t1 t2 t3 : DTE} {ta : DTA} {u1 : DTT} {s1 s2 : DTS} {st : Stmt} {rest sa sb : List Stmt} {b1 b2 b3 : Bool}
theorem PS.imp {t u : TS} (h : PS X st t) (hi : ∀ D σ H, u D σ H → t D σ H) : PS X st u := ⟨fun pins s σ H D I q => h.run pins s σ H D I (hi D σ H q)⟩
theorem PSs.imp {t u : TS} (h : PSs X rest t) (hi : ∀ D σ H, u D σ H → t D σ H) : PSs X rest u := ⟨fun pins s σ H D I q => h.run pins s σ H D I (hi D σ H q)⟩
theorem EndsOk.less {g : Gh} {S S' : Hp} {E : DEnds} {D : Ends} (h : EndsOk K g S E D) (s : Same S S') : EndsOk K g S' E D :=
  ⟨fun _ _ _ _ _ _ e r q => h.1 _ _ _ _ _ _ e r (s.trans q), fun _ _ _ _ _ _ _ _ e r q d => h.2.1 _ _ _ _ _ _ _ _ e r (s.trans q) d, fun _ _ _ _ _ _ e r q => h.2.2.1 _ _ _ _ _ _ e r (s.trans q), fun _ _ _ _ _ _ e r q => h.2.2.2 _ _ _ _ _ _ e r (s.trans q)⟩
def sNext : DTS := fun E δ n => E.nx δ n
def sSeq (t u : DTS) : DTS := fun E δ n => t { E with nx := u E } δ n
theorem dss_nil : DSs X [] sNext := ⟨PSs.imp pss_nil fun D σ H ⟨g, n, δ, S, Vs, E, hT, sr, ht, ok⟩ => ok.1 _ _ _ _ _ _ ht sr (Same.refl _)⟩
theorem seq_ok {t u : DTS} {D : Ends} {σ : L2.St} {H : Hp} (h : lS K (sSeq t u) D σ H) : tSeq (lS K t) (lS K u) D σ H := by
  obtain ⟨g, n, δ, S, Vs, E, hT, sr, ht, ok⟩ := h
  exact ⟨g, n, δ, S, Vs, _, hT, sr, ht, fun δ' m σ' H' S' Vs' q sr' s => ⟨g, m, δ', S', Vs', E, hT, sr', q, ok.less s⟩, ok.2.1, ok.2.2.1, ok.2.2.2⟩
theorem dss_cons (h1 : DSt X st s1) (h2 : DSs X rest s2) : DSs X (st :: rest) (sSeq s1 s2) := ⟨PSs.imp (pss_cons h1.run h2.run) fun _ _ _ h => seq_ok h⟩
theorem dss_one (h1 : DSt X st s1) : DSs X [st] s1 := ⟨pss_one h1.run⟩
def sBk : DTS := fun E δ n => E.bk δ n
def sCt : DTS := fun E δ n => E.ct δ n
theorem ds_pass : DSt X (.Pass pos) sNext := ⟨PS.imp ps_pass fun D σ H ⟨g, n, δ, S, Vs, E, hT, sr, ht, ok⟩ => ok.1 _ _ _ _ _ _ ht sr (Same.refl _)⟩
theorem ds_break : DSt X (.Break pos) sBk := ⟨PS.imp ps_break fun D σ H ⟨g, n, δ, S, Vs, E, hT, sr, ht, ok⟩ => ok.2.2.1 _ _ _ _ _ _ ht sr (Same.refl _)⟩
theorem ds_continue : DSt X (.Continue pos) sCt := ⟨PS.imp ps_continue fun D σ H ⟨g, n, δ, S, Vs, E, hT, sr, ht, ok⟩ => ok.2.2.2 _ _ _ _ _ _ ht sr (Same.refl _)⟩
def sRet (t : DTE) : DTS := fun E δ n => t δ n E.rt
theorem ds_ret (h : DE X true e t1) : DSt X (.Return (some e) pos) (sRet t1) :=
  ⟨PS.imp (ps_ret h.run) fun D σ H ⟨g, n, δ, S, Vs, E, hT, sr, ht, ok⟩ => ⟨g, n, δ, S, Vs, _, sr, ht, fun d m v H' S' Vs' p sr' q1 q2 r => ok.2.1 d δ m v σ H' S' Vs' p sr' q1 r⟩⟩
def sRetN : DTS := fun E _ n => E.rt .none n
theorem ds_retN : DSt X (.Return none pos) sRetN :=
  ⟨PS.imp ps_retN fun D σ H ⟨g, n, δ, S, Vs, E, hT, sr, ht, ok⟩ => ok.2.1 _ δ n _ σ H S Vs ht sr (Same.refl _) .non⟩
def sIf (u : DTT) (s t : DTS) : DTS := fun E δ n => u δ n fun c m => if c = true then s E δ m else t E δ m
theorem ds_if (hc : DT X c u1) (ha : DSs X sa s1) (hb : DSs X sb s2) : DSt X (.If c sa sb pos) (sIf u1 s1 s2) :=
  ⟨PS.imp (ps_if hc.run ha.run hb.run) fun D σ H ⟨g, n, δ, S, Vs, E, hT, sr, ht, ok⟩ => ⟨g, n, δ, S, Vs, _, sr, ht, fun k m H' S' Vs' p sr' q1 q2 => by
    cases k with
    | true => exact ⟨g, m, δ, S', Vs', E, hT, sr', p, ok.less q1⟩
    | false => exact ⟨g, m, δ, S', Vs', E, hT, sr', p, ok.less q1⟩⟩⟩
/-- x = e -/
def sSet (i : Nat) (t : DTE) : DTS := fun E δ n => t δ n fun d m => i < δ.length ∧ E.nx (δ.set i (some (.dat d))) m
theorem ds_set {i : Nat} (h : ∀ te, PE X e te → PS X st (tAsg te (gName i))) (he : DE X true e t1) : DSt X st (sSet i t1) :=
  ⟨PS.imp (h _ he.run) fun D σ H ⟨g, n, δ, S, Vs, E, hT, sr, ht, ok⟩ => ⟨g, n, δ, S, Vs, _, sr, ht, fun d m v H' S' Vs' ⟨hi, p⟩ sr' q1 q2 r => ok.1 _ m _ H' S' Vs' p (sr'.set hi r) q1⟩⟩
/-- x = a new list -/
def sSetL (i : Nat) (t : DTA) : DTS := fun E δ n => t δ n fun ds m => i < δ.length ∧ E.nx (δ.set i (some (.own ds))) m
theorem ds_setL {i : Nat} (h : ∀ te, PE X e te → PS X st (tAsg te (gName i))) (he : DL X e ta) : DSt X st (sSetL i ta) :=
  ⟨PS.imp (h _ he.run) fun D σ H ⟨g, n, δ, S, Vs, E, hT, sr, ht, ok⟩ => ⟨g, n, δ, S, Vs, _, sr, ht, fun ds m p xs H' S' Vs' ⟨hi, q⟩ sr' q1 q2 e1 e2 e3 e4 r => ok.1 _ m _ H' S' _ q (sr'.setO hi e1 e2 e3 e4 r) q1⟩⟩
/-- x = [.. for ..] at a local of its line -/
theorem ds_setLc {i : Nat} {y : Str} {py : Pos} {elt tg iter : Expr} {ifs : List Expr} {scope : Scope} {own : List (Str × Nat)} {pos spos : Pos} {fl : Bool} {s : DTA} {g : TG} {is : List Nat} {γ : DTG} {u : DTT} {t : DTE} (hc : X.calm = true) (hN : X.N.Nodup) (hy : X.N[i]? = some y) (hyl : X.env.scope.names.lookup y = some .local)
    (hsw : swapsWith (.ListComp elt [⟨tg, iter, ifs, 0⟩] scope pos) (some (.Name y py)) spos.line X.env = pure true) (hi : DI X fl tg iter s) (ok : BlkOk X.N X.env.scope scope own)
    (hg : ∀ (s : Shared) (H : Hp) (C : Addr) (cl : List (Str × Addr)) (fp : List Addr), PG (X.blk s H scope (compEnvC scope cl C X.env) fp) tg g) (sem : GSem X.K g is γ) (his : ∀ i ∈ is, i ∈ own.map (·.2))
    (ht : ∀ (s : Shared) (H : Hp) (C : Addr) (cl : List (Str × Addr)) (fp : List Addr), DTs (X.blk s H scope (compEnvC scope cl C X.env) fp) ifs u)
    (he : ∀ (s : Shared) (H : Hp) (C : Addr) (cl : List (Str × Addr)) (fp : List Addr), DE (X.blk s H scope (compEnvC scope cl C X.env) fp) true elt t) (hs : ∀ x, foldedSetIterable iter X.env x = pure x := by intro _; rfl) :
    DSt X (.Assign [.Name y py] (.ListComp elt [⟨tg, iter, ifs, 0⟩] scope pos) spos) (sSetL i (dComp s γ u t (own.map (·.2)))) :=
  ⟨PS.imp (ps_setLc hc hN hy hyl hsw hi.run ok hg (fun a b c d e => (ht a b c d e).run) (fun a b c d e => (he a b c d e).run) hs) fun D σ H ⟨g, n, δ, S, Vs, E, hT, sr, hr, ok⟩ =>
    comp_ok sem (fun _ _ _ h => h) his ⟨g, n, δ, S, Vs, _, sr, hr, fun ds m p xs H' S' Vs' ⟨hi, q⟩ sr' q1 q2 e1 e2 e3 e4 r => ok.1 _ m _ H' S' _ q (sr'.setO hi e1 e2 e3 e4 r) q1⟩⟩
/-- targets = e -/
def sAsg (γ : DTG) (t : DTE) : DTS := fun E δ n => t δ n fun d m => γ d δ fun δ' => E.nx δ' m
theorem ds_asg {g : TG} {is : List Nat} {γ : DTG} (h : ∀ te, PE X e te → PS X st (tAsg te g)) (sem : GSem X.K g is γ) (he : DE X true e t1) : DSt X st (sAsg γ t1) :=
  ⟨PS.imp (h _ he.run) fun D σ H ⟨gh, n, δ, S, Vs, E, hT, sr, ht, ok⟩ => ⟨gh, n, δ, S, Vs, _, sr, ht, fun d m v H' S' Vs' p sr' q1 q2 r =>
    sem gh m δ σ H' S' Vs' d v _ _ sr' r p fun δ' σ' p' sr2 _ _ => ok.1 _ m _ H' S' Vs' p' sr2 q1⟩⟩
/-- a, b = x, y at locals -/
def sPar (i j : Nat) (t : DTA) : DTS := fun E δ n => t δ n fun ds m => ∃ x y, ds = [x, y] ∧ i < δ.length ∧ j < δ.length ∧ E.nx ((δ.set i (some (.dat x))).set j (some (.dat y))) m
theorem ds_par {i j : Nat} (h : ∀ te, PA X es te → PS X st (tPar i j te)) (he : DA X es ta) : DSt X st (sPar i j ta) :=
  ⟨PS.imp (h _ he.run) fun D σ H ⟨gh, n, δ, S, Vs, E, hT, sr, ht, ok⟩ => ⟨gh, n, δ, S, Vs, _, sr, ht, fun ds m vs H' S' Vs' p sr' q1 q2 r => by
    obtain ⟨x, y, rfl, hi, hj, p⟩ := p
    cases r with
    | cons r1 r =>
      cases r with
      | cons r2 r =>
        cases r
        exact ⟨_, _, rfl, ok.1 _ m _ H' S' Vs' p ((sr'.set hi r1).set (by simpa using hj) r2) q1⟩⟩⟩
/-- an expression whose value is dropped -/
def sDrop (t : DTE) : DTS := fun E δ n => t δ n fun _ m => E.nx δ m
theorem ds_expr (he : DE X b1 e t1) (hs : swapsWith e none pos.line X.env = pure false := by rfl) : DSt X (.Expr e pos) (sDrop t1) :=
  ⟨PS.imp (ps_expr he.run hs) fun D σ H ⟨g, n, δ, S, Vs, E, hT, sr, ht, ok⟩ => ⟨g, n, δ, S, Vs, _, sr, ht, fun d m v H' S' Vs' p sr' q1 q2 r => ok.1 _ m _ H' S' Vs' p sr' q1⟩⟩
theorem ds_doc {x j pos pos'} : DSt X (.Expr (.Constant (.str x) j pos) pos') sNext := ⟨PS.imp ps_doc fun D σ H ⟨g, n, δ, S, Vs, E, hT, sr, ht, ok⟩ => ok.1 _ _ _ _ _ _ ht sr (Same.refl _)⟩
/-- x.append(e), x an own list -/
def sApp (i : Nat) (t : DTE) : DTS := fun E δ n => ∃ ds, δ[i]? = some (some (.own ds)) ∧ ds.length < sizeLine ∧ t δ n fun d m => E.nx (δ.set i (some (.own (ds ++ [d])))) m
theorem ds_append {i : Nat} {x : Str} {p apos cpos spos : Pos} (hx : PE X (.Name x p) (tVar i)) (he : DE X true e t1)
    (h : ∀ {to : TE} {t : TA}, PE X (.Name x p) to → PA X [e] t → PE X (.Call (.Attribute (.Name x p) "append" apos) [e] [] cpos) (tBM X.K "list" rAppend to t))
    (hs : swapsWith (.Call (.Attribute (.Name x p) "append" apos) [e] [] cpos) none spos.line X.env = pure false := by rfl) (hs2 : starEach (e :: []) X.env = (false, eval e X.env) :: starEach [] X.env := by rfl) :
    DSt X (.Expr (.Call (.Attribute (.Name x p) "append" apos) [e] [] cpos) spos) (sApp i t1) :=
  ⟨PS.imp (ps_expr (h hx (pa_cons he.run pa_nil hs2)) hs) fun D σ H ⟨g, n, δ, S, Vs, E, hT, sr, ⟨ds, ei, hz, ht⟩, ok⟩ => by
    obtain ⟨v, ev, a, xs, rfl, ea, es, eh, ed⟩ := sr.slots i _ ei
    refine ⟨_, ev, .inl ⟨rfl, xs, SqL.of (sr.VH _ _ ea)⟩, g, n, δ, S, Vs, _, sr, ht, fun d m w H' S' Vs' q sr' q1 q2 r => ?_⟩
    refine ⟨a, xs, w, rfl, rfl, sr'.VH _ _ (q2 _ _ ea), by rw [ed.length]; exact hz, ?_⟩
    exact ok.1 _ m _ _ S' _ q (sr'.mut ei ev ((DpAll.mono q1 ed).append (.cons r .nil))) q1⟩
/-- x.extend(a new list), x an own list -/
def sExt (i : Nat) (t : DTA) : DTS := fun E δ n => ∃ ds, δ[i]? = some (some (.own ds)) ∧ t δ n fun es m => ds.length + es.length ≤ sizeLine ∧ E.nx (δ.set i (some (.own (ds ++ es)))) m
def lsE (t : DTE) : DTA := fun δ n Q => t δ n fun d m => ∃ ds, d = .list ds ∧ Q ds m
theorem ds_extend {i : Nat} {x : Str} {p apos cpos spos : Pos} (hx : PE X (.Name x p) (tVar i)) (he : DE X true e t1)
    (h : ∀ {to : TE} {t : TA}, PE X (.Name x p) to → PA X [e] t → PE X (.Call (.Attribute (.Name x p) "extend" apos) [e] [] cpos) (tBM X.K "list" rExtend to t))
    (hs : swapsWith (.Call (.Attribute (.Name x p) "extend" apos) [e] [] cpos) none spos.line X.env = pure false := by rfl) (hs2 : starEach (e :: []) X.env = (false, eval e X.env) :: starEach [] X.env := by rfl) :
    DSt X (.Expr (.Call (.Attribute (.Name x p) "extend" apos) [e] [] cpos) spos) (sExt i (lsE t1)) :=
  ⟨PS.imp (ps_expr (h hx (pa_cons he.run pa_nil hs2)) hs) fun D σ H ⟨g, n, δ, S, Vs, E, hT, sr, ⟨ds, ei, ht⟩, ok⟩ => by
    obtain ⟨v, ev, a, xs, rfl, ea, es, eh, ed⟩ := sr.slots i _ ei
    refine ⟨_, ev, .inl ⟨rfl, xs, SqL.of (sr.VH _ _ ea)⟩, g, n, δ, S, Vs, _, sr, ht, fun d m w H' S' Vs' ⟨fs, e1, hz, q⟩ sr' q1 q2 r => ?_⟩
    subst e1
    cases r with
    | lst h1 h2 =>
      refine ⟨a, _, xs, _, rfl, rfl, sr'.VH _ _ (q2 _ _ ea), sr'.SH _ _ h1, by rw [ed.length, h2.length]; exact hz, ?_⟩
      exact ok.1 _ m _ _ S' _ q (sr'.mut ei ev ((DpAll.mono q1 ed).append h2)) q1⟩
/-- y = x, x an own list: it goes over -/
def sMv (i j : Nat) : DTS := fun E δ n => ∃ ds, δ[i]? = some (some (.own ds)) ∧ i ≠ j ∧ j < δ.length ∧ E.nx ((δ.set i none).set j (some (.own ds))) n
theorem SR.move {g : Gh} {n : Nat} {δ : DS} {σ : L2.St} {H S Vs : Hp} {v : V} (h : SR K g n δ σ H S Vs) {i j : Nat} {ds : List D} (hi : δ[i]? = some (some (.own ds))) (hij : i ≠ j) (hj : j < δ.length) (hv : σ[i]? = some (some v)) :
    SR K g n ((δ.set i none).set j (some (.own ds))) (σ.set j (some v)) H S Vs := by
  have hd := h.drop i
  obtain ⟨v', e1, a, xs, e2, e3, e4, e5, e6⟩ := h.slots i _ hi
  rw [hv] at e1
  cases e1
  have hjs : j < σ.length := by rw [h.len]; exact hj
  have other : ∀ (k : Nat) es, (δ.set i none)[k]? = some (some (.own es)) → σ[k]? ≠ some (some v) := fun k es e => by
    obtain ⟨hk, e⟩ := set_none_get e
    have := h.apart i k ds es hk hi e
    rw [hv] at this
    exact fun z => this z.symm
  refine ⟨h.S0S, h.SV, h.VH, h.VS, h.base, h.nW, h.fresh, h.rill, by simp [h.len], fun k x e => ?_, fun k l ds' es' hkl q1 q2 => ?_, fun b hb => ?_⟩
  · rcases set_get e with ⟨rfl, rfl⟩ | ⟨hk, e⟩
    · exact ⟨v, by rw [List.getElem?_set_self hjs], a, xs, e2, e3, e4, e5, e6⟩
    · obtain ⟨u, f1, f2⟩ := hd.slots k x e
      exact ⟨u, by rw [List.getElem?_set_ne hk]; exact f1, f2⟩
  · rcases set_get q1 with ⟨rfl, _⟩ | ⟨hk, q1⟩
    · rcases set_get q2 with ⟨rfl, _⟩ | ⟨hl, q2⟩
      · exact absurd rfl hkl
      · rw [List.getElem?_set_self hjs, List.getElem?_set_ne hl]
        exact fun z => other l _ q2 z.symm
    · rcases set_get q2 with ⟨rfl, _⟩ | ⟨hl, q2⟩
      · rw [List.getElem?_set_self hjs, List.getElem?_set_ne hk]
        exact other k _ q1
      · rw [List.getElem?_set_ne hk, List.getElem?_set_ne hl]
        exact hd.apart k l ds' es' hkl q1 q2
  · obtain ⟨q1, q2, q3⟩ := hd.tmps b hb
    refine ⟨q1, q2, fun k ds' e => ?_⟩
    rcases set_get e with ⟨rfl, _⟩ | ⟨hk, e⟩
    · rw [List.getElem?_set_self hjs]
      have := (h.tmps b hb).2.2 i ds hi
      rw [hv] at this
      exact this
    · rw [List.getElem?_set_ne hk]; exact q3 k ds' e
theorem ds_mv {i j : Nat} (h : PS X st (tAsg (tVar i) (gName j))) : DSt X st (sMv i j) :=
  ⟨PS.imp h fun D σ H ⟨g, n, δ, S, Vs, E, hT, sr, ⟨ds, ei, hij, hj, ht⟩, ok⟩ => by
    obtain ⟨v, ev, _⟩ := sr.slots i _ ei
    exact ⟨v, ev, ok.1 _ n _ H S Vs ht (sr.move ei hij hj ev) (Same.refl _)⟩⟩
/-- an own list is given away, ahead of what follows -/
def sFrz (i : Nat) (t : DTS) : DTS := fun E δ n => ∃ ds, δ[i]? = some (some (.own ds)) ∧ t E (δ.set i (some (.dat (.list ds)))) n
theorem dss_frz {i : Nat} (h : DSs X rest s1) : DSs X rest (sFrz i s1) :=
  ⟨PSs.imp h.run fun D σ H ⟨g, n, δ, S, Vs, E, hT, sr, ⟨ds, ei, ht⟩, ok⟩ => by
    obtain ⟨S', sr', s⟩ := sr.freeze hT ei
    exact ⟨g, n, _, S', Vs, E, hT, sr', ht, ok.less s⟩⟩
/-- .. where it is one -/
def sFz (i : Nat) (t : DTS) : DTS := fun E δ n => (∃ ds, δ[i]? = some (some (.own ds)) ∧ t E (δ.set i (some (.dat (.list ds)))) n) ∨ t E δ n

/-! ### loops -/
def forR (γ : DTG) (tb : DTS) (E : DEnds) : List D → DS → Nat → Prop
  | [], δ, n => E.nx δ n
  | d :: r, δ, n => γ d δ fun δ1 => tb { nx := fun δ2 m => forR γ tb E r δ2 m, ct := fun δ2 m => forR γ tb E r δ2 m, bk := E.nx, rt := E.rt } δ1 n
def sFor (s : DTA) (γ : DTG) (tb : DTS) : DTS := fun E δ n => s δ n fun ds m => forR γ tb E ds δ m
theorem ds_for {tg iter : Expr} {body : List Stmt} {s : DTA} {g : TG} {is : List Nat} {γ : DTG} {tb : DTS} (hp : PassesOwn (model X.prog X.w) X.A X.env X.xe) (hc : X.calm = true) (hi : DI X true tg iter s) (hg : PG X tg g) (sem : GSem X.K g is γ) (hb : DSs X body tb)
    (hs : ∀ x, foldedSetIterable iter X.env x = pure x := by intro _; rfl) : DSt X (.For tg iter body [] pos) (sFor s γ tb) :=
  ⟨PS.imp (ps_for hp hc hi.run hg hb.run hs) fun D σ H ⟨gh, n, δ, S, Vs, E, hT, sr, ht, ok⟩ => by
    refine ⟨gh, n, δ, S, Vs, _, sr, ht, fun J H1 S1 V1 ds m hp sr1 q1 q2 w => ?_⟩
    rw [if_pos rfl] at w
    refine ⟨fun i k σ H => k = ds.length - i ∧ i ≤ ds.length ∧ ∃ δ2 m2 S2 V2, SR X.K gh m2 δ2 σ H S2 V2 ∧ Same S1 S2 ∧ forR γ tb E (ds.drop i) δ2 m2, ⟨ds.length, by simp, Nat.zero_le _, δ, m, S1, V1, sr1, Same.refl _, hp⟩,
      fun i k σ2 H2 ⟨hk, hi, δ2, m2, S2, V2, sr2, r1, hf⟩ => ?_⟩
    by_cases hlt : i < ds.length
    · have ed : ds[i]? = some ds[i] := List.getElem?_eq_getElem hlt
      obtain ⟨wg, wy⟩ := (w i H2 (r1.trans sr2.SH)).1 _ ed
      rw [List.drop_eq_getElem_cons hlt] at hf
      refine .inr ⟨wg, fun σ' H' => ∃ δ3 m3 S3 V3, SR X.K gh m3 δ3 σ' H' S3 V3 ∧ Same S1 S3 ∧ forR γ tb E (ds.drop (i + 1)) δ3 m3, fun σ' H' ⟨δ3, m3, S3, V3, a1, a2, a3⟩ => ⟨ds.length - (i + 1), by omega, rfl, hlt, δ3, m3, S3, V3, a1, a2, a3⟩, fun x H3 hy => ?_⟩
      obtain ⟨S3, V3, sr3, p1, p2, p3⟩ := sr2.out (Out.mono r1 (wy x H3 hy))
      refine sem gh m2 δ2 σ2 H3 S3 V3 _ x _ _ sr3 p3 hf fun δ4 σ4 h4 sr4 _ _ => ?_
      exact ⟨gh, m2, δ4, S3, V3, _, hT, sr4, h4, fun δ' m' σ' H' S' Vs' a1 a2 a3 => ⟨δ', m', S', Vs', a2, r1.trans (p1.trans a3), a1⟩, fun d δ' m' v σ' H' S' Vs' a1 a2 a3 a4 => ok.2.1 d δ' m' v σ' H' S' Vs' a1 a2 (q1.trans (r1.trans (p1.trans a3))) a4,
        fun δ' m' σ' H' S' Vs' a1 a2 a3 => ok.1 δ' m' σ' H' S' Vs' a1 a2 (q1.trans (r1.trans (p1.trans a3))), fun δ' m' σ' H' S' Vs' a1 a2 a3 => ⟨δ', m', S', Vs', a2, r1.trans (p1.trans a3), a1⟩⟩
    · have hge : ds.length ≤ i := Nat.le_of_not_lt hlt
      rw [List.drop_eq_nil_of_le hge] at hf
      exact .inl ⟨(w i H2 (r1.trans sr2.SH)).2 hge, ok.1 δ2 m2 σ2 H2 S2 V2 hf sr2 (q1.trans r1)⟩⟩
def whR (u : DTT) (tb : DTS) (E : DEnds) : Nat → DS → Nat → Prop
  | 0, _, _ => False
  | k + 1, δ, n => u δ n fun c m => if c = true then tb { nx := fun δ2 m => whR u tb E k δ2 m, ct := fun δ2 m => whR u tb E k δ2 m, bk := E.nx, rt := E.rt } δ m else E.nx δ m
def sWhile (u : DTT) (tb : DTS) : DTS := fun E δ n => ∃ k, whR u tb E k δ n
theorem ds_while {body : List Stmt} {tb : DTS} (hp : PassesOwn (model X.prog X.w) X.A X.env X.xe) (hc : DT X c u1) (hb : DSs X body tb) : DSt X (.While c body [] pos) (sWhile u1 tb) :=
  ⟨PS.imp (ps_while hp hc.run hb.run) fun D σ H ⟨gh, n, δ, S, Vs, E, hT, sr, ⟨k0, ht⟩, ok⟩ => by
    refine ⟨fun k σ H => ∃ δ2 m2 S2 V2, SR X.K gh m2 δ2 σ H S2 V2 ∧ Same S S2 ∧ whR u1 tb E k δ2 m2, ⟨k0, δ, n, S, Vs, sr, Same.refl _, ht⟩, fun k σ2 H2 ⟨δ2, m2, S2, V2, sr2, r1, hf⟩ => ?_⟩
    cases k with
    | zero => exact hf.elim
    | succ k =>
      refine ⟨gh, m2, δ2, S2, V2, _, sr2, hf, fun cc m3 H3 S3 V3 h3 sr3 p1 p2 => ?_⟩
      cases cc with
      | false =>
        rw [if_neg Bool.false_ne_true] at h3 ⊢
        exact ok.1 δ2 m3 σ2 H3 S3 V3 h3 sr3 (r1.trans p1)
      | true =>
        rw [if_pos rfl] at h3 ⊢
        refine ⟨fun σ' H' => ∃ δ' m' S' V', SR X.K gh m' δ' σ' H' S' V' ∧ Same S S' ∧ whR u1 tb E k δ' m', fun σ' H' ⟨δ', m', S', V', a1, a2, a3⟩ => ⟨k, Nat.lt_succ_self _, δ', m', S', V', a1, a2, a3⟩, ?_⟩
        exact ⟨gh, m3, δ2, S3, V3, _, hT, sr3, h3, fun δ' m' σ' H' S' Vs' a1 a2 a3 => ⟨δ', m', S', Vs', a2, r1.trans (p1.trans a3), a1⟩, fun d δ' m' v σ' H' S' Vs' a1 a2 a3 a4 => ok.2.1 d δ' m' v σ' H' S' Vs' a1 a2 (r1.trans (p1.trans a3)) a4,
          fun δ' m' σ' H' S' Vs' a1 a2 a3 => ok.1 δ' m' σ' H' S' Vs' a1 a2 (r1.trans (p1.trans a3)), fun δ' m' σ' H' S' Vs' a1 a2 a3 => ⟨δ', m', S', Vs', a2, r1.trans (p1.trans a3), a1⟩⟩⟩

/-! ### a def -/
def arD : Ar → Option DV
  | .d d => some (.dat d)
  | .rl => some .rl
def startD (N : List Str) (as : List Ar) : DS := as.map arD ++ List.replicate (N.length - as.length) none
theorem RpAs.slots {W : Option (Addr × Addr)} {S : Hp} : ∀ {vs : List V} {as : List Ar}, RpAs K W true S S vs as → ∀ (i : Nat) x, (as.map arD)[i]? = some (some x) → ∃ v, vs[i]? = some v ∧ ((∃ d, x = .dat d ∧ Dp K S v d) ∨ (x = .rl ∧ ∃ r f, W = some (r, f) ∧ v = .ref r))
  | _, _, .nil, i, x, e => by simp at e
  | _, _, .cons (a := v) (b := y) h t, 0, x, e => by
    cases y with
    | d d => simp [arD] at e; subst e; exact ⟨v, rfl, .inl ⟨d, rfl, h⟩⟩
    | rl => simp [arD] at e; subst e; exact ⟨v, rfl, .inr ⟨rfl, h⟩⟩
  | _, _, .cons h t, i + 1, x, e => by
    obtain ⟨v, e1, e2⟩ := RpAs.slots t i x (by simpa using e)
    exact ⟨v, by simpa using e1, e2⟩
theorem start_sr {W : Option (Addr × Addr)} {n : Nat} {S0 H : Hp} {vs : List V} {as : List Ar} {N : List Str} (h1 : Same S0 H) (h2 : ∀ b, inW W b → S0 b = none) (h3 : ∀ r f, W = some (r, f) → RillOk H r f n) (h4 : RpAs K W true S0 S0 vs as) :
    SR K ⟨W, H, S0, []⟩ n (startD N as) (L2.start N vs) H S0 S0 := by
  have hl := Paired.len h4
  have key : ∀ (i : Nat) x, (startD N as)[i]? = some (some x) → (as.map arD)[i]? = some (some x) := fun i x e => by
    unfold startD at e
    by_cases hi : i < (as.map arD).length
    · rw [List.getElem?_append_left hi] at e; exact e
    · rw [List.getElem?_append_right (Nat.le_of_not_lt hi), List.getElem?_replicate] at e
      split at e <;> cases e
  refine ⟨Same.refl _, Same.refl _, h1, fun b o e => .inl e, fun b o e _ => e, h2, fun b o e => .inl e, h3, ?_, fun i x e => ?_, fun i j ds es _ e _ => ?_, fun a ha => by cases ha⟩
  · unfold L2.start startD
    simp [hl]
  · obtain ⟨v, e1, e2⟩ := RpAs.slots h4 i x (key i x e)
    refine ⟨v, ?_, ?_⟩
    · have hi := (List.getElem?_eq_some_iff.mp e1).1
      unfold L2.start
      rw [List.getElem?_append_left (by simpa using hi), List.getElem?_map, e1]
      rfl
    · rcases e2 with ⟨d, rfl, h⟩ | ⟨rfl, h⟩
      · exact h
      · exact h
  · obtain ⟨v, e1, e2⟩ := RpAs.slots h4 i _ (key i _ e)
    rcases e2 with ⟨d, z, _⟩ | ⟨z, _⟩ <;> cases z
/-- a def keeps its promise: its body's reading from the arguments -/
theorem dfn {P : Program} {w : World} {mg : Str → Option Value} {base : Heap} {x qual : Str} {fa : Addr} {fd : FuncData} {N ps : List Str} {k ar : Nat} {f : Fn} {t : DTS} (F : Fun K x qual st fa fd) (S : FnScope N ps (defScope st)) (har : ps.length = ar)
    (hb : ∀ (cdv : Value) (A : Around) (outer : List Env) (s : Shared) (H : Hp) (E : XK), A.guards = some [] → Room k (A.deeper (PyProof.Rows.envOfC qual (defScope st) s.heap.objs.size fa cdv)) → DSs (cxOf CX0 P w K mg base N qual (defScope st) fa cdv A outer s H E).nox (defBody st) t)
    (hf : ∀ as n P, as.length = ar → f as n P → t ⟨fun _ m => P .none m, P, fun _ _ => False, fun _ _ => False⟩ (startD N as) n) : FnG P w K mg base CX0 (k + 1) fa fd ps (spD K ar f) := by
  refine fnG_of F S (fun vs H Q E h => (spD_len vs H Q E h).trans har.symm) fun cdv A outer s H vs Q E hgd hr h => ?_
  obtain ⟨W, n, S0, as, P', e, h1, h2, h3, h4, hp, kk⟩ := h
  refine ⟨_, (hb cdv A outer s H E hgd hr).run.nox, ⟨W, H, S0, []⟩, n, startD N as, S0, S0, _, rfl, start_sr h1 h2 h3 h4, hf as n P' e hp, fun δ' m σ' H' S' Vs' q sr' s1 => ?_, fun d δ' m v σ' H' S' Vs' q sr' s1 r => ?_, fun _ _ _ _ _ _ q _ _ => q.elim, fun _ _ _ _ _ _ q _ _ => q.elim⟩
  · exact kk _ m _ H' S' q s1 sr'.SH (fun b hb => sr'.SV.free (sr'.nW b hb)) (fun b o e => sr'.fresh b o (sr'.SV b o e)) sr'.rill sr'.base .non
  · exact kk _ m _ H' S' q s1 sr'.SH (fun b hb => sr'.SV.free (sr'.nW b hb)) (fun b o e => sr'.fresh b o (sr'.SV b o e)) sr'.rill sr'.base r
end
end DL
/-! DL6: sorted over data that are alike. -/
namespace DL
open PySem PySem.Spec L2

/-! ### two data compared by sorting -/
section
variable {prog : Program} {w : World} {A : Around} {E : Value → Shared → Prop} {s : Shared}
theorem call_tuple_lt {Q : Value → Shared → Prop} {l b : Addr} {items items2 : Array Value} {e r : Nat → Bool} (hl : s.heap.IsTuple l items) (hb : s.heap.IsTuple b items2)
    (he : ∀ j (h1 : j < items.size) (h2 : j < items2.size), SeqAt.EqAt A.in1 s items[j] items2[j] (e j)) (hr : ∀ j (h1 : j < items.size) (h2 : j < items2.size), e j = false → SeqAt.RcLt A.in1 s items[j] items2[j] (r j))
    (h : Q (.bool (SeqAt.firstLt e r (decide (items.size < items2.size)) (List.range (min items.size items2.size)))) s) : wpAny (model prog w) A (call (.builtin "tuple.__lt__") [.ref l, .ref b]) Q E s := by
  obtain ⟨⟨c1, d1, x1, s1⟩, ho, hc, n, hd⟩ := id hl
  obtain ⟨⟨c2, d2, x2, s2⟩, ho2, hc2, n2, hd2⟩ := id hb
  simp only at hc hd hc2 hd2
  subst hc hd hc2 hd2
  exact call_meets PySem.F.slot_tuple_lt ⟨_, ho, rfl⟩ PySem.F.entry_tuple_lt (PySem.F.args_tuple_lt_2 _ _) (SeqAt.tuple_ltAt l b items items2 n n2 d1 d2 s1 s2 e r) ⟨ho, ho2, he, hr, h⟩
theorem oneLt_tup {f : Bool} {a b : Value} {xs ys : List D} {as bs : List Addr} {Q : Bool → Shared → Prop} (ra : Reads s.heap a (.tuple xs) as) (rb : Reads s.heap b (.tuple ys) bs) (hal : PySem.W.alikeAll xs ys = true)
    (hu : A.units + min (PyData.tuple xs).depth (PyData.tuple ys).depth < cLine) (hq : Q (PySem.W.dataLt (.tuple xs) (.tuple ys)) s) : wpAny (model prog w) A (PyProof.Rows.oneLt' f a b) Q E s := by
  cases f with
  | false =>
    refine PySem.W.kat_one _ _ (PySem.W.lt_data ra rb (by simpa [PySem.W.alike] using hal) (by intro z; cases z) hu ?_)
    exact hq
  | true =>
    cases ra with
    | @tuple l o vs n _ as₁ h1 h2 h3 h4 =>
      cases rb with
      | @tuple l' o' vs' n' _ bs₁ k1 k2 k3 k4 =>
        have n1 : vs.size = xs.length := by simpa using SeqAt.ReadsAll.length _ _ _ h4
        have n2 : vs'.size = ys.length := by simpa using SeqAt.ReadsAll.length _ _ _ k4
        have hT : s.TypeIs (.ref l) "tuple" := PySem.Heap.IsTuple.typeIs ⟨_, h1, h2, _, h3⟩
        rw [PyProof.Rows.oneLt'_eq]
        simp only [if_true]
        refine wpAny_bind (wpAny_cRoomFor (Nat.lt_of_le_of_lt (Nat.le_add_right _ _) hu) ?_)
        refine wpAny_bind (wpAny_callSpecialIfBound?_slot hT PySem.F.slot_tuple_lt (call_tuple_lt (e := SeqAt.pairEq xs ys) (r := fun j => PySem.W.dataLt (xs.getD j .none) (ys.getD j .none)) ⟨_, h1, h2, _, h3⟩ ⟨_, k1, k2, _, k3⟩ (fun j j1 j2 => ?_) (fun j j1 j2 hj => ?_) ?_))
        · have := PySem.W.eqAt_alikeAll xs ys A.in1 s vs.toList vs'.toList _ _ h4 k4 hal (SeqAt.room_in hu) j (by simpa using j1) (by simpa using j2)
          simpa using this
        · have := PySem.W.rcLt_alikeAll xs ys A.in1 s vs.toList vs'.toList _ _ h4 k4 hal (SeqAt.room_in hu) j (by simpa using j1) (by simpa using j2) hj
          simpa using this
        · rw [n1, n2, PySem.W.firstLt_toks xs ys hal, ← PySem.W.dataLt_tuple]
          exact wpAny_truthy_bool hq
/-- the first items of tuples some of which are empty -/
theorem firsts_mixed {M : Model} : ∀ {vs : List Value} {ds : List D}, PySem.W.EachIs (fun v d => ∃ as, Reads s.heap v d as) vs ds → (∀ d, d ∈ ds → ∃ xs, d = .tuple xs) →
    ∃ fs : List (Option Value), fs.length = vs.length ∧ (.tuple [] ∈ ds → none ∈ fs) ∧ ∀ (E : Value → Shared → Prop) {Q : List (Option Value) → Shared → Prop}, Q fs s → wpAny M A (vs.mapM PyProof.Rows.firstOfTuple') Q E s
  | _, _, .nil, _ => ⟨[], rfl, fun z => absurd z (by simp), fun E {Q} q => by rw [List.mapM_nil]; exact wpAny_pure q⟩
  | _, _, .cons (a := v) (as := vs) (b := d) ⟨as, r⟩ t, ht => by
    obtain ⟨fs, h1, h2, h3⟩ := firsts_mixed (M := M) t fun d hd => ht d (List.mem_cons_of_mem _ hd)
    obtain ⟨xs, rfl⟩ := ht d List.mem_cons_self
    cases r with
    | @tuple a o us n _ _ ho hc hd hr =>
      refine ⟨us[0]? :: fs, by rw [List.length_cons, List.length_cons, h1], fun z => ?_, fun E {Q} q => ?_⟩
      · rcases List.mem_cons.mp z with e | z
        · cases e
          have e0 : us.toList = [] := by cases hq : us.toList with
            | nil => rfl
            | cons x r => rw [hq] at hr; cases hr
          have : us[0]? = none := by rw [← Array.getElem?_toList, e0]; rfl
          rw [this]; exact List.mem_cons_self
        · exact List.mem_cons_of_mem _ (h2 z)
      · rw [List.mapM_cons]
        refine wpAny_bind ?_
        rw [PySem.W.kas_first_eq]
        refine wpAny_bind (PySem.W.Looks.here (show PySem.W.Looks M s.heap (typeOf (.ref a)) o.cls from (PySem.W.Looks.ld ho).andThen .now) ?_)
        rw [hc, if_neg (by first | decide | simp)]
        refine wpAny_bind (PyProof.Rows.listItems_at ho hd (wpAny_pure ?_))
        exact wpAny_bind (h3 E (Q := fun bs s' => wpAny M A (pure (us[0]? :: bs)) Q E s') (wpAny_pure q))
theorem kind_mixed {M : Model} {vs : List Value} {ds : List D} (h2 : 2 ≤ vs.length) (e : PySem.W.EachIs (fun v d => ∃ as, Reads s.heap v d as) vs ds) (ht : ∀ d, d ∈ ds → ∃ xs, d = .tuple xs) (he : .tuple [] ∈ ds) :
    ∃ f : Bool, ∀ {E : Value → Shared → Prop} {Q : PyProof.Rows.SortKind → Shared → Prop}, Q (if f = true then PyProof.Rows.general' else PyProof.Rows.oneType') s → wpAny M A (PyProof.Rows.keyKind' vs.toArray) Q E s := by
  obtain ⟨fs, h3, h4, h5⟩ := firsts_mixed (M := M) (A := A) e ht
  have hn := h4 he
  refine ⟨(fs.toArray[0]?.bind id).isSome, fun {E Q} q => ?_⟩
  rw [PyProof.Rows.keyKind'_eq, List.mapM_toArray, map_eq_pure_bind]
  refine wpAny_bind (wpAny_bind (h5 E (wpAny_pure ?_)))
  have hall : ¬ (fs.toArray.all fun x => x.isSome) = true := by
    rw [List.all_toArray, List.all_eq_true]
    intro z
    exact absurd (z _ hn) (by simp)
  rw [if_neg hall]
  cases q0 : (fs.toArray[0]?.bind id).isSome with
  | true =>
    rw [q0] at q
    simp only [if_true] at q ⊢
    exact wpAny_pure q
  | false =>
    rw [q0] at q
    simp only [Bool.false_eq_true, if_false] at q ⊢
    obtain ⟨v₁, v₂, rest, rfl⟩ : ∃ v₁ v₂ rest, vs = v₁ :: v₂ :: rest := by
      match vs, h2 with
      | [], h2 => simp at h2
      | [_], h2 => simp at h2
      | v₁ :: v₂ :: rest, _ => exact ⟨v₁, v₂, rest, rfl⟩
    rw [PyProof.Rows.oneTypeOnly'_eq, List.mapM_toArray, map_eq_pure_bind]
    refine wpAny_bind (wpAny_bind (wpAny_bind (PySem.W.kas_mapM (r := Value.type "tuple") _ (fun v hv Q' hq => ?_) (wpAny_pure ?_))))
    · obtain ⟨d, hd, as, r⟩ := e.left v hv
      obtain ⟨xs, rfl⟩ := ht d hd
      exact (PySem.W.looks_reads r).here hq
    · have hall2 : ((List.map (fun _ => Value.type "tuple") (v₁ :: v₂ :: rest)).toArray.all fun x => x == Value.type "tuple") = true := by
        simp only [List.all_toArray, List.all_map, List.all_eq_true]
        intro _ _
        rfl
      have h0 : (List.map (fun _ => Value.type "tuple") (v₁ :: v₂ :: rest)).toArray[0]? = some (Value.type "tuple") := by simp
      rw [h0]
      simp only [hall2, if_true]
      exact wpAny_pure (wpAny_pure q)
theorem sorts_mixed {vs : List Value} {ds : List D} (e : PySem.W.EachIs (fun v d => ∃ as, Reads s.heap v d as) vs ds) (hal : PySem.W.AllAlike ds) (ht : ∀ d, d ∈ ds → ∃ xs, d = .tuple xs) (he : .tuple [] ∈ ds) (hu : ∀ d, d ∈ ds → A.units + d.depth < cLine) :
    PySem.W.SortsAt prog w A s (PySem.W.dataKind s.heap ds) vs := by
  have room : ∀ {d d' : D}, d ∈ ds → A.units + min d.depth d'.depth < cLine := fun {d d'} hd => Nat.lt_of_le_of_lt (Nat.add_le_add_left (Nat.min_le_left _ _) _) (hu d hd)
  refine ⟨fun v hv => ?_, ?_⟩
  · obtain ⟨d, hd, as, r⟩ := e.left v hv
    exact ⟨_, PySem.W.dataKind_some hal hd r⟩
  · have lt : ∀ f : Bool, PyProof.Rows.H.LtAt prog w A s (PySem.W.dataKind s.heap ds) (if f = true then PyProof.Rows.general' else PyProof.Rows.oneType') := fun f E x y a b Q ha hb hq => by
      obtain ⟨d, as, hd, ra, rfl⟩ := PySem.W.dataKind_inv ha
      obtain ⟨d', as', hd', rb, rfl⟩ := PySem.W.dataKind_inv hb
      have hdd := hal d hd d' hd'
      have hroom := room (d' := d') hd
      obtain ⟨x1, rfl⟩ := ht d hd
      obtain ⟨x2, rfl⟩ := ht d' hd'
      have hq' : Q (PySem.W.dataLt (.tuple x1) (.tuple x2)) s := hq
      have hal2 : PySem.W.alikeAll x1 x2 = true := by simpa [PySem.W.alike] using hdd
      cases f with
      | true => exact oneLt_tup (f := false) ra rb hal2 hroom hq'
      | false => exact oneLt_tup (f := true) ra rb hal2 hroom hq'
    by_cases h2 : 2 ≤ vs.length
    · obtain ⟨f, hf⟩ := kind_mixed (M := model prog w) (A := A) h2 e ht he
      exact ⟨_, lt f, fun _ E Q q => hf q⟩
    · exact ⟨_, lt true, fun h => absurd h h2⟩
end
/-- what can be sorted -/
def SortOk (ds : List D) : Prop := PySem.W.Sortable ds ∨ ((∀ d, d ∈ ds → ∃ xs, d = .tuple xs) ∧ .tuple [] ∈ ds)
theorem SortOk.tups {ds : List D} (h : ∀ d, d ∈ ds → ∃ xs, d = .tuple xs) : SortOk ds := by
  by_cases he : .tuple [] ∈ ds
  · exact .inr ⟨h, he⟩
  · refine .inl (.inl fun d hd => ?_)
    obtain ⟨xs, rfl⟩ := h d hd
    cases xs with
    | nil => exact absurd hd he
    | cons x r => exact ⟨x, r, rfl⟩
def sortD (ds : List D) : List D := ds.mergeSort fun a b => !PySem.W.dataLt b a
section
variable {prog : Program} {w : World} {A : Around} {E : Value → Shared → Prop} {s : Shared}
theorem sorted_any {l : Addr} {vs : List Value} {ds : List D} {R : Value → D → Prop} {Q : Value → Shared → Prop} (hl : s.heap.IsList l vs.toArray) (e : PySem.W.EachIs R vs ds) (er : PySem.W.EachIs (fun v d => ∃ as, Reads s.heap v d as) vs ds) (hal : PySem.W.AllAlike ds) (hk : SortOk ds) (hL : ds.length ≤ sizeLine)
    (hu : ∀ d, d ∈ ds → A.units + 2 + d.depth < cLine) (h : ∀ out : List Value, out.length = ds.length → PySem.W.EachIs R out (sortD ds) → Q (.ref (s.heap.objs.size + 1)) { s with heap := PyProof.Rows.sortedAll s.heap vs (List.toArray out) }) :
    wpAny (model prog w) A (call (.builtin "sorted") [.ref l]) Q E s := by
  have er' : PySem.W.EachIs (fun v d => ∃ as, Reads (PySem.W.sortingHeap (PySem.W.copyHeap s.heap vs) (s.heap.objs.size + 1) vs) v (id d) as) vs ds := er.mono fun _ _ ⟨as, r⟩ => ⟨as, PyProof.Rows.Reads.keeps (fun _ _ => PySem.W.sorting_copy_old) r⟩
  have hmap : ds.map id = ds := List.map_id ds
  have hlen := e.length
  refine PySem.W.sorted_vals (κ := PySem.W.dataKind (PySem.W.sortingHeap (PySem.W.copyHeap s.heap vs) (s.heap.objs.size + 1) vs) (ds.map id)) hl ?_ (by omega) (h _ ?_ ?_)
  · rw [hmap]
    rcases hk with hk | ⟨h1, h2⟩
    · exact PySem.W.SortsAt.data er' hal hk hu
    · exact sorts_mixed er' hal h1 h2 hu
  · rw [PySem.W.sortVals_length false rfl]; exact hlen
  · have := PySem.W.sortVals_data (enc := id) false e er' (by rw [hmap]; exact hal)
    exact this
end

section
variable {prog : Program} {w : World} {A : Around} {E : Value → Shared → Prop} {s : Shared}
/-- the items of a tuple, laid as a list -/
theorem coll_tup {l : Addr} {vs : List Value} {Q : List Value → Shared → Prop} (hl : s.heap.IsTuple l vs.toArray) (hz : vs.length ≤ sizeLine)
    (q : Q vs { s with heap := (s.heap.push (PyProof.Rows.seqObj "list" #[] 0)).update s.heap.objs.size (Obj.mapSeq (· ++ vs.toArray)) }) : wpAny (model prog w) A (collect (.ref l)) Q E s := by
  obtain ⟨o, g1, g2, m, g3⟩ := id hl
  unfold collect
  refine wpAny_bind (wpAny_runValue (codeAny_builtin PyProof.Rows.entry_proto_collect' (?_ : wpAny _ _ (do again (.builtin "list.__iadd__" ⟨[← newList [], .ref l], []⟩)) _ _ s)))
  refine wpAny_bind (wpAny_newList (wpAny_pure ⟨Code.quiet_builtin _ (by decide +kernel), codeAny_builtin PyProof.Rows.entry_list_iadd' ?_⟩))
  have g1' : (s.heap.push (PyProof.Rows.seqObj "list" #[] 0)).get? l = some o := Heap.get?_push_of_some _ g1
  show wpAny _ _ (Builtin.List.listExtendWith (.ref s.heap.objs.size) (.ref l) (.ref s.heap.objs.size)) _ _ { s with heap := s.heap.push (PyProof.Rows.seqObj "list" #[] 0) }
  unfold Builtin.List.listExtendWith
  refine wpAny_bind (wpAny_typeOf (T := "tuple") ⟨o, g1', g2⟩ ?_)
  rw [if_pos (by rw [show (Value.type "tuple" == Value.type "tuple") = true from rfl, Bool.or_true])]
  refine wpAny_bind (PyProof.Rows.listItems_at g1' g3 (wpAny_bind (PyProof.Rows.listItems_at (xs := #[]) (n := 0) (Heap.get?_push_size _ rfl) rfl ?_)))
  rw [if_neg (by simp)]
  refine wpAny_bind (PyProof.Rows.listUpdate_at (xs := #[]) (n := 0) (Heap.get?_push_size _ rfl) rfl (wpAny_pure ?_) (Nat.zero_le _) (by show ((#[] : Array Value) ++ vs.toArray).size ≤ sizeLine + 1; rw [Array.size_append, List.size_toArray]; simp; omega))
  refine wpAny_bind (m := load s.heap.objs.size) (wpAny_load (PyProof.Rows.get?_update_seq (Heap.get?_push_size _ rfl) _) ?_)
  show wpAny _ _ (pure ((#[] : Array Value) ++ vs.toArray).toList) Q E _
  have e : ((#[] : Array Value) ++ vs.toArray).toList = vs := by simp
  rw [e]
  exact wpAny_pure q
theorem sorted_anyT {l : Addr} {vs : List Value} {ds : List D} {R : Value → D → Prop} {Q : Value → Shared → Prop} (hl : s.heap.IsTuple l vs.toArray) (e : PySem.W.EachIs R vs ds) (er : PySem.W.EachIs (fun v d => ∃ as, Reads s.heap v d as) vs ds) (hal : PySem.W.AllAlike ds) (hk : SortOk ds) (hL : ds.length ≤ sizeLine)
    (hu : ∀ d, d ∈ ds → A.units + 2 + d.depth < cLine) (h : ∀ out : List Value, out.length = ds.length → PySem.W.EachIs R out (sortD ds) → Q (.ref (s.heap.objs.size + 1)) { s with heap := PyProof.Rows.sortedAll s.heap vs (List.toArray out) }) :
    wpAny (model prog w) A (call (.builtin "sorted") [.ref l]) Q E s := by
  have er' : PySem.W.EachIs (fun v d => ∃ as, Reads (PySem.W.sortingHeap (PySem.W.copyHeap s.heap vs) (s.heap.objs.size + 1) vs) v (id d) as) vs ds := er.mono fun _ _ ⟨as, r⟩ => ⟨as, PyProof.Rows.Reads.keeps (fun _ _ => PySem.W.sorting_copy_old) r⟩
  have hmap : ds.map id = ds := List.map_id ds
  have hlen := e.length
  have hL' : vs.length ≤ sizeLine := by omega
  have S : PySem.W.SortsAt prog w A.in1.in1 { s with heap := PySem.W.sortingHeap (PySem.W.copyHeap s.heap vs) (s.heap.objs.size + 1) vs } (PySem.W.dataKind (PySem.W.sortingHeap (PySem.W.copyHeap s.heap vs) (s.heap.objs.size + 1) vs) (ds.map id)) vs := by
    rw [hmap]
    rcases hk with hk | ⟨h1, h2⟩
    · exact PySem.W.SortsAt.data er' hal hk hu
    · exact sorts_mixed er' hal h1 h2 hu
  refine Calls.call_function_entry PyProof.Rows.kind_sorted PyProof.Rows.plain_sorted PyProof.Rows.entry_sorted (PyProof.Rows.args_sorted1 _) ?_
  unfold Builtin.«sorted»
  refine wpAny_bind (m := checkCount "sorted" 1 1 _) (wpAny_pure (wpAny_bind (coll_tup hl hL' (wpAny_bind (wpAny_newList ?_ hL')))))
  have hsz : ((s.heap.push (PyProof.Rows.seqObj "list" #[] 0)).update s.heap.objs.size (Obj.mapSeq (· ++ vs.toArray))).objs.size = s.heap.objs.size + 1 := by
    rw [Heap.size_update, PyProof.Rows.size_push']
  show wpAny _ _ _ _ _ { s with heap := PySem.W.copyHeap s.heap vs }
  rw [hsz]
  refine wpAny_bind (wpAny_holding (wpAny_call_entry PyProof.Rows.slot_list_sort ⟨_, PySem.W.copyHeap_at s.heap vs, rfl⟩ PyProof.Rows.entry_list_sort (PySem.W.list_sort_vals (s := { s with heap := PySem.W.copyHeap s.heap vs }) (PySem.W.copyHeap_at s.heap vs) S hL' ⟨_, rfl, ?_⟩) (PyProof.Rows.args_list_sort _)))
  refine wpAny_pure ⟨_, rfl, h _ ?_ ?_⟩
  · rw [PySem.W.sortVals_length false rfl]; exact hlen
  · have := PySem.W.sortVals_data (enc := id) false e er' (by rw [hmap]; exact hal)
    exact this
end
/-- sorted(xs), xs a list of data that are alike -/
def rSortD (K : PySem.W.Frag) : List V → Hp → VK → Prop := fun vs H Q => ∃ (a : Addr) (xs : List V) (ds : List D) (B : Hp), vs = [V.ref a] ∧ Same B H ∧ ((H a = some (.lst xs) ∨ SqT K H a xs) ∧ DpAll K B xs ds) ∧ PySem.W.AllAlike ds ∧ SortOk ds ∧ (∀ d, d ∈ ds → d.depth ≤ 60) ∧
  ∀ p ys, H p = none → DpAll K B ys (sortD ds) → Q (.ref p) (upd H p (.lst ys))
theorem each_of {X : Cx} {pins : List (Addr × Obj)} {σ : L2.St} {H B : Hp} {s : Shared} (I : Inv X pins σ H s) (sb : Same B H) : ∀ {xs : List V} {us : List Value} {ds : List D}, Vals xs us → DpAll X.K B xs ds →
    PySem.W.EachIs (fun u d => (∃ v, RelV v u ∧ Dp X.K B v d) ∧ ∃ as, Reads s.heap u d as) us ds
  | _, _, _, .nil, h => by cases h; exact .nil
  | _, _, _, .cons r t, h => by
    cases h with
    | cons h1 h2 => exact .cons ⟨⟨_, r, h1⟩, Dp.rd I _ _ _ (Dp.mono sb h1) r⟩ (each_of I sb t h2)
theorem of_each {K : PySem.W.Frag} {H : Hp} : ∀ {us : List Value} {ds : List D}, PySem.W.EachIs (fun u d => ∃ v, RelV v u ∧ Dp K H v d) us ds → ∃ ys, Vals ys us ∧ DpAll K H ys ds
  | _, _, .nil => ⟨[], .nil, .nil⟩
  | _, _, .cons ⟨v, r, h⟩ t => by
    obtain ⟨ys, h1, h2⟩ := of_each t
    exact ⟨v :: ys, .cons r h1, .cons h h2⟩
theorem cr_sortD {X : Cx} (hu : X.A.units + 64 < cLine) : CallR X (.builtin "sorted") (rSortD X.K) := by
  intro pins s σ H vs us Q I r h
  obtain ⟨a, xs, ds, B, rfl, sb, ⟨hl, hd⟩, hal, hk, hdep, q⟩ := h
  obtain ⟨u, rfl, ru⟩ := vals1 r
  obtain rfl : u = Value.ref a := ru
  have fin : ∀ {its : List Value}, Vals xs its → xs.length ≤ sizeLine → (∀ out : List Value, out.length = ds.length → PySem.W.EachIs (fun u d => ∃ v, RelV v u ∧ Dp X.K B v d) out (sortD ds) → EP X pins σ Q (.ref (s.heap.objs.size + 1)) { s with heap := PyProof.Rows.sortedAll s.heap its (List.toArray out) }) := fun {its} rv hz out hlo eo => by
    obtain ⟨ys, h1, h2⟩ := of_each eo
    have hyl := h1.length
    have hxl := rv.length
    have hdl := hd.length
    have hf : H (s.heap.objs.size + 1) = none := I.hok.fresh (Nat.le_succ _)
    obtain ⟨n, hn⟩ := PyProof.Rows.sortedAll_at s.heap its out.toArray
    exact ⟨.ref (s.heap.objs.size + 1), upd H (s.heap.objs.size + 1) (.lst ys), I.laid (t' := s.toks) (fun b o e => PyProof.Rows.sortedAll_old e) (Nat.le_succ _) ⟨by omega, out, n, h1, hn⟩, rfl, q _ ys hf h2⟩
  have hu2 : ∀ d, d ∈ ds → X.A.units + 2 + d.depth < cLine := fun d hd' => by
    have := hdep d hd'
    omega
  rcases hl with hl | ht
  · obtain ⟨its, rv, pl, hz⟩ := I.list (SqL.of hl)
    have e := each_of I sb rv hd
    have hdl := hd.length
    exact sorted_any (R := fun u d => ∃ v, RelV v u ∧ Dp X.K B v d) pl.isList (e.mono fun _ _ z => z.1) (e.mono fun _ _ z => z.2) hal hk (by omega) hu2 (fin rv hz)
  · obtain ⟨its, rv, pl, hz⟩ := I.tuple ht
    have e := each_of I sb rv hd
    have hdl := hd.length
    exact sorted_anyT (R := fun u d => ∃ v, RelV v u ∧ Dp X.K B v d) pl (e.mono fun _ _ z => z.1) (e.mono fun _ _ z => z.2) hal hk (by omega) hu2 (fin rv hz)
end DL
/-! DL7: built-ins over data. -/
namespace DL
open PySem PySem.Spec L2

section
variable {X : Cx} {K : PySem.W.Frag} {e a b c : Expr} {es : List Expr} {pos p : Pos} {t1 t2 t3 : DTE} {ta : DTA} {b1 b2 b3 : Bool} {x : Str}
/-- a built-in of one argument: the answer hangs on no heap -/
theorem de_fnS {r : List V → Hp → VK → Prop} {g : G1} (hp : ∀ {t : TA}, PA X [a] t → PE X e (tCB r t)) (hs : ∀ (B H : Hp) x dx P (Q : VK), Dp X.K B x dx → Same B H → g dx P → (∀ d v, P d → Sc d v → Q v H) → r [x] H Q) (ha : DE X b1 a t1)
    (hst : starEach (a :: []) X.env = (false, eval a X.env) :: starEach [] X.env := by rfl) : DE X true e (d1 g t1) :=
  ⟨PE.imp (hp (pa_cons ha.run pa_nil hst)) fun σ H Q ⟨gh, n, δ, S, Vs, P, sr, ht, k⟩ => ⟨gh, n, δ, S, Vs, _, sr, ht, fun d m v H' S' Vs' p sr' s1 s2 rp =>
    hs Vs' H' v d _ Q (Rp.dp rp sr'.SV) sr'.VH p fun d2 v2 p2 sc => k d2 m v2 H' S' Vs' p2 sr' s1 s2 (sc _ _)⟩⟩
/-- a new list of a list's or tuple's items -/
def itemsOf : D → Option (List D)
  | .list ds => some ds
  | .tuple ds => some ds
  | _ => none
theorem brep_items {S Vs : Hp} {v : V} {d : D} {ds : List D} (h : BRep K S Vs v d) (e : itemsOf d = some ds) : ∃ l xs, v = .ref l ∧ DpAll K S xs ds ∧ ((∃ es, d = .list es ∧ (S l = some (.lst xs) ∨ Vs l = some (.lst xs))) ∨ (∃ es, d = .tuple es ∧ SqT K S l xs)) := by
  rcases h with h | ⟨l, xs, es, e1, e2, h1, h2⟩
  · cases h with
    | lst h1 h2 => cases e; exact ⟨_, _, rfl, h2, .inl ⟨_, rfl, .inl h1⟩⟩
    | tup h1 h2 => cases e; exact ⟨_, _, rfl, h2, .inr ⟨_, rfl, h1⟩⟩
    | _ => cases e
  · subst e1
    cases e
    exact ⟨l, xs, e2, h2, .inl ⟨_, rfl, .inr h1⟩⟩
/-- len -/
def gLen : G1 := fun d P => match d with
  | .list ds => P (.int ds.length)
  | .tuple ds => P (.int ds.length)
  | .str z => z.length ≤ sizeLine ∧ P (.int z.length)
  | _ => False
theorem de_len (hg : Gl X "len") (hm : X.mg "len" = none) (ha : DE X b1 a t1) (he : starEach (a :: []) X.env = (false, eval a X.env) :: starEach [] X.env := by rfl) (hpl : (backTo pos (starEach [] X.env)).any (·.1) = false := by rfl) :
    DE X true (.Call (.Name "len" p) [a] [] pos) (d1 gLen t1) :=
  de_fnS (fun h => pe_callB (CallR.or call_len_seq call_len_str) hg hm PySem.boot_len h (by decide) (by decide) he hpl) (by
    intro B H x dx P Q hx sb g k
    cases hx with
    | lst h1 h2 => exact .inl ⟨_, _, rfl, .inl (SqL.of (sb _ _ h1)), k _ _ g (by rw [h2.length]; exact sc_int _)⟩
    | tup h1 h2 => exact .inl ⟨_, _, rfl, .inr (sqt_mono sb h1), k _ _ g (by rw [h2.length]; exact sc_int _)⟩
    | str z => exact .inr ⟨_, rfl, g.1, k _ _ g.2 (sc_int _)⟩
    | _ => exact g.elim) ha he
/-- abs, int of ints -/
def gAbs : G1 := fun d P => ∃ i, d = .int i ∧ P (.int (if i < 0 then -i else i))
theorem de_abs (hg : Gl X "abs") (hm : X.mg "abs" = none) (ha : DE X b1 a t1) (he : starEach (a :: []) X.env = (false, eval a X.env) :: starEach [] X.env := by rfl) (hpl : (backTo pos (starEach [] X.env)).any (·.1) = false := by rfl) :
    DE X true (.Call (.Name "abs" p) [a] [] pos) (d1 gAbs t1) :=
  de_fnS (fun h => pe_callB call_abs hg hm (by decide +kernel) h (by decide) (by decide) he hpl) (by
    intro B H x dx P Q hx sb ⟨i, e, g⟩ k
    subst e
    cases hx
    exact ⟨i, rfl, k _ _ g (sc_int _)⟩) ha he
def gInt : G1 := fun d P => match d with
  | .int i => P (.int i)
  | .bool c => P (.int (if c then 1 else 0))
  | _ => False
theorem de_int1 (hg : Gl X "int") (hm : X.mg "int" = none) (ha : DE X b1 a t1) (he : starEach (a :: []) X.env = (false, eval a X.env) :: starEach [] X.env := by rfl) (hpl : (backTo pos (starEach [] X.env)).any (·.1) = false := by rfl) :
    DE X true (.Call (.Name "int" p) [a] [] pos) (d1 gInt t1) :=
  de_fnS (fun h => pe_callTy call_int1 hg hm (by decide +kernel) h (by decide) (by decide) he hpl) (by
    intro B H x dx P Q hx sb g k
    cases hx with
    | int i => exact .inl ⟨_, rfl, k _ _ g (sc_int _)⟩
    | bl c => exact .inr ⟨_, rfl, k _ _ g (sc_int _)⟩
    | _ => exact g.elim) ha he
/-- any, all of a list of bools -/
def bools : List D → Option (List Bool)
  | [] => some []
  | .bool c :: r => (bools r).map (c :: ·)
  | _ :: _ => none
theorem bools_vals {H : Hp} : ∀ {ds : List D} {xs : List V} {cs : List Bool}, DpAll K H xs ds → bools ds = some cs → xs = cs.map V.bl
  | [], _, _, h, e => by cases h; cases e; rfl
  | d :: ds, _, cs, h, e => by
    cases h with
    | cons h1 h2 =>
      cases h1 with
      | bl c =>
        unfold bools at e
        cases q : bools ds with
        | none => rw [q] at e; cases e
        | some r => rw [q] at e; cases e; rw [bools_vals h2 q]; rfl
      | _ => cases e
def gAny : G1 := fun d P => ∃ ds cs, d = .list ds ∧ bools ds = some cs ∧ P (.bool (cs.any id))
def gAll : G1 := fun d P => ∃ ds cs, d = .list ds ∧ bools ds = some cs ∧ P (.bool (cs.all id))
theorem de_any (hc : X.calm = true) (hg : Gl X "any") (hm : X.mg "any" = none) (ha : DE X b1 a t1) (he : starEach (a :: []) X.env = (false, eval a X.env) :: starEach [] X.env := by rfl) (hpl : (backTo pos (starEach [] X.env)).any (·.1) = false := by rfl) :
    DE X true (.Call (.Name "any" p) [a] [] pos) (d1 gAny t1) :=
  de_fnS (fun h => pe_callB (cr_any hc) hg hm PyProof.Rows.boot_any h (by decide) (by decide) he hpl) (by
    intro B H x dx P Q hx sb ⟨ds, cs, e, q, g⟩ k
    subst e
    cases hx with
    | lst h1 h2 =>
      have := bools_vals h2 q
      subst this
      exact ⟨_, cs, rfl, SqL.of (sb _ _ h1), k _ _ g (sc_bl _)⟩) ha he
theorem de_all (hc : X.calm = true) (hg : Gl X "all") (hm : X.mg "all" = none) (ha : DE X b1 a t1) (he : starEach (a :: []) X.env = (false, eval a X.env) :: starEach [] X.env := by rfl) (hpl : (backTo pos (starEach [] X.env)).any (·.1) = false := by rfl) :
    DE X true (.Call (.Name "all" p) [a] [] pos) (d1 gAll t1) :=
  de_fnS (fun h => pe_callB (cr_all hc) hg hm PyProof.Rows.boot_all h (by decide) (by decide) he hpl) (by
    intro B H x dx P Q hx sb ⟨ds, cs, e, q, g⟩ k
    subst e
    cases hx with
    | lst h1 h2 =>
      have := bools_vals h2 q
      subst this
      exact ⟨_, cs, rfl, SqL.of (sb _ _ h1), k _ _ g (sc_bl _)⟩) ha he
/-- tuple(x) -/
def gTuple : G1 := fun d P => ∃ ds, itemsOf d = some ds ∧ P (.tuple ds)
theorem de_tuple (hg : Gl X "tuple") (hm : X.mg "tuple" = none) (ha : DE X b1 a t1) (he : starEach (a :: []) X.env = (false, eval a X.env) :: starEach [] X.env := by rfl) (hpl : (backTo pos (starEach [] X.env)).any (·.1) = false := by rfl) :
    DE X true (.Call (.Name "tuple" p) [a] [] pos) (d1 gTuple t1) :=
  ⟨PE.imp (pe_callTy call_tuple_of hg hm PyProof.Rows.boot_tuple (pa_cons ha.run pa_nil he) (by decide) (by decide) he hpl) fun σ H Q ⟨gh, n, δ, S, Vs, P, sr, ht, k⟩ => ⟨gh, n, δ, S, Vs, _, sr, ht, fun d m v H' S' Vs' ⟨ds, e1, pp⟩ sr' s1 s2 rp => by
    obtain ⟨l, xs, rfl, hd, q⟩ := brep_items (Rp.br rp) e1
    rcases q with ⟨es, _, q⟩ | ⟨es, e2, q⟩
    · refine ⟨l, xs, rfl, .inl ⟨SqL.of (q.elim (fun z => sr'.SH _ _ z) fun z => sr'.VH _ _ z), fun l2 hl => ?_⟩⟩
      obtain ⟨S2, V2, sr2, q1, q2, q3⟩ := sr'.out (K := X.K) (.tup hl hd)
      exact k _ m _ _ S2 V2 pp sr2 (s1.trans q1) (s2.trans q2) q3
    · exact ⟨l, xs, rfl, .inr ⟨sqt_mono sr'.SH q, k _ m _ H' S' Vs' pp sr' s1 s2 (.tup q hd)⟩⟩⟩⟩
/-- list(x) -/
def aList (t : DTE) : DTA := fun δ n Q => t δ n fun d m => ∃ ds, itemsOf d = some ds ∧ Q ds m
theorem dl_list (hg : Gl X "list") (hm : X.mg "list" = none) (ha : DE X b1 a t1) (he : starEach (a :: []) X.env = (false, eval a X.env) :: starEach [] X.env := by rfl) (hpl : (backTo pos (starEach [] X.env)).any (·.1) = false := by rfl) :
    DL X (.Call (.Name "list" p) [a] [] pos) (aList t1) :=
  ⟨PE.imp (pe_callTy call_list_of hg hm PyProof.Rows.boot_list (pa_cons ha.run pa_nil he) (by decide) (by decide) he hpl) fun σ H Q ⟨gh, n, δ, S, Vs, P, sr, ht, k⟩ => ⟨gh, n, δ, S, Vs, _, sr, ht, fun d m v H' S' Vs' ⟨ds, e1, pp⟩ sr' s1 s2 rp => by
    obtain ⟨l, xs, rfl, hd, q⟩ := brep_items (Rp.br rp) e1
    refine ⟨l, xs, rfl, ?_, fun l2 hl => k ds m l2 xs _ S' Vs' pp (sr'.temp hl) s1 s2 upd_same (sr'.vN hl) (sr'.h0 hl) (sr'.notW hl) hd⟩
    rcases q with ⟨es, _, q⟩ | ⟨es, e2, q⟩
    · exact .inl (SqL.of (q.elim (fun z => sr'.SH _ _ z) fun z => sr'.VH _ _ z))
    · exact .inr (sqt_mono sr'.SH q)⟩⟩
/-- list(range(..)), tuple(range(..)) -/
structure DRg (X : Cx) (e : Expr) (t : DS → Nat → (Int → Int → Nat → Prop) → Prop) : Prop where
  run : PRg X e fun σ H Q => ∃ g n δ S Vs P, SR X.K g n δ σ H S Vs ∧ t δ n P ∧ ∀ i j m H' S' Vs', P i j m → SR X.K g m δ σ H' S' Vs' → Same S S' → Same Vs Vs' → Q i j H'
theorem PRg.imp {t u : L2.St → Hp → (Int → Int → Hp → Prop) → Prop} (h : PRg X e t) (hi : ∀ σ H Q, u σ H Q → t σ H Q) : PRg X e u := fun pins s σ H Q I q => h pins s σ H Q I (hi _ _ _ q)
def rg1 (t : DTE) : DS → Nat → (Int → Int → Nat → Prop) → Prop := fun δ n Q => t δ n fun d m => ∃ j, d = .int j ∧ Q 0 j m
def rg2 (t u : DTE) : DS → Nat → (Int → Int → Nat → Prop) → Prop := fun δ n Q => t δ n fun d m => u δ m fun d2 m2 => ∃ i j, d = .int i ∧ d2 = .int j ∧ Q i j m2
theorem dr_1 (hg : Gl X "range") (hm : X.mg "range" = none) (ha : DE X b1 a t1) (na : starEach [a] X.env = (false, eval a X.env) :: starEach [] X.env := by rfl) : DRg X (.Call (.Name "range" p) [a] [] pos) (rg1 t1) :=
  ⟨PRg.imp (prg_1 hg hm ha.run na) fun σ H Q ⟨g, n, δ, S, Vs, P, sr, ht, k⟩ => ⟨g, n, δ, S, Vs, _, sr, ht, fun d m v H' S' Vs' ⟨j, e1, pp⟩ sr' s1 s2 r => by
    subst e1
    have r' := Rp.dp r sr'.SV
    cases r'
    exact ⟨j, rfl, k 0 j m H' S' Vs' pp sr' s1 s2⟩⟩⟩
theorem dr_2 (hg : Gl X "range") (hm : X.mg "range" = none) (ha : DE X b1 a t1) (hb : DE X b2 b t2) (na : starEach [a, b] X.env = (false, eval a X.env) :: starEach [b] X.env := by rfl) (nb : starEach [b] X.env = (false, eval b X.env) :: starEach [] X.env := by rfl) (hp : (backTo pos (starEach [b] X.env)).any (fun x => x.fst) = false := by rfl) :
    DRg X (.Call (.Name "range" p) [a, b] [] pos) (rg2 t1 t2) :=
  ⟨PRg.imp (prg_2 hg hm ha.run hb.run na nb (hp := hp)) fun σ H Q ⟨g, n, δ, S, Vs, P, sr, ht, k⟩ => ⟨g, n, δ, S, Vs, _, sr, ht, fun d m v H' S' Vs' pq sr' s1 s2 r =>
    ⟨g, m, δ, S', Vs', _, sr', pq, fun d2 m2 v2 H2 S2 V2 ⟨i, j, e1, e2, pp⟩ sr2 q1 q2 r2 => by
      subst e1 e2
      have r' := Rp.dp r sr'.SV
      have r'' := Rp.dp r2 sr2.SV
      cases r'
      cases r''
      exact ⟨i, j, rfl, rfl, k i j m2 H2 S2 V2 pp sr2 (s1.trans q1) (s2.trans q2)⟩⟩⟩⟩
theorem dp_range {B : Hp} (i j : Int) : DpAll K B (rgV i j) (rangeD i (j - i).toNat) := by
  unfold rgV rangeD
  generalize List.range (j - i).toNat = l
  induction l with
  | nil => exact .nil
  | cons x r ih => exact .cons (.int _) ih
def aRg (t : DS → Nat → (Int → Int → Nat → Prop) → Prop) : DTA := fun δ n Q => t δ n fun i j m => RgOk i j ∧ Q (rangeD i (j - i).toNat) m
theorem dl_listRg {tr : DS → Nat → (Int → Int → Nat → Prop) → Prop} (hc : X.calm = true) (hg : Gl X "list") (hm : X.mg "list" = none) (he : DRg X a tr) (na : starEach [a] X.env = (false, eval a X.env) :: starEach [] X.env := by rfl) :
    DL X (.Call (.Name "list" p) [a] [] pos) (aRg tr) :=
  ⟨PE.imp (pe_listRg hc hg hm he.run na) fun σ H Q ⟨g, n, δ, S, Vs, P, sr, ht, k⟩ => ⟨g, n, δ, S, Vs, _, sr, ht, fun i j m H' S' Vs' ⟨ok, pp⟩ sr' s1 s2 => ⟨ok, fun q hq =>
    k _ m q _ _ S' Vs' pp (sr'.temp hq) s1 s2 upd_same (sr'.vN hq) (sr'.h0 hq) (sr'.notW hq) (dp_range i j)⟩⟩⟩
theorem de_tupRg {tr : DS → Nat → (Int → Int → Nat → Prop) → Prop} (hc : X.calm = true) (hg : Gl X "tuple") (hm : X.mg "tuple" = none) (he : DRg X a tr) (na : starEach [a] X.env = (false, eval a X.env) :: starEach [] X.env := by rfl) :
    DE X true (.Call (.Name "tuple" p) [a] [] pos) (fun δ n Q => aRg tr δ n fun ds m => Q (.tuple ds) m) :=
  ⟨PE.imp (pe_tupRg hc hg hm he.run na) fun σ H Q ⟨g, n, δ, S, Vs, P, sr, ht, k⟩ => ⟨g, n, δ, S, Vs, _, sr, ht, fun i j m H' S' Vs' ⟨ok, pp⟩ sr' s1 s2 => ⟨ok, fun q hq => by
    obtain ⟨S2, V2, sr2, q1, q2, q3⟩ := sr'.out (K := X.K) (.tup hq (dp_range i j))
    exact k _ m _ _ S2 V2 pp sr2 (s1.trans q1) (s2.trans q2) q3⟩⟩⟩
/-- sorted(x), x a list -/
def aSort (t : DTE) : DTA := fun δ n Q => t δ n fun d m => ∃ ds, itemsOf d = some ds ∧ PySem.W.AllAlike ds ∧ SortOk ds ∧ (∀ z ∈ ds, z.depth ≤ 60) ∧ Q (sortD ds) m
theorem sort_mem {ds : List D} {z : D} : z ∈ sortD ds ↔ z ∈ ds := (List.mergeSort_perm ds _).mem_iff
theorem dl_sorted (hu : X.A.units + 64 < cLine) (hg : Gl X "sorted") (hm : X.mg "sorted" = none) (ha : DE X b1 a t1) (he : starEach (a :: []) X.env = (false, eval a X.env) :: starEach [] X.env := by rfl) (hpl : (backTo pos (starEach [] X.env)).any (·.1) = false := by rfl) :
    DL X (.Call (.Name "sorted" p) [a] [] pos) (aSort t1) :=
  ⟨PE.imp (pe_callB (cr_sortD hu) hg hm PyProof.Rows.boot_sorted (pa_cons ha.run pa_nil he) (by decide) (by decide) he hpl) fun σ H Q ⟨gh, n, δ, S, Vs, P, sr, ht, k⟩ => ⟨gh, n, δ, S, Vs, _, sr, ht, fun d m v H' S' Vs' ⟨ds, e1, h1, h2, h3, pp⟩ sr' s1 s2 rp => by
    obtain ⟨l, xs, rfl, hd, q⟩ := brep_items (Rp.br rp) e1
    refine ⟨l, xs, ds, S', rfl, sr'.SH, ⟨?_, hd⟩, h1, h2, h3, fun p2 ys hp hy => k (sortD ds) m p2 ys _ S' Vs' pp (sr'.temp hp) s1 s2 upd_same (sr'.vN hp) (sr'.h0 hp) (sr'.notW hp) hy⟩
    rcases q with ⟨es, _, q⟩ | ⟨es, e2, q⟩
    · exact .inl (q.elim (fun z => sr'.SH _ _ z) fun z => sr'.VH _ _ z)
    · exact .inr (sqt_mono sr'.SH q)⟩⟩
/-- repr -/
def dshow (d : D) : Str := d.shown
def gRepr : G1 := fun d P => d.showable = true ∧ d.depth ≤ 60 ∧ d.shown.length ≤ sizeLine ∧ P (.str (dshow d))
section
variable {pins : List (Addr × Obj)} {σ : L2.St} {H : Hp} {s : Shared}
mutual
/-- how data are shown, dicts among them -/
theorem rk_dp (I : Inv X pins σ H s) : ∀ (d : D) (v : V) (u : Value), Dp X.K H v d → RelV v u → d.showable = true → d.shown.length ≤ sizeLine → ∃ bs, ReadAtMost s.heap d.depth bs ∧ ReprK X.prog X.w bs s.heap d.depth u d.shown
  | .none, v, u, h, r, w, z => by
    obtain ⟨as, q⟩ := Dp.rd I _ v u h r
    exact ReprK.of_reads q w (fun y => by simp only [PyData.hasDict] at y; cases y) z
  | .bool _, v, u, h, r, w, z => by
    obtain ⟨as, q⟩ := Dp.rd I _ v u h r
    exact ReprK.of_reads q w (fun y => by simp only [PyData.hasDict] at y; cases y) z
  | .int _, v, u, h, r, w, z => by
    obtain ⟨as, q⟩ := Dp.rd I _ v u h r
    exact ReprK.of_reads q w (fun y => by simp only [PyData.hasDict] at y; cases y) z
  | .str _, v, u, h, r, w, z => by
    obtain ⟨as, q⟩ := Dp.rd I _ v u h r
    exact ReprK.of_reads q w (fun y => by simp only [PyData.hasDict] at y; cases y) z
  | .list ds, v, u, h, r, w, z => by
    obtain ⟨as, q⟩ := Dp.rd I _ v u h r
    cases h with
    | lst hs ha =>
      cases r
      obtain ⟨its, rv, ⟨o, n, ho, hc, _, hd⟩, _⟩ := I.list (SqL.of hs)
      have z' : (listText (PyData.shownAll ds)).length ≤ sizeLine := by simpa only [PyData.shown] using z
      obtain ⟨bs, hb, hk⟩ := rk_dps I ds _ its ha rv (by simpa only [PyData.showable] using w) fun t ht => Nat.le_trans (listText_mem_le ht) z'
      refine ⟨_, ReadAtMost.cons q (by simp only [PyData.depth]; omega) hb, ?_⟩
      have out : _ ∉ bs := not_mem_of_deeper q (by simp only [PyData.depth]; omega) hb
      simp only [PyData.depth, PyData.shown]
      cases its with
      | nil =>
        have e0 : PyData.shownAll ds = [] := List.length_eq_zero_iff.mp hk.length_eq
        rw [e0, listText_nil]
        exact ReprK.listEmpty ho hc hd
      | cons x l => exact ReprK.list ho hc hd out (by simpa using hk.length_eq) fun i y e => hk.item i y (by simpa using e)
  | .tuple ds, v, u, h, r, w, z => by
    obtain ⟨as, q⟩ := Dp.rd I _ v u h r
    cases h with
    | tup hs ha =>
      cases r
      obtain ⟨its, rv, ⟨o, ho, hc, n, hd⟩, _⟩ := I.tuple hs
      have z' : (tupleText (PyData.shownAll ds)).length ≤ sizeLine := by simpa only [PyData.shown] using z
      obtain ⟨bs, hb, hk⟩ := rk_dps I ds _ its ha rv (by simpa only [PyData.showable] using w) fun t ht => Nat.le_trans (tupleText_mem_le ht) z'
      refine ⟨_, ReadAtMost.cons q (by simp only [PyData.depth]; omega) hb, ?_⟩
      have out : _ ∉ bs := not_mem_of_deeper q (by simp only [PyData.depth]; omega) hb
      simp only [PyData.depth, PyData.shown]
      exact ReprK.tuple ho hc hd out hk
  | .dict ds, v, u, h, r, w, z => by
    cases h with
    | dic hs hf =>
      cases r
      obtain ⟨_, low, vs, rel, o, es, ep, ho, hx, hd, _, hp, _⟩ := dk_of I.hok hs
      obtain ⟨r1, r2⟩ := flat_rd (h := s.heap) hf rel hp
      exact ReprK.of_reads (Reads.dict ho hx.1 hd r1 r2) w (fun _ y => by
        simp only [List.append_nil, List.mem_singleton] at y
        rw [y, beq_self_eq_true] at low
        cases low) z
theorem rk_dps (I : Inv X pins σ H s) : ∀ (ds : List D) (vs : List V) (us : List Value), DpAll X.K H vs ds → Vals vs us → PyData.showableAll ds = true → (∀ t ∈ PyData.shownAll ds, t.length ≤ sizeLine) →
    ∃ bs, ReadAtMost s.heap (PyData.depthAll ds) bs ∧ ReprAllK X.prog X.w bs s.heap (PyData.depthAll ds) us (PyData.shownAll ds)
  | [], _, _, h, r, _, _ => by
    cases h
    cases r
    exact ⟨[], fun b hb => by (cases hb), by simp only [PyData.shownAll]; exact .nil⟩
  | d :: ds, _, _, h, r, w, z => by
    have w' : d.showable = true ∧ PyData.showableAll ds = true := by simpa only [PyData.showableAll, Bool.and_eq_true] using w
    cases h with
    | cons h1 h2 =>
      cases r with
      | cons r1 r2 =>
        obtain ⟨b1, hb1, k1⟩ := rk_dp I d _ _ h1 r1 w'.1 (z _ (by simp only [PyData.shownAll]; exact List.mem_cons_self))
        obtain ⟨b2, hb2, k2⟩ := rk_dps I ds _ _ h2 r2 w'.2 fun t ht => z t (by simp only [PyData.shownAll]; exact List.mem_cons_of_mem _ ht)
        refine ⟨b1 ++ b2, fun b hb => ?_, ?_⟩
        · simp only [PyData.depthAll]
          rcases List.mem_append.mp hb with y | y
          · obtain ⟨d', as', q, l⟩ := hb1 b y
            exact ⟨d', as', q, Nat.le_trans l (Nat.le_max_left _ _)⟩
          · obtain ⟨d', as', q, l⟩ := hb2 b y
            exact ⟨d', as', q, Nat.le_trans l (Nat.le_max_right _ _)⟩
        · simp only [PyData.depthAll, PyData.shownAll]
          exact .cons ((k1.more fun b y => List.mem_append_left _ y).level_le (Nat.le_max_left _ _)) (k2.more_le (fun b y => List.mem_append_right _ y) (Nat.le_max_right _ _))
end
/-- repr of data at a place -/
theorem repr_at (I : Inv X pins σ H s) {d : D} {a : Addr} (h : Dp X.K H (.ref a) d) (w : d.showable = true) (z : d.shown.length ≤ sizeLine) (hg : X.A.guards = some []) (hu : X.A.units + (d.depth + 1) < cLine) {Q : Value → Shared → Prop} {E : Value → Shared → Prop}
    (q : ∀ h' u tk, (∀ b o, s.heap.get? b = some o → h'.get? b = some o) → Q (.str d.shown u) { s with heap := h', toks := tk }) : wpAny (model X.prog X.w) X.A (call (.builtin "repr") [.ref a]) Q E s := by
  have r : RelV (.ref a) (.ref a) := rfl
  cases d with
  | list ds =>
    obtain ⟨as, rd⟩ := Dp.rd I _ _ _ h r
    cases h with
    | lst hs ha =>
      obtain ⟨its, rv, ⟨o, n, ho, hc, _, hd⟩, _⟩ := I.list (SqL.of hs)
      have z' : (listText (PyData.shownAll ds)).length ≤ sizeLine := by simpa only [PyData.shown] using z
      obtain ⟨bs, hb, hk⟩ := rk_dps I ds _ its ha rv (by simpa only [PyData.showable] using w) fun t ht => Nat.le_trans (listText_mem_le ht) z'
      have out : a ∉ bs := not_mem_of_deeper rd (by simp only [PyData.depth]; omega) hb
      simp only [PyData.depth] at hu
      simp only [PyData.shown] at q
      refine call_repr_slot (by omega) ⟨o, ho, hc⟩ F.slot_list_repr.toG ?_
      cases its with
      | nil =>
        have e0 : PyData.shownAll ds = [] := List.length_eq_zero_iff.mp hk.length_eq
        rw [e0, listText_nil] at q
        exact call_list_repr_empty ⟨o, ho, hc⟩ ho hd ⟨_, _, rfl, q s.heap _ _ fun _ _ e => e⟩
      | cons x l => exact call_list_reprK ho hc hd out (by simpa using hk.length_eq) (fun i y e => hk.item i y (by simpa using e)) hg (fun b _ => Clear.nil b) (by show X.A.units + 1 + _ < _; omega) (fun _ _ e => e) (fun h' u tk k => ⟨_, _, rfl, q h' u tk k⟩) z'
  | tuple ds =>
    obtain ⟨as, rd⟩ := Dp.rd I _ _ _ h r
    cases h with
    | tup hs ha =>
      obtain ⟨its, rv, ⟨o, ho, hc, n, hd⟩, _⟩ := I.tuple hs
      have z' : (tupleText (PyData.shownAll ds)).length ≤ sizeLine := by simpa only [PyData.shown] using z
      obtain ⟨bs, hb, hk⟩ := rk_dps I ds _ its ha rv (by simpa only [PyData.showable] using w) fun t ht => Nat.le_trans (tupleText_mem_le ht) z'
      have out : a ∉ bs := not_mem_of_deeper rd (by simp only [PyData.depth]; omega) hb
      simp only [PyData.depth] at hu
      simp only [PyData.shown] at q
      refine call_repr_slot (by omega) ⟨o, ho, hc⟩ F.slot_tuple_repr ?_
      exact call_tuple_reprK ho hc hd out hk hg (fun b _ => Clear.nil b) (by show X.A.units + 1 + _ < _; omega) (fun _ _ e => e) (fun h' u tk k => ⟨_, _, rfl, q h' u tk k⟩) z'
  | dict ds =>
    cases h with
    | dic hs hf =>
      obtain ⟨_, low, vs, rel, o, es, ep, ho, hx, hd, _, hp, _⟩ := dk_of I.hok hs
      obtain ⟨r1, r2⟩ := flat_rd (h := s.heap) hf rel hp
      exact repr_of_reads' (Reads.dict ho hx.1 hd r1 r2) w (fun _ y => by
        simp only [List.append_nil, List.mem_singleton] at y
        rw [y, beq_self_eq_true] at low
        cases low) hg hu (fun _ _ e => e) q z
  | _ => cases h
end
def rReprD (K : PySem.W.Frag) : List V → Hp → VK → Prop := fun vs H Q => ∃ v d, vs = [v] ∧ Dp K H v d ∧ d.showable = true ∧ d.depth ≤ 60 ∧ d.shown.length ≤ sizeLine ∧ Q (.str (dshow d)) H
theorem cr_repr (hgd : X.A.guards = some []) (hu : X.A.units + 64 < cLine) : CallR X (.builtin "repr") (rReprD X.K) := by
  intro pins s σ H vs us Q I r h
  obtain ⟨v, d, rfl, hd, hs, hdp, hz, q⟩ := h
  obtain ⟨u, rfl, ru⟩ := vals1 r
  have kp : ∀ tk, _ := fun tk => I.kept (h' := s.heap) (t' := tk) fun _ _ e => e
  have rf : ∀ a, v = V.ref a → u = Value.ref a → wpAny (model X.prog X.w) X.A (call (.builtin "repr") [u]) (EP X pins σ Q) X.xe s := fun a e1 e => by
    subst e
    subst e1
    exact repr_at I hd hs hz hgd (by omega) fun h' u tk hk => ⟨.str (dshow d), H, I.kept (t' := tk) hk, ⟨u, rfl⟩, q⟩
  cases hd with
  | lst _ _ => exact rf _ rfl ru
  | tup _ _ => exact rf _ rfl ru
  | dic _ _ => exact rf _ rfl ru
  | non =>
    have e : u = .none := ru
    subst e
    exact PySem.P.repr_of_none ⟨.str (dshow .none), H, kp _, ⟨s.toks, by rw [dshow, PyData.shown_none]⟩, q⟩
  | bl c =>
    have e : u = .bool c := ru
    subst e
    refine PySem.P.repr_of_bool ⟨.str (dshow (.bool c)), H, kp _, ⟨s.toks, by simp only [dshow, PyData.shown]⟩, q⟩
  | int i =>
    obtain ⟨t, e⟩ : ∃ t, u = .int i t := ru
    subst e
    refine PySem.P.repr_of_int (by simpa [PyData.showable] using hs) ⟨.str (dshow (.int i)), H, kp _, ⟨s.toks, by simp only [dshow, PyData.shown]⟩, q⟩
  | str z =>
    obtain ⟨t, e⟩ : ∃ t, u = .str z t := ru
    subst e
    refine PySem.P.repr_of_str ⟨.str (dshow (.str z)), H, kp _, ⟨s.toks, by simp only [dshow, PyData.shown]⟩, q⟩ (by simpa only [PyData.shown] using hz)
theorem boot_repr : bootBuiltins "repr" = some (.builtin "repr") := by decide +kernel
theorem de_repr (hgd : X.A.guards = some []) (hu : X.A.units + 64 < cLine) (hg : Gl X "repr") (hm : X.mg "repr" = none) (ha : DE X b1 a t1) (he : starEach (a :: []) X.env = (false, eval a X.env) :: starEach [] X.env := by rfl) (hpl : (backTo pos (starEach [] X.env)).any (·.1) = false := by rfl) :
    DE X true (.Call (.Name "repr" p) [a] [] pos) (d1 gRepr t1) :=
  de_fnS (fun h => pe_callB (cr_repr hgd hu) hg hm boot_repr h (by decide) (by decide) he hpl) (by
    intro B H x dx P Q hx sb ⟨h2, h3, h4, g⟩ k
    exact ⟨x, dx, rfl, Dp.mono sb hx, h2, h3, h4, k _ _ g (sc_str _)⟩) ha he
/-- isinstance(x, T), T a built-in class -/
def tyName : D → String
  | .none => "NoneType"
  | .bool _ => "bool"
  | .int _ => "int"
  | .str _ => "str"
  | .list _ => "list"
  | .tuple _ => "tuple"
  | .dict _ => "dict"
def gIsi (T : String) : G1 := fun d P => ∃ c, kitB (tyName d) T = some c ∧ P (.bool c)
theorem ty_of {H : Hp} {v : V} {d : D} (h : Dp K H v d) : TyX K H v (.type (tyName d)) := by
  cases h with
  | non => exact .base (.non)
  | bl c => exact .base (.bl c)
  | int i => exact .base (.int i)
  | str z => exact .base (.str z)
  | lst h1 _ => exact .base (.lst h1)
  | dic h1 _ => exact .base (.dK h1)
  | tup h1 _ =>
    rcases h1 with (h | ⟨o, h⟩) | ⟨o, its, n, hk, hc, _⟩
    · exact .base (.tup h)
    · exact .fTuple h
    · exact .kTuple hk hc
theorem de_isi {T : String} {x2 : Str} {p2 : Pos} (hg : Gl X "isinstance") (hm : X.mg "isinstance" = none) (ha : DE X b1 a t1) (hT : PE X (.Name x2 p2) (tC (.ty T)))
    (he : starEach (a :: [.Name x2 p2]) X.env = (false, eval a X.env) :: starEach [.Name x2 p2] X.env := by rfl) (he2 : starEach (.Name x2 p2 :: []) X.env = (false, eval (.Name x2 p2) X.env) :: starEach [] X.env := by rfl)
    (hpl : (backTo pos (starEach [.Name x2 p2] X.env)).any (·.1) = false := by rfl) : DE X true (.Call (.Name "isinstance" p) [a, .Name x2 p2] [] pos) (d1 (gIsi T) t1) :=
  ⟨PE.imp (pe_callB call_isi hg hm (by decide +kernel) (pa_cons ha.run (pa_cons hT pa_nil he2) he) (by decide) (by decide) he hpl) fun σ H Q ⟨gh, n, δ, S, Vs, P, sr, ht, k⟩ => ⟨gh, n, δ, S, Vs, _, sr, ht, fun d m v H' S' Vs' ⟨c, e1, pp⟩ sr' s1 s2 rp =>
    ⟨v, .ty T, _, _, c, rfl, .ty T, ty_of (Dp.mono sr'.VH (Rp.dp rp sr'.SV)), kit_ty e1, k _ m _ H' S' Vs' pp sr' s1 s2 (Rp.of (.bl c))⟩⟩⟩
end
end DL
/-! DL8: enumerate, zip, slices over data. -/
namespace PySem
open Sem (wp)
open AutoSeq1 (wpAny_loadPart')
theorem meets_enumT (l : Addr) (items : Array Value) (n : Nat) (dct : Option Addr) (sl : Array (Option Value)) :
    Meets (Builtin.«enumerate.__new__» ⟨[.type "enumerate", .ref l], []⟩) (fun _ R s => s.heap.get? l = some { cls := .type "tuple", dict := dct, data := .seq items n, slots := sl } ∧
      R (.ok (.ret (.ref (s.heap.push { cls := .type "tuple_iterator", data := .fields #[.ref l, .int 0 0] }).objs.size)))
        { s with heap := (s.heap.push { cls := .type "tuple_iterator", data := .fields #[.ref l, .int 0 0] }).push { cls := .type "enumerate", data := .fields #[.none, .bool false, .ref s.heap.objs.size, rawInt 0, .none, .none] } }) :=
  .of_wp fun prog w A R s h => by
    obtain ⟨hp, g, d, tk, os⟩ := s
    obtain ⟨hl, h⟩ := h
    have hsub := sub_enumerate
    have hL : Heap.IsTuple (Shared.heap ⟨hp, g, d, tk, os⟩) l items := ⟨_, hl, rfl, n, rfl⟩
    wp_walk using wpAny_loadPart' hl
    refine wpAny_stack_any fun st => wpAny_pure ?_
    split
    · rename_i c _ _ _ _ _
      cases (c == Value.type "enumerate") <;> (wp_walk using wpAny_loadPart' hl, wpAny_pyIter_tuple hL; exact ⟨_, rfl, h⟩)
    · wp_walk using wpAny_loadPart' hl, wpAny_pyIter_tuple hL
      exact ⟨_, rfl, h⟩
end PySem
namespace DL
open PySem PySem.Spec L2

section
variable {prog : Program} {w : World} {A : Around} {E : Value → Shared → Prop} {s : Shared}
theorem call_enumT {l : Addr} {items : Array Value} {Q : Value → Shared → Prop} (hL : s.heap.IsTuple l items)
    (h : ∀ h', IsEnum h' (s.heap.objs.size + 1) s.heap.objs.size 0 .none → h'.IsTupleIter s.heap.objs.size l 0 → h'.objs.size = s.heap.objs.size + 2 →
      (∀ b o, s.heap.get? b = some o → h'.get? b = some o) → Q (.ref (s.heap.objs.size + 1)) { s with heap := h' }) : wpAny (model prog w) A (call (.type "enumerate") [.ref l]) Q E s := by
  obtain ⟨⟨c, dct, dt, sl⟩, hl, hc, n, hd⟩ := hL
  simp only at hc hd
  subst hc hd
  refine callType_new F.called_enumerate (by decide) (F.typeCall_enumerate_1 _) (F.newCall_enumerate_1 _) (fun obj => F.args_object_init_2 obj _) F.entry_enumerate_new (meets_enumT l items n dct sl) ⟨hl, ?_⟩
  generalize hh1 : s.heap.push { cls := .type "tuple_iterator", data := .fields #[.ref l, .int 0 0] } = h1
  have hz : h1.objs.size = s.heap.objs.size + 1 := by rw [← hh1]; exact Heap.size_push ..
  show _ ∧ _
  rw [hz]
  have he : IsEnum (h1.push { cls := .type "enumerate", data := .fields #[.none, .bool false, .ref s.heap.objs.size, rawInt 0, .none, .none] }) (s.heap.objs.size + 1) s.heap.objs.size 0 .none := by
    have := Heap.get?_push_size h1 (o := { cls := .type "enumerate", data := .fields #[.none, .bool false, .ref s.heap.objs.size, rawInt 0, .none, .none] }) rfl
    rw [hz] at this
    exact this
  have k1 : ∀ b o, s.heap.get? b = some o → h1.get? b = some o := fun b o x => by rw [← hh1]; exact Heap.get?_push_of_some _ x
  have e1 : h1.get? s.heap.objs.size = some { cls := .type "tuple_iterator", data := .fields #[.ref l, .int 0 0] } := by rw [← hh1]; exact Heap.get?_push_size _ rfl
  exact ⟨⟨_, he, rfl⟩, h _ he ⟨_, Heap.get?_push_of_some _ e1, rfl, rfl⟩ (by rw [Heap.size_push, hz]) fun b o x => Heap.get?_push_of_some _ (k1 b o x)⟩
end
section
variable {prog : Program} {w : World} {A : Around} {E : Value → Shared → Prop} {s : Shared}
theorem next_enumT_end {e it l : Addr} {i : Nat} {items : Array Value} {old : Value} {Q : Option Value → Shared → Prop} (hh : A.handled = none) (he : IsEnum s.heap e it i old) (hit : s.heap.IsTupleIter it l i) (hl : s.heap.IsTuple l items) (hx : items[i]? = none)
    (hQ : ∀ h', Heap.ExtBut it s.heap h' → Q none { s with heap := h' }) : wpAny (model prog w) A (pyNext (.ref e)) Q E s := by
  have hT : s.TypeIs (.ref e) "enumerate" := ⟨_, he, rfl⟩
  unfold pyNext
  refine wpAny_bind (wpAny_attempt (wpAny_callSpecial?_slot (name := Str.ofString "__next__") hT F.slot_enumerate_next (wpAny_call_entry F.slot_enumerate_next hT F.entry_enumerate_next ?_ (F.args_enumerate_next_1 _))))
  show wpAny _ _ (field (.ref e) 2 >>= _) _ _ _
  refine wpAny_bind (wpAny_field he rfl (x := .ref it) rfl (wpAny_bind (wpAny_nextOf_tuple_end hh hit hl hx fun h' x e' hx' => ?_)))
  obtain ⟨o, ho, hc⟩ := hx'
  exact wpAny_bind (wpAny_isInstance (T := "StopIteration") (b := true) ⟨o, ho, hc⟩ isSubtype_stop (wpAny_pure (hQ _ e')))
end
/-- the tuple at a as it stands, its items with their places in new pairs -/
def IteT (K : PySem.W.Frag) (a : Addr) : It :=
  ⟨fun i H => ∃ (xs : List V) (x : V), SqT K H a xs ∧ xs[i]? = some x, fun i H v H' => ∃ T x, v = .ref T ∧ H T = none ∧ H' = upd H T (.tup [.int (i : Nat), x]) ∧ ∀ xs, SqT K H a xs → xs[i]? = some x, fun i H => ∃ xs : List V, SqT K H a xs ∧ xs.length ≤ i⟩
theorem turn_enumT {P : Program} {w : World} {K : PySem.W.Frag} {elts : List Expr} {kk : Nat} {tpos : Pos} (a e it : Addr) :
    Turn P w K (.Tuple elts kk tpos) (IteT K a) [e, it] e (fun i h => (∃ old, IsEnum h e it ((i : Nat) : Int) old) ∧ h.IsTupleIter it a i ∧ e ≠ it ∧ a ≠ e ∧ a ≠ it) where
  mem := by simp
  obj := fun i h st b hb => by
    obtain ⟨⟨old, he⟩, ⟨o, ho, hc, hd⟩, _⟩ := st
    rcases (show b = e ∨ b = it by simpa using hb) with z | z
    · rw [z]; exact ⟨_, he, fun v q => nomatch q⟩
    · rw [z]; exact ⟨o, ho, fun v q => by rw [hd] at q; cases q⟩
  keep := fun i h h' st k => let ⟨⟨old, he⟩, hi, r⟩ := st; ⟨⟨old, k e (by simp) _ he⟩, hi.at fun o q => k it (by simp) o q, r⟩
  item := by
    intro X hP hw hK hc i pins s σ H E I hf st hg
    subst hP hw hK
    obtain ⟨⟨old, he⟩, hit, hne, hae, hai⟩ := st
    obtain ⟨xs, x, hq, hx⟩ := hg
    obtain ⟨its, rv, p, hz⟩ := I.tuple hq
    obtain ⟨u, hu, ru⟩ := rv.get hx
    have hlt : i < its.toArray.size := by
      have := (List.getElem?_eq_some_iff.mp hu).1
      simpa using this
    have hel : e < s.heap.objs.size := Heap.lt_size he
    have hil : it < s.heap.objs.size := by obtain ⟨_, q, _⟩ := hit; exact Heap.lt_size q
    have hfp : e ∉ [it, a] := by
      intro z
      rcases (show e = it ∨ e = a by simpa using z) with z | z
      · exact hne z
      · exact hae z.symm
    refine wpAny_pyNext_enum_itemD (Draws.tuple (A := X.A.in1) (I.ok.hd hc) it a hai its.toArray) he ⟨hit, p⟩ hlt hne hfp fun x' h' tk hp ho hst hT hsz hk => ?_
    have ex : x' = u := by
      have q : its.toArray[i]? = some x' := hp
      have q2 : its.toArray[i]? = some u := by simpa using hu
      rw [q] at q2
      exact Option.some.inj q2
    subst ex
    refine ⟨_, rfl, wpAny_letOwnedTupleGo_enum (s := { s with heap := h', toks := tk + 1 }) ho fun h'' he' sb => ?_⟩
    have hT2 : h''.get? s.heap.objs.size = some { cls := .type "tuple", data := .seq #[.int i tk, x'] } := (sb.2 _ (Nat.ne_of_gt hel)).trans hT
    have new : ObjOk X.prog X.w (upd H s.heap.objs.size (.tup [.int (i : Nat), x])) h'' s.heap.objs.size (.tup [.int (i : Nat), x]) :=
      ⟨by show 2 ≤ sizeLine; decide, [.int i tk, x'], .cons ⟨_, rfl⟩ (.cons ru .nil), ⟨_, hT2, rfl, _, rfl⟩⟩
    have I1 : Inv X pins σ (upd H s.heap.objs.size (.tup [.int (i : Nat), x])) { s with heap := h'', toks := tk + 1 } :=
      I.turnedNew (ch := [e, it]) (fun b ob hb q => (sb.2 b (fun z => hb (by simp [z]))).trans (hk b ob (fun z => hb (by simp [z])) (fun z => hb (by simp [z])) q)) hf (Nat.le_refl _) new
    refine ⟨.ref s.heap.objs.size, _, I1, rfl, ⟨_, x, rfl, I.hok.fresh (Nat.le_refl _), rfl, fun ys hy => by rw [I.tuple_inj hy hq]; exact hx⟩, ⟨⟨x', ?_⟩, hst.1.at fun o q => (sb.2 it (Ne.symm hne)).trans q, hne, hae, hai⟩, fun b hb => ?_⟩
    · have e1 : ((i + 1 : Nat) : Int) = (i : Int) + 1 := by omega
      rw [e1]; exact he'
    · have hb' : b < s.heap.objs.size := by
        rcases (show b = e ∨ b = it by simpa using hb) with z | z
        · rw [z]; exact hel
        · rw [z]; exact hil
      rw [upd_ne (Nat.ne_of_lt hb')]
      exact (hf b hb).1
  done := by
    intro X hP hw hK hc i pins s σ H E I hf st hg
    subst hP hw hK
    obtain ⟨⟨old, he⟩, hit, hne, hae, hai⟩ := st
    obtain ⟨xs, hq, hx⟩ := hg
    obtain ⟨its, rv, p, hz⟩ := I.tuple hq
    obtain ⟨f0, f1, f2, f3, f4, f5⟩ := hf it (by simp)
    have hl := rv.length
    have hend : its.toArray[i]? = none := by simp; omega
    exact next_enumT_end (I.ok.hd hc) he hit p hend fun h' eb => ⟨rfl, I.turned (t' := s.toks) (fun b o hb q => eb b o hb q) f0 f1 f3 f4 f5⟩
  self := fun A i s Q E st h => let ⟨⟨_, he⟩, _⟩ := st; wpAny_pyIter_enum he h
def iEnumT (K : PySem.W.Frag) (ta : TA) : TI := fun σ H R => ta σ H fun vs H1 => ∃ a xs, vs = [.ref a] ∧ SqT K H1 a xs ∧ R (IteT K a) H1
theorem pi_enumT {X : Cx} {e : Expr} {ta : TA} {p pos tpos : Pos} {elts : List Expr} {kk : Nat} (hg : Gl X "enumerate") (hm : X.mg "enumerate" = none) (ha : PA X [e] ta) (hs : starEach [e] X.env = [(false, eval e X.env)] := by rfl) :
    PI X (.Tuple elts kk tpos) (.Call (.Name "enumerate" p) [e] [] pos) (iEnumT X.K ta) :=
  ⟨fun pins s σ H R I h => PyProof.Rows.Call_ (ld_blt I hg hm PyProof.Rows.boot_enumerate (PyProof.Rows.callWith_type1 (thn (ha.run pos pins s σ H _ I h) fun us s1 ⟨vs, H1, I1, r1, a, xs, ex, hq, q⟩ => by
    subst ex
    obtain ⟨u, rfl, r⟩ := vals1 r1
    cases r
    obtain ⟨its, rv, p', hz⟩ := I1.tuple hq
    have hal : a < s1.heap.objs.size := by obtain ⟨o, ho, _⟩ := p'; exact Heap.lt_size ho
    refine call_enumT (show s1.heap.IsTuple a its.toArray from p') fun h' he hit hsz hk => wpAny_pyIter_enum he ?_
    refine ⟨s1.heap.objs.size + 1, [s1.heap.objs.size + 1, s1.heap.objs.size], _, _, H1, rfl, I1.kept (t' := s1.toks) hk, turn_enumT a (s1.heap.objs.size + 1) s1.heap.objs.size,
      ⟨⟨.none, he⟩, hit, Nat.succ_ne_self _, Nat.ne_of_lt (Nat.lt_succ_of_lt hal), Nat.ne_of_lt hal⟩, fun b hb => ?_, q⟩
    have hle : s1.heap.objs.size ≤ b := by
      rcases (show b = s1.heap.objs.size + 1 ∨ b = s1.heap.objs.size by simpa using hb) with z | z
      · rw [z]; exact Nat.le_add_right _ _
      · rw [z]; exact Nat.le_refl _
    exact I1.fpOk hle (I1.hok.fresh hle)) hs rfl))⟩

section
variable {X : Cx} {K : PySem.W.Frag} {tg e a b c : Expr} {es elts : List Expr} {pos p tpos : Pos} {t1 t2 t3 : DTE} {ta : DTA} {b1 b2 b3 : Bool} {kk : Nat}
def enumD : Nat → List D → List D
  | _, [] => []
  | i, d :: r => .tuple [.int (i : Nat), d] :: enumD (i + 1) r
theorem enumD_length : ∀ (i : Nat) (ds : List D), (enumD i ds).length = ds.length
  | _, [] => rfl
  | i, d :: r => by simp only [enumD, List.length_cons, enumD_length (i + 1) r]
theorem enumD_get : ∀ (i j : Nat) (ds : List D), (enumD i ds)[j]? = (ds[j]?).map fun d => .tuple [.int ((i + j : Nat) : Int), d]
  | _, _, [] => by simp [enumD]
  | i, 0, d :: r => by simp [enumD]
  | i, j + 1, d :: r => by
    simp only [enumD, List.getElem?_cons_succ, enumD_get (i + 1) j r]
    rw [show i + 1 + j = i + (j + 1) by omega]
theorem walk_e {B S : Hp} {l : Addr} {xs : List V} {ds : List D} (h : B l = some (.lst xs)) (hd : DpAll K S xs ds) : WalkD K (Ite K l) B S (enumD 0 ds) := fun i H s => by
  have q : SqL K H l xs := SqL.of (s _ _ h)
  refine ⟨fun d e => ?_, fun hl => ⟨xs, q, by rw [hd.length]; rw [enumD_length] at hl; exact hl⟩⟩
  rw [enumD_get] at e
  cases ed : ds[i]? with
  | none => rw [ed] at e; cases e
  | some d0 =>
    rw [ed] at e
    obtain ⟨v, e1, r⟩ := hd.get' ed
    refine ⟨⟨xs, v, q, e1⟩, fun x H' ⟨T, y, e2, e3, e4, f⟩ => ?_⟩
    subst e2 e4
    have := f _ q
    rw [e1] at this
    cases this
    have e' : d = .tuple [.int (i : Nat), d0] := by
      have := Option.some.inj e
      rw [← this, Nat.zero_add]
    rw [e']
    exact .tup e3 (.cons (.int _) (.cons r .nil))
theorem walk_eT {B S : Hp} {l : Addr} {xs : List V} {ds : List D} (h : SqT K B l xs) (hd : DpAll K S xs ds) : WalkD K (IteT K l) B S (enumD 0 ds) := fun i H s => by
  have q : SqT K H l xs := sqt_mono s h
  refine ⟨fun d e => ?_, fun hl => ⟨xs, q, by rw [hd.length]; rw [enumD_length] at hl; exact hl⟩⟩
  rw [enumD_get] at e
  cases ed : ds[i]? with
  | none => rw [ed] at e; cases e
  | some d0 =>
    rw [ed] at e
    obtain ⟨v, e1, r⟩ := hd.get' ed
    refine ⟨⟨xs, v, q, e1⟩, fun x H' ⟨T, y, e2, e3, e4, f⟩ => ?_⟩
    subst e2 e4
    have := f _ q
    rw [e1] at this
    cases this
    have e' : d = .tuple [.int (i : Nat), d0] := by
      have := Option.some.inj e
      rw [← this, Nat.zero_add]
    rw [e']
    exact .tup e3 (.cons (.int _) (.cons r .nil))
/-- enumerate(x) of a list or a tuple -/
def iEn (t : DTE) : DTA := fun δ n Q => (t δ n fun d m => ∃ ds, d = .list ds ∧ Q (enumD 0 ds) m) ∨ (t δ n fun d m => ∃ ds, d = .tuple ds ∧ Q (enumD 0 ds) m)
theorem di_enum (hg : Gl X "enumerate") (hm : X.mg "enumerate" = none) (h : DE X b1 e t1) (hs : starEach [e] X.env = [(false, eval e X.env)] := by rfl) (hs2 : starEach (e :: []) X.env = (false, eval e X.env) :: starEach [] X.env := by rfl) :
    DI X b1 (.Tuple elts kk tpos) (.Call (.Name "enumerate" p) [e] [] pos) (iEn t1) :=
  ⟨PI.imp (PI.or (pi_enum hg hm (pa_cons h.run pa_nil hs2) hs) (pi_enumT hg hm (pa_cons h.run pa_nil hs2) hs)) fun σ H R ⟨g, n, δ, S, Vs, P, sr, ht, k⟩ => by
    rcases ht with ht | ht
    · refine .inl ⟨g, n, δ, S, Vs, _, sr, ht, fun d m v H' S' Vs' ⟨ds, e1, p⟩ sr' s1 s2 r => ?_⟩
      subst e1
      unfold Rp at r
      cases b1 with
      | true =>
        rw [if_pos rfl] at r
        cases r with
        | lst h1 h2 => exact ⟨_, _, rfl, SqL.of (sr'.SH _ _ h1), k _ H' S' Vs' _ m p sr' s1 s2 (by rw [if_pos rfl]; exact walk_e h1 h2)⟩
      | false =>
        rw [if_neg (by decide)] at r
        rcases r with r | ⟨l, xs, ds', q1, q2, h1, h2⟩
        · cases r with
          | lst h1 h2 => exact ⟨_, _, rfl, SqL.of (sr'.SH _ _ h1), k _ H' S' Vs' _ m p sr' s1 s2 (by rw [if_neg (by decide)]; exact walk_e (sr'.SV _ _ h1) h2)⟩
        · cases q1
          subst q2
          exact ⟨_, _, rfl, SqL.of (sr'.VH _ _ h1), k _ H' S' Vs' _ m p sr' s1 s2 (by rw [if_neg (by decide)]; exact walk_e h1 h2)⟩
    · refine .inr ⟨g, n, δ, S, Vs, _, sr, ht, fun d m v H' S' Vs' ⟨ds, e1, p⟩ sr' s1 s2 r => ?_⟩
      subst e1
      rcases Rp.br r with r | ⟨l, xs, ds', q1, q2, h1, h2⟩
      · cases r with
        | tup h1 h2 =>
          refine ⟨_, _, rfl, sqt_mono sr'.SH h1, k _ H' S' Vs' _ m p sr' s1 s2 ?_⟩
          cases b1 with
          | true => rw [if_pos rfl]; exact walk_eT h1 h2
          | false => rw [if_neg (by decide)]; exact walk_eT (sqt_mono sr'.SV h1) h2
      · cases q1⟩
end
end DL
/-! DP: plain facts about data: sizes, shapes, order. -/
namespace DL
open PySem

/-- data that are small: depth m, weight w at most; whole numbers below 10^12, short texts -/
structure Sm (m w : Nat) (d : D) : Prop where
  lay : d.canLay0 = true
  dep : d.depth ≤ m
  wt : d.weight + 1 ≤ w
  short : d.leavesShort 13 = true
  show' : d.showable = true
structure SmAll (m w : Nat) (ds : List D) : Prop where
  lay : PyData.canLayAll0 ds = true
  dep : PyData.depthAll ds ≤ m
  wt : PyData.weightAll ds ≤ w
  short : PyData.leavesShortAll 13 ds = true
  show' : PyData.showableAll ds = true
section
variable {m w m' w' : Nat} {d : D} {ds : List D}
theorem Sm.mono (h : Sm m w d) (h1 : m ≤ m') (h2 : w ≤ w') : Sm m' w' d := ⟨h.lay, Nat.le_trans h.dep h1, Nat.le_trans h.wt h2, h.short, h.show'⟩
theorem Sm.shaped (h : Sm m w d) (hm : m ≤ 64) : SeqAt.shaped d = true := by
  unfold SeqAt.shaped
  rw [h.lay, decide_eq_true (Nat.le_trans h.dep hm)]; rfl
theorem Sm.fits (h : Sm m w d) (hw : w ≤ 1048576) : d.shown.length ≤ sizeLine := PyData.shown_fits (B := 13) (by decide) (by decide) h.short (by have := h.wt; omega)
theorem SmAll.nil : SmAll m w [] := ⟨rfl, by simp [PyData.depthAll], by simp [PyData.weightAll], rfl, rfl⟩
theorem SmAll.cons (h : Sm m w d) (t : SmAll m w' ds) : SmAll m (w + w') (d :: ds) := by
  refine ⟨?_, ?_, ?_, ?_, ?_⟩
  · rw [PyData.canLayAll0, h.lay, t.lay]; rfl
  · rw [PyData.depthAll]; exact Nat.max_le.mpr ⟨h.dep, t.dep⟩
  · rw [PyData.weightAll]; exact Nat.add_le_add h.wt t.wt
  · rw [PyData.leavesShortAll, h.short, t.short]; rfl
  · rw [PyData.showableAll, h.show', t.show']; rfl
theorem SmAll.mono (h : SmAll m w ds) (h1 : m ≤ m') (h2 : w ≤ w') : SmAll m' w' ds := ⟨h.lay, Nat.le_trans h.dep h1, Nat.le_trans h.wt h2, h.short, h.show'⟩
theorem SmAll.of : ∀ {ds : List D}, (∀ d ∈ ds, Sm m w d) → SmAll m (ds.length * w) ds
  | [], _ => .nil
  | d :: r, h => (SmAll.cons (h d List.mem_cons_self) (SmAll.of fun x hx => h x (List.mem_cons_of_mem _ hx))).mono (Nat.le_refl _) (by rw [List.length_cons, Nat.add_mul, Nat.one_mul, Nat.add_comm]; exact Nat.le_refl _)
theorem SmAll.of' {L : Nat} (h : ∀ d ∈ ds, Sm m w d) (hl : ds.length ≤ L) : SmAll m (L * w) ds := (SmAll.of h).mono (Nat.le_refl _) (Nat.mul_le_mul_right _ hl)
theorem SmAll.tup (h : SmAll m w ds) : Sm (m + 1) (w + 1) (.tuple ds) := by
  refine ⟨?_, ?_, ?_, ?_, ?_⟩
  · rw [PyData.canLay0]; exact h.lay
  · rw [PyData.depth]; exact Nat.succ_le_succ h.dep
  · rw [PyData.weight]; have := h.wt; omega
  · rw [PyData.leavesShort]; exact h.short
  · rw [PyData.showable]; exact h.show'
theorem SmAll.lst (h : SmAll m w ds) : Sm (m + 1) (w + 1) (.list ds) := by
  refine ⟨?_, ?_, ?_, ?_, ?_⟩
  · rw [PyData.canLay0]; exact h.lay
  · rw [PyData.depth]; exact Nat.succ_le_succ h.dep
  · rw [PyData.weight]; have := h.wt; omega
  · rw [PyData.leavesShort]; exact h.short
  · rw [PyData.showable]; exact h.show'
theorem Sm.bool (b : Bool) : Sm 0 1 (.bool b) := ⟨rfl, by simp [PyData.depth], by simp [PyData.weight], by cases b <;> decide, rfl⟩
theorem Sm.none : Sm 0 1 .none := ⟨rfl, by simp [PyData.depth], by simp [PyData.weight], by decide, rfl⟩
theorem Sm.int {i : Int} (h : i.natAbs < 10 ^ 12) : Sm 0 41 (.int i) := by
  have h1 : i.natAbs.log2 < 40 := PySem.Flt.log2_lt_of (by decide) (Nat.lt_of_lt_of_le h (by decide))
  refine ⟨rfl, by simp [PyData.depth], by rw [PyData.weight]; split <;> omega, ?_, ?_⟩
  · rw [PyData.leavesShort]; exact decide_eq_true (PyData.shown_int_le h)
  · rw [PyData.showable]
    refine decide_eq_true ?_
    omega
end
end DL
/-! DL9: the drawing dict. -/
namespace DL
open PySem PySem.Spec L2

abbrev kFar : Key := .inr (Str.ofString "deep")
abbrev kFlow : Key := .inr (Str.ofString "seal")
abbrev kTurn : Key := .inr (Str.ofString "turn")
def rdic (f : Addr) (flow turn : Int) : List (Key × V) := [(kFar, .ref f), (kFlow, .int flow), (kTurn, .int turn)]
theorem k1 : decide (kFar = kFlow) = false := by decide +kernel
theorem k2 : decide (kFar = kTurn) = false := by decide +kernel
theorem k3 : decide (kFlow = kTurn) = false := by decide +kernel
theorem k4 : decide (kFlow = kFar) = false := by decide +kernel
theorem k5 : decide (kTurn = kFar) = false := by decide +kernel
theorem k6 : decide (kTurn = kFlow) = false := by decide +kernel
theorem rd_far (f : Addr) (a b : Int) : valV (rdic f a b) kFar = some (.ref f) := by
  unfold valV rdic
  rw [List.find?_cons_of_pos (by exact decide_eq_true rfl)]; rfl
theorem rd_flow (f : Addr) (a b : Int) : valV (rdic f a b) kFlow = some (.int a) := by
  unfold valV rdic
  rw [List.find?_cons_of_neg (by rw [k1]; exact Bool.false_ne_true), List.find?_cons_of_pos (by exact decide_eq_true rfl)]; rfl
theorem rd_turn (f : Addr) (a b : Int) : valV (rdic f a b) kTurn = some (.int b) := by
  unfold valV rdic
  rw [List.find?_cons_of_neg (by rw [k2]; exact Bool.false_ne_true), List.find?_cons_of_neg (by rw [k3]; exact Bool.false_ne_true), List.find?_cons_of_pos (by exact decide_eq_true rfl)]; rfl
theorem any_of {α : Type} {p : α → Bool} {l : List α} {x : α} (h : x ∈ l) (hp : p x = true) : l.any p = true := List.any_eq_true.mpr ⟨x, h, hp⟩
theorem rp_turn (f : Addr) (a b c : Int) : putK (rdic f a b) kTurn (.int c) = rdic f a c := by
  unfold putK
  rw [if_pos (any_of (x := (kTurn, V.int b)) (by simp [rdic]) (decide_eq_true rfl))]
  unfold rdic
  rw [List.map_cons, List.map_cons, List.map_cons, List.map_nil, if_neg (of_decide_eq_false k2), if_neg (of_decide_eq_false k3), if_pos rfl]
theorem rp_flow (f : Addr) (a b c : Int) : putK (rdic f a b) kFlow (.int c) = rdic f c b := by
  unfold putK
  rw [if_pos (any_of (x := (kFlow, V.int a)) (by simp [rdic]) (decide_eq_true rfl))]
  unfold rdic
  rw [List.map_cons, List.map_cons, List.map_cons, List.map_nil, if_neg (of_decide_eq_false k1), if_pos rfl, if_neg (of_decide_eq_false k6)]
theorem rm_disp (f : Addr) (a b : Int) : mergeK [] (rdic f a b) = rdic f a b := by
  have e1 : putK ([] : List (Key × V)) kFar (.ref f) = [(kFar, .ref f)] := rfl
  have e2 : putK [(kFar, V.ref f)] kFlow (.int a) = [(kFar, .ref f), (kFlow, .int a)] := by
    unfold putK
    rw [if_neg (by rw [List.any_cons, k1]; decide)]; rfl
  have e3 : putK [(kFar, V.ref f), (kFlow, V.int a)] kTurn (.int b) = rdic f a b := by
    unfold putK
    rw [if_neg (by rw [List.any_cons, List.any_cons, k2, k3]; decide)]; rfl
  show putK (putK (putK [] kFar (.ref f)) kFlow (.int a)) kTurn (.int b) = _
  rw [e1, e2, e3]
theorem emod_lt {a : Int} {m : Int} (h : 0 < m) : 0 ≤ a % m ∧ a % m < m := ⟨Int.emod_nonneg _ (by omega), Int.emod_lt_of_pos _ h⟩

/-- a number below many -/
def fDraw : Fn := fun as n P => ∃ many : Int, as = [.rl, .d (.int many)] ∧ 0 < many ∧ many < 1073741824 ∧ 1 ≤ n ∧ ∀ k : Int, 0 ≤ k → k < many → P (.int k) (n - 1)
def D0 (K : PySem.W.Frag) (H : Hp) (l : Addr) (ns : List Int) (h : H l = some (.lst (ns.map V.int))) : L2.Dp K H (.ref l) (.list (ns.map PyData.int)) := by
  refine .lst (SqL.of h) ?_
  clear h
  induction ns with
  | nil => exact .nil
  | cons x r ih => exact .cons (.int x) ih
theorem shaped_ints {ns : List Int} : SeqAt.shaped (.list (ns.map PyData.int)) = true := by
  have h1 : PyData.canLayAll0 (ns.map PyData.int) = true := by
    induction ns with
    | nil => rfl
    | cons x r ih => rw [List.map_cons, PyData.canLayAll0, ih, PyData.canLay0]; rfl
  have h2 : PyData.depthAll (ns.map PyData.int) = 0 := by
    induction ns with
    | nil => simp [PyData.depthAll]
    | cons x r ih => rw [List.map_cons, PyData.depthAll, ih (by
        rw [List.map_cons, PyData.canLayAll0] at h1
        exact (Bool.and_eq_true_iff.mp h1).2)]; simp [PyData.depth]
  unfold SeqAt.shaped
  rw [PyData.canLay0, h1, PyData.depth, h2]; rfl
theorem eqv_nil {ns : List Int} : PyData.eqv (.list (ns.map PyData.int)) (.list []) = decide (ns = []) := by
  cases ns with
  | nil => simp [PyData.eqv, PyData.eqvAll]
  | cons x r => simp [PyData.eqv, PyData.eqvAll]
theorem rdic_len (f : Addr) (a b : Int) : (rdic f a b).length < sizeLine := by
  show 3 < sizeLine
  decide
theorem seq0 (n : Nat) : seqIndex? 0 (n + 1) = some 0 := by
  have := (ixN_seq (n := n + 1) (i := 0) (j := 0) (by unfold ixN; rw [if_pos (by decide), if_pos (by omega)]; rfl)).1
  exact this
def N0 : Nat := 2305843009213693952
/-- what the def that makes the drawing dict promises -/
def spRl (K : PySem.W.Frag) : Sp := fun vs H Q _ => ∃ (a : Addr) (ns : List Int), vs = [.ref a] ∧ SqL K H a (ns.map V.int) ∧ ns.length ≤ 63 ∧ ∀ r f H', Same H H' → H r = none → H f = none → RillOk H' r f N0 → Q (.ref r) H'
end DL
/-! DL10: small things for printed texts. -/
namespace DL
open PySem PySem.Spec L2
abbrev gSub : G2 := gI fun i j => .int (i - j)
abbrev gMul : G2 := gIC CMul fun i j => .int (i * j)
abbrev gMod : G2 := gIC (fun _ j => 0 < j) fun i j => .int (i % j)
abbrev gFdiv : G2 := gIC CDiv fun i j => .int (i / j)
abbrev gPow : G2 := gIC CPow fun i j => .int (i ^ j.toNat)
abbrev gLt : G2 := gCmp fun x y => PySem.W.dataLt x y
abbrev gGt : G2 := gCmp fun x y => PySem.W.dataLt y x
abbrev gLe : G2 := gCmp fun x y => !PySem.W.dataLt y x
abbrev gGe : G2 := gCmp fun x y => !PySem.W.dataLt x y
theorem hu5_of {A : Around} {k : Nat} (hr : Room k A) : A.units + 65 < cLine := by have := hr.un; omega
theorem hu_of5 {A : Around} (h : A.units + 65 < cLine) : A.units + 64 < cLine := by omega
theorem blkD {N : List Str} {sc scope : Scope} {own : List (Str × Nat)} (h1 : scope.kind = .function) (h2 : ∀ y ∈ scope.names, scope.names.lookup y.1 = some y.2) (h3 : ∀ p ∈ own, N[p.2]? = some p.1)
    (h4 : ∀ y ∈ scope.names, y.2 = .free → sc.names.lookup y.1 = some .cell ∨ sc.names.lookup y.1 = some .free) (h5 : ∀ y ∈ scope.names, y.2 = .local ∨ y.2 = .cell → y.1 ∈ own.map (·.1) ∨ y.1 ∉ N) : BlkOk N sc scope own := ⟨h1, h2, h3, h4, h5⟩
def gConsL (l : Nat) (γ : DTG) (γs : DTGs) : DTGs := fun ds δ P => ∃ d r, ds = d :: r ∧ r.length = l ∧ γ d δ fun δ' => γs r δ' P
theorem gs_consG {K : PySem.W.Frag} {g1 : TG} {is js : List Nat} {g2 : TGs} {l : Nat} {γ1 : DTG} {γs : DTGs} (q1 : GSem K g1 is γ1) (q2 : GsSem K g2 js l γs) : GsSem K (gCons g1 g2) (is ++ js) (l + 1) (gConsL l γ1 γs) :=
  fun gh n δ σ H S Vs ds vs P Q sr hd ⟨d, r, e1, hl, hp⟩ k => by
    subst e1
    cases hd with
    | cons h1 h3 =>
      refine ⟨by rw [List.length_cons, hl], _, _, rfl, q1 gh n δ σ H S Vs d _ _ _ sr h1 hp fun δ1 σ1 p1 sr1 f1 l1 => ?_⟩
      exact (q2 gh n δ1 σ1 H S Vs r _ _ Q sr1 h3 p1 fun δ2 σ2 p2 sr2 f2 l2 => k δ2 σ2 p2 sr2 (fun j hj => by
        have a1 := f1 j fun z => hj (List.mem_append_left _ z)
        have a2 := f2 j fun z => hj (List.mem_append_right _ z)
        exact ⟨a2.1.trans a1.1, a2.2.trans a1.2⟩) (l2.trans l1)).2
/-! ### comparisons as tests -/
section
variable {X : Cx} {a b : Expr} {pos : Pos} {t1 t2 : DTE} {b1 b2 : Bool}
structure CmpD (X : Cx) (op : CmpOp) (g : G2) : Prop where
  ex : ∃ r, OpR X (compareOp op) r ∧ Sem2S X.K r g
theorem cd_eq (hu : X.A.units + 64 < cLine) : CmpD X .Eq gEq := ⟨_, OpR.or (op_eqD hu) op_eq, sem_eq⟩
theorem cd_ne (hu : X.A.units + 64 < cLine) : CmpD X .NotEq gNe := ⟨_, OpR.or (op_neD hu) op_ne, sem_ne⟩
theorem cd_lt (hu : X.A.units + 64 < cLine) : CmpD X .Lt gLt := ⟨_, op_cmp (fun s a b da db as bs Q E r1 r2 c1 c2 u q => PySem.W.lt_data r1 r2 c1 c2 u q) hu, sem_cmp⟩
theorem cd_gt (hu : X.A.units + 64 < cLine) : CmpD X .Gt gGt := ⟨_, op_cmp (fun s a b da db as bs Q E r1 r2 c1 c2 u q => PySem.W.gt_data r1 r2 c1 c2 u q) hu, sem_cmp⟩
theorem cd_le (hu : X.A.units + 64 < cLine) : CmpD X .LtE gLe := ⟨_, op_cmp (fun s a b da db as bs Q E r1 r2 c1 c2 u q => PySem.W.le_data r1 r2 c1 c2 u q) hu, sem_cmp⟩
theorem cd_ge (hu : X.A.units + 64 < cLine) : CmpD X .GtE gGe := ⟨_, op_cmp (fun s a b da db as bs Q E r1 r2 c1 c2 u q => PySem.W.ge_data r1 r2 c1 c2 u q) hu, sem_cmp⟩
theorem cd_in (hu : X.A.units + 65 < cLine) : CmpD X .In gIn := ⟨_, op_inA hu, by
    intro B H x y dx dy P Q hx hy sb ⟨s1, s2, cc, hc, p⟩ k
    exact ⟨dx, dy, cc, (Dp.mono sb hx).to s1, (Dp.mono sb hy).to s2, s1, s2, hc, k _ _ p (sc_bl _)⟩⟩
theorem cd_notIn (hu : X.A.units + 65 < cLine) : CmpD X .NotIn gNotIn := ⟨_, op_notInA hu, by
    intro B H x y dx dy P Q hx hy sb ⟨s1, s2, cc, hc, p⟩ k
    exact ⟨dx, dy, cc, (Dp.mono sb hx).to s1, (Dp.mono sb hy).to s2, s1, s2, hc, k _ _ p (sc_bl _)⟩⟩
theorem cd_is : CmpD X .Is gIs := ⟨_, OpR.or op_isN op_isBl, by
    intro B H x y dx dy P Q hx hy sb ⟨cc, hc, p⟩ k
    cases hy with
    | non =>
      refine .inl ⟨rfl, ?_⟩
      have e : Sc (.bool cc) (.bl (decide (x = .non))) := by
        cases hx <;> cases hc <;> exact sc_bl _
      exact k _ _ p e
    | bl j =>
      cases hx with
      | bl i => cases hc; exact .inr ⟨i, j, rfl, rfl, k _ _ p (sc_bl _)⟩
      | _ => cases hc
    | _ => cases hx <;> cases hc⟩
theorem cd_isNot : CmpD X .IsNot gIsNot := ⟨_, OpR.or op_notN op_notBl, by
    intro B H x y dx dy P Q hx hy sb ⟨cc, hc, p⟩ k
    cases hy with
    | non =>
      refine .inl ⟨rfl, ?_⟩
      have e : Sc (.bool (!cc)) (.bl (!decide (x = .non))) := by
        cases hx <;> cases hc <;> exact sc_bl _
      exact k _ _ p e
    | bl j =>
      cases hx with
      | bl i => cases hc; exact .inr ⟨i, j, rfl, rfl, k _ _ p (sc_bl _)⟩
      | _ => cases hc
    | _ => cases hx <;> cases hc⟩
theorem dt_cp {op : CmpOp} {g : G2} (hg : CmpD X op g) (ha : DE X b1 a t1) (hb : DE X b2 b t2) (hm : behindInMarks op b = false := by first | exact nomark _ | with_unfolding_all rfl) : DT X (.Compare a [op] [b] pos) (dB (d2 g t1 t2)) := by
  obtain ⟨r, ho, hs⟩ := hg.ex
  exact ⟨PT.imp (pt_cmpR ho ha.run hb.run hm) fun σ H Q ⟨gh, n, δ, S, Vs, P, sr, ht, k⟩ => ⟨gh, n, δ, S, Vs, _, sr, ht, fun d m v H' S' Vs' p sr' s1 s2 rp =>
    ⟨gh, m, δ, S', Vs', _, sr', p, fun d2 m2 v2 H2 S2 V2 p2 sr2 t1 t2 rp2 =>
      hs V2 H2 v v2 d d2 _ _ (Dp.mono t2 (Rp.dp rp sr'.SV)) (Rp.dp rp2 sr2.SV) sr2.VH p2 fun d3 v3 ⟨c, e3, p3⟩ o => by
        subst e3
        cases o X.K H2
        exact ⟨c, rfl, k c m2 H2 S2 V2 p3 sr2 (s1.trans t1) (s2.trans t2)⟩⟩⟩⟩
end
/-! ### a list times an int -/
section
variable {X : Cx} {K : PySem.W.Frag} {a b : Expr} {pos : Pos} {t1 t2 : DTE} {b1 b2 : Bool}
theorem dpAll_rep {H : Hp} {xs : List V} {ds : List D} (h : DpAll K H xs ds) : ∀ k : Nat, DpAll K H (List.replicate k xs).flatten (List.replicate k ds).flatten
  | 0 => .nil
  | k + 1 => by
    rw [List.replicate_succ, List.replicate_succ, List.flatten_cons, List.flatten_cons]
    exact h.append (dpAll_rep h k)
def gRep : G2 := fun x y P => ∃ ds k, x = .list ds ∧ y = .int k ∧ -(2 ^ 63) ≤ k ∧ k < 2 ^ 63 ∧ ds.length * k.toNat ≤ sizeLine ∧ P (.list (List.replicate k.toNat ds).flatten)
theorem de_rep (ha : DE X true a t1) (hb : DE X true b t2) : DE X true (.BinOp a .Mult b pos) (d2 gRep t1 t2) :=
  de_bin (fun _ _ h1 h2 => pe_op op_rep h1 h2) (by
    intro B H x y dx dy P Q hx hy sb ⟨ds, k, e1, e2, c1, c2, z, p⟩ q
    subst e1 e2
    cases hy
    cases hx with
    | lst h1 h2 => exact ⟨_, k, _, rfl, rfl, sb _ _ h1, c1, c2, by rw [h2.length]; exact z, fun p' hp => q _ _ _ p (.lst hp (dpAll_rep h2 _))⟩) ha hb
end
end DL
/-! DL11: slices. -/
namespace DL
open PySem PySem.Spec L2
abbrev DTO := DS → Nat → (Option Int → Nat → Prop) → Prop
section
variable {X : Cx} {K : PySem.W.Frag} {e a b : Expr} {pos p2 : Pos} {t1 t2 : DTE} {b1 b2 : Bool} {lo hi : Option Expr} {tl th : DTO}
def lO (K : PySem.W.Frag) (t : DTO) : TO := fun σ H Q => ∃ g n δ S Vs P, SR K g n δ σ H S Vs ∧ t δ n P ∧
  ∀ o m H' S' Vs', P o m → SR K g m δ σ H' S' Vs' → Same S S' → Same Vs Vs' → Q o H'
structure DO (X : Cx) (e : Option Expr) (t : DTO) : Prop where
  run : PO X e (lO X.K t)
theorem PO.imp {o : Option Expr} {t u : TO} (h : PO X o t) (hi : ∀ σ H Q, u σ H Q → t σ H Q) : PO X o u := ⟨fun pins s σ H Q I q => h.run pins s σ H Q I (hi σ H Q q)⟩
def oNone : DTO := fun _ n Q => Q none n
def oSome (t : DTE) : DTO := fun δ n Q => t δ n fun d m => ∃ i, d = .int i ∧ Q (some i) m
theorem do_none : DO X none oNone := ⟨PO.imp po_none fun σ H Q ⟨g, n, δ, S, Vs, P, sr, ht, k⟩ => k none n H S Vs ht sr (Same.refl _) (Same.refl _)⟩
theorem do_some (h : DE X b1 e t1) : DO X (some e) (oSome t1) := ⟨PO.imp (po_some h.run) fun σ H Q ⟨g, n, δ, S, Vs, P, sr, ht, k⟩ => ⟨g, n, δ, S, Vs, _, sr, ht, fun d m v H' S' Vs' p sr' s1 s2 r => by
  obtain ⟨i, rfl, p⟩ := p
  have r' := Rp.dp r sr'.SV
  cases r'
  exact ⟨i, rfl, k _ m H' S' Vs' p sr' s1 s2⟩⟩⟩
def cutD (ds : List D) (lo hi : Option Int) : List D := (ds.drop (HT.sIx ds.length 0 lo)).take (HT.sIx ds.length ds.length hi - HT.sIx ds.length 0 lo)
theorem DpAll.cut {H : Hp} {xs : List V} {ds : List D} (h : DpAll K H xs ds) (lo hi : Option Int) : DpAll K H (cutV xs lo hi) (cutD ds lo hi) := by
  unfold cutV cutD
  rw [h.length]
  exact (h.drop _).take _
def gSl (d : D) (lo hi : Option Int) (P : D → Prop) : Prop := match d with
  | .list ds => P (.list (cutD ds lo hi))
  | .tuple ds => P (.tuple (cutD ds lo hi))
  | .str z => z.length ≤ sizeLine ∧ P (.str (cutS z lo hi))
  | _ => False
def dSl (t : DTE) (tl th : DTO) : DTE := fun δ n Q => t δ n fun d m => tl δ m fun l k => th δ k fun u j => gSl d l u fun x => Q x j
def lsl (K : PySem.W.Frag) : V → Option Int → Option Int → Hp → VK → Prop := fun x lo hi H Q => (rSlL K x lo hi H Q ∨ rSlA K x lo hi H Q) ∨ rSlS x lo hi H Q
theorem de_slice (ha : DE X b1 a t1) (hl : DO X lo tl) (hh : DO X hi th) : DE X true (.Subscript a (.Slice lo hi none p2) pos) (dSl t1 tl th) :=
  ⟨PE.imp (pe_slice (SlR.or (SlR.or sl_list sl_tupA) sl_str) ha.run hl.run hh.run) fun σ H Q ⟨g, n, δ, S, Vs, P, sr, ht, k⟩ => ⟨g, n, δ, S, Vs, _, sr, ht, fun d m v H' S' Vs' p sr' s1 s2 r =>
    ⟨g, m, δ, S', Vs', _, sr', p, fun l m2 H2 S2 V2 p2 sr2 q1 q2 => ⟨g, m2, δ, S2, V2, _, sr2, p2, fun u m3 H3 S3 V3 p3 sr3 r1 r2 => by
      have rr := (Rp.mono r (q1.trans r1) (q2.trans r2)).br
      have fin : ∀ d2 v2 H4, P d2 m3 → Out X.K S3 H3 d2 v2 H4 → Q v2 H4 := fun d2 v2 H4 p4 o => by
        obtain ⟨S4, V4, sr4, z1, z2, z3⟩ := sr3.out o
        exact k d2 m3 v2 H4 S4 V4 p4 sr4 (((s1.trans q1).trans r1).trans z1) (((s2.trans q2).trans r2).trans z2) z3
      cases d with
      | list ds =>
        obtain ⟨a', xs, rfl, hd, h | h⟩ := brep_items rr rfl
        · obtain ⟨es, e1, h⟩ := h
          cases e1
          refine .inl (.inl ⟨a', xs, rfl, SqL.of (h.elim (sr3.SH _ _) (sr3.VH _ _)), fun q hq => fin _ _ _ p3 (.lst hq (hd.cut _ _))⟩)
        · obtain ⟨es, e1, h⟩ := h
          cases e1
      | tuple ds =>
        obtain ⟨a', xs, rfl, hd, h | h⟩ := brep_items rr rfl
        · obtain ⟨es, e1, h⟩ := h
          cases e1
        · obtain ⟨es, e1, h⟩ := h
          cases e1
          refine .inl (.inr ⟨a', xs, rfl, sqt_mono sr3.SH h, fun w => fin _ _ _ p3 ?_, fun w q hq => fin _ _ _ p3 (.tup hq (hd.cut _ _))⟩)
          have ec : cutD ds l u = ds := by
            unfold cutD
            rw [hd.length] at w
            rw [w.1, w.2, List.drop_zero, Nat.sub_zero, List.take_length]
          rw [ec]
          exact .same (.tup h hd)
      | str z =>
        have r' := BRep.dp rr sr3.SV
        cases r'
        exact .inr ⟨z, rfl, p3.1, fin _ _ _ p3.2 (sc_str _).out⟩
      | _ => exact (show False from p3).elim⟩⟩⟩⟩
/-- a slice of a list as a new list -/
def aSl (t : DTE) (tl th : DTO) : DTA := fun δ n Q => t δ n fun d m => tl δ m fun l k => th δ k fun u j => ∃ ds, d = .list ds ∧ Q (cutD ds l u) j
theorem dl_slice (ha : DE X b1 a t1) (hl : DO X lo tl) (hh : DO X hi th) : DL X (.Subscript a (.Slice lo hi none p2) pos) (aSl t1 tl th) :=
  ⟨PE.imp (pe_slice sl_list ha.run hl.run hh.run) fun σ H Q ⟨g, n, δ, S, Vs, P, sr, ht, k⟩ => ⟨g, n, δ, S, Vs, _, sr, ht, fun d m v H' S' Vs' p sr' s1 s2 r =>
    ⟨g, m, δ, S', Vs', _, sr', p, fun l m2 H2 S2 V2 p2 sr2 q1 q2 => ⟨g, m2, δ, S2, V2, _, sr2, p2, fun u m3 H3 S3 V3 p3 sr3 r1 r2 => by
      have rr := (Rp.mono r (q1.trans r1) (q2.trans r2)).br
      obtain ⟨ds, rfl, p3⟩ := p3
      obtain ⟨a', xs, rfl, hd, h | h⟩ := brep_items rr rfl
      · obtain ⟨es, e1, h⟩ := h
        cases e1
        exact ⟨a', xs, rfl, SqL.of (h.elim (sr3.SH _ _) (sr3.VH _ _)), fun q hq => k _ m3 q _ _ S3 V3 p3 (sr3.temp hq) ((s1.trans q1).trans r1) ((s2.trans q2).trans r2) upd_same (sr3.vN hq) (sr3.h0 hq) (sr3.notW hq) (hd.cut _ _)⟩
      · obtain ⟨es, e1, h⟩ := h
        cases e1⟩⟩⟩⟩
end
end DL
/-! DL12: the script; the drawing dict's making. -/
namespace DL
open PySem PySem.Spec L2
section
variable {X : Cx} {K : PySem.W.Frag} {e a b tg : Expr} {pos p p2 : Pos} {t1 t2 : DTE} {b1 b2 : Bool} {lo hi : Option Expr} {tl th : DTO}
def intsD (ns : List Int) : List D := ns.map PyData.int
theorem intsD_dp {H : Hp} : ∀ ns : List Int, DpAll K H (ns.map V.int) (intsD ns)
  | [] => .nil
  | x :: r => .cons (.int x) (intsD_dp r)
theorem intsD_inv {S : Hp} : ∀ {far : List Int} {xs : List V}, DpAll K S xs (intsD far) → xs = far.map V.int
  | [], _, .nil => rfl
  | x :: r, _, .cons h t => by
    cases h
    rw [intsD_inv t]
    rfl
def aScr (i : Nat) (tl th : DTO) : DTA := fun δ n Q => ∃ ns, δ[i]? = some (some (.scr ns)) ∧ tl δ n fun l m => th δ m fun u k => Q (cutD (intsD ns) l u) k
theorem SR.scr {g : Gh} {n : Nat} {δ : DS} {σ : L2.St} {H S Vs : Hp} (sr : SR K g n δ σ H S Vs) {i : Nat} {ns : List Int} (h : δ[i]? = some (some (.scr ns))) : ∃ a, σ[i]? = some (some (.ref a)) ∧ SqL K H a (ns.map V.int) := by
  obtain ⟨v, e1, a, rfl, hs⟩ := sr.slots i _ h
  exact ⟨a, e1, (sr.S0S.trans sr.SH).seq hs⟩
theorem dl_scrSl {i : Nat} (ha : PE X a (tVar i)) (hl : DO X lo tl) (hh : DO X hi th) : DL X (.Subscript a (.Slice lo hi none p2) pos) (aScr i tl th) :=
  ⟨PE.imp (pe_slice sl_list ha hl.run hh.run) fun σ H Q ⟨g, n, δ, S, Vs, P, sr, ⟨ns, ei, ht⟩, k⟩ => by
    obtain ⟨a, ea, hs⟩ := sr.scr ei
    exact ⟨_, ea, g, n, δ, S, Vs, _, sr, ht, fun l m H1 S1 V1 p1 sr1 q1 q2 => ⟨g, m, δ, S1, V1, _, sr1, p1, fun u j H2 S2 V2 p2 sr2 r1 r2 => by
      obtain ⟨a2, ea2, hs2⟩ := sr2.scr ei
      rw [ea] at ea2
      cases ea2
      exact ⟨a, _, rfl, hs2, fun q hq => k _ j q _ _ S2 V2 p2 (sr2.temp hq) (q1.trans r1) (q2.trans r2) upd_same (sr2.vN hq) (sr2.h0 hq) (sr2.notW hq) ((intsD_dp ns).cut _ _)⟩⟩⟩⟩
def dScrLen (i : Nat) : DTE := fun δ n Q => ∃ ns, δ[i]? = some (some (.scr ns)) ∧ Q (.int ns.length) n
theorem de_scrLen {i : Nat} (hg : Gl X "len") (hm : X.mg "len" = none) (ha : PE X a (tVar i)) (he : starEach (a :: []) X.env = (false, eval a X.env) :: starEach [] X.env := by rfl) (hpl : (backTo pos (starEach [] X.env)).any (·.1) = false := by rfl) :
    DE X true (.Call (.Name "len" p) [a] [] pos) (dScrLen i) :=
  ⟨PE.imp (pe_callB call_len_seq hg hm PySem.boot_len (pa_cons ha pa_nil he) (by decide) (by decide) he hpl) fun σ H Q ⟨g, n, δ, S, Vs, P, sr, ⟨ns, ei, ht⟩, k⟩ => by
    obtain ⟨a, ea, hs⟩ := sr.scr ei
    refine ⟨_, ea, a, ns.map V.int, rfl, .inl hs, ?_⟩
    rw [List.length_map]
    exact k _ n _ H S Vs ht sr (Same.refl _) (Same.refl _) (sc_int _ _ _)⟩
theorem walk_s {B S : Hp} {l : Addr} {xs : List V} {ds : List D} (h : SqL K B l xs) (hd : DpAll K S xs ds) : WalkD K (Itl K l) B S ds := fun i H s => by
  have q : SqL K H l xs := s.seq h
  refine ⟨fun d e => ?_, fun hl => ⟨xs, q, by rw [hd.length]; exact hl⟩⟩
  obtain ⟨v, e1, r⟩ := hd.get' e
  refine ⟨⟨xs, v, q, e1⟩, fun x H' ⟨e2, f⟩ => ?_⟩
  subst e2
  have := f _ q
  rw [e1] at this
  cases this
  exact .same r
def iScr (i : Nat) : DTA := fun δ n Q => ∃ ns, δ[i]? = some (some (.scr ns)) ∧ Q (intsD ns) n
theorem di_scr {i : Nat} (ha : PE X a (tVar i)) : DI X true tg a (iScr i) :=
  ⟨PI.imp (pi_list ha) fun σ H R ⟨g, n, δ, S, Vs, P, sr, ⟨ns, ei, ht⟩, k⟩ => by
    obtain ⟨v, e1, a, rfl, hs⟩ := sr.slots _ _ ei
    have hs1 := sr.S0S.seq hs
    refine ⟨_, e1, a, rfl, ⟨_, sr.SH.seq hs1⟩, k _ H S Vs (intsD ns) n ht sr (Same.refl _) (Same.refl _) ?_⟩
    rw [if_pos rfl]
    exact walk_s hs1 (intsD_dp ns)⟩
/-! ### the drawing dict made -/
theorem start_scr {H : Hp} {a : Addr} {ns : List Int} {n : Nat} {N : List Str} (hS : SqL K H a (ns.map V.int)) (hN : 1 ≤ N.length) :
    SR K ⟨none, H, H, []⟩ n (some (.scr ns) :: List.replicate (N.length - 1) none) (L2.start N [.ref a]) H H H := by
  have key : ∀ (i : Nat) x, (some (DV.scr ns) :: List.replicate (N.length - 1) none)[i]? = some (some x) → i = 0 ∧ x = .scr ns := fun i x e => by
    cases i with
    | zero => simp at e; exact ⟨rfl, e.symm⟩
    | succ i =>
      rw [List.getElem?_cons_succ, List.getElem?_replicate] at e
      split at e <;> cases e
  refine ⟨Same.refl _, Same.refl _, Same.refl _, fun b o e => .inl e, fun b o e _ => e, fun b ⟨r, f, e, _⟩ => (by cases e), fun b o e => .inl e, fun r f e => (by cases e), ?_, fun i x e => ?_, fun i j ds es _ e _ => ?_, fun a ha => by cases ha⟩
  · unfold L2.start
    simp
  · obtain ⟨rfl, rfl⟩ := key i x e
    exact ⟨.ref a, by unfold L2.start; rfl, a, rfl, hS⟩
  · obtain ⟨_, z⟩ := key i _ e
    cases z
theorem rl_mk {g : Gh} {n : Nat} {δ : DS} {σ : L2.St} {H S Vs : Hp} (hg : g.W = none) (sr : SR K g n δ σ H S Vs) {i : Nat} {flow : Int} (hf : δ[i]? = some (some (.dat (.int flow)))) (h0 : 0 ≤ flow) (h1 : flow < 4294967296)
    {ta : DTA} (hta : ta δ n fun ds _ => ∃ far : List Int, ds = intsD far ∧ (∀ x ∈ far, 0 ≤ x) ∧ far.length ≤ 64) {Q : VK} (hQ : ∀ r f H', Same g.H0 H' → g.H0 r = none → g.H0 f = none → RillOk H' r f N0 → Q (.ref r) H') :
    tDisp [(tC (.str (Str.ofString "deep")), lL K ta), (tC (.str (Str.ofString "seal")), tVar i), (tC (.str (Str.ofString "turn")), tC (.int 0))] σ H Q := by
  intro p hp
  refine ⟨g, n, δ, upd S p (.dK []), upd Vs p (.dK []), _, sr.alloc hp, hta, fun ds m q xs H1 S1 V1 ⟨far, e1, e2, e3⟩ sr1 q1 q2 e4 e5 e6 e7 e8 => ?_⟩
  obtain ⟨v, ev, dv⟩ := sr1.slots i _ hf
  cases (show DL.Dp K S1 v (.int flow) from dv)
  refine ⟨_, ev, ?_⟩
  have hpS : S1 p = some (.dK []) := q1 _ _ upd_same
  have hpH : H1 p = some (.dK []) := sr1.SH _ _ hpS
  refine ⟨hpH, rdic q flow 0, rfl, by show 3 ≤ 15; decide, ?_⟩
  rw [rm_disp]
  have np : g.H0 p = none := sr.h0 hp
  have npq : p ≠ q := fun z => by subst z; rw [hpH] at e4; cases e4
  have hx : xs = far.map V.int := intsD_inv (e1 ▸ e8)
  subst hx
  refine hQ p q _ (fun b o e => ?_) np e6 ⟨npq, far, flow, 0, upd_same, ?_, e2, e3, h0, by omega, by decide, ?_⟩
  · rw [upd_ne (ne_of_none e np)]
    exact sr1.base b o e fun ⟨r, f, z, _⟩ => by rw [hg] at z; cases z
  · rw [upd_ne npq.symm]; exact e4
  · unfold N0; decide
end
/-- two statements by data, then what is raw -/
theorem lS_two {K : PySem.W.Frag} {t u : DTS} {raw : TS} {D : Ends} {σ : L2.St} {H : Hp} (g : Gh) (n : Nat) (δ : DS) (S Vs : Hp) (C : DS → Nat → Prop) (hT : g.T = []) (sr : SR K g n δ σ H S Vs)
    (h : t ⟨fun δ n => u ⟨C, fun _ _ => False, fun _ _ => False, fun _ _ => False⟩ δ n, fun _ _ => False, fun _ _ => False, fun _ _ => False⟩ δ n)
    (hC : ∀ δ' m σ' H' S' Vs', C δ' m → SR K g m δ' σ' H' S' Vs' → Same S S' → raw D σ' H') : tSeq (lS K t) (tSeq (lS K u) raw) D σ H :=
  ⟨g, n, δ, S, Vs, _, hT, sr, h, fun δ' m σ' H' S' Vs' q sr' s => ⟨g, m, δ', S', Vs', _, hT, sr', q, fun δ2 m2 σ2 H2 S2 V2 q2 sr2 s2 => hC δ2 m2 σ2 H2 S2 V2 q2 sr2 (s.trans s2), fun _ _ _ _ _ _ _ _ q => q.elim, fun _ _ _ _ _ _ q => q.elim, fun _ _ _ _ _ _ q => q.elim⟩,
    fun _ _ _ _ _ _ _ _ q => q.elim, fun _ _ _ _ _ _ q => q.elim, fun _ _ _ _ _ _ q => q.elim⟩
theorem cut_all {l : List Int} {k : Nat} (h : l.length ≤ k) : cutD (intsD l) none (some (k : Int)) = intsD l := by
  unfold cutD intsD
  rw [List.length_map, HT.sIx_none, HT.sIx_nat, List.drop_zero, Nat.sub_zero, Nat.min_eq_right h]
  exact List.take_of_length_le (by simp)
end DL
/-! DM: readings evaluated: loops, comprehensions, equality and membership of typed data. -/
namespace DL
open PySem PySem.Spec L2
section
variable {α β : Type} {γ : DTG} {u : DTT} {t : DTE} {δ : DS} {tb : DTS} {E : DEnds}
/-- a comprehension that draws nothing -/
theorem compR_map {e : α → D} (p : α → Bool) (f : α → D) {m : Nat} {Q : List D → Nat → Prop} : ∀ (l : List α) (acc : List D),
    (∀ x ∈ l, ∀ (A : D → Nat → Prop) (B : Nat → Prop), (p x = true → A (f x) m) → (p x = false → B m) → γ (e x) δ fun δ1 => u δ1 m fun b k => if b = true then t δ1 k A else B k) →
    Q (acc ++ (l.filter p).map f) m → compR γ u t δ (l.map e) acc m Q
  | [], acc, h, q => by simpa [compR] using q
  | x :: r, acc, h, q => by
    rw [List.map_cons, compR]
    refine h x List.mem_cons_self _ _ (fun hp => ?_) fun hp => ?_
    · refine compR_map p f r _ (fun y hy => h y (List.mem_cons_of_mem _ hy)) ?_
      rw [List.filter_cons_of_pos hp, List.map_cons] at q
      rw [List.append_assoc]
      exact q
    · refine compR_map p f r _ (fun y hy => h y (List.mem_cons_of_mem _ hy)) ?_
      rw [List.filter_cons_of_neg (by simp [hp])] at q
      exact q
/-- each turn may draw, at most c times; what comes out keeps I -/
theorem compR_inv {e : α → D} (I : List α → List D → Nat → Prop) {Q : List D → Nat → Prop} : ∀ (l : List α) (acc : List D) (m : Nat), I l acc m →
    (∀ x r acc m, x ∈ l → I (x :: r) acc m → ∀ (A : D → Nat → Prop) (B : Nat → Prop), (∀ d k, I r (acc ++ [d]) k → A d k) → (∀ k, I r acc k → B k) → γ (e x) δ fun δ1 => u δ1 m fun b k => if b = true then t δ1 k A else B k) →
    (∀ acc m, I [] acc m → Q acc m) → compR γ u t δ (l.map e) acc m Q
  | [], acc, m, hi, h, q => by
    rw [List.map_nil, compR]
    exact q acc m hi
  | x :: r, acc, m, hi, h, q => by
    rw [List.map_cons, compR]
    exact h x r acc m List.mem_cons_self hi _ _ (fun d k hk => compR_inv I r _ k hk (fun y s a b hy => h y s a b (List.mem_cons_of_mem _ hy)) q) fun k hk => compR_inv I r _ k hk (fun y s a b hy => h y s a b (List.mem_cons_of_mem _ hy)) q
/-- a loop by what holds ahead of what is left -/
theorem forR_inv {e : α → D} (I : List α → DS → Nat → Prop) : ∀ (l : List α) (δ : DS) (n : Nat), I l δ n →
    (∀ x r δ n, x ∈ l → I (x :: r) δ n → ∀ N : DS → Nat → Prop, (∀ δ2 m, I r δ2 m → N δ2 m) → γ (e x) δ fun δ1 => tb { nx := N, ct := N, bk := E.nx, rt := E.rt } δ1 n) →
    (∀ δ n, I [] δ n → E.nx δ n) → forR γ tb E (l.map e) δ n
  | [], δ, n, hi, h, q => by
    rw [List.map_nil, forR]
    exact q δ n hi
  | x :: r, δ, n, hi, h, q => by
    rw [List.map_cons, forR]
    exact h x r δ n List.mem_cons_self hi _ fun δ2 m hm => forR_inv I r δ2 m hm (fun y s a b hy => h y s a b (List.mem_cons_of_mem _ hy)) q
/-- a while loop by a measure -/
theorem whR_inv {c : DTT} (I : DS → Nat → Prop) (μ : DS → Nat) (h : ∀ δ n, I δ n → ∀ N : DS → Nat → Prop, (∀ δ2 m, I δ2 m → μ δ2 < μ δ → N δ2 m) → c δ n fun b m => if b = true then tb { nx := N, ct := N, bk := E.nx, rt := E.rt } δ m else E.nx δ m) :
    ∀ (k : Nat) (δ : DS) (n : Nat), μ δ < k → I δ n → whR c tb E k δ n
  | 0, δ, n, hk, _ => absurd hk (Nat.not_lt_zero _)
  | k + 1, δ, n, hk, hi => by
    rw [whR]
    exact h δ n hi _ fun δ2 m hm hl => whR_inv I μ h k δ2 m (Nat.lt_of_lt_of_le hl (Nat.le_of_lt_succ hk)) hm
end
/-! ### equality of typed data -/
structure EqE {α : Type} [DecidableEq α] (e : α → D) : Prop where
  eq : ∀ x y, PyData.eqv (e x) (e y) = decide (x = y)
section
variable {α β : Type} [DecidableEq α] [DecidableEq β] {e : α → D} {f : β → D}
theorem eqvAll_map (h : EqE e) : ∀ x y : List α, PyData.eqvAll (x.map e) (y.map e) = decide (x = y)
  | [], [] => rfl
  | [], _ :: _ => by simp [PyData.eqvAll]
  | _ :: _, [] => by simp [PyData.eqvAll]
  | a :: x, b :: y => by
    rw [List.map_cons, List.map_cons, PyData.eqvAll, h.eq, eqvAll_map h x y]
    simp
theorem eqe_int : EqE PyData.int := ⟨fun x y => by rw [PyData.eqv]; by_cases h : x = y <;> simp [h]⟩
theorem eqe_str : EqE PyData.str := ⟨fun x y => by rw [PyData.eqv]; by_cases h : x = y <;> simp [h]⟩
theorem eqe_tup (h : EqE e) : EqE fun l : List α => PyData.tuple (l.map e) := ⟨fun x y => by rw [PyData.eqv]; exact eqvAll_map h x y⟩
theorem eqe_lst (h : EqE e) : EqE fun l : List α => PyData.list (l.map e) := ⟨fun x y => by rw [PyData.eqv]; exact eqvAll_map h x y⟩
theorem eqe_pair (h : EqE e) (k : EqE f) : EqE fun p : α × β => PyData.tuple [e p.1, f p.2] := ⟨fun x y => by
  rw [PyData.eqv, PyData.eqvAll, PyData.eqvAll, PyData.eqvAll, h.eq, k.eq]
  obtain ⟨a, b⟩ := x
  obtain ⟨c, d⟩ := y
  simp⟩
theorem any_map (h : EqE e) (x : α) : ∀ l : List α, (l.map e).any (fun z => PyData.eqv z (e x)) = decide (x ∈ l)
  | [] => rfl
  | y :: r => by
    rw [List.map_cons, List.any_cons, any_map h x r, h.eq]
    by_cases q : y = x
    · simp [q]
    · have q' : ¬ x = y := fun z => q z.symm
      simp [q, q']
theorem dIn_tup (h : EqE e) (x : α) (l : List α) : dIn (e x) (.tuple (l.map e)) = some (decide (x ∈ l)) := congrArg some (any_map h x l)
theorem dIn_lst (h : EqE e) (x : α) (l : List α) : dIn (e x) (.list (l.map e)) = some (decide (x ∈ l)) := congrArg some (any_map h x l)
end
/-! ### shapes -/
/-- lays, and no deeper than m -/
structure Shp (m : Nat) (d : D) : Prop where
  lay : d.canLay0 = true
  dep : d.depth ≤ m
structure ShpAll (m : Nat) (ds : List D) : Prop where
  lay : PyData.canLayAll0 ds = true
  dep : PyData.depthAll ds ≤ m
section
variable {m m' : Nat} {d : D} {ds : List D}
theorem Shp.mono (h : Shp m d) (h1 : m ≤ m') : Shp m' d := ⟨h.lay, Nat.le_trans h.dep h1⟩
theorem Shp.sh (h : Shp m d) (hm : m ≤ 64 := by decide) : SeqAt.shaped d = true := by
  unfold SeqAt.shaped
  rw [h.lay, decide_eq_true (Nat.le_trans h.dep hm)]; rfl
theorem shp_int (i : Int) : Shp m (.int i) := ⟨rfl, by simp [PyData.depth]⟩
theorem shp_str (i : Str) (h : PyData.strOk i = true) : Shp m (.str i) := ⟨by rw [PyData.canLay0]; exact h, by simp [PyData.depth]⟩
theorem shp_bool (i : Bool) : Shp m (.bool i) := ⟨rfl, by simp [PyData.depth]⟩
theorem shp_none : Shp m .none := ⟨rfl, by simp [PyData.depth]⟩
theorem ShpAll.nil : ShpAll m [] := ⟨rfl, by simp [PyData.depthAll]⟩
theorem ShpAll.cons (h : Shp m d) (t : ShpAll m ds) : ShpAll m (d :: ds) := ⟨by rw [PyData.canLayAll0, h.lay, t.lay]; rfl, by rw [PyData.depthAll]; exact Nat.max_le.mpr ⟨h.dep, t.dep⟩⟩
theorem ShpAll.tup (h : ShpAll m ds) : Shp (m + 1) (.tuple ds) := ⟨by rw [PyData.canLay0]; exact h.lay, by rw [PyData.depth]; exact Nat.succ_le_succ h.dep⟩
theorem ShpAll.lst (h : ShpAll m ds) : Shp (m + 1) (.list ds) := ⟨by rw [PyData.canLay0]; exact h.lay, by rw [PyData.depth]; exact Nat.succ_le_succ h.dep⟩
theorem ShpAll.map {α : Type} {e : α → D} {l : List α} (h : ∀ x ∈ l, Shp m (e x)) : ShpAll m (l.map e) := by
  induction l with
  | nil => exact .nil
  | cons x r ih =>
    rw [List.map_cons]
    exact .cons (h x List.mem_cons_self) (ih fun y hy => h y (List.mem_cons_of_mem _ hy))
end
def rowD (r : List Int) : D := .tuple (intsD r)
theorem eqe_row : EqE rowD := eqe_tup eqe_int
theorem shp_row (r : List Int) : Shp 1 (rowD r) := (ShpAll.map (m := 0) fun x _ => shp_int x).tup
theorem rangeD_ints (lo : Int) (n : Nat) : rangeD lo n = intsD ((List.range n).map fun i : Nat => lo + i) := by
  unfold rangeD intsD
  rw [List.map_map]
  rfl
theorem atI_nat' {α : Type} (xs : List α) (k : Nat) : L2.atI xs (k : Int) = xs[k]? := by
  unfold L2.atI ixN
  rw [if_pos (by omega)]
  by_cases h : k < xs.length
  · rw [if_pos (by omega)]
    simp
  · rw [if_neg (by omega)]
    simp at h
    simp [h]
theorem atI0 {α : Type} (xs : List α) : L2.atI xs 0 = xs[0]? := atI_nat' xs 0
theorem atI1 {α : Type} (xs : List α) : L2.atI xs 1 = xs[1]? := atI_nat' xs 1
theorem atI2 {α : Type} (xs : List α) : L2.atI xs 2 = xs[2]? := atI_nat' xs 2
theorem atI3 {α : Type} (xs : List α) : L2.atI xs 3 = xs[3]? := atI_nat' xs 3
theorem atI4 {α : Type} (xs : List α) : L2.atI xs 4 = xs[4]? := atI_nat' xs 4
theorem atI5 {α : Type} (xs : List α) : L2.atI xs 5 = xs[5]? := atI_nat' xs 5
theorem atIm {α : Type} (xs : List α) (h : xs ≠ []) : L2.atI xs (-1) = xs.getLast? := by
  unfold L2.atI ixN
  have hl : 0 < xs.length := List.length_pos_iff.mpr h
  rw [if_neg (by decide), if_pos (by omega), List.getLast?_eq_getElem?]
  have : (-1 + (xs.length : Int)).toNat = xs.length - 1 := by omega
  show xs[(-1 + (xs.length : Int)).toNat]? = _
  rw [this]
end DL
/-! DS: rewriting rules of readings. -/
namespace DL
open PySem PySem.Spec L2
section
variable {d x y : D} {ds es : List D} {δ : DS} {n i k : Nat} {Q : D → Nat → Prop} {P : D → Prop} {a b : Int} {z : Option DV} {f : Int → Int → D} {C : Int → Int → Prop} {c : Bool}
theorem x_dVar : dVar i δ n Q = ∃ d, δ[i]? = some (some (.dat d)) ∧ Q d n := rfl
theorem x_var0 : dVar 0 (some (.dat d) :: δ) n Q = Q d n := by simp [dVar]
theorem x_varS : dVar (i + 1) (z :: δ) n Q = dVar i δ n Q := by simp [dVar]
theorem x_own0 : dOwn 0 (some (.own ds) :: δ) n Q = Q (.list ds) n := by simp [dOwn]
theorem x_ownS : dOwn (i + 1) (z :: δ) n Q = dOwn i δ n Q := by simp [dOwn]
theorem x_ixT : gIx (.tuple ds) (.int a) P = ∃ d, L2.atI ds a = some d ∧ P d := rfl
theorem x_ixL : gIx (.list ds) (.int a) P = ∃ d, L2.atI ds a = some d ∧ P d := rfl
theorem x_addI : gAdd (.int a) (.int b) P = P (.int (a + b)) := rfl
theorem x_addT : gAdd (.tuple ds) (.tuple es) P = (ds.length + es.length ≤ sizeLine ∧ P (.tuple (ds ++ es))) := rfl
theorem x_addL : gAdd (.list ds) (.list es) P = (ds.length + es.length ≤ sizeLine ∧ P (.list (ds ++ es))) := rfl
theorem x_gI : gI f (.int a) (.int b) P = P (f a b) := by simp [gI]
theorem x_gIC : gIC C f (.int a) (.int b) P = (C a b ∧ P (f a b)) := by simp [gIC]
theorem x_neg : gNeg (.int a) P = P (.int (-a)) := by simp [gNeg]
theorem x_abs : gAbs (.int a) P = P (.int (if a < 0 then -a else a)) := by simp [gAbs]
theorem x_intI : gInt (.int a) P = P (.int a) := rfl
theorem x_intB : gInt (.bool c) P = P (.int (if c = true then 1 else 0)) := rfl
theorem x_lenT : gLen (.tuple ds) P = P (.int ds.length) := rfl
theorem x_lenL : gLen (.list ds) P = P (.int ds.length) := rfl
theorem x_tupL : gTuple (.list ds) P = P (.tuple ds) := by simp [gTuple, itemsOf]
theorem x_tupT : gTuple (.tuple ds) P = P (.tuple ds) := by simp [gTuple, itemsOf]
theorem x_rep : gRep (.list ds) (.int a) P = (-(2 ^ 63) ≤ a ∧ a < 2 ^ 63 ∧ ds.length * a.toNat ≤ sizeLine ∧ P (.list (List.replicate a.toNat ds).flatten)) := by simp [gRep]
end
section
variable {d x y : D} {ds es : List D} {δ : DS} {n i j k l : Nat} {Q : D → Nat → Prop} {P : D → Prop} {R : DS → Prop} {QA : List D → Nat → Prop} {QR : List Ar → Nat → Prop} {QB : Bool → Nat → Prop} {QO : Option Int → Nat → Prop} {QG : Int → Int → Nat → Prop} {E : DEnds}
  {s s1 s2 tb : DTS} {t t1 t2 : DTE} {ta tb' : DTA} {tr tk : DTR} {u v : DTT} {γ : DTG} {γs : DTGs} {g1 : G1} {g2 : G2} {f : Fn} {lo hi : DTO} {tg : DS → Nat → (Int → Int → Nat → Prop) → Prop} {vs : List Nat} {pm : List Nat}
theorem x_seq : sSeq s1 s2 E δ n = s1 { E with nx := s2 E } δ n := rfl
theorem x_next : sNext E δ n = E.nx δ n := rfl
theorem x_set : sSet i t E δ n = t δ n fun d m => i < δ.length ∧ E.nx (δ.set i (some (.dat d))) m := rfl
theorem x_setL : sSetL i ta E δ n = ta δ n fun ds m => i < δ.length ∧ E.nx (δ.set i (some (.own ds))) m := rfl
theorem x_par : sPar i j ta E δ n = ta δ n fun ds m => ∃ x y, ds = [x, y] ∧ i < δ.length ∧ j < δ.length ∧ E.nx ((δ.set i (some (.dat x))).set j (some (.dat y))) m := rfl
theorem x_asg : sAsg γ t E δ n = t δ n fun d m => γ d δ fun δ' => E.nx δ' m := rfl
theorem x_drop : sDrop t E δ n = t δ n fun _ m => E.nx δ m := rfl
theorem x_app : sApp i t E δ n = ∃ ds, δ[i]? = some (some (.own ds)) ∧ ds.length < sizeLine ∧ t δ n fun d m => E.nx (δ.set i (some (.own (ds ++ [d])))) m := rfl
theorem x_lsE {t : DTE} {Q : List D → Nat → Prop} : lsE t δ n Q = t δ n fun d m => ∃ ds, d = .list ds ∧ Q ds m := rfl
theorem x_ext : sExt i ta E δ n = ∃ ds, δ[i]? = some (some (.own ds)) ∧ ta δ n fun es m => ds.length + es.length ≤ sizeLine ∧ E.nx (δ.set i (some (.own (ds ++ es)))) m := rfl
theorem x_ret : sRet t E δ n = t δ n E.rt := rfl
theorem x_retN : sRetN E δ n = E.rt .none n := rfl
theorem x_if : sIf u s1 s2 E δ n = u δ n fun c m => if c = true then s1 E δ m else s2 E δ m := rfl
theorem x_frz : sFrz i s E δ n = ∃ ds, δ[i]? = some (some (.own ds)) ∧ s E (δ.set i (some (.dat (.list ds)))) n := rfl
theorem x_for : sFor ta γ tb E δ n = ta δ n fun ds m => forR γ tb E ds δ m := rfl
theorem x_bk : sBk E δ n = E.bk δ n := rfl
theorem x_ct : sCt E δ n = E.ct δ n := rfl
theorem x_d1 : d1 g1 t δ n Q = t δ n fun x m => g1 x fun d => Q d m := rfl
theorem x_d2 : d2 g2 t1 t2 δ n Q = t1 δ n fun x m => t2 δ m fun y k => g2 x y fun d => Q d k := rfl
theorem x_dC : dC d δ n Q = Q d n := rfl
theorem x_dL : dL ta δ n Q = ta δ n fun ds m => Q (.list ds) m := rfl
theorem x_tup : dTup ta δ n Q = ta δ n fun ds m => ds.length ≤ sizeLine ∧ Q (.tuple ds) m := rfl
theorem x_and : dAndV t1 t2 δ n Q = t1 δ n fun d m => ∃ c, d = .bool c ∧ if c = true then t2 δ m Q else Q (.bool false) m := rfl
theorem x_or : dOrV t1 t2 δ n Q = t1 δ n fun d m => ∃ c, d = .bool c ∧ if c = true then Q (.bool true) m else t2 δ m Q := rfl
theorem x_not : dNotV t δ n Q = t δ n fun d m => ∃ c, d = .bool c ∧ Q (.bool (!c)) m := rfl
theorem x_ife : dIf u t1 t2 δ n Q = u δ n fun c m => if c = true then t1 δ m Q else t2 δ m Q := rfl
theorem x_dB : dB t δ n QB = t δ n fun d m => ∃ k, d = .bool k ∧ QB k m := rfl
theorem x_dTr : dTr t δ n QB = t δ n fun d m => (∀ s, d = .str s → s.length ≤ sizeLine) ∧ ∃ k, dTru d = some k ∧ QB k m := rfl
theorem x_dNot : dNot u δ n QB = u δ n fun c m => QB (!c) m := rfl
theorem x_dAnd : dAnd u v δ n QB = u δ n fun c m => if c = true then v δ m QB else QB false m := rfl
theorem x_dOr : dOr u v δ n QB = u δ n fun c m => if c = true then QB true m else v δ m QB := rfl
theorem x_yes : dYes δ n QB = QB true n := rfl
theorem x_aC : aCons t ta δ n QA = t δ n fun d m => ta δ m fun as k => QA (d :: as) k := rfl
theorem x_aN : aNil δ n QA = QA [] n := rfl
theorem x_aSz : aSz ta δ n QA = ta δ n fun ds m => ds.length ≤ sizeLine ∧ QA ds m := rfl
theorem x_aRg : aRg tg δ n QA = tg δ n fun i j m => RgOk i j ∧ QA (rangeD i (j - i).toNat) m := rfl
theorem x_rg1 : rg1 t δ n QG = t δ n fun d m => ∃ j, d = .int j ∧ QG 0 j m := rfl
theorem x_rg2 : rg2 t1 t2 δ n QG = t1 δ n fun d m => t2 δ m fun d2 m2 => ∃ i j, d = .int i ∧ d2 = .int j ∧ QG i j m2 := rfl
theorem x_aList : aList t δ n QA = t δ n fun d m => ∃ ds, itemsOf d = some ds ∧ QA ds m := rfl
theorem x_aSort : aSort t δ n QA = t δ n fun d m => ∃ ds, itemsOf d = some ds ∧ PySem.W.AllAlike ds ∧ SortOk ds ∧ (∀ z ∈ ds, z.depth ≤ 60) ∧ QA (sortD ds) m := rfl
theorem x_itL : itemsOf (.list ds) = some ds := rfl
theorem x_itT : itemsOf (.tuple ds) = some ds := rfl
theorem x_aSl : aSl t lo hi δ n QA = t δ n fun d m => lo δ m fun l k => hi δ k fun u j => ∃ ds, d = .list ds ∧ QA (cutD ds l u) j := rfl
theorem x_dSl : dSl t lo hi δ n Q = t δ n fun d m => lo δ m fun l k => hi δ k fun u j => gSl d l u fun x => Q x j := rfl
theorem x_aScr : aScr i lo hi δ n QA = ∃ ns, δ[i]? = some (some (.scr ns)) ∧ lo δ n fun l m => hi δ m fun u k => QA (cutD (intsD ns) l u) k := rfl
theorem x_scrLen : dScrLen i δ n Q = ∃ ns, δ[i]? = some (some (.scr ns)) ∧ Q (.int ns.length) n := rfl
theorem x_oN : oNone δ n QO = QO none n := rfl
theorem x_oS : oSome t δ n QO = t δ n fun d m => ∃ i, d = .int i ∧ QO (some i) m := rfl
theorem x_rN : rNil δ n QR = QR [] n := rfl
theorem x_rC : rCons t tr δ n QR = t δ n fun d m => tr δ m fun as k => QR (.d d :: as) k := rfl
theorem x_rRl : rRl i tr δ n QR = (δ[i]? = some (some .rl) ∧ tr δ n fun as k => QR (.rl :: as) k) := rfl
theorem x_call : dCall f tr δ n Q = tr δ n fun as m => f as m Q := rfl
theorem x_callB : dCallB f tr δ n Q = tr δ n fun as m => f as m fun d k => noList d = true ∧ Q d k := rfl
theorem x_callK : dCallK f i j pm tr tk δ n Q = tr δ n fun as m => tk δ m fun bs k => f (gP i j pm as bs) k Q := rfl
theorem x_iSeq : iSeq t δ n QA = ((t δ n fun d m => ∃ ds, d = .list ds ∧ QA ds m) ∨ (t δ n fun d m => ∃ ds, d = .tuple ds ∧ QA ds m)) := rfl
theorem x_iRg1 : iRg1 t δ n QA = t δ n fun d m => ∃ j : Int, d = .int j ∧ -(2 ^ 62) ≤ j ∧ j < 2 ^ 62 ∧ QA (rangeD 0 j.toNat) m := rfl
theorem x_iRg2 : iRg2 t1 t2 δ n QA = t1 δ n fun d m => t2 δ m fun d2 m2 => ∃ i j : Int, d = .int i ∧ d2 = .int j ∧ (-(2 ^ 62) ≤ i ∧ i < 2 ^ 62 ∧ -(2 ^ 62) ≤ j ∧ j < 2 ^ 62) ∧ QA (rangeD i (j - i).toNat) m2 := rfl
theorem x_iEn : iEn t δ n QA = ((t δ n fun d m => ∃ ds, d = .list ds ∧ QA (enumD 0 ds) m) ∨ (t δ n fun d m => ∃ ds, d = .tuple ds ∧ QA (enumD 0 ds) m)) := rfl
theorem x_gNm : gNm i d δ R = (i < δ.length ∧ R (δ.set i (some (.dat d)))) := rfl
theorem x_gTp : gTp γs (.tuple ds) δ R = γs ds δ R := by simp [gTp]
theorem x_gC : gCons' γ γs (d :: ds) δ R = γ d δ fun δ' => γs ds δ' R := propext ⟨fun ⟨_, _, e, h⟩ => by cases e; exact h, fun h => ⟨_, _, rfl, h⟩⟩
theorem x_gN : gNil' [] δ R = R δ := by simp [gNil']
theorem x_gL : gConsL l γ γs (d :: ds) δ R = (ds.length = l ∧ γ d δ fun δ' => γs ds δ' R) := propext ⟨fun ⟨_, _, e, h⟩ => by cases e; exact h, fun h => ⟨_, _, rfl, h⟩⟩
theorem x_comp : dComp ta γ u t vs δ n QA = (noOwn vs δ = true ∧ ta δ n fun ds m => ds.length ≤ sizeLine ∧ compR γ u t (wipeD δ vs) ds [] m QA) := rfl
end
end DL
/-! DT: typed data: equality, order, sorting. -/
namespace DL
open PySem PySem.Spec L2
/-- a type of data: equality is equality, all are alike, of depth m at most -/
structure Enc {α : Type} [DecidableEq α] (m : Nat) (e : α → D) : Prop where
  eq : ∀ x y, PyData.eqv (e x) (e y) = decide (x = y)
  shp : ∀ x, Shp m (e x)
  al : ∀ x y, PySem.W.alike (e x) (e y) = true
  nn : ∀ x, e x ≠ .none
section
variable {α β : Type} [DecidableEq α] [DecidableEq β] {m k : Nat} {e : α → D} {f : β → D}
theorem Enc.E (h : Enc m e) : EqE e := ⟨h.eq⟩
theorem Enc.mono (h : Enc m e) (hk : m ≤ k) : Enc k e := ⟨h.eq, fun x => (h.shp x).mono hk, h.al, h.nn⟩
theorem enc_int : Enc 0 PyData.int := ⟨eqe_int.eq, fun x => shp_int x, fun _ _ => by simp only [PySem.W.alike], fun _ z => by cases z⟩
theorem alAll (h : Enc m e) : ∀ x y : List α, PySem.W.alikeAll (x.map e) (y.map e) = true
  | [], _ => by rw [List.map_nil, PySem.W.alikeAll]
  | _ :: _, [] => by rw [List.map_nil, List.map_cons, PySem.W.alikeAll]
  | x :: xs, y :: ys => by
    rw [List.map_cons, List.map_cons, PySem.W.alikeAll, h.al x y, alAll h xs ys]
    rfl
theorem enc_tup (h : Enc m e) : Enc (m + 1) fun l : List α => PyData.tuple (l.map e) := ⟨(eqe_tup h.E).eq, fun l => (ShpAll.map fun x _ => h.shp x).tup, fun x y => by
  show PySem.W.alike (.tuple _) (.tuple _) = true
  simp only [PySem.W.alike]
  exact alAll h x y, fun _ z => by cases z⟩
theorem enc_pair (h : Enc m e) (q : Enc m f) : Enc (m + 1) fun p : α × β => PyData.tuple [e p.1, f p.2] := ⟨(eqe_pair h.E q.E).eq, fun p => (ShpAll.cons (h.shp p.1) (ShpAll.cons (q.shp p.2) ShpAll.nil)).tup, fun x y => by
  show PySem.W.alike (.tuple _) (.tuple _) = true
  simp only [PySem.W.alike, PySem.W.alikeAll, h.al, q.al, Bool.and_self], fun _ z => by cases z⟩
/-! ### rewriting -/
theorem Enc.sh (h : Enc m e) (x : α) (hm : m ≤ 64 := by decide) : SeqAt.shaped (e x) = true := (h.shp x).sh hm
theorem Enc.shT (h : Enc m e) (l : List α) (hm : m + 1 ≤ 64 := by decide) : SeqAt.shaped (.tuple (l.map e)) = true := ((enc_tup h).shp l).sh hm
theorem Enc.shL (h : Enc m e) (l : List α) (hm : m + 1 ≤ 64 := by decide) : SeqAt.shaped (.list (l.map e)) = true := ((ShpAll.map fun x _ => h.shp x).lst).sh hm
theorem y_eq (h : Enc m e) (x y : α) (P : D → Prop) (hm : m ≤ 64 := by decide) : gEq (e x) (e y) P = P (.bool (decide (x = y))) := by
  show (eqOk _ _ ∧ P (.bool (PyData.eqv _ _))) = _
  rw [h.eq]
  exact propext ⟨fun z => z.2, fun z => ⟨.inl ⟨h.sh x hm, h.sh y hm⟩, z⟩⟩
theorem y_ne (h : Enc m e) (x y : α) (P : D → Prop) (hm : m ≤ 64 := by decide) : gNe (e x) (e y) P = P (.bool (!decide (x = y))) := by
  show (eqOk _ _ ∧ P (.bool (!PyData.eqv _ _))) = _
  rw [h.eq]
  exact propext ⟨fun z => z.2, fun z => ⟨.inl ⟨h.sh x hm, h.sh y hm⟩, z⟩⟩
theorem y_eqL (h : Enc m e) (x y : List α) (P : D → Prop) (hm : m + 1 ≤ 64 := by decide) : gEq (.list (x.map e)) (.list (y.map e)) P = P (.bool (decide (x = y))) := by
  show (eqOk _ _ ∧ P (.bool (PyData.eqv _ _))) = _
  rw [(eqe_lst h.E).eq]
  exact propext ⟨fun z => z.2, fun z => ⟨.inl ⟨h.shL x hm, h.shL y hm⟩, z⟩⟩
theorem y_neL (h : Enc m e) (x y : List α) (P : D → Prop) (hm : m + 1 ≤ 64 := by decide) : gNe (.list (x.map e)) (.list (y.map e)) P = P (.bool (!decide (x = y))) := by
  show (eqOk _ _ ∧ P (.bool (!PyData.eqv _ _))) = _
  rw [(eqe_lst h.E).eq]
  exact propext ⟨fun z => z.2, fun z => ⟨.inl ⟨h.shL x hm, h.shL y hm⟩, z⟩⟩
theorem y_eqLn (h : Enc m e) (x : List α) (P : D → Prop) (hm : m + 1 ≤ 64 := by decide) : gEq (.list (x.map e)) (.list []) P = P (.bool (decide (x = []))) := y_eqL h x [] P hm
theorem y_inT (h : Enc m e) (x : α) (l : List α) (P : D → Prop) (hm : m + 1 ≤ 64 := by decide) : gIn (e x) (.tuple (l.map e)) P = P (.bool (decide (x ∈ l))) := by
  show (_ ∧ _ ∧ ∃ c, dIn (e x) (.tuple (l.map e)) = some c ∧ P (.bool c)) = _
  rw [dIn_tup h.E]
  exact propext ⟨fun ⟨_, _, c, z1, z2⟩ => by cases z1; exact z2, fun z => ⟨h.sh x (by omega), h.shT l hm, _, rfl, z⟩⟩
theorem y_notInT (h : Enc m e) (x : α) (l : List α) (P : D → Prop) (hm : m + 1 ≤ 64 := by decide) : gNotIn (e x) (.tuple (l.map e)) P = P (.bool (!decide (x ∈ l))) := by
  show (_ ∧ _ ∧ ∃ c, dIn (e x) (.tuple (l.map e)) = some c ∧ P (.bool (!c))) = _
  rw [dIn_tup h.E]
  exact propext ⟨fun ⟨_, _, c, z1, z2⟩ => by cases z1; exact z2, fun z => ⟨h.sh x (by omega), h.shT l hm, _, rfl, z⟩⟩
theorem y_inL (h : Enc m e) (x : α) (l : List α) (P : D → Prop) (hm : m + 1 ≤ 64 := by decide) : gIn (e x) (.list (l.map e)) P = P (.bool (decide (x ∈ l))) := by
  show (_ ∧ _ ∧ ∃ c, dIn (e x) (.list (l.map e)) = some c ∧ P (.bool c)) = _
  rw [dIn_lst h.E]
  exact propext ⟨fun ⟨_, _, c, z1, z2⟩ => by cases z1; exact z2, fun z => ⟨h.sh x (by omega), h.shL l hm, _, rfl, z⟩⟩
theorem y_notInL (h : Enc m e) (x : α) (l : List α) (P : D → Prop) (hm : m + 1 ≤ 64 := by decide) : gNotIn (e x) (.list (l.map e)) P = P (.bool (!decide (x ∈ l))) := by
  show (_ ∧ _ ∧ ∃ c, dIn (e x) (.list (l.map e)) = some c ∧ P (.bool (!c))) = _
  rw [dIn_lst h.E]
  exact propext ⟨fun ⟨_, _, c, z1, z2⟩ => by cases z1; exact z2, fun z => ⟨h.sh x (by omega), h.shL l hm, _, rfl, z⟩⟩
theorem y_eqI (a b : Int) (P : D → Prop) : gEq (.int a) (.int b) P = P (.bool (decide (a = b))) := y_eq enc_int a b P
theorem y_neI (a b : Int) (P : D → Prop) : gNe (.int a) (.int b) P = P (.bool (!decide (a = b))) := y_ne enc_int a b P
theorem y_neB (a b : Bool) (P : D → Prop) : gNe (.bool a) (.bool b) P = P (.bool (a != b)) := by
  show (eqOk _ _ ∧ P (.bool (!PyData.eqv _ _))) = _
  rw [PyData.eqv]
  exact propext ⟨fun z => z.2, fun z => ⟨.inl ⟨(shp_bool (m := 0) a).sh, (shp_bool (m := 0) b).sh⟩, z⟩⟩
theorem y_eqB (a b : Bool) (P : D → Prop) : gEq (.bool a) (.bool b) P = P (.bool (a == b)) := by
  show (eqOk _ _ ∧ P (.bool (PyData.eqv _ _))) = _
  rw [PyData.eqv]
  exact propext ⟨fun z => z.2, fun z => ⟨.inl ⟨(shp_bool (m := 0) a).sh, (shp_bool (m := 0) b).sh⟩, z⟩⟩
theorem y_eqS (a b : Str) (P : D → Prop) : gEq (.str a) (.str b) P = P (.bool (decide (a = b))) := by
  show (eqOk _ _ ∧ P (.bool (PyData.eqv _ _))) = _
  rw [eqe_str.eq]
  exact propext ⟨fun z => z.2, fun z => ⟨.inr ⟨_, _, rfl, rfl⟩, z⟩⟩
theorem y_neS (a b : Str) (P : D → Prop) : gNe (.str a) (.str b) P = P (.bool (!decide (a = b))) := by
  show (eqOk _ _ ∧ P (.bool (!PyData.eqv _ _))) = _
  rw [eqe_str.eq]
  exact propext ⟨fun z => z.2, fun z => ⟨.inr ⟨_, _, rfl, rfl⟩, z⟩⟩
theorem cmpI (a b : Int) : cmpOk (PyData.int a) (PyData.int b) := by
  refine ⟨by simp only [PySem.W.alike], ?_, ?_⟩
  · intro z; cases z
  · simp [PyData.depth]
theorem y_ltI (a b : Int) (P : D → Prop) : gLt (.int a) (.int b) P = P (.bool (decide (a < b))) := by
  show (cmpOk _ _ ∧ P (.bool (PySem.W.dataLt _ _))) = _
  rw [PySem.W.dataLt_int]
  exact propext ⟨fun z => z.2, fun z => ⟨cmpI _ _, z⟩⟩
theorem y_gtI (a b : Int) (P : D → Prop) : gGt (.int a) (.int b) P = P (.bool (decide (b < a))) := by
  show (cmpOk _ _ ∧ P (.bool (PySem.W.dataLt _ _))) = _
  rw [PySem.W.dataLt_int]
  exact propext ⟨fun z => z.2, fun z => ⟨cmpI _ _, z⟩⟩
theorem y_leI (a b : Int) (P : D → Prop) : gLe (.int a) (.int b) P = P (.bool (!decide (b < a))) := by
  show (cmpOk _ _ ∧ P (.bool (!PySem.W.dataLt _ _))) = _
  rw [PySem.W.dataLt_int]
  exact propext ⟨fun z => z.2, fun z => ⟨cmpI _ _, z⟩⟩
theorem y_geI (a b : Int) (P : D → Prop) : gGe (.int a) (.int b) P = P (.bool (!decide (a < b))) := by
  show (cmpOk _ _ ∧ P (.bool (!PySem.W.dataLt _ _))) = _
  rw [PySem.W.dataLt_int]
  exact propext ⟨fun z => z.2, fun z => ⟨cmpI _ _, z⟩⟩
/-! ### order -/
def ltE (e : α → D) (x y : α) : Bool := PySem.W.dataLt (e x) (e y)
theorem ltE_irr (x : α) : ltE e x x = false := PyProof.Rows.lex_irrefl _
theorem ltE_tr {x y z : α} (h1 : ltE e x y = true) (h2 : ltE e y z = true) : ltE e x z = true := PyProof.Rows.lex_trans _ _ _ h1 h2
theorem ltE_as {x y : α} (h1 : ltE e x y = true) : ltE e y x = false := by
  cases q : ltE e y x with
  | false => rfl
  | true => have := ltE_tr h1 q; rw [ltE_irr] at this; cases this
theorem ltE_tot (h : Enc m e) {x y : α} (ne : x ≠ y) : ltE e x y = true ∨ ltE e y x = true := by
  by_cases h1 : ltE e x y = true
  · exact .inl h1
  by_cases h2 : ltE e y x = true
  · exact .inr h2
  exfalso
  have k : PySem.W.keyToks (e x) = PySem.W.keyToks (e y) := PyProof.Rows.lex_total _ _ (by simpa [ltE, PySem.W.dataLt] using h1) (by simpa [ltE, PySem.W.dataLt] using h2)
  have hf : PyData.eqv (e x) (e y) = false := by rw [h.eq]; exact decide_eq_false ne
  have q := (PySem.W.toks_eqv (e x) (e y) (h.al x y)).2 hf [] [.inl 0]
  rw [k, PySem.W.lex_pre, PyProof.Rows.lex_irrefl] at q
  cases q
def sortE (e : α → D) (l : List α) : List α := l.mergeSort fun a b => !ltE e b a
theorem sortD_map (l : List α) : sortD (l.map e) = (sortE e l).map e := by
  unfold sortD sortE ltE
  rw [List.map_mergeSort]
  intro a _ b _
  rfl
theorem sortE_mem {l : List α} {x : α} : x ∈ sortE e l ↔ x ∈ l := (List.mergeSort_perm l _).mem_iff
theorem sortE_perm (l : List α) : (sortE e l).Perm l := List.mergeSort_perm l _
theorem sortE_asc (l : List α) : (sortE e l).Pairwise fun a b => ltE e b a = false := by
  have q := List.pairwise_mergeSort (le := fun a b : α => !ltE e b a) (fun a b c h1 h2 => by
    simp at h1 h2 ⊢
    cases z : ltE e c a with
    | false => rfl
    | true =>
      rcases PyProof.Rows.lex_negTrans (O := PyProof.Rows.itemOrd) (PySem.W.keyToks (e c)) (PySem.W.keyToks (e b)) (PySem.W.keyToks (e a)) z with y | y
      · rw [show ltE e c b = true from y] at h2; cases h2
      · rw [show ltE e b a = true from y] at h1; cases h1) (fun a b => by
    cases z : ltE e b a with
    | false => simp
    | true => simp [ltE_as z]) l
  exact q.imp fun h => by simpa using h
theorem sortE_lt (h : Enc m e) {l : List α} (nd : l.Nodup) : (sortE e l).Pairwise fun a b => ltE e a b = true := by
  have nd2 : (sortE e l).Nodup := (sortE_perm l).nodup_iff.mpr nd
  refine (List.pairwise_and_iff.mpr ⟨sortE_asc (e := e) l, nd2⟩).imp fun ⟨a, b⟩ => ?_
  rcases ltE_tot h b with q | q
  · exact q
  · rw [a] at q; cases q
/-- ascending lists of the same items are one -/
theorem asc_ext {R : α → α → Prop} (irr : ∀ x, ¬ R x x) (as : ∀ x y, R x y → ¬ R y x) : ∀ l k : List α, l.Pairwise R → k.Pairwise R → (∀ x, x ∈ l ↔ x ∈ k) → l = k
  | [], [], _, _, _ => rfl
  | [], y :: k, _, _, h => by have := (h y).mpr List.mem_cons_self; cases this
  | x :: l, [], _, _, h => by have := (h x).mp List.mem_cons_self; cases this
  | x :: l, y :: k, h1, h2, h => by
    rw [List.pairwise_cons] at h1 h2
    have e1 : x = y := by
      rcases List.mem_cons.mp ((h x).mp List.mem_cons_self) with z | z
      · exact z
      rcases List.mem_cons.mp ((h y).mpr List.mem_cons_self) with w | w
      · exact w.symm
      exact absurd (h2.1 x z) (as _ _ (h1.1 y w))
    subst e1
    rw [asc_ext irr as l k h1.2 h2.2 fun z => ?_]
    constructor
    · intro hz
      rcases List.mem_cons.mp ((h z).mp (List.mem_cons_of_mem _ hz)) with w | w
      · subst w; exact absurd (h1.1 z hz) (irr z)
      · exact w
    · intro hz
      rcases List.mem_cons.mp ((h z).mpr (List.mem_cons_of_mem _ hz)) with w | w
      · subst w; exact absurd (h2.1 z hz) (irr z)
      · exact w
theorem asc_extE {l k : List α} (h1 : l.Pairwise fun a b => ltE e a b = true) (h2 : k.Pairwise fun a b => ltE e a b = true) (h : ∀ x, x ∈ l ↔ x ∈ k) : l = k :=
  asc_ext (fun x => by rw [ltE_irr]; decide) (fun x y q => by rw [ltE_as q]; decide) l k h1 h2 h
theorem allAlike_map (h : Enc m e) (l : List α) : PySem.W.AllAlike (l.map e) := PySem.W.AllAlike.of h.al
theorem sortOk_tup (l : List (List α)) : SortOk (l.map fun x => PyData.tuple (x.map e)) := SortOk.tups fun d hd => by
  obtain ⟨x, _, rfl⟩ := List.mem_map.mp hd
  exact ⟨_, rfl⟩
theorem dep_map (h : Enc m e) (hm : m ≤ 60) (l : List α) : ∀ z ∈ l.map e, z.depth ≤ 60 := fun z hz => by
  obtain ⟨x, _, rfl⟩ := List.mem_map.mp hz
  exact Nat.le_trans (h.shp x).dep hm
/-! ### each once, of a sorted list -/
def stepE (acc : List α) (x : α) : List α := if acc.getLast? = some x then acc else acc ++ [x]
theorem foldE (h : Enc m e) : ∀ (l acc : List α), acc.Pairwise (fun a b => ltE e a b = true) → (∀ a ∈ acc, ∀ x ∈ l, a = x ∨ ltE e a x = true) → l.Pairwise (fun a b => ltE e b a = false) →
    (l.foldl stepE acc).Pairwise (fun a b => ltE e a b = true) ∧ ∀ x, x ∈ l.foldl stepE acc ↔ x ∈ acc ∨ x ∈ l
  | [], acc, h1, h2, h3 => ⟨h1, fun x => by simp⟩
  | y :: l, acc, h1, h2, h3 => by
    rw [List.pairwise_cons] at h3
    rw [List.foldl_cons]
    by_cases c : acc.getLast? = some y
    · have e1 : stepE acc y = acc := if_pos c
      rw [e1]
      obtain ⟨q1, q2⟩ := foldE h l acc h1 (fun a ha x hx => h2 a ha x (List.mem_cons_of_mem _ hx)) h3.2
      refine ⟨q1, fun x => (q2 x).trans ?_⟩
      have hy : y ∈ acc := List.mem_of_getLast? c
      constructor
      · rintro (z | z)
        · exact .inl z
        · exact .inr (List.mem_cons_of_mem _ z)
      · rintro (z | z)
        · exact .inl z
        · rcases List.mem_cons.mp z with rfl | z
          · exact .inl hy
          · exact .inr z
    · have e1 : stepE acc y = acc ++ [y] := if_neg c
      rw [e1]
      have hlt : ∀ a ∈ acc, ltE e a y = true := fun a ha => by
        rcases h2 a ha y List.mem_cons_self with z | z
        · subst z
          exfalso
          obtain ⟨b, hb⟩ : ∃ b, acc.getLast? = some b := by
            cases q : acc.getLast? with
            | none => rw [List.getLast?_eq_none_iff] at q; subst q; cases ha
            | some b => exact ⟨b, rfl⟩
          have hbm : b ∈ acc := List.mem_of_getLast? hb
          have nb : b ≠ a := fun z => c (by rw [hb, z])
          have l1 : ltE e b a = true := (h2 b hbm a List.mem_cons_self).resolve_left nb
          obtain ⟨pre, rfl⟩ := List.getLast?_eq_some_iff.mp hb
          rcases List.mem_append.mp ha with z | z
          · have l2 := (List.pairwise_append.mp h1).2.2 a z b (by simp)
            rw [ltE_as l2] at l1; cases l1
          · simp at z; exact nb z.symm
        · exact z
      obtain ⟨q1, q2⟩ := foldE h l (acc ++ [y]) (List.pairwise_append.mpr ⟨h1, by simp, fun a ha b hb => by simp at hb; subst hb; exact hlt a ha⟩) (fun a ha x hx => by
        rcases List.mem_append.mp ha with z | z
        · exact h2 a z x (List.mem_cons_of_mem _ hx)
        · simp at z
          subst z
          by_cases q : a = x
          · exact .inl q
          · rcases ltE_tot h q with w | w
            · exact .inr w
            · rw [h3.1 x hx] at w; cases w) h3.2
      refine ⟨q1, fun x => (q2 x).trans ?_⟩
      rw [List.mem_append, List.mem_singleton, List.mem_cons, or_assoc]
def onceE (e : α → D) (l : List α) : List α := (sortE e l).foldl stepE []
theorem onceE_asc (h : Enc m e) (l : List α) : (onceE e l).Pairwise (fun a b => ltE e a b = true) ∧ ∀ x, x ∈ onceE e l ↔ x ∈ l := by
  obtain ⟨q1, q2⟩ := foldE h (sortE e l) [] List.Pairwise.nil (fun a ha => by cases ha) (sortE_asc l)
  exact ⟨q1, fun x => (q2 x).trans (by rw [sortE_mem]; simp)⟩
end
/-! ### rows of whole numbers -/
theorem enc_row : Enc 1 rowD := enc_tup enc_int
theorem y_inR (o : Int) (r : List Int) (P : D → Prop) : gIn (.int o) (rowD r) P = P (.bool (decide (o ∈ r))) := y_inT enc_int o r P
theorem y_notInR (o : Int) (r : List Int) (P : D → Prop) : gNotIn (.int o) (rowD r) P = P (.bool (!decide (o ∈ r))) := y_notInT enc_int o r P
theorem y_eqR (x y : List Int) (P : D → Prop) : gEq (rowD x) (rowD y) P = P (.bool (decide (x = y))) := y_eq enc_row x y P
theorem y_neR (x y : List Int) (P : D → Prop) : gNe (rowD x) (rowD y) P = P (.bool (!decide (x = y))) := y_ne enc_row x y P
theorem y_lenR (r : List Int) (P : D → Prop) : gLen (rowD r) P = P (.int r.length) := by
  show P (.int (intsD r).length) = _
  unfold intsD
  rw [List.length_map]
theorem x_itR (r : List Int) : itemsOf (rowD r) = some (intsD r) := rfl
theorem y_tupR (r : List Int) (P : D → Prop) : gTuple (rowD r) P = P (rowD r) := x_tupT
theorem row_tup (r : List Int) (ds : List D) : (rowD r = .tuple ds) = (intsD r = ds) := propext ⟨fun z => PyData.tuple.inj z, fun z => congrArg PyData.tuple z⟩
theorem row_lst (r : List Int) (ds : List D) : (rowD r = PyData.list ds) = False := eq_false PyData.noConfusion
theorem tup_lst (r ds : List D) : (PyData.tuple r = PyData.list ds) = False := eq_false PyData.noConfusion
theorem lst_tup (r ds : List D) : (PyData.list r = PyData.tuple ds) = False := eq_false PyData.noConfusion
theorem ifc {c : Bool} {A B : Prop} (h1 : c = true → A) (h2 : c = false → B) : if c = true then A else B := by
  cases c with
  | true => exact h1 rfl
  | false => exact h2 rfl
theorem andP {c d : Bool} (P : D → Prop) (h : P (.bool (c && d))) : if c = true then P (.bool d) else P (.bool false) := by cases c <;> exact h
theorem orP {c d : Bool} (P : D → Prop) (h : P (.bool (c || d))) : if c = true then P (.bool true) else P (.bool d) := by cases c <;> exact h
theorem atI_map {α β : Type} (f : α → β) (xs : List α) (i : Int) : L2.atI (xs.map f) i = (L2.atI xs i).map f := by
  unfold L2.atI
  rw [List.length_map]
  cases L2.ixN xs.length i with
  | none => rfl
  | some j => simp
theorem bools_map : ∀ l : List Bool, bools (l.map PyData.bool) = some l
  | [] => rfl
  | x :: r => by rw [List.map_cons, bools, bools_map r]; rfl
theorem x_all (l : List Bool) (P : D → Prop) : gAll (.list (l.map PyData.bool)) P = P (.bool (l.all id)) := propext ⟨fun ⟨ds, cs, e1, e2, h⟩ => by cases e1; rw [bools_map] at e2; cases e2; exact h, fun h => ⟨_, _, rfl, bools_map _, h⟩⟩
theorem x_any (l : List Bool) (P : D → Prop) : gAny (.list (l.map PyData.bool)) P = P (.bool (l.any id)) := propext ⟨fun ⟨ds, cs, e1, e2, h⟩ => by cases e1; rw [bools_map] at e2; cases e2; exact h, fun h => ⟨_, _, rfl, bools_map _, h⟩⟩
def rng (n : Int) : List Int := (List.range n.toNat).map fun i : Nat => (0 : Int) + i
theorem rangeD_rng (n : Int) : rangeD 0 n.toNat = intsD (rng n) := rangeD_ints 0 n.toNat
theorem rng_mem {n o : Int} : o ∈ rng n ↔ 0 ≤ o ∧ o < n := by
  unfold rng
  simp only [List.mem_map, List.mem_range]
  constructor
  · rintro ⟨i, h1, rfl⟩; omega
  · intro h; exact ⟨o.toNat, by omega, by omega⟩
theorem rng_asc (n : Int) : (rng n).Pairwise (· < ·) := by
  unfold rng
  rw [List.pairwise_map]
  exact List.pairwise_lt_range.imp fun h => by omega
theorem rng_len (n : Int) : (rng n).length = n.toNat := by unfold rng; simp
theorem small (n : Nat) (h : n ≤ 16777216) : n ≤ sizeLine := Nat.le_trans h (by decide)
theorem smallLt (n : Nat) (h : n < 16777216) : n < sizeLine := Nat.lt_of_lt_of_le h (by decide)
theorem compR_each {α : Type} {γ : DTG} {u : DTT} {t : DTE} {δ : DS} {e : α → D} (f : α → D) {m : Nat} {Q : List D → Nat → Prop} (l : List α) (acc : List D)
    (h : ∀ x ∈ l, ∀ (A : D → Nat → Prop) (B : Nat → Prop), A (f x) m → γ (e x) δ fun δ1 => u δ1 m fun b k => if b = true then t δ1 k A else B k) (q : Q (acc ++ l.map f) m) : compR γ u t δ (l.map e) acc m Q := by
  refine compR_map (fun _ => true) f l acc (fun x hx A B ha hb => h x hx A B (ha rfl)) ?_
  rw [List.filter_eq_self.mpr fun _ _ => rfl]
  exact q
/-! ### enumerate, typed -/
def enumL {α : Type} : Nat → List α → List (Int × α)
  | _, [] => []
  | i, x :: r => ((i : Int), x) :: enumL (i + 1) r
theorem enumD_map {α : Type} (e : α → D) : ∀ (i : Nat) (l : List α), enumD i (l.map e) = (enumL i l).map fun p => .tuple [.int p.1, e p.2]
  | _, [] => rfl
  | i, x :: r => by rw [List.map_cons, enumD, enumL, List.map_cons, enumD_map e (i + 1) r]
theorem enumL_snd {α : Type} : ∀ (i : Nat) (l : List α), (enumL i l).map (·.2) = l
  | _, [] => rfl
  | i, x :: r => by rw [enumL, List.map_cons, enumL_snd (i + 1) r]
theorem enumL_mem {α : Type} : ∀ {i : Nat} {l : List α} {p : Int × α}, p ∈ enumL i l → ∃ j : Nat, l[j]? = some p.2 ∧ p.1 = ((i + j : Nat) : Int)
  | i, x :: r, p, h => by
    rw [enumL] at h
    rcases List.mem_cons.mp h with rfl | h
    · exact ⟨0, rfl, by simp⟩
    · obtain ⟨j, h1, h2⟩ := enumL_mem h
      exact ⟨j + 1, h1, by rw [h2]; omega⟩
theorem enumL_len {α : Type} : ∀ (i : Nat) (l : List α), (enumL i l).length = l.length
  | _, [] => rfl
  | i, x :: r => by rw [enumL, List.length_cons, List.length_cons, enumL_len (i + 1) r]
theorem enumL_filter {α : Type} (p : α → Bool) (q : Int × α → Bool) : ∀ (i : Nat) (l : List α), (∀ z ∈ enumL i l, q z = p z.2) → ((enumL i l).filter q).map (·.2) = l.filter p
  | _, [], _ => rfl
  | i, x :: r, h => by
    rw [enumL] at h ⊢
    have h1 := h _ List.mem_cons_self
    have ih := enumL_filter p q (i + 1) r fun z hz => h z (List.mem_cons_of_mem _ hz)
    by_cases c : p x = true
    · rw [List.filter_cons_of_pos (by rw [h1]; exact c), List.filter_cons_of_pos c, List.map_cons, ih]
    · rw [List.filter_cons_of_neg (by rw [h1]; exact c), List.filter_cons_of_neg c, ih]
def nthI {α : Type} [Inhabited α] (l : List α) (i : Int) : α := l.getD i.toNat default
theorem atI_nth {α : Type} [Inhabited α] {l : List α} {i : Int} (h0 : 0 ≤ i) (h1 : i < l.length) : L2.atI l i = some (nthI l i) := by
  obtain ⟨k, rfl⟩ : ∃ k : Nat, i = (k : Int) := ⟨i.toNat, by omega⟩
  rw [atI_nat']
  unfold nthI
  have hk : k < l.length := by omega
  simp [List.getD, hk]
theorem x_truB (k : Bool) (P : Bool → Prop) : ((∀ s, PyData.bool k = .str s → s.length ≤ sizeLine) ∧ ∃ c, dTru (.bool k) = some c ∧ P c) = P k :=
  propext ⟨fun ⟨_, c, e, h⟩ => by cases e; exact h, fun h => ⟨fun _ z => (by cases z), _, rfl, h⟩⟩
theorem rng_nth {α : Type} [Inhabited α] (l : List α) : (rng l.length).map (nthI l) = l := by
  refine List.ext_getElem? fun i => ?_
  unfold rng
  rw [List.map_map, List.getElem?_map]
  by_cases h : i < l.length
  · rw [List.getElem?_range (by simpa using h)]
    simp [nthI, List.getD, h]
  · rw [List.getElem?_eq_none (by simpa using h), List.getElem?_eq_none (by simpa using h)]
    rfl
theorem rng_nth_map {α β : Type} [Inhabited α] (l : List α) (f : α → β) : (rng l.length).map (fun o => f (nthI l o)) = l.map f := by
  have e : (rng l.length).map (fun o => f (nthI l o)) = ((rng l.length).map (nthI l)).map f := by rw [List.map_map]; rfl
  rw [e, rng_nth]
/-! ### items that are new -/
section
variable {α : Type} [DecidableEq α]
def stepN (acc : List α) (x : α) : List α := if x ∈ acc then acc else acc ++ [x]
theorem foldN : ∀ (l acc : List α), acc.Nodup → (l.foldl stepN acc).Nodup ∧ ∀ x, x ∈ l.foldl stepN acc ↔ x ∈ acc ∨ x ∈ l
  | [], acc, h => ⟨h, fun x => by simp⟩
  | y :: l, acc, h => by
    rw [List.foldl_cons]
    by_cases c : y ∈ acc
    · rw [show stepN acc y = acc from if_pos c]
      obtain ⟨q1, q2⟩ := foldN l acc h
      refine ⟨q1, fun x => (q2 x).trans ⟨fun z => z.imp id (List.mem_cons_of_mem _), fun z => ?_⟩⟩
      rcases z with z | z
      · exact .inl z
      · rcases List.mem_cons.mp z with rfl | z
        · exact .inl c
        · exact .inr z
    · rw [show stepN acc y = acc ++ [y] from if_neg c]
      obtain ⟨q1, q2⟩ := foldN l (acc ++ [y]) (List.nodup_append.mpr ⟨h, by simp, fun a ha b hb => by simp at hb; subst hb; exact fun z => c (z ▸ ha)⟩)
      refine ⟨q1, fun x => (q2 x).trans ?_⟩
      rw [List.mem_append, List.mem_singleton, List.mem_cons, or_assoc]
end
theorem y_isB (a b : Bool) (P : D → Prop) : gIs (.bool a) (.bool b) P = P (.bool (decide (a = b))) := propext ⟨fun ⟨_, e, h⟩ => by cases e; exact h, fun h => ⟨_, rfl, h⟩⟩
theorem foldE_len {α : Type} [DecidableEq α] : ∀ (l acc : List α), (l.foldl stepE acc).length ≤ acc.length + l.length
  | [], acc => Nat.le_refl _
  | x :: l, acc => by
    rw [List.foldl_cons, List.length_cons]
    refine Nat.le_trans (foldE_len l _) ?_
    unfold stepE
    split <;> simp <;> omega
theorem onceE_len {α : Type} [DecidableEq α] (e : α → D) (l : List α) : (onceE e l).length ≤ l.length := by
  have := foldE_len (sortE e l) []
  rw [(sortE_perm l).length_eq] at this
  simpa [onceE] using this
end DL
/-! DN: a law's end: its def promises True of every script. -/
namespace DL
open PySem PySem.Spec L2
/-- one address alone is tracked, if any -/
def one (a : Addr) (o : Option HO) : Hp := fun b => if b = a then o else none
theorem one_off {a b : Addr} {o : Option HO} (h : b ≠ a) : one a o b = none := if_neg h
theorem one_on {a : Addr} {o : Option HO} : one a o a = o := if_pos rfl
theorem one_inv {a b : Addr} {o : Option HO} {u : HO} (h : one a o b = some u) : b = a ∧ o = some u := by
  by_cases e : b = a
  · subst e; rw [one_on] at h; exact ⟨rfl, h⟩
  · rw [one_off e] at h; cases h
def lsO (vs : List Value) : Obj := { cls := .type "list", data := .seq vs.toArray }
/-- what law promises: True of a script -/
def spTrue (K : PySem.W.Frag) (n : Nat) : Sp := fun vs H Q _ => ∃ (a : Addr) (ns : List Int), vs = [.ref a] ∧ SqL K H a (ns.map V.int) ∧ ns.length ≤ n ∧ ∀ H', Q (.bl true) H'
section
variable {P : Program} {w : World} {K : PySem.W.Frag} {mg mb : Str → Option Value} {k n : Nat} {fa a : Addr} {fd : FuncData} {x : Str} {s : Shared} {vs : List Value} {ns : List Int} {o : Option HO}
theorem dict_not_list {h : Heap} {b m : Addr} {ob : Obj} {es : Array DictEntry} {i : Nat} (hm : h.get? m = some (lsO vs)) (hb : h.get? b = some ob) (hd : ob.data = .dict es i) : b ≠ m := fun e => by
  subst e
  rw [hm] at hb
  cases hb
  cases (show Data.seq vs.toArray _ = Data.dict es i from hd)
theorem ns_hid {b : Addr} {m : Str → Option Value} (ha : s.heap.get? a = some (lsO vs)) (h : s.heap.Ns b m) : (hidT s.heap (one a o)).Ns b m := by
  obtain ⟨ob, es, i, h1, h2, h3⟩ := h
  exact ⟨ob, es, i, hidT_get h1 (one_off (dict_not_list ha h1 h2)), h2, h3⟩
theorem end_run (hK : K.In s.heap) (n1 : s.heap.Ns mainGlobals mg) (n2 : s.heap.Ns builtinsNs mb) (n3 : ∀ x : Str, x ≠ "__name__" → mb x = bootBuiltins x) (n4 : s.heap.NoLimit) (gs : s.gens = #[]) (ha : s.heap.get? a = some (lsO vs))
    (room : Room k callerA) (bind : ∀ (s : Shared) (u : Value), BindsTo s fd ⟨[u], []⟩ [(x, u)]) (hl : ns.length ≤ n)
    (G : ∀ base : Heap, K.In base → base.Ns mainGlobals mg → FnG P w K mg base CX0 k fa fd [x] (spTrue K n))
    (hok : HOk P w (one a o) s.heap) (seq : SqL K (one a o) a (ns.map V.int)) (free : o ≠ none → K.lookup a = none) (frz : ∀ u, o = some u → ∃ ob xs, u = .frz ob (.lst xs)) :
    codeAny (model P w) callerA (.call (.ref fa) ⟨[.ref a], []⟩) (fun r s' => r = .ok (.ret (.bool true)) ∧ OldK s.heap s'.heap ∧ s'.os = s.os ∧ PyProof.Rows.AllBare s'.gens) s := by
  have kin : K.In (hidT s.heap (one a o)) := by
    intro b ob hb
    refine hidT_get (hK b ob hb) ?_
    by_cases e : b = a
    · subst e
      rw [one_on]
      cases z : o with
      | none => rfl
      | some u => rw [free (by rw [z]; exact Option.some_ne_none u)] at hb; cases hb
    · exact one_off e
  obtain ⟨mc, l1, l2⟩ := n4
  have env : Env0 P w K mg (hidT s.heap (one a o)) callerA [] s (one a o) :=
    { frames := rfl
      mod := { kin := kin, glob := ns_hid ha n1, blt := ⟨mb, ns_hid ha n2, n3⟩, nolimit := ⟨mc, ns_hid ha l1, l2⟩ }
      bs := fun _ _ q => of_hidT q
      bsz := by rw [hidT_size]; exact Nat.le_refl _
      funs := trivial
      frf := fun _ hb => nomatch hb
      hok := hok
      bare := .of_eq gs }
  have main := (G _ kin (ns_hid ha n1)).go callerA [] s (one a o) ⟨[.ref a], []⟩ [.ref a] [.ref a] (fun v _ => v = .bl true) (fun _ _ _ => False) rfl room env (bind s (.ref a)) (.cons rfl .nil) ⟨a, ns, rfl, seq, hl, fun _ => rfl⟩
  refine codeAny_mono main ?_
  rintro (er | fl) t q
  · exact q.elim
  cases fl with
  | ret u =>
    obtain ⟨v, H2, q1, q2, q3, q4, q5, q6⟩ := q
    cases (show v = .bl true from q6)
    cases (show u = .bool true from q5)
    refine ⟨rfl, OldK.of_keep ?_, q1, q2⟩
    intro b ob hb
    cases z : one a o b with
    | none => exact q3.keep b ob hb z (fun m => nomatch m) (fun m => nomatch m)
    | some u =>
      obtain ⟨e1, e2⟩ := one_inv z
      subst e1
      obtain ⟨ob2, xs, rfl⟩ := frz u e2
      have y1 := (hok b _ z).1
      have y2 := (q4 b _ (q3.frzs b _ _ z)).1
      rw [hb] at y1
      cases y1
      exact y2
  | next => exact False.elim q
  | brk => exact False.elim q
  | cont => exact False.elim q
/-- the goal that the head leaves -/
theorem law_end {l : PySem.W.OpenLaw} {n k : Nat} {q : Program} {loose : List Str} {XP : (Str → Option Value) → Heap → Prop} {YP : World → Heap → Prop} {d : DefRec} {K : Params → PySem.W.Frag} {x : Str}
    (most : l.most = some n) (mostle : n ≤ sizeLine) (dfl : d.params.defaults = []) (room : Room k callerA) (inK : ∀ (w : World) (h : Heap), YP w h → (K w.params).In h)
    (G : ∀ (w : World) (mg : Str → Option Value) (fa : Addr) (h : Heap), (K w.params).In h → h.Ns mainGlobals mg → mg d.name = some (.ref fa) →
      ∃ fd : FuncData, (∀ (s : Shared) (u : Value), BindsTo s fd ⟨[u], []⟩ [(x, u)]) ∧ ∀ base : Heap, (K w.params).In base → base.Ns mainGlobals mg → FnG l.prog w (K w.params) mg base CX0 k fa fd [x] (spTrue (K w.params) n)) :
    PySem.W.WalkO q loose XP YP l.row.toRowW d [] (fun f vs => PySem.call f vs) := by
  apply Att.attach_call most dfl
  intro w s₀ s mg mb fa ob pm cd doc a vs ns gr yp g1 g2 g3 g4 g5 g6 g7 g8
  have hK := inK w _ yp
  obtain ⟨fd, bind, G⟩ := G w mg fa _ hK gr.T.g g4
  have hv := vals_ints g6
  have lv := g6.length
  have le : ns.length ≤ sizeLine := Nat.le_trans g7 mostle
  by_cases c : ∃ ob, (K w.params).lookup a = some ob
  · obtain ⟨ob, c⟩ := c
    have e := hK a ob c
    rw [show s.heap.get? a = some (lsO vs) from g5] at e
    cases e
    refine end_run (o := none) hK gr.T.g gr.T.b gr.T.builtins gr.T.nolimit g8 g5 room bind g7 G (fun b u z => by cases (one_inv z).2) (.inr ⟨_, vs.toArray, _, c, rfl, rfl, rfl, ?_, by simpa using hv⟩) (fun z => absurd rfl z) fun u z => nomatch z
    rw [List.size_toArray, lv]
    exact le
  · refine end_run (o := some (.frz (lsO vs) (.lst (ns.map V.int)))) hK gr.T.g gr.T.b gr.T.builtins gr.T.nolimit g8 g5 room bind g7 G (fun b u z => ?_) (.inl (.inr ⟨lsO vs, one_on⟩)) (fun _ => ?_) fun u z => ⟨_, _, (Option.some.inj z).symm⟩
    · obtain ⟨rfl, e⟩ := one_inv z
      cases e
      exact ⟨g5, by rw [List.length_map]; exact le, vs, _, hv, g5⟩
    · cases z : (K w.params).lookup a with
      | none => rfl
      | some ob => exact absurd ⟨ob, z⟩ c
end
end DL
namespace DL
open PySem PySem.Spec L2
/-- rill = _law_rill(script), then what is by data -/
theorem law_go {K : PySem.W.Frag} {N : List Str} {t : DTS} {D : Ends} {Ex : XK} {H : Hp} {a : Addr} {ns : List Int} {j : Nat} (hN : N.length = j + 2) (hS : SqL K H a (ns.map V.int)) (hl : ns.length ≤ 63)
    (hf : t ⟨fun _ _ => False, fun d _ => d = .bool true, fun _ _ => False, fun _ _ => False⟩ (none :: some .rl :: List.replicate j none) N0) (hD : ∀ H', D.rt (.bl true) H') :
    tSeq (tAsg (gCall (spRl K) Ex (tCons (tVar 0) tNil)) (gName 1)) (lS K t) D (L2.start N [.ref a]) H := by
  have hst : L2.start N [.ref a] = some (.ref a) :: List.replicate (j + 1) none := by
    unfold L2.start
    rw [hN]
    rfl
  rw [hst]
  refine ⟨.ref a, rfl, a, ns, rfl, hS, hl, fun r f H' same nr nf ok => ?_⟩
  show lS K t D ((some (V.ref a) :: List.replicate (j + 1) none).set 1 (some (.ref r))) H'
  have nW : ∀ b, inW (some (r, f)) b → H b = none := fun b ⟨r', f', e, h⟩ => by
    cases e
    rcases h with rfl | rfl
    · exact nr
    · exact nf
  refine ⟨⟨some (r, f), H', H, []⟩, N0, none :: some .rl :: List.replicate j none, H, H, _, rfl, ⟨Same.refl _, Same.refl _, same, fun b o e => .inl e, fun b o e _ => e, nW, fun b o e => .inl e, fun r' f' e => ?_, ?_, fun i x e => ?_, fun i k ds es _ e _ => ?_, fun a ha => by cases ha⟩, hf, fun _ _ _ _ _ _ q => q.elim, fun d δ' m v σ' H2 S2 V2 q _ _ rv => ?_, fun _ _ _ _ _ _ q => q.elim, fun _ _ _ _ _ _ q => q.elim⟩
  · cases e; exact ok
  · simp
  · match i, e with
    | 0, e => cases e
    | 1, e => cases e; exact ⟨.ref r, rfl, r, f, rfl, rfl⟩
    | i + 2, e =>
      rw [List.getElem?_cons_succ, List.getElem?_cons_succ, List.getElem?_replicate] at e
      split at e <;> cases e
  · match i, e with
    | 0, e => cases e
    | 1, e => cases e
    | i + 2, e =>
      rw [List.getElem?_cons_succ, List.getElem?_cons_succ, List.getElem?_replicate] at e
      split at e <;> cases e
  · cases q
    cases rv
    exact hD H2
end DL
/-! DL13: a, b = x, y with new lists; x.append(y.pop(e)); a, b = a list. -/
namespace DL
open PySem PySem.Spec L2
section
variable {K : PySem.W.Frag} {g : Gh} {n m : Nat} {δ : DS} {σ : L2.St} {H S Vs : Hp} {p a : Addr} {o : HO}
/-- a list of no slot goes into one -/
theorem SR.tmpOwn {W : Option (Addr × Addr)} {H0 S0 : Hp} {T : List Addr} {xs : List V} {ds : List D} {i : Nat} (h : SR K ⟨W, H0, S0, p :: T⟩ n δ σ H S Vs) (hV : Vs p = some (.lst xs)) (h0 : H0 p = none) (hi : i < δ.length) (hd : DpAll K S xs ds) (hT : p ∉ T) :
    SR K ⟨W, H0, S0, T⟩ n (δ.set i (some (.own ds))) (σ.set i (some (.ref p))) H S Vs := by
  obtain ⟨t1, t2, t3⟩ := h.tmps p List.mem_cons_self
  have hl : i < σ.length := by rw [h.len]; exact hi
  refine ⟨h.S0S, h.SV, h.VH, h.VS, h.base, h.nW, h.fresh, h.rill, by simp [h.len], fun j x e => ?_, fun j k es fs ne e1 e2 => ?_, fun b hb => ?_⟩
  · rcases set_get e with ⟨rfl, rfl⟩ | ⟨hj, e⟩
    · exact ⟨.ref p, by simp [hl], p, xs, rfl, hV, t1, h0, hd⟩
    · obtain ⟨u, q1, q2⟩ := h.slots j x e
      exact ⟨u, by rw [List.getElem?_set_ne hj]; exact q1, by cases x <;> exact q2⟩
  · rcases set_get e1 with ⟨rfl, q1⟩ | ⟨hj, e1⟩
    · rcases set_get e2 with ⟨rfl, q2⟩ | ⟨hk, e2⟩
      · exact absurd rfl ne
      · rw [List.getElem?_set_self hl, List.getElem?_set_ne hk]
        exact fun z => t3 k fs e2 z.symm
    · rcases set_get e2 with ⟨rfl, q2⟩ | ⟨hk, e2⟩
      · rw [List.getElem?_set_self hl, List.getElem?_set_ne hj]
        exact t3 j es e1
      · rw [List.getElem?_set_ne hj, List.getElem?_set_ne hk]
        exact h.apart j k es fs ne e1 e2
  · obtain ⟨q1, q2, q3⟩ := h.tmps b (List.mem_cons_of_mem _ hb)
    refine ⟨q1, q2, fun j fs e => ?_⟩
    rcases set_get e with ⟨rfl, _⟩ | ⟨hj, e⟩
    · rw [List.getElem?_set_self hl]
      intro z
      have : p = b := by cases z; rfl
      exact hT (this ▸ hb)
    · rw [List.getElem?_set_ne hj]
      exact q3 j fs e
end
section
variable {X : Cx} {e a b : Expr} {pos : Pos} {t1 t2 : DTE} {ta tb : DTA} {st : Stmt} {i j : Nat} {b1 b2 : Bool}
def sParEL (i j : Nat) (t : DTE) (u : DTA) : DTS := fun E δ n => t δ n fun d m => u δ m fun es k => i < δ.length ∧ j < δ.length ∧ E.nx ((δ.set i (some (.dat d))).set j (some (.own es))) k
def sParLE (i j : Nat) (u : DTA) (t : DTE) : DTS := fun E δ n => u δ n fun es m => t δ m fun d k => i < δ.length ∧ j < δ.length ∧ E.nx ((δ.set i (some (.own es))).set j (some (.dat d))) k
def sParLL (i j : Nat) (u v : DTA) : DTS := fun E δ n => u δ n fun es m => v δ m fun fs k => i < δ.length ∧ j < δ.length ∧ E.nx ((δ.set i (some (.own es))).set j (some (.own fs))) k
theorem ds_parEL (h : ∀ te, PA X [a, b] te → PS X st (tPar i j te)) (ha : DE X true a t1) (hb : DL X b tb) (hs : starEach (a :: [b]) X.env = (false, eval a X.env) :: starEach [b] X.env := by rfl) (hs2 : starEach (b :: []) X.env = (false, eval b X.env) :: starEach [] X.env := by rfl) : DSt X st (sParEL i j t1 tb) :=
  ⟨PS.imp (h _ (pa_cons ha.run (pa_cons hb.run pa_nil hs2) hs)) fun D σ H ⟨g, n, δ, S, Vs, E, hT, sr, ht, ok⟩ => ⟨g, n, δ, S, Vs, _, sr, ht, fun d m v H1 S1 V1 p1 sr1 q1 q2 r1 =>
    ⟨g, m, δ, S1, V1, _, sr1, p1, fun es k p xs H2 S2 V2 p2 sr2 w1 w2 e1 e2 e3 e4 r2 => ⟨v, .ref p, rfl, ok.1 _ k _ H2 S2 _ p2.2.2 ((sr2.set p2.1 (Dp.mono w1 (show Dp X.K S1 v d from r1))).setO (by rw [List.length_set]; exact p2.2.1) e1 e2 e3 e4 r2) (q1.trans w1)⟩⟩⟩⟩
theorem ds_parLE (h : ∀ te, PA X [a, b] te → PS X st (tPar i j te)) (ha : DL X a ta) (hb : DE X true b t2) (hs : starEach (a :: [b]) X.env = (false, eval a X.env) :: starEach [b] X.env := by rfl) (hs2 : starEach (b :: []) X.env = (false, eval b X.env) :: starEach [] X.env := by rfl) : DSt X st (sParLE i j ta t2) :=
  ⟨PS.imp (h _ (pa_cons ha.run (pa_cons hb.run pa_nil hs2) hs)) fun D σ H ⟨⟨W, H0, S0, T⟩, n, δ, S, Vs, E, hT, sr, ht, ok⟩ => by
    cases (show T = [] from hT)
    exact ⟨_, n, δ, S, Vs, _, sr, ht, fun es m p xs H1 S1 V1 p1 sr1 q1 q2 e1 e2 e3 e4 r1 =>
      ⟨⟨W, H0, S0, [p]⟩, m, δ, S1, upd V1 p (.lst xs), _, sr1.withTmp e1 e2 e3 e4, p1, fun d k v H2 S2 V2 p2 sr2 w1 w2 r2 => ⟨.ref p, v, rfl, ok.1 _ k _ H2 S2 _ p2.2.2 ((sr2.tmpOwn (w2 _ _ upd_same) e3 p2.1 (DpAll.mono w1 r1) (by simp)).set (by rw [List.length_set]; exact p2.2.1) (show Dp X.K S2 v d from r2)) (q1.trans w1)⟩⟩⟩⟩
theorem ds_parLL (h : ∀ te, PA X [a, b] te → PS X st (tPar i j te)) (ha : DL X a ta) (hb : DL X b tb) (hs : starEach (a :: [b]) X.env = (false, eval a X.env) :: starEach [b] X.env := by rfl) (hs2 : starEach (b :: []) X.env = (false, eval b X.env) :: starEach [] X.env := by rfl) : DSt X st (sParLL i j ta tb) :=
  ⟨PS.imp (h _ (pa_cons ha.run (pa_cons hb.run pa_nil hs2) hs)) fun D σ H ⟨⟨W, H0, S0, T⟩, n, δ, S, Vs, E, hT, sr, ht, ok⟩ => by
    cases (show T = [] from hT)
    exact ⟨_, n, δ, S, Vs, _, sr, ht, fun es m p xs H1 S1 V1 p1 sr1 q1 q2 e1 e2 e3 e4 r1 =>
      ⟨⟨W, H0, S0, [p]⟩, m, δ, S1, upd V1 p (.lst xs), _, sr1.withTmp e1 e2 e3 e4, p1, fun fs k p' ys H2 S2 V2 p2 sr2 w1 w2 f1 f2 f3 f4 r2 => ⟨.ref p, .ref p', rfl, ok.1 _ k _ H2 S2 _ p2.2.2 ((sr2.tmpOwn (w2 _ _ upd_same) e3 p2.1 (DpAll.mono w1 r1) (by simp)).setO (by rw [List.length_set]; exact p2.2.1) f1 f2 f3 f4 r2) (q1.trans w1)⟩⟩⟩⟩
/-- x.append(y.pop(e)), both own lists -/
def sAppPop (i j : Nat) (t : DTE) : DTS := fun E δ n => ∃ ds es, δ[i]? = some (some (.own ds)) ∧ δ[j]? = some (some (.own es)) ∧ i ≠ j ∧ ds.length < sizeLine ∧
  t δ n fun d m => ∃ k : Nat, d = .int (k : Int) ∧ k < 1073741824 ∧ ∃ z, es[k]? = some z ∧ E.nx ((δ.set j (some (.own (es.eraseIdx k)))).set i (some (.own (ds ++ [z])))) m
theorem DpAll.erase {K : PySem.W.Frag} {H : Hp} : ∀ {ds : List D} {vs : List V} (k : Nat), DpAll K H vs ds → DpAll K H (vs.eraseIdx k) (ds.eraseIdx k)
  | _, _, _, .nil => .nil
  | _, _, 0, .cons _ t => t
  | _, _, k + 1, .cons h t => by
    rw [List.eraseIdx_cons_succ, List.eraseIdx_cons_succ]
    exact .cons h (DpAll.erase k t)
theorem seqK {n k : Nat} (h : k < n) : seqIndex? (k : Int) n = some k := (ixN_seq (n := n) (i := (k : Int)) (j := k) (by unfold ixN; rw [if_pos (by omega), if_pos (by omega)]; rfl)).1
theorem ds_appPop {x y : Str} {p p2 apos cpos spos bpos dpos : Pos} (hx : PE X (.Name x p) (tVar i)) (hy : PE X (.Name y p2) (tVar j)) (he : DE X b1 e t1)
    (h : ∀ {to : TE} {t : TA}, PE X (.Name x p) to → PA X [.Call (.Attribute (.Name y p2) "pop" bpos) [e] [] dpos] t → PE X (.Call (.Attribute (.Name x p) "append" apos) [.Call (.Attribute (.Name y p2) "pop" bpos) [e] [] dpos] [] cpos) (tBM X.K "list" rAppend to t))
    (h2 : ∀ {to : TE} {t : TA}, PE X (.Name y p2) to → PA X [e] t → PE X (.Call (.Attribute (.Name y p2) "pop" bpos) [e] [] dpos) (tBM X.K "list" rPopAt to t))
    (hs : swapsWith (.Call (.Attribute (.Name x p) "append" apos) [.Call (.Attribute (.Name y p2) "pop" bpos) [e] [] dpos] [] cpos) none spos.line X.env = pure false := by rfl)
    (hs2 : starEach (e :: []) X.env = (false, eval e X.env) :: starEach [] X.env := by rfl) (hs3 : starEach ((.Call (.Attribute (.Name y p2) "pop" bpos) [e] [] dpos) :: []) X.env = (false, eval (.Call (.Attribute (.Name y p2) "pop" bpos) [e] [] dpos) X.env) :: starEach [] X.env := by rfl) :
    DSt X (.Expr (.Call (.Attribute (.Name x p) "append" apos) [.Call (.Attribute (.Name y p2) "pop" bpos) [e] [] dpos] [] cpos) spos) (sAppPop i j t1) :=
  ⟨PS.imp (ps_expr (h hx (pa_cons (h2 hy (pa_cons he.run pa_nil hs2)) pa_nil hs3)) hs) fun D σ H ⟨g, n, δ, S, Vs, E, hT, sr, ⟨ds, es, ei, ej, ne, hz, ht⟩, ok⟩ => by
    obtain ⟨v, ev, a, xs, rfl, ea, as, ah, ad⟩ := sr.slots i _ ei
    obtain ⟨w, ew, b, ys, rfl, eb, bs, bh, bd⟩ := sr.slots j _ ej
    have nab : a ≠ b := fun z => sr.apart i j ds es ne ei ej (by rw [ev, ew, z])
    refine ⟨_, ev, .inl ⟨rfl, xs, SqL.of (sr.VH _ _ ea)⟩, _, ew, .inl ⟨rfl, ys, SqL.of (sr.VH _ _ eb)⟩, g, n, δ, S, Vs, _, sr, ht, fun d m u H' S' Vs' q sr' q1 q2 r => ?_⟩
    obtain ⟨k, rfl, hk, z, hzk, q⟩ := q
    have r' := Rp.dp r sr'.SV
    cases r'
    have bd' := DpAll.mono q1 bd
    obtain ⟨zv, z1, z2⟩ := bd'.get' hzk
    have hkl : k < ys.length := (List.getElem?_eq_some_iff.mp z1).1
    refine ⟨b, ys, k, k, zv, rfl, rfl, sr'.VH _ _ (q2 _ _ eb), by omega, by omega, seqK hkl, z1, ?_⟩
    have sr2 := sr'.mut (es := es.eraseIdx k) ej ew (bd'.erase k)
    have ei2 : (δ.set j (some (.own (es.eraseIdx k))))[i]? = some (some (.own ds)) := by rw [List.getElem?_set_ne (Ne.symm ne)]; exact ei
    have hxs : (upd H' b (.lst (ys.eraseIdx k))) a = some (.lst xs) := by rw [upd_ne nab]; exact sr'.VH _ _ (q2 _ _ ea)
    refine ⟨a, xs, zv, rfl, rfl, hxs, by rw [ad.length]; exact hz, ?_⟩
    exact ok.1 _ m _ _ S' _ q (sr2.mut ei2 ev ((DpAll.mono q1 ad).append (.cons z2 .nil))) q1⟩
/-! ### a list taken apart -/
def gLs (γs : DTGs) : DTG := fun d δ P => ∃ ds, d = .list ds ∧ γs ds δ P
theorem gs_lst {K : PySem.W.Frag} {is : List Nat} {g1 : TGs} {n : Nat} {γs : DTGs} (q1 : GsSem K g1 is n γs) : GSem K (gLst K n g1) is (gLs γs) :=
  fun gh m δ σ H S Vs d v P Q sr hd ⟨ds, e1, hp⟩ k => by
    subst e1
    cases hd with
    | lst h1 h2 =>
      have q := q1 gh m δ σ H S Vs ds _ P Q sr h2 hp k
      exact ⟨_, _, rfl, SqL.of (sr.SH _ _ h1), h2.length.trans q.1, q.2⟩
end
end DL
/-! DL14: index; chained comparisons; constants; sums, least and greatest of whole numbers. -/
namespace DL
open PySem PySem.Spec L2
section
variable {X : Cx} {K : PySem.W.Frag} {e a b c : Expr} {pos p2 p : Pos} {t1 t2 t3 : DTE} {b1 b2 b3 : Bool}
/-- the first place of an equal one -/
def firstAt (ds : List D) (x : D) : Nat := (ds.map fun z => PyData.eqv z x).idxOf true
def rIdxT (K : PySem.W.Frag) : V → List V → Hp → VK → Prop := fun x xs H Q => ∃ (a : Addr) (y : V) (d : D) (ds : List D), x = V.ref a ∧ xs = [y] ∧ L2.Dp K H (V.ref a) (.tuple ds) ∧ L2.Dp K H y d ∧
  SeqAt.shaped (.tuple ds) = true ∧ SeqAt.shaped d = true ∧ true ∈ (ds.map fun z => PyData.eqv z d) ∧ Q (.int (firstAt ds d : Nat)) H
theorem mt_idxT (hu : X.A.units + 65 < cLine) : MtR X "tuple.index" (rIdxT X.K) := by
  intro pins s σ H x xs v us Q I rx rxs h
  obtain ⟨a, y, d, ds, rfl, rfl, hl, hy, sl, sd, hm, q⟩ := h
  cases rx
  cases rxs with
  | cons ry rt =>
    rename_i uy ut
    cases rt
    obtain ⟨bs, r1⟩ := L2.Dp.reads I d y uy hy ry
    have hxs : PyData.canLayAll0 ds = true := shaped_tl sl
    have hroom : X.A.units + 1 + min (PyData.depthAll ds) d.depth < cLine := by
      unfold SeqAt.shaped at sd
      have h2 := of_decide_eq_true (Bool.and_eq_true_iff.mp sd).2
      have h3 : min (PyData.depthAll ds) d.depth ≤ d.depth := Nat.min_le_right _ _
      omega
    cases hl with
    | tup hs ha =>
      obtain ⟨its, rv, pl, hz⟩ := I.tuple hs
      obtain ⟨as, h4⟩ := L2.Dp.readsAll I ds _ its ha rv
      have hmap : its.map (SeqAt.readOf s.heap) = ds := SeqAt.readsAll_map ds its as hxs h4
      have hlen : its.length = (ds.map fun z => PyData.eqv z d).length := by rw [List.length_map, ← hmap, List.length_map]
      refine SeqAt.call_tuple_index (ks := ds.map fun z => PyData.eqv z d) (k := true) pl ⟨hlen, fun j h1 h2 => ?_⟩ hm ⟨.int (firstAt ds d : Nat), H, I.tok _, ⟨_, rfl⟩, q⟩
      have hq := SeqAt.items_eqAt (vs := its.toArray) (show ReadsAll s.heap its.toArray.toList ds as from h4) r1 hxs (SeqAt.canLay_of_shaped sd) hroom its[j] (by simp)
      have e1 : decide ((ds.map fun z => PyData.eqv z d)[j] = true) = PyData.eqv (SeqAt.readOf s.heap its[j]) d := by
        have : ds[j]'(by simpa using h2) = SeqAt.readOf s.heap its[j] := by
          have := congrArg (fun l => l[j]?) hmap
          simp only [List.getElem?_map, List.getElem?_eq_getElem h1, Option.map_some] at this
          rw [List.getElem?_eq_getElem (by simpa using h2)] at this
          exact (Option.some.inj this).symm
        rw [List.getElem_map, this]
        cases PyData.eqv (SeqAt.readOf s.heap its[j]) d <;> rfl
      rw [e1]
      exact hq
/-! ### constants of the module -/
theorem de_glob {x : Str} {v : V} {u : Value} {d : D} (hg : Gl X x) (hm : X.mg x = some u) (r : RelV v u) (sc : Sc d v) (hd : (x == ("__debug__" : Str)) = false := by decide) : DE X true (.Name x pos) (dC d) := de_c (pe_glob hg hm r hd) sc
theorem de_globI {x : Str} {i : Int} {t : Tok} (hg : Gl X x) (hm : X.mg x = some (.int i t)) (hd : (x == ("__debug__" : Str)) = false := by decide) : DE X true (.Name x pos) (dC (.int i)) := de_glob (v := .int i) hg hm ⟨t, rfl⟩ (sc_int i) hd
theorem de_globS {x : Str} {i : Str} {t : Tok} (hg : Gl X x) (hm : X.mg x = some (.str i t)) (hd : (x == ("__debug__" : Str)) = false := by decide) : DE X true (.Name x pos) (dC (.str i)) := de_glob (v := .str i) hg hm ⟨t, rfl⟩ (sc_str i) hd
/-! ### a < b < c -/
def dChain (g g' : G2) (t1 t2 t3 : DTE) : DTE := fun δ n Q => t1 δ n fun x m => t2 δ m fun y k => g x y fun d => ∃ c, d = .bool c ∧ if c = true then t3 δ k fun z l => g' y z fun d => Q d l else Q (.bool false) k
theorem chain_imp {g g' : G2} {r r' : R2} (hs : Sem2S X.K r g) (hs' : Sem2S X.K r' g') {σ : L2.St} {H : Hp} {Q : VK} (h : lE X.K true (dChain g g' t1 t2 t3) σ H Q) : tChain r r' (lE X.K b1 t1) (lE X.K b2 t2) (lE X.K b3 t3) σ H Q := by
  obtain ⟨gh, n, δ, S, Vs, P, sr, ht, k⟩ := h
  refine ⟨gh, n, δ, S, Vs, _, sr, ht, fun d m v H' S' Vs' p sr' s1 s2 rp => ⟨gh, m, δ, S', Vs', _, sr', p, fun d2 m2 v2 H2 S2 V2 p2 sr2 q1 q2 rp2 => ?_⟩⟩
  refine hs V2 H2 v v2 d d2 _ _ (Dp.mono q2 (Rp.dp rp sr'.SV)) (Rp.dp rp2 sr2.SV) sr2.VH p2 fun d3 v3 ⟨c, e3, p3⟩ o => ?_
  subst e3
  cases o X.K H2
  refine ⟨c, rfl, ?_⟩
  cases c with
  | false =>
    rw [if_neg Bool.false_ne_true] at p3 ⊢
    exact k _ m2 _ H2 S2 V2 p3 sr2 (s1.trans q1) (s2.trans q2) (.bl false)
  | true =>
    rw [if_pos rfl] at p3 ⊢
    refine ⟨gh, m2, δ, S2, V2, _, sr2, p3, fun d4 m4 v4 H4 S4 V4 p4 sr4 w1 w2 rp4 => ?_⟩
    exact hs' V4 H4 v2 v4 d2 d4 _ Q (Dp.mono w2 (Rp.dp rp2 sr2.SV)) (Rp.dp rp4 sr4.SV) sr4.VH p4 fun d5 v5 p5 o => k d5 m4 v5 H4 S4 V4 p5 sr4 ((s1.trans q1).trans w1) ((s2.trans q2).trans w2) (o _ _)
theorem de_chain {op op' : CmpOp} {g g' : G2} (hg : CmpD X op g) (hg' : CmpD X op' g') (ha : DE X b1 a t1) (hb : DE X b2 b t2) (hc : DE X b3 c t3) (hm : lastMarks [op, op'] [b, c] = false := by with_unfolding_all rfl) : DE X true (.Compare a [op, op'] [b, c] pos) (dChain g g' t1 t2 t3) := by
  obtain ⟨r, ho, hs⟩ := hg.ex
  obtain ⟨r', ho', hs'⟩ := hg'.ex
  exact ⟨PE.imp (pe_chain ho ho' ha.run hb.run hc.run hm) fun σ H Q h => chain_imp hs hs' h⟩
theorem dt_chain {op op' : CmpOp} {g g' : G2} (hg : CmpD X op g) (hg' : CmpD X op' g') (ha : DE X b1 a t1) (hb : DE X b2 b t2) (hc : DE X b3 c t3) (hm : lastMarks [op, op'] [b, c] = false := by with_unfolding_all rfl) : DT X (.Compare a [op, op'] [b, c] pos) (dB (dChain g g' t1 t2 t3)) := by
  obtain ⟨r, ho, hs⟩ := hg.ex
  obtain ⟨r', ho', hs'⟩ := hg'.ex
  refine ⟨PT.imp (pt_chain ho ho' ha.run hb.run hc.run hm) fun σ H Q ⟨gh, n, δ, S, Vs, P, sr, ht, k⟩ => ?_⟩
  exact chain_imp hs hs' ⟨gh, n, δ, S, Vs, _, sr, ht, fun d m v H' S' Vs' ⟨c, e, p⟩ sr' s1 s2 rp => by
    subst e
    cases (show Dp X.K S' v (.bool c) from rp)
    exact ⟨c, rfl, k c m H' S' Vs' p sr' s1 s2⟩⟩
/-! ### tuple(range(..)) -/
def dTRg (tr : DS → Nat → (Int → Int → Nat → Prop) → Prop) : DTE := fun δ n Q => aRg tr δ n fun ds m => Q (.tuple ds) m
theorem de_tRg {tr : DS → Nat → (Int → Int → Nat → Prop) → Prop} (hc : X.calm = true) (hg : Gl X "tuple") (hm : X.mg "tuple" = none) (he : DRg X a tr) (na : starEach [a] X.env = (false, eval a X.env) :: starEach [] X.env := by rfl) :
    DE X true (.Call (.Name "tuple" p) [a] [] pos) (dTRg tr) := de_tupRg hc hg hm he na
end
section
variable {g g' : G2} {t1 t2 t3 : DTE} {δ : DS} {n : Nat} {Q : D → Nat → Prop} {tr : DS → Nat → (Int → Int → Nat → Prop) → Prop} {i j : Nat} {u v : DTA} {t : DTE} {E : DEnds} {γs : DTGs} {ds : List D} {R : DS → Prop}
theorem x_chain : dChain g g' t1 t2 t3 δ n Q = t1 δ n fun x m => t2 δ m fun y k => g x y fun d => ∃ c, d = .bool c ∧ if c = true then t3 δ k fun z l => g' y z fun d => Q d l else Q (.bool false) k := rfl
theorem x_tRg : dTRg tr δ n Q = aRg tr δ n fun ds m => Q (.tuple ds) m := rfl
theorem x_parEL : sParEL i j t u E δ n = t δ n fun d m => u δ m fun es k => i < δ.length ∧ j < δ.length ∧ E.nx ((δ.set i (some (.dat d))).set j (some (.own es))) k := rfl
theorem x_parLE : sParLE i j u t E δ n = u δ n fun es m => t δ m fun d k => i < δ.length ∧ j < δ.length ∧ E.nx ((δ.set i (some (.own es))).set j (some (.dat d))) k := rfl
theorem x_parLL : sParLL i j u v E δ n = u δ n fun es m => v δ m fun fs k => i < δ.length ∧ j < δ.length ∧ E.nx ((δ.set i (some (.own es))).set j (some (.own fs))) k := rfl
theorem x_gLs : gLs γs (.list ds) δ R = γs ds δ R := propext ⟨fun ⟨_, e, h⟩ => by cases e; exact h, fun h => ⟨_, rfl, h⟩⟩
end
end DL
/-! DX: own exceptions whose maker hands its argument on to the base's and keeps it. -/
namespace DX
open PySem PySem.W PySem.Calls PyProof.Rows PySem.HandSPX
/-- the maker's text: self and p; super().__init__(p); self.f = p -/
def mkA (p : Str) (a1 a2 : Pos) : Arguments := { posonlyargs := [], args := [{ arg := "self", annotation := none, pos := a1 }, { arg := p, annotation := none, pos := a2 }], vararg := none, kwonlyargs := [], kw_defaults := [], kwarg := none, defaults := [] }
def mkB (p f : Str) (b1 b2 b3 b4 b5 b6 b7 b8 b9 b0 : Pos) : List Stmt := [.Expr (.Call (.Attribute (.Call (.Name "super" b1) [] [] b2) "__init__" b3) [.Name p b4] [] b5) b6, .Assign [.Attribute (.Name "self" b7) f b8] (.Name p b9) b0]
def mkS (p : Str) : Scope := { kind := .function, names := [("self", .local), (p, .local), ("__class__", .free), ("super", .globalImplicit)], isGenerator := false, isCoroutine := false, more := [] }
/-- what the written part says of the class at C, its maker at fI; p the maker's argument, f the field -/
structure ExT (P : Program) (K : Frag) (mg : Str → Option Value) (C fI : Addr) (nm p f : Str) : Prop where
  gC : mg nm = some (.ref C)
  gs : mg "super" = none
  cls : ∃ n q N bs bm sn sub ab col dd k0 k1 k2 k3 k5, K.lookup C = some (excClassObj n q C N bs bm true sn sub ab col dd k0 k1 k2 k3 k5 "ValueError.__new__") ∧ refsVE bm = true ∧ alongIn K "__init__" bm = some (some (.builtin "ValueError.__init__"))
  q0 : excInitIn K C [.type "ValueError", .type "Exception", .type "BaseException", .type "object"] "ValueError.__new__" = true
  sa : findIn K (.ref C) "__setattr__" = some (some (.builtin "object.__setattr__"))
  noN : findIn K (.ref C) f = some none
  iC : findIn K (.ref C) "__init__" = some (some (.ref fI))
  tC : typeIn K (.ref fI) = some (.type "function")
  kC : keepIn K (.ref C) = true
  op : nsIn K cStatics "thirdparty.any" = some none
  sB : subIn K (.ref C) (.type "ValueError") = some true
  sC : mroIn K C (.ref C) = some true
  top : (P.main.scope.names.lookup ("super" : Str)).isSome = false
  ls : (mkS p).names.lookup ("super" : Str) = some .globalImplicit
  lc : (mkS p).names.lookup ("__class__" : Str) = some .free
  lp : (mkS p).names.lookup p = some .local
  nc : ∀ x ∈ (mkS p).names, x.2 ≠ .cell
  np : p ≠ "self"
  nd : (p == ("__debug__" : Str)) = false
  fn : ∃ (oc : Value) (od : Option Addr) (q : Str) (doc pm : Value) (an : Option Addr) (cda cc : Addr) (ct : Value) (osl : Array (Option Value)) (a1 a2 b1 b2 b3 b4 b5 b6 b7 b8 b9 b0 : Pos),
    K.lookup fI = some ⟨oc, od, .func (fnX "__init__" q (mkA p a1 a2) (mkB p f b1 b2 b3 b4 b5 b6 b7 b8 b9 b0) (mkS p) [("__class__", cc)] .none .none doc pm an (.ref cda) ct), osl⟩ ∧ codeIn K (.ref cda) q = true ∧
      (∀ a b : Value, bindArgs (fnX "__init__" q (mkA p a1 a2) (mkB p f b1 b2 b3 b4 b5 b6 b7 b8 b9 b0) (mkS p) [("__class__", cc)] .none .none doc pm an (.ref cda) ct) ⟨[a, b], []⟩ = pure [(("self" : Str), a), (p, b)]) ∧
      (∀ env : Env, ∃ pl : Sem Bool, eval (.Call (.Attribute (.Call (.Name "super" b1) [] [] b2) "__init__" b3) [.Name p b4] [] b5) env = (do
        let ov ← attributeBase (.Call (.Name "super" b1) [] [] b2) "__init__" env (eval (.Call (.Name "super" b1) [] [] b2) env)
        standAt b3.atName
        let (g, first) ← holding [ov] (getMethod ov "__init__" pl)
        callWith b5 g first (backTo b5 (starEach [.Name p b4] env)) [])) ∧
      (∃ ccl cdd vs ccs file tf, K.lookup cda = some ⟨ccl, cdd, .fields vs, ccs⟩ ∧ vs[2]? = some (.str file tf) ∧ ((P.main.file : Str) == file) = true) ∧ ∃ cl cld csl, K.lookup cc = some ⟨cl, cld, .cell (some (.ref C)), csl⟩
structure InitEnd (h h' : Heap) (x C dx t1 : Addr) (f : Str) (v : Value) : Prop where
  keep : ∀ b o, b ≠ x → h.get? b = some o → h'.get? b = some o
  obj : h'.get? x = some { cls := .ref C, dict := some dx, data := .fields #[.ref t1, .none, .none, .none, .bool false, .none] }
  dbig : h.objs.size ≤ dx
  dne : dx ≠ x
  ns : h'.Ns1 dx (fun y => if y = f then some v else none)
section
variable {prog : Program} {w : World} {A : Around} {E : Value → Shared → Prop} {R : Result → Shared → Prop} {s : Shared} {K : Frag} {mg mb : Str → Option Value} {C fI : Addr} {nm p f : Str}
theorem init_run (T : ExT prog K mg C fI nm p f) {hp : Heap} {x t0 : Addr} {v : Value} (X : K.In hp) (k0 : ∀ b o, hp.get? b = some o → s.heap.get? b = some o) (hpn : hp.get? x = none) (hz : hp.objs.size ≤ s.heap.objs.size) (n1 : hp.Ns mainGlobals mg) (n2 : hp.Ns builtinsNs mb) (n3 : ∀ x : Str, x ≠ "__name__" → mb x = bootBuiltins x) (n4 : hp.NoLimit)
    (hx : s.heap.get? x = some (excO C t0)) (hroom : A.depth < recursionLimit)
    (hq : ∀ h' tk dx t1, InitEnd hp h' x C dx t1 f v → R (.ok (.ret .none)) { s with heap := h', toks := tk }) :
    codeAny (model prog w) A (.call (.ref fI) ⟨[.ref x, v], []⟩) R s := by
  obtain ⟨oc, od, q, doc, pm, an, cda, cc, ct, osl, a1, a2, b1, b2, b3, b4, b5, b6, b7, b8, b9, b0, ho, hcd, hbind, hev, ⟨ccl, cdd, vs, ccs, file, tf, hco, hvs, hfile⟩, cl, cld, csl, hcell⟩ := T.fn
  obtain ⟨n, q', N, bs, bm, sn, sub, ab, col, dd, y0, y1, y2, y3, y5, hC, hbm, hal⟩ := T.cls
  have Xs : K.In s.heap := X.keeps k0
  have hcl : clsIn K C = some { name := n, bases := bs, mro := .ref C :: bm, ns := N, qualname := q', hasDict := true, slotNames := sn, subclasses := sub, abstract := ab, collection := col, hasDel := false } := by unfold clsIn; rw [hC] <;> rfl
  refine ks_codeAny_call_defAt (binds := [(("self" : Str), .ref x), (p, v)]) hroom (Xs _ _ ho) rfl (n4.keeps k0) (codeRec_of Xs hcd) rfl (.of_eq (hbind _ _)) T.nc (fun y hy => ?_) (fun h₁ hns hk₁ => ?_)
  · rcases List.mem_cons.mp hy with rfl | hy
    · rfl
    · rw [List.mem_singleton.mp hy]; exact T.lp
  have k1 : ∀ b o, hp.get? b = some o → h₁.get? b = some o := fun b o e => hk₁ b o (k0 b o e)
  have X1 : K.In h₁ := X.keeps k1
  have hx1 := hk₁ _ _ hx
  have xne : x ≠ s.heap.objs.size := Nat.ne_of_lt (Heap.lt_size hx)
  have I1 : InstAt h₁ x (excO C t0) C none := ⟨hx1, rfl, rfl, trivial⟩
  have mself : (fun y => [(("self" : Str), Value.ref x), (p, v)].reverse.lookup y) "self" = some (.ref x) := by
    show List.lookup ("self" : Str) [(p, v), ("self", .ref x)] = _
    have : (("self" : Str) == p) = false := beq_eq_false_iff_ne.mpr (Ne.symm T.np)
    simp [List.lookup, this]
  have mp : (fun y => [(("self" : Str), Value.ref x), (p, v)].reverse.lookup y) p = some v := by
    show List.lookup p [(p, v), ("self", .ref x)] = _
    simp [List.lookup]
  obtain ⟨oD, hD1, hD2⟩ : ∃ oD, h₁.get? C = some oD ∧ ∃ cd, oD.data = .cls cd := ⟨_, X1 _ _ hC, _, rfl⟩
  obtain ⟨cdD, hD2⟩ := hD2
  -- super().__init__(p)
  obtain ⟨pl, hev⟩ := hev (callEnv (fnX "__init__" q (mkA p a1 a2) (mkB p f b1 b2 b3 b4 b5 b6 b7 b8 b9 b0) (mkS p) [("__class__", cc)] .none .none doc pm an (.ref cda) ct) s.heap.objs.size fI)
  refine ks_wpAt_execs_cons (ks_wpAt_Expr_any (ks_wpAt_MethodCall (pl := pl) (ks_wpAt_super_base T.ls T.lc rfl rfl (X1 _ _ ho) rfl rfl rfl (X1 _ _ hco) rfl hvs hfile T.top ?_) hev))
  refine ks_loadName_global rfl T.ls (loadGlobal_builtin (n1.keeps k1) T.gs (n2.keeps k1) ((n3 _ (by decide +kernel)).trans (by decide +kernel)) ⟨rfl, ?_⟩)
  refine wpAny_loadName_free rfl T.lc rfl ⟨_, X1 _ _ hcell, rfl⟩ ?_
  refine wpAny_loadName_local rfl rfl hns mself ?_
  refine ks_wpAny_isType_cls hD1 hD2 ⟨rfl, ?_⟩
  refine ks_wpAny_call_super hD1 hD2 hx1 rfl (fun c e => by cases e) (looks_mroIn X1 T.sC) (fun h2 hso k2 => ?_)
  have X2 : K.In h2 := X1.keeps k2
  have hx2 := k2 _ _ hx1
  have I2 : InstAt h2 x (excO C t0) C none := ⟨hx2, rfl, rfl, trivial⟩
  have hxC : x ≠ C := fun z => by rw [z, X _ _ hC] at hpn; cases hpn
  have hL : s.heap.objs.size < h2.objs.size := by
    obtain ⟨oL, _, _, e, _⟩ := hns
    exact Heap.lt_size (k2 _ _ e)
  refine kxs_getMethod kxs_ValueError hso (looks_opaque X2 T.op) (l₀ := .ref C :: bm) (fun A Q E s k q => wpAny_bind ((looks_clsIn X2 hcl) A _ E s k (wpAny_pure q))) (l := bm) (by simp [List.dropWhile_cons]) X2 hal (I2.type.andThen (looks_subIn X2 T.sB)) hxC rfl ?_
  have k3 : ∀ b o, h2.get? b = some o → (h2.push (kxs_mw "ValueError.__init__" x)).get? b = some o := fun b o e => Heap.get?_push_of_some _ e
  have hmw : (h2.push (kxs_mw "ValueError.__init__" x)).get? h2.objs.size = some (kxs_mw "ValueError.__init__" x) := Heap.get?_push_size _ rfl
  generalize hh3 : h2.push (kxs_mw "ValueError.__init__" x) = h3 at k3 hmw
  have hns3 : h3.Ns s.heap.objs.size (fun y => [(("self" : Str), Value.ref x), (p, v)].reverse.lookup y) := hns.keeps fun b o e => k3 b o (k2 b o e)
  have kp3 : ∀ b o, hp.get? b = some o → h3.get? b = some o := fun b o e => k3 b o (k2 b o (k1 b o e))
  have F3 : Fr hp s.heap.objs.size h3 (fun y => [(("self" : Str), Value.ref x), (p, v)].reverse.lookup y) := ⟨hns3, kp3, hz⟩
  have none_of : ∀ b, hp.objs.size ≤ b → hp.get? b = none := fun b hb => by
    cases z : hp.get? b with
    | none => rfl
    | some o => exact absurd (Heap.lt_size z) (Nat.not_lt.mpr hb)
  have N3 : News hp s.heap.objs.size h3 [(h2.objs.size, kxs_mw "ValueError.__init__" x), (x, excObj C t0 none .none)] := by
    intro r hr
    rcases List.mem_cons.mp hr with rfl | hr
    · exact ⟨hmw, Nat.ne_of_gt hL, none_of _ (Nat.le_trans hz (Nat.le_of_lt hL))⟩
    · rw [List.mem_singleton.mp hr]
      exact ⟨k3 _ _ hx2, xne, hpn⟩
  have xu : h2.objs.size ≠ x := Nat.ne_of_gt (Heap.lt_size hx2)
  refine kxs_callWith1 N3 List.mem_cons_self ?_
  refine spliced_cons (wpAny_Name (wpAny_loadName_local rfl T.lp hns3 mp (spliced_nil ⟨hmw, ?_⟩)) T.nd)
  refine kxs_call (rest := [v]) F3 X N3 F.excBase_ValueError T.q0 List.mem_cons_self (.tail xu (.head fun r hr => by cases hr)) (by rw [sizeLine_eq]; exact (by decide : 1 ≤ 16777216)) fun t1 h4 F4 N4 l4 => ?_
  -- self.f = p
  refine ks_wpAt_execs_cons (ks_wpAt_Assign_Attr ?_)
  have X4 : K.In h4 := X.keeps F4.keep
  have hx4 : h4.get? x = some (excO C t1) := (N4 (x, excObj C t1 none .none) (by simp)).1
  refine wpAt_of_wpAny (wpAny_Name (wpAny_loadName_local rfl T.lp F4.ns mp ?_) T.nd)
  refine wpAny_Name (wpAny_loadName_local rfl rfl F4.ns mself ?_) (by decide)
  refine set_plain X4 (ox := excO C t1) (od := none) ⟨hx4, rfl, rfl, trivial⟩ T.sa ?_
  refine exc_osa X4 hx4 hcl (show refsVE (.ref C :: bm) = true from hbm) rfl T.noN (fun h5 tk5 dx k5 dn dne hx5 hn5 => ?_)
  refine wpAt_of_wpAny (wpAny_execs_nil ?_)
  exact hq h5 tk5 dx t1 ⟨fun b o hb e => k5 b o hb (F4.keep b o e), hx5, Nat.le_trans hz (Nat.le_trans (Nat.le_of_lt F4.ns.lt) dn), dne, hn5⟩
structure OwnMade (h h' : Heap) (e C d : Addr) (f : Str) (v : Value) : Prop where
  keep : ∀ b o, h.get? b = some o → h'.get? b = some o
  new : h.objs.size ≤ e
  obj : ∃ oe vs, h'.get? e = some oe ∧ oe.cls = .ref C ∧ oe.dict = some d ∧ oe.data = .fields vs ∧ vs[1]? = some .none
  dbig : h.objs.size ≤ d
  dne : d ≠ e
  ns : h'.Ns1 d (fun y => if y = f then some v else none)
/-- the class called -/
theorem made (T : ExT prog K mg C fI nm p f) {v : Value} (X : K.In s.heap) (n1 : s.heap.Ns mainGlobals mg) (n2 : s.heap.Ns builtinsNs mb) (n3 : ∀ x : Str, x ≠ "__name__" → mb x = bootBuiltins x) (n4 : s.heap.NoLimit) (hroom : A.depth + 1 < recursionLimit)
    (hq : ∀ h' tk e d, OwnMade s.heap h' e C d f v → R (.ok (.ret (.ref e))) { s with heap := h', toks := tk }) :
    codeAny (model prog w) A (.call (.ref C) ⟨[v], []⟩) R s := by
  obtain ⟨n, q', N, bs, bm, sn, sub, ab, col, dd, y0, y1, y2, y3, y5, hC, hbm, hal⟩ := T.cls
  obtain ⟨hp, g, dr, tk, os⟩ := s
  have k : ∀ b o, hp.get? b = some o → ((hp.push (kdv_tup [v])).push (excO C hp.objs.size)).get? b = some o := fun b o e => Heap.get?_push_of_some _ (Heap.get?_push_of_some _ e)
  have hget : ((hp.push (kdv_tup [v])).push (excO C hp.objs.size)).get? (hp.objs.size + 1) = some (excO C hp.objs.size) := by heap_get
  have big : ∀ b, hp.objs.size ≤ b → hp.get? b = none := fun b hb => by
    cases z : hp.get? b with
    | none => rfl
    | some o => exact absurd (Heap.lt_size z) (Nat.not_lt.mpr hb)
  refine call_own F.excBase_ValueError (fun X => refsVE_contains X bm hbm) (X _ _ hC) (looks_findIn X T.iC) (fun self => bind_fn X self T.tC) (by rw [sizeLine_eq]; exact (by decide : 1 ≤ 16777216)) ?_
  refine init_run (s := ⟨(hp.push (kdv_tup [v])).push (excO C hp.objs.size), g, dr, tk, os⟩) T X k (big _ (Nat.le_succ _)) (by simp only [Heap.size_push]; omega) n1 n2 n3 n4 hget hroom fun h' tk' dx t1 M => ?_
  exact ⟨rfl, hq h' tk' (hp.objs.size + 1) dx ⟨fun b o e => M.keep b o (Nat.ne_of_lt (Nat.lt_succ_of_lt (Heap.lt_size e))) e, Nat.le_succ _, ⟨_, _, M.obj, rfl, rfl, rfl, rfl⟩, M.dbig, M.dne, M.ns⟩⟩
end
end DX
/-! DX2: own exceptions in the hand layer: made, raised, read in a suite. -/
namespace DX
open PySem PySem.Spec PyProof.Rows L2
theorem relO_one {v : V} {v' : Value} (f : Str) (r : RelV v v') (g : Str) : RelO (List.lookup g [(f, v)]) (if g = f then some v' else none) := by
  by_cases hw : g = f
  · subst hw
    rw [if_pos rfl, show List.lookup g [(g, v)] = some v from by simp [List.lookup]]
    exact r
  · rw [if_neg hw, show List.lookup g [(f, v)] = none from by simp [List.lookup, beq_eq_false_iff_ne.mpr hw]]
    trivial
section
variable {X : Cx} {C fI : Addr} {nm p f : Str}
/-- nm(e) -/
def tMk (C : Addr) (f : Str) (ta : TA) : L2.St → Hp → XK → Prop := fun σ H Q => ta σ H fun vs H1 => ∃ v, vs = [v] ∧ ∀ d, H1 d = none → Q (.ref C) (some d) (upd H1 d (.xd [(f, v)]))
theorem pmk_own {a : Expr} {ta : TA} {q pos : Pos} {k : Nat} (T : ExT X.prog X.K X.mg C fI nm p f) (exC : PySem.W.subIn X.K (.ref C) (.type "BaseException") = some true) (tyC : PySem.W.typeIn X.K (.ref C) = some (.type "type")) (hr : Room k X.A) (ha : PA X [a] ta) (hg : Gl X nm)
    (hdb : (nm == ("__debug__" : Str)) = false := by decide) (he : starEach (a :: []) X.env = (false, eval a X.env) :: starEach [] X.env := by rfl) (hpl : (backTo pos (starEach [] X.env)).any (·.1) = false := by rfl) :
    PMk X (.Call (.Name nm q) [a] [] pos) (tMk C f ta) := by
  intro pins s σ H Q I h
  refine wpAny_Call_Name_kw (ld_glob I hg T.gC ?_ hdb)
  refine PySem.W.callWith_K (h₀ := X.base) I.ok.mod.kin T.kC (thn (ha.run pos pins s σ H _ I h) fun us s1 ⟨vs, H1, I1, r1, v, ev, q1⟩ => ?_) he hpl
  subst ev
  refine ⟨I1.kIn, ?_⟩
  cases r1 with
  | cons rv rn =>
    cases rn
    have hlim := I1.nolimit
    obtain ⟨mb, b1, b2⟩ := I1.mod.blt
    have g1 := I1.mod.glob.keeps I1.bk
    have g2 := b1.keeps I1.bk
    obtain ⟨hp, g, dr, tk, os⟩ := s1
    refine wpAny_call (made T I1.kIn g1 g2 b2 hlim (by have := hr.dp; omega) fun h' tk' e d M => ?_)
    show MkP X pins σ Q (.ref e) ⟨h', g, dr, tk', os⟩
    obtain ⟨oe, fv, hoe, hc, hd, hdat, h1⟩ := M.obj
    have hns := M.ns
    obtain ⟨G', r1, r2⟩ := restrict h' fun b => decide (b ≠ e)
    have gk : ∀ b, b ≠ e → G'.get? b = h'.get? b := fun b hb => r1 b (decide_eq_true hb)
    have ge : G'.get? e = none := r2 e (by simp)
    have old : ∀ b o, hp.get? b = some o → G'.get? b = some o := fun b o z => (gk b (Nat.ne_of_lt (Nat.lt_of_lt_of_le (Heap.lt_size z) M.new))).trans (M.keep b o z)
    have ob : ObjOk X.prog X.w (upd H1 d (.xd [(f, v)])) G' d (.xd [(f, v)]) := ⟨_, hns.at (fun o z => (gk d M.dne).trans z), relO_one f rv⟩
    have J : Inv X pins σ (upd H1 d (.xd [(f, v)])) ⟨G', g, dr, tk', os⟩ := I1.laid (t' := tk') old M.dbig ob
    refine ⟨e, oe, fv, ⟨G', g, dr, tk', os⟩, _, .ref C, some d, rfl, J, fun b o z => ?_, ge, hoe, ⟨hc, hd⟩, hdat, h1, ?_, rfl, I1.bare, raises_own exC tyC, q1 d (I1.hok.fresh M.dbig)⟩
    · by_cases hb : b = e
      · subst hb
        rw [show G'.get? b = none from ge] at z
        cases z
      · exact (gk b hb).symm.trans z
    · rw [upd_ne (Ne.symm M.dne)]
      exact I1.hok.fresh M.new
end
end DX
/-! DX3: statements and expressions that an own exception may leave. -/
namespace DL
open PySem PySem.Spec L2
/-- which exceptions may leave: class name, what it bears, the slots, draws left -/
abbrev XC := Str → D → DS → Nat → Prop
/-- class name: the class, its field if it keeps something -/
abbrev XT := Str → Option (Addr × Option Str)
inductive Bears (K : PySem.W.Frag) (S H : Hp) : Option Str → Option Addr → D → Prop
  | fld {f : Str} {d : Addr} {v : V} {x : D} : H d = some (.xd [(f, v)]) → Dp K S v x → Bears K S H (some f) (some d) x
  | non : Bears K S H none none .none
abbrev DTX := XC → DTE
abbrev DTSX := XC → DTS
/-- what is due where an exception leaves -/
def XOk (K : PySem.W.Frag) (g : Gh) (S : Hp) (ct : XT) (xc : XC) (W : WX) : Prop := ∀ nm x δ m σ H S' Vs C f d, ct nm = some (C, f) → xc nm x δ m → SR K g m δ σ H S' Vs → Same S S' → Bears K S' H f d x → W (.ref C) d σ H
theorem XOk.less {K : PySem.W.Frag} {g : Gh} {S S' : Hp} {ct : XT} {xc : XC} {W : WX} (h : XOk K g S ct xc W) (s : Same S S') : XOk K g S' ct xc W :=
  fun nm x δ m σ H S2 Vs C f d e p r q => h nm x δ m σ H S2 Vs C f d e p r (s.trans q)
def lEX (K : PySem.W.Frag) (ct : XT) (W : WX) (b : Bool) (t : DTX) : TE := fun σ H Q => ∃ g n δ S Vs P xc, SR K g n δ σ H S Vs ∧ t xc δ n P ∧ XOk K g S ct xc W ∧
  ∀ d m v H' S' Vs', P d m → SR K g m δ σ H' S' Vs' → Same S S' → Same Vs Vs' → Rp K b S' Vs' v d → Q v H'
structure DEX (X : Cx) (ct : XT) (W : WX) (e : Expr) (t : DTX) : Prop where
  run : PE X e (lEX X.K ct W true t)
def lSX (K : PySem.W.Frag) (ct : XT) (W : WX) (t : DTSX) : TS := fun D σ H => ∃ g n δ S Vs E xc, g.T = [] ∧ SR K g n δ σ H S Vs ∧ t xc E δ n ∧ EndsOk K g S E D ∧ XOk K g S ct xc W
structure DSX (X : Cx) (ct : XT) (W : WX) (st : Stmt) (t : DTSX) : Prop where
  run : PS X st (lSX X.K ct W t)
structure DSsX (X : Cx) (ct : XT) (W : WX) (st : List Stmt) (t : DTSX) : Prop where
  run : PSs X st (lSX X.K ct W t)
section
variable {X : Cx} {ct : XT} {W : WX} {e a b c : Expr} {es : List Expr} {pos : Pos} {t1 t2 : DTE} {x1 x2 : DTX} {u1 : DTT} {s1 s2 : DTSX} {st : Stmt} {rest sa sb : List Stmt} {b1 b2 : Bool}
theorem lE_of {b : Bool} {t : DTE} {K : PySem.W.Frag} {σ : L2.St} {H : Hp} {Q : VK} (h : lEX K ct W b (fun _ => t) σ H Q) : lE K b t σ H Q := by
  obtain ⟨g, n, δ, S, Vs, P, xc, sr, ht, _, k⟩ := h
  exact ⟨g, n, δ, S, Vs, P, sr, ht, k⟩
theorem dex_of (h : DE X true e t1) : DEX X ct W e (fun _ => t1) := ⟨PE.imp h.run fun _ _ _ q => lE_of q⟩
theorem dsx_of {t : DTS} (h : DSt X st t) : DSX X ct W st (fun _ => t) := ⟨PS.imp h.run fun _ _ _ ⟨g, n, δ, S, Vs, E, xc, hT, sr, ht, ok, _⟩ => ⟨g, n, δ, S, Vs, E, hT, sr, ht, ok⟩⟩
theorem dssx_of {t : DTS} (h : DSs X rest t) : DSsX X ct W rest (fun _ => t) := ⟨PSs.imp h.run fun _ _ _ ⟨g, n, δ, S, Vs, E, xc, hT, sr, ht, ok, _⟩ => ⟨g, n, δ, S, Vs, E, hT, sr, ht, ok⟩⟩
def qSeq (t u : DTSX) : DTSX := fun xc E δ n => t xc { E with nx := u xc E } δ n
theorem dssx_cons (h1 : DSX X ct W st s1) (h2 : DSsX X ct W rest s2) : DSsX X ct W (st :: rest) (qSeq s1 s2) := ⟨PSs.imp (pss_cons h1.run h2.run) fun D σ H ⟨g, n, δ, S, Vs, E, xc, hT, sr, ht, ok, xk⟩ =>
  ⟨g, n, δ, S, Vs, _, xc, hT, sr, ht, ⟨fun δ' m σ' H' S' Vs' q sr' s => ⟨g, m, δ', S', Vs', E, xc, hT, sr', q, ok.less s, xk.less s⟩, ok.2.1, ok.2.2.1, ok.2.2.2⟩, xk⟩⟩
theorem dssx_one (h1 : DSX X ct W st s1) : DSsX X ct W [st] s1 := ⟨pss_one h1.run⟩
def qIf (u : DTT) (s t : DTSX) : DTSX := fun xc E δ n => u δ n fun c m => if c = true then s xc E δ m else t xc E δ m
theorem dsx_if (hc : DT X c u1) (ha : DSsX X ct W sa s1) (hb : DSsX X ct W sb s2) : DSX X ct W (.If c sa sb pos) (qIf u1 s1 s2) :=
  ⟨PS.imp (ps_if hc.run ha.run hb.run) fun D σ H ⟨g, n, δ, S, Vs, E, xc, hT, sr, ht, ok, xk⟩ => ⟨g, n, δ, S, Vs, _, sr, ht, fun k m H' S' Vs' p sr' q1 q2 => by
    cases k with
    | true => exact ⟨g, m, δ, S', Vs', E, xc, hT, sr', p, ok.less q1, xk.less q1⟩
    | false => exact ⟨g, m, δ, S', Vs', E, xc, hT, sr', p, ok.less q1, xk.less q1⟩⟩⟩
def qRet (t : DTX) : DTSX := fun xc E δ n => t xc δ n E.rt
theorem dsx_ret (h : DEX X ct W e x1) : DSX X ct W (.Return (some e) pos) (qRet x1) :=
  ⟨PS.imp (ps_ret h.run) fun D σ H ⟨g, n, δ, S, Vs, E, xc, hT, sr, ht, ok, xk⟩ => ⟨g, n, δ, S, Vs, _, xc, sr, ht, xk, fun d m v H' S' Vs' p sr' q1 q2 r => ok.2.1 d δ m v σ H' S' Vs' p sr' q1 r⟩⟩
def qSet (i : Nat) (t : DTX) : DTSX := fun xc E δ n => t xc δ n fun d m => i < δ.length ∧ E.nx (δ.set i (some (.dat d))) m
theorem dsx_set {i : Nat} (h : ∀ te, PE X e te → PS X st (tAsg te (gName i))) (he : DEX X ct W e x1) : DSX X ct W st (qSet i x1) :=
  ⟨PS.imp (h _ he.run) fun D σ H ⟨g, n, δ, S, Vs, E, xc, hT, sr, ht, ok, xk⟩ => ⟨g, n, δ, S, Vs, _, xc, sr, ht, xk, fun d m v H' S' Vs' ⟨hi, p⟩ sr' q1 q2 r => ok.1 _ m _ H' S' Vs' p (sr'.set hi r) q1⟩⟩
def qIfE (u : DTT) (t v : DTX) : DTX := fun xc δ n Q => u δ n fun c m => if c = true then t xc δ m Q else v xc δ m Q
theorem dex_if (hc : DT X c u1) (h : DEX X ct W a x1) (h2 : DEX X ct W b x2) : DEX X ct W (.IfExp c a b pos) (qIfE u1 x1 x2) :=
  ⟨PE.imp (pe_ifExp hc.run h.run h2.run) fun σ H Q ⟨g, n, δ, S, Vs, P, xc, sr, ht, xk, k⟩ => ⟨g, n, δ, S, Vs, _, sr, ht, fun c m H' S' Vs' p sr' q1 q2 => by
    cases c with
    | true => exact ⟨g, m, δ, S', Vs', P, xc, sr', p, xk.less q1, fun d m2 v H2 S2 V2 p2 sr2 w1 w2 r => k d m2 v H2 S2 V2 p2 sr2 (q1.trans w1) (q2.trans w2) r⟩
    | false => exact ⟨g, m, δ, S', Vs', P, xc, sr', p, xk.less q1, fun d m2 v H2 S2 V2 p2 sr2 w1 w2 r => k d m2 v H2 S2 V2 p2 sr2 (q1.trans w1) (q2.trans w2) r⟩⟩⟩
/-- raise nm(e) -/
def qRaise (nm : Str) (t : DTE) : DTSX := fun xc _ δ n => t δ n fun d m => xc nm d δ m
theorem dsx_raise {C fI : Addr} {nm p f : Str} {k : Nat} {q cpos : Pos} (hct : ct nm = some (C, some f)) (hc : X.calm = true) (T : DX.ExT X.prog X.K X.mg C fI nm p f) (exC : PySem.W.subIn X.K (.ref C) (.type "BaseException") = some true) (tyC : PySem.W.typeIn X.K (.ref C) = some (.type "type")) (hr : Room k X.A) (tk : Takes X W) (ha : DE X true e t1) (hg : Gl X nm)
    (hdb : (nm == ("__debug__" : Str)) = false := by decide) (he : starEach (e :: []) X.env = (false, eval e X.env) :: starEach [] X.env := by rfl) (hpl : (backTo cpos (starEach [] X.env)).any (·.1) = false := by rfl) :
    DSX X ct W (.Raise (some (.Call (.Name nm q) [e] [] cpos)) none pos) (qRaise nm t1) :=
  ⟨PS.imp (ps_raise hc tk (DX.pmk_own T exC tyC hr (pa_cons ha.run pa_nil he) hg hdb he hpl)) fun D σ H ⟨g, n, δ, S, Vs, E, xc, hT, sr, ht, ok, xk⟩ => ⟨g, n, δ, S, Vs, _, sr, ht, fun d m v H' S' Vs' p sr' q1 q2 r =>
    ⟨v, rfl, fun dd hd => xk nm d δ m σ _ S' Vs' C _ _ hct p (sr'.temp hd) q1 (.fld upd_same r)⟩⟩⟩
end
end DL
/-! DX4: defs that own exceptions leave: promised, called; caught. -/
namespace DL
open PySem PySem.Spec L2
abbrev FnX := List Ar → Nat → (Str → D → Nat → Prop) → (D → Nat → Prop) → Prop
def spDX (K : PySem.W.Frag) (ar : Nat) (ct : XT) (f : FnX) : Sp := fun vs H Q E => ∃ (W : Option (Addr × Addr)) (n : Nat) (S0 : Hp) (as : List Ar) (P : D → Nat → Prop) (px : Str → D → Nat → Prop), as.length = ar ∧ Same S0 H ∧ (∀ b, inW W b → S0 b = none) ∧ (∀ r f, W = some (r, f) → RillOk H r f n) ∧
  RpAs K W true S0 S0 vs as ∧ f as n px P ∧
  (∀ d m v H' S', P d m → Same S0 S' → Same S' H' → (∀ b, inW W b → S' b = none) → (∀ b o, S' b = some o → S0 b = some o ∨ H b = none) → (∀ r f, W = some (r, f) → RillOk H' r f m) →
    (∀ b o, H b = some o → ¬ inW W b → H' b = some o) → Dp K S' v d → Q v H') ∧
  ∀ nm x m H' S' C fl d, ct nm = some (C, fl) → px nm x m → Same S0 S' → Same S' H' → (∀ b, inW W b → S' b = none) → (∀ b o, S' b = some o → S0 b = some o ∨ H b = none) → (∀ r f, W = some (r, f) → RillOk H' r f m) →
    (∀ b o, H b = some o → ¬ inW W b → H' b = some o) → Bears K S' H' fl d x → E (.ref C) d H'
theorem spDX_len {K : PySem.W.Frag} {ar : Nat} {ct : XT} {f : FnX} : ∀ vs H Q E, spDX K ar ct f vs H Q E → vs.length = ar := fun vs H Q E ⟨_, _, _, as, _, _, e, _, _, _, r, _⟩ => (Paired.len r).trans e
theorem dfnX {P : Program} {w : World} {K : PySem.W.Frag} {mg : Str → Option Value} {base : Heap} {x qual : Str} {fa : Addr} {fd : FuncData} {N ps : List Str} {st : Stmt} {k ar : Nat} {ct : XT} {f : FnX} {t : DTSX} (F : Fun K x qual st fa fd) (S : FnScope N ps (defScope st)) (har : ps.length = ar)
    (hb : ∀ (cdv : Value) (A : Around) (outer : List Env) (s : Shared) (H : Hp) (E : XK), A.guards = some [] → Room k (A.deeper (PyProof.Rows.envOfC qual (defScope st) s.heap.objs.size fa cdv)) → DSsX (cxOf (L2.CX P w) P w K mg base N qual (defScope st) fa cdv A outer s H E) ct (fun cls d _ H => E cls d H) (defBody st) t)
    (hf : ∀ as n px P, as.length = ar → f as n px P → t (fun nm x _ m => px nm x m) ⟨fun _ m => P .none m, P, fun _ _ => False, fun _ _ => False⟩ (startD N as) n) : FnG P w K mg base (L2.CX P w) (k + 1) fa fd ps (spDX K ar ct f) := by
  refine fnG_of F S (fun vs H Q E h => (spDX_len vs H Q E h).trans har.symm) fun cdv A outer s H vs Q E hgd hr h => ?_
  obtain ⟨W, n, S0, as, P', px, e, h1, h2, h3, h4, hp, kk, kx⟩ := h
  refine ⟨_, (hb cdv A outer s H E hgd hr).run, ⟨W, H, S0, []⟩, n, startD N as, S0, S0, _, _, rfl, start_sr h1 h2 h3 h4, hf as n px P' e hp, ⟨fun δ' m σ' H' S' Vs' q sr' s1 => ?_, fun d δ' m v σ' H' S' Vs' q sr' s1 r => ?_, fun _ _ _ _ _ _ q _ _ => q.elim, fun _ _ _ _ _ _ q _ _ => q.elim⟩, fun nm x δ' m σ' H' S' Vs' C fl d hc q sr' s1 hd => ?_⟩
  · exact kk _ m _ H' S' q s1 sr'.SH (fun b hb => sr'.SV.free (sr'.nW b hb)) (fun b o e => sr'.fresh b o (sr'.SV b o e)) sr'.rill sr'.base .non
  · exact kk _ m _ H' S' q s1 sr'.SH (fun b hb => sr'.SV.free (sr'.nW b hb)) (fun b o e => sr'.fresh b o (sr'.SV b o e)) sr'.rill sr'.base r
  · exact kx nm x m H' S' C fl d hc q s1 sr'.SH (fun b hb => sr'.SV.free (sr'.nW b hb)) (fun b o e => sr'.fresh b o (sr'.SV b o e)) sr'.rill sr'.base hd
section
variable {X : Cx} {CX : CXT} {k : Nat} {fa : Addr} {fd : FuncData} {ps ks : List Str} {sp : Sp} {x : Str} {p pos : Pos} {e a b : Expr} {es : List Expr} {t : TA} {W : WX} {g : {α : Type} → List α → List α → List α} {kws : List Keyword}
theorem go_fnS {pins : List (Addr × Obj)} {σ : L2.St} {H : Hp} {s : Shared} {Q : VK} {us : List Value} {vs : List V} (F : FnG X.prog X.w X.K X.mg X.base (L2.CX X.prog X.w) k fa fd ps sp) (hg : X.A.guards = some []) (hr : Room k X.A) (hb : Binds X.K fd ps []) (tk : Takes X W)
    (I : Inv X pins σ H s) (r : Vals vs us) (h : sp vs H Q (WE W σ)) : wpAny (model X.prog X.w) X.A (call (.ref fa) us) (EP X pins σ Q) X.xe s := by
  have hl : (us ++ []).length = ps.length := by rw [List.append_nil, ← r.length]; exact F.ar _ _ _ _ h
  have hb' := hb s us I.kIn hl
  rw [List.append_nil] at hb'
  refine wpAny_call (codeAny_mono (F.go X.A X.stack s H ⟨us, []⟩ us vs Q _ hg hr I.env0 hb' r h) fun r s' q => ?_)
  rcases r with er | fl
  · exact passAt tk σ pins H s er s' I q
  · rcases fl with u | _ | _ | _
    all_goals first | exact I.after q | exact q.elim
theorem go_fnKS {pins : List (Addr × Obj)} {σ : L2.St} {H : Hp} {s : Shared} {Q : VK} {us ws : List Value} {vs zs : List V} (F : FnG X.prog X.w X.K X.mg X.base (L2.CX X.prog X.w) k fa fd ps sp) (hg : X.A.guards = some []) (hr : Room k X.A) (hb : KwB X.K fd ps ks g) (tk : Takes X W)
    (I : Inv X pins σ H s) (r : Vals vs us) (rz : Vals zs ws) (h : sp (g vs zs) H Q (WE W σ)) : wpAny (model X.prog X.w) X.A (call (.ref fa) us (ks.zip ws)) (EP X pins σ Q) X.xe s := by
  have r2 := hb.rel r rz
  have hl : (g us ws).length = ps.length := by rw [← r2.length]; exact F.ar _ _ _ _ h
  refine wpAny_call (codeAny_mono (F.go X.A X.stack s H ⟨us, ks.zip ws⟩ (g us ws) (g vs zs) Q _ hg hr I.env0 (hb.to s us ws I.kIn hl) r2 h) fun r s' q => ?_)
  rcases r with er | fl
  · exact passAt tk σ pins H s er s' I q
  · rcases fl with u | _ | _ | _
    all_goals first | exact I.after q | exact q.elim
theorem pg_callS (F : FnG X.prog X.w X.K X.mg X.base (L2.CX X.prog X.w) k fa fd ps sp) (hgd : X.A.guards = some []) (hr : Room k X.A) (hg : Gl X x) (hm : X.mg x = some (.ref fa)) (hk : PySem.W.keepIn X.K (.ref fa) = true) (hb : Binds X.K fd ps []) (tk : Takes X W)
    (ha : PA X (e :: es) t) (hdb : (x == ("__debug__" : Str)) = false := by decide) (he : starEach (e :: es) X.env = (false, eval e X.env) :: starEach es X.env := by rfl) (hpl : (backTo pos (starEach es X.env)).any (·.1) = false := by rfl) :
    PE X (.Call (.Name x p) (e :: es) [] pos) (fun σ H Q => t σ H fun vs H1 => sp vs H1 Q (WE W σ)) :=
  ⟨fun pins s σ H Q I h => wpAny_Call_Name_kw (ld_glob I hg hm (PySem.W.callWith_K (h₀ := X.base) I.ok.mod.kin hk (thn (ha.run pos pins s σ H _ I h) fun us s1 ⟨vs, H1, I1, r, q⟩ => ⟨I1.kIn, go_fnS F hgd hr hb tk I1 r q⟩) he hpl) hdb)⟩
theorem pg_callKS0 (F : FnG X.prog X.w X.K X.mg X.base (L2.CX X.prog X.w) k fa fd ps sp) (hgd : X.A.guards = some []) (hr : Room k X.A) (hg : Gl X x) (hm : X.mg x = some (.ref fa)) (hk : PySem.W.keepIn X.K (.ref fa) = true) (hb : KwB X.K fd ps ks g) (tk : Takes X W) {tk' : TA}
    (hkw : PK X kws tk') (hall : (backToKw pos (keywordEach kws X.env)).all (·.1.isSome) = true := by rfl) (hks : (backToKw pos (keywordEach kws X.env)).filterMap (·.1) = ks := by rfl)
    (hdb : (x == ("__debug__" : Str)) = false := by decide)
    (hpl : ((backTo pos (starEach [] X.env)).any (·.1) || (backToKw pos (keywordEach kws X.env)).any (·.1.isNone)) = false := by rfl) : PE X (.Call (.Name x p) [] kws pos) (fun σ H Q => tk' σ H fun zs H1 => sp (g [] zs) H1 Q (WE W σ)) :=
  ⟨fun pins s σ H Q I h => wpAny_Call_Name_kw (ld_glob I hg hm (PySem.W.callWith_KW0 (h₀ := X.base) I.ok.mod.kin hk hall (thn (hkw.run pos pins s σ H _ I h) fun ws s2 ⟨zs, H2, I2, rz, q2⟩ =>
    ⟨I2.kIn, by rw [hks, List.append_nil]; exact go_fnKS (us := []) (vs := []) F hgd hr hb tk I2 .nil rz q2⟩) hpl) hdb)⟩
end
section
variable {X : Cx} {ct : XT} {k : Nat} {fa : Addr} {fd : FuncData} {ps ks : List Str} {x : Str} {p pos : Pos} {e : Expr} {es : List Expr} {W : WX} {f : FnX} {tr : DTR} {ar : Nat}
def dCallX (f : FnX) (tr : DTR) : DTX := fun xc δ n Q => tr δ n fun as m => f as m (fun nm x m' => xc nm x δ m') Q
theorem dex_call (F : FnG X.prog X.w X.K X.mg X.base (L2.CX X.prog X.w) k fa fd ps (spDX X.K ar ct f)) (hgd : X.A.guards = some []) (hr : Room k X.A) (hg : Gl X x) (hm : X.mg x = some (.ref fa)) (hk : PySem.W.keepIn X.K (.ref fa) = true) (hb : Binds X.K fd ps []) (tk : Takes X W)
    (har : (e :: es).length = ar) (ha : DR X true (e :: es) tr) (hdb : (x == ("__debug__" : Str)) = false := by decide)
    (he : starEach (e :: es) X.env = (false, eval e X.env) :: starEach es X.env := by rfl) (hpl : (backTo pos (starEach es X.env)).any (·.1) = false := by rfl) :
    DEX X ct W (.Call (.Name x p) (e :: es) [] pos) (dCallX f tr) :=
  ⟨PE.imp (pg_callS F hgd hr hg hm hk hb tk ha.run hdb he hpl) fun σ H Q ⟨g, n, δ, S, Vs, P, xc, sr, ht, xk, kk⟩ => ⟨g, n, δ, S, Vs, _, sr, ht, fun as m vs H' S' Vs' p hl sr' s1 s2 r =>
    ⟨g.W, m, S', as, P, _, hl.trans har, sr'.SH, fun b w => sr'.SV.free (sr'.nW b w), sr'.rill, RpAs.st r, p, fun d m2 v H2 S2 p2 h1 h2 h3 h4 h5 h6 hd => by
      obtain ⟨V2, sr2, hv⟩ := sr'.called h1 h2 h3 h4 h5 h6
      exact kk d m2 v H2 S2 V2 p2 sr2 (s1.trans h1) (s2.trans hv) hd, fun nm x m2 H2 S2 C fl d hc px h1 h2 h3 h4 h5 h6 hd => by
      obtain ⟨V2, sr2, _⟩ := sr'.called h1 h2 h3 h4 h5 h6
      exact xk nm x δ m2 σ H2 S2 V2 C fl d hc px sr2 (s1.trans h1) hd⟩⟩⟩
def dCallKX (f : FnX) (nb : Nat) (perm : List Nat) (tk : DTR) : DTX := fun xc δ n Q => tk δ n fun bs m => f (gP 0 nb perm [] bs) m (fun nm x m' => xc nm x δ m') Q
theorem dex_callK0 {kws : List Keyword} {tr : DTR} {nb : Nat} {perm : List Nat} (F : FnG X.prog X.w X.K X.mg X.base (L2.CX X.prog X.w) k fa fd ps (spDX X.K ar ct f)) (hgd : X.A.guards = some []) (hr : Room k X.A) (hg : Gl X x) (hm : X.mg x = some (.ref fa)) (hk : PySem.W.keepIn X.K (.ref fa) = true)
    (hb : KwB X.K fd ps ks (gP 0 nb perm)) (tk : Takes X W) (hkw : DK X true kws tr) (hnb : kws.length = nb) (har : ∀ (α : Type) (us ws : List α), us.length = 0 → ws.length = nb → (gP 0 nb perm us ws).length = ar)
    (hall : (backToKw pos (keywordEach kws X.env)).all (·.1.isSome) = true := by rfl) (hks : (backToKw pos (keywordEach kws X.env)).filterMap (·.1) = ks := by rfl)
    (hdb : (x == ("__debug__" : Str)) = false := by decide)
    (hpl : ((backTo pos (starEach [] X.env)).any (·.1) || (backToKw pos (keywordEach kws X.env)).any (·.1.isNone)) = false := by rfl) :
    DEX X ct W (.Call (.Name x p) [] kws pos) (dCallKX f nb perm tr) :=
  ⟨PE.imp (pg_callKS0 F hgd hr hg hm hk hb tk hkw.run hall hks hdb hpl) fun σ H Q ⟨g, n, δ, S, Vs, P, xc, sr, ht, xk, kk⟩ => ⟨g, n, δ, S, Vs, _, sr, ht, fun bs m zs H' S' Vs' p hl sr' s1 s2 rz =>
    ⟨g.W, m, S', gP 0 nb perm [] bs, P, _, har _ _ _ rfl (hl.trans hnb), sr'.SH, fun b w => sr'.SV.free (sr'.nW b w), sr'.rill, paired_gP .nil (RpAs.st rz), p, fun d m2 v H2 S2 p2 h1 h2 h3 h4 h5 h6 hd => by
      obtain ⟨V2, sr2, hv⟩ := sr'.called h1 h2 h3 h4 h5 h6
      exact kk d m2 v H2 S2 V2 p2 sr2 (s1.trans h1) (s2.trans hv) hd, fun nm x m2 H2 S2 C fl d hc px h1 h2 h3 h4 h5 h6 hd => by
      obtain ⟨V2, sr2, _⟩ := sr'.called h1 h2 h3 h4 h5 h6
      exact xk nm x δ m2 σ H2 S2 V2 C fl d hc px sr2 (s1.trans h1) hd⟩⟩⟩
end
end DL
/-! DX5: own exceptions caught: the suite answers with a list of what it reads off the exception. -/
namespace DL
open PySem PySem.Spec L2 PyProof.Rows
/-- what a suite wants of the class that it catches -/
structure XcT (K : PySem.W.Frag) (C : Addr) (f : Str) : Prop where
  xf : XfC K C
  noN : PySem.W.findIn K (.ref C) f = some none
  cls : (PySem.W.clsIn K C).isSome = true
  ca : PySem.W.findIn K (.ref C) "__class__" = some (some (.builtin "object.__class__"))
  cn : PySem.W.specialIn K (.builtin "object.__class__") "__get__" = some (some (.builtin "getset_descriptor.__get__"))
  ct : PySem.W.takesIn K (.builtin "object.__class__") = some true
  cm : PySem.W.mroIn K C (.type "object") = some true
  te : PySem.W.exmOne K (.ref C) (.ref C) = some true
def rIsX (K : PySem.W.Frag) (C a d : Addr) : List V → Hp → VK → Prop := fun xs H Q => ∃ (c : V) (cv : Value) (b : Bool) (fs : List (Str × V)), xs = [.ref a, c] ∧ (∀ u, RelV c u → u = cv) ∧ PySem.W.kitOne K (.ref C) cv = some b ∧ H d = some (.xd fs) ∧ Q (.bl b) H
section
variable {X : Cx} {C a d : Addr} {f : Str} {oe : Obj} {pn : List (Addr × Obj)}
theorem call_isX (T : XcT X.K C f) (hz : Zc (.ref C) (some d) oe) (hf : ∃ vs, oe.data = .fields vs) : CallR (X.suite a ((a, oe) :: pn)) (.builtin "isinstance") (rIsX X.K C a d) := by
  intro pins s σ H xs us Q I r h
  obtain ⟨c, cv, b, fs, rfl, hcv, e, hd, q⟩ := h
  cases r with
  | cons rx rr =>
    cases rr with
    | cons rt rr =>
      cases rr
      cases rx
      have ec := hcv _ rt
      subst ec
      obtain ⟨hget, _⟩ := I.pin (a, oe) (List.mem_append.mpr (.inl List.mem_cons_self))
      obtain ⟨vs, hv⟩ := hf
      have hx : ObjOk X.prog X.w H s.heap d (.xd fs) := I.hok d _ hd
      obtain ⟨mA, hns, hr⟩ := hx
      obtain ⟨od, ho, hl⟩ := lookIn_ns hns
      have J : PySem.W.InstAt s.heap a oe C (some od) := ⟨hget, hz.1, by unfold PySem.W.notCls; rw [hv] <;> rfl, by rw [hz.2]; exact ho⟩
      exact PySem.W.kia_one (PySem.W.kitx_exc T.cls T.xf.ga T.xf.gg T.xf.exC T.ca T.cn T.ct T.cm) I.kIn J e (fun z => nomatch z) fun tk => ⟨.bl b, H, I.kept (t' := tk) fun _ _ z => z, rfl, q⟩
end
/-- one reading in a suite: the exception in slot i, x what its field bears -/
def XI (X : Cx) (C : Addr) (f : Str) (i : Nat) (e : Expr) (r : D → D) : Prop :=
  ∃ te : Addr → Addr → TE, (∀ a d oe pn, Zc (.ref C) (some d) oe → (∃ vs, oe.data = .fields vs) → PE (X.suite a ((a, oe) :: pn)) e (te a d)) ∧
    ∀ a d σ H v x Q, σ[i]? = some (some (.ref a)) → H d = some (.xd [(f, v)]) → (∀ u, (∀ S, Dp X.K S v x → Dp X.K S u (r x)) → Q u H) → te a d σ H Q
def XIs (X : Cx) (C : Addr) (f : Str) (i : Nat) (es : List Expr) (r : D → List D) : Prop :=
  ∃ te : Addr → Addr → TA, (∀ a d oe pn, Zc (.ref C) (some d) oe → (∃ vs, oe.data = .fields vs) → PA (X.suite a ((a, oe) :: pn)) es (te a d)) ∧
    ∀ a d σ H v x Q, σ[i]? = some (some (.ref a)) → H d = some (.xd [(f, v)]) → (∀ us, (∀ S, Dp X.K S v x → DpAll X.K S us (r x)) → Q us H) → te a d σ H Q
section
variable {X : Cx} {C : Addr} {f : Str} {i : Nat} {e : Expr} {es : List Expr} {r : D → D} {rs : D → List D} {pos p : Pos}
theorem xi_c {v0 : V} {d0 : D} (h : ∀ a d oe (pn : List (Addr × Obj)), Zc (.ref C) (some d) oe → PE (X.suite a ((a, oe) :: pn)) e (tC v0)) (hs : ∀ S, Dp X.K S v0 d0) : XI X C f i e (fun _ => d0) :=
  ⟨fun _ _ => tC v0, fun a d oe pn hz _ => h a d oe pn hz, fun a d σ H v x Q _ _ k => k _ fun S _ => hs S⟩
theorem xi_str {z : Str} {j} : XI X C f i (.Constant (.str z) j pos) (fun _ => .str z) := xi_c (fun _ _ _ _ _ => pe_str) fun _ => .str z
theorem xi_f (T : XcT X.K C f) (hv : ∀ (a d : Addr) oe (pn : List (Addr × Obj)), PE (X.suite a ((a, oe) :: pn)) e (tVar i)) (hb : attributeBase e f X.env (eval e X.env) = eval e X.env := by rfl) : XI X C f i (.Attribute e f pos) (fun x => x) :=
  ⟨fun a d => tXf a (.ref C) (some d) C f (tVar i), fun a d oe pn hz hf => pe_xf T.xf T.noN hz hf (hv a d oe pn) hb, fun a d σ H v x Q hσ hd k =>
    ⟨_, hσ, rfl, rfl, d, _, v, rfl, hd, by simp [List.lookup], k v fun S h => h⟩⟩
theorem xi_is {c : V} {cv : Value} {b : Bool} {e2 : Expr} (T : XcT X.K C f) (hg : Gl X "isinstance") (hm : X.mg "isinstance" = none) (hv : ∀ (a d : Addr) oe (pn : List (Addr × Obj)), PE (X.suite a ((a, oe) :: pn)) e (tVar i)) (hc : ∀ (a d : Addr) oe (pn : List (Addr × Obj)), PE (X.suite a ((a, oe) :: pn)) e2 (tC c))
    (hcv : ∀ u, RelV c u → u = cv) (hk : PySem.W.kitOne X.K (.ref C) cv = some b)
    (he : starEach (e :: [e2]) X.env = (false, eval e X.env) :: starEach [e2] X.env := by rfl) (he2 : starEach (e2 :: []) X.env = (false, eval e2 X.env) :: starEach [] X.env := by rfl)
    (hpl : (backTo pos (starEach [e2] X.env)).any (·.1) = false := by rfl) : XI X C f i (.Call (.Name "isinstance" p) [e, e2] [] pos) (fun _ => .bool b) :=
  ⟨fun a d => tCB (rIsX X.K C a d) (tCons (tVar i) (tCons (tC c) tNil)), fun a d oe pn hz hf => pe_callB (call_isX T hz hf) hg hm (by decide +kernel) (pa_cons (hv a d oe pn) (pa_cons (hc a d oe pn) pa_nil he2) he) (by decide) (by decide) he hpl, fun a d σ H v x Q hσ hd k =>
    ⟨_, hσ, c, cv, b, _, rfl, hcv, hk, hd, k _ fun S _ => .bl b⟩⟩
theorem xis_nil : XIs X C f i [] (fun _ => []) := ⟨fun _ _ => tNil, fun _ _ _ _ _ _ => pa_nil, fun a d σ H v x Q _ _ k => k _ fun _ _ => .nil⟩
theorem xis_cons (h : XI X C f i e r) (hr : XIs X C f i es rs) (hs : starEach (e :: es) X.env = (false, eval e X.env) :: starEach es X.env := by rfl) : XIs X C f i (e :: es) (fun x => r x :: rs x) := by
  obtain ⟨t1, p1, q1⟩ := h
  obtain ⟨t2, p2, q2⟩ := hr
  exact ⟨fun a d => tCons (t1 a d) (t2 a d), fun a d oe pn hz hf => pa_cons (p1 a d oe pn hz hf) (p2 a d oe pn hz hf) hs, fun a d σ H v x Q hσ hd k =>
    q1 a d σ H v x _ hσ hd fun u hu => q2 a d σ H v x _ hσ hd fun us hus => k _ fun S hS => .cons (hu S hS) (hus S hS)⟩
/-- try: .. except nm as n: return [..] -/
def sTry (nm : Str) (i : Nat) (t : DTSX) (rs : D → List D) : DTS := fun E δ n => t (fun nm' x δ' m => nm' = nm ∧ i < δ'.length ∧ (rs x).length ≤ sizeLine ∧ E.rt (.list (rs x)) m) E δ n
theorem dst_try {ct : XT} {nm n : Str} {np tpos pos' lp rp : Pos} {body : List Stmt} {t : DTSX} (hs : X.stack = X.env :: X.outer) (hf : X.env.frame = some X.env.locals) (hN : X.N.Nodup) (hi : X.N[i]? = some n) (hln : X.env.kindOf n = some .local) (hct : ∀ nm' C' f', ct nm' = some (C', f') → nm' = nm ∧ C' = C ∧ f' = some f) (hc : Names X nm (.ref C)) (T : XcT X.K C f)
    (hb : ∀ (W : WX) (pn : List (Addr × Obj)) (xe : Value → Shared → Prop), Takes (X.tr pn xe) W → PassesOwn (model X.prog X.w) X.A X.env xe → DSsX (X.tr pn xe) ct W body t)
    (hx : XIs X C f i es rs) : DSt X (.Try body [.ExceptHandler (some (.Name nm np)) (some n) [.Return (some (.List es lp)) rp] pos'] [] [] tpos) (sTry nm i t rs) := by
  obtain ⟨ta, p1, q1⟩ := hx
  refine ⟨PS.imp (ps_try_as (i := i) (c := .ref C) (Wout := fun _ _ _ _ => False) (tb := fun W => lSX X.K ct W t) (ts := fun a cls d D σ H => ∃ dd, cls = .ref C ∧ d = some dd ∧ tRet (tLst (ta a dd)) D σ H) hs hf hN hi hln hc takes0 (fun W pn xe tk hp => (hb W pn xe tk hp).run) (fun a oe cls d pn hz hv => ⟨fun pins s σ H D I ⟨dd, e1, e2, h⟩ => by
    subst e1 e2
    exact (pss_one (ps_ret (pe_lst (p1 a dd oe pn hz hv)))).run pins s σ H D I h⟩)) fun D σ H ⟨g, m, δ, S, Vs, E, hT, sr, ht, ok⟩ => ?_⟩
  refine ⟨g, m, δ, S, Vs, E, _, hT, sr, ht, ok, fun nm' x δ' m' σ' H' S' Vs' C' f' d hc' ⟨hn, hlt, hz, hr⟩ sr' s1 hbd => ?_⟩
  obtain ⟨_, rfl, rfl⟩ := hct _ _ _ hc'
  obtain ⟨hd, hv⟩ := hbd
  rename_i d v
  refine ⟨true, T.te, fun _ a ha => ⟨d, rfl, rfl, ?_⟩, fun z => Bool.noConfusion z⟩
  refine q1 a d _ H' v x _ ?_ hd fun us hus => ⟨?_, fun p hp => ?_⟩
  · have : i < σ'.length := by rw [sr'.len]; exact hlt
    simp [this]
  · rw [(hus S' hv).length]; exact hz
  · have r1 : DpAll X.K S' us (rs x) := hus S' hv
    obtain ⟨S2, V2, sr2, w1, w2, w3⟩ := sr'.out (K := X.K) (.lst hp r1)
    exact ok.2.1 _ δ' m' _ _ _ S2 V2 hr sr2 (s1.trans w1) w3
end
/-! ### items that may raise -/
abbrev DTAX := XC → DTA
def lAsX (K : PySem.W.Frag) (ct : XT) (W : WX) (t : DTAX) : TA := fun σ H Q => ∃ g n δ S Vs P xc, SR K g n δ σ H S Vs ∧ t xc δ n P ∧ XOk K g S ct xc W ∧
  ∀ ds m vs H' S' Vs', P ds m → SR K g m δ σ H' S' Vs' → Same S S' → Same Vs Vs' → DpAll K S' vs ds → Q vs H'
structure DAX (X : Cx) (ct : XT) (W : WX) (es : List Expr) (t : DTAX) : Prop where
  run : PA X es (lAsX X.K ct W t)
section
variable {X : Cx} {ct : XT} {W : WX} {e : Expr} {es : List Expr} {pos : Pos} {x1 : DTX} {xa : DTAX}
def qNil : DTAX := fun _ _ n Q => Q [] n
def qCons (t : DTX) (u : DTAX) : DTAX := fun xc δ n Q => t xc δ n fun d m => u xc δ m fun as k => Q (d :: as) k
theorem dax_nil : DAX X ct W [] qNil := ⟨PA.imp pa_nil fun σ H Q ⟨g, n, δ, S, Vs, P, xc, sr, ht, xk, k⟩ => k [] n [] H S Vs ht sr (Same.refl _) (Same.refl _) .nil⟩
theorem dax_cons (h : DEX X ct W e x1) (hr : DAX X ct W es xa) (hs : starEach (e :: es) X.env = (false, eval e X.env) :: starEach es X.env := by rfl) : DAX X ct W (e :: es) (qCons x1 xa) :=
  ⟨PA.imp (pa_cons h.run hr.run hs) fun σ H Q ⟨g, n, δ, S, Vs, P, xc, sr, ht, xk, k⟩ => ⟨g, n, δ, S, Vs, _, xc, sr, ht, xk, fun d m v H' S' Vs' p sr' s1 s2 r =>
    ⟨g, m, δ, S', Vs', _, xc, sr', p, xk.less s1, fun as m2 vs H2 S2 V2 p2 sr2 q1 q2 r2 => k _ m2 (v :: vs) H2 S2 V2 p2 sr2 (s1.trans q1) (s2.trans q2) (.cons (Dp.mono q1 r) r2)⟩⟩⟩
def qLst (t : DTAX) : DTX := fun xc δ n Q => t xc δ n fun ds m => ds.length ≤ sizeLine ∧ Q (.list ds) m
def qTup (t : DTAX) : DTX := fun xc δ n Q => t xc δ n fun ds m => ds.length ≤ sizeLine ∧ Q (.tuple ds) m
theorem dex_lst (h : DAX X ct W es xa) : DEX X ct W (.List es pos) (qLst xa) :=
  ⟨PE.imp (pe_lst h.run) fun σ H Q ⟨g, n, δ, S, Vs, P, xc, sr, ht, xk, k⟩ => ⟨g, n, δ, S, Vs, _, xc, sr, ht, xk, fun ds m vs H' S' Vs' ⟨z, p⟩ sr' s1 s2 r =>
    ⟨by rw [r.length]; exact z, fun q hq => by
      obtain ⟨S2, V2, sr2, q1, q2, q3⟩ := sr'.out (K := X.K) (.lst hq r)
      exact k _ m _ _ S2 V2 p sr2 (s1.trans q1) (s2.trans q2) q3⟩⟩⟩
theorem dex_tup {j : Nat} (h : DAX X ct W es xa) : DEX X ct W (.Tuple es j pos) (qTup xa) :=
  ⟨PE.imp (pe_tup h.run) fun σ H Q ⟨g, n, δ, S, Vs, P, xc, sr, ht, xk, k⟩ => ⟨g, n, δ, S, Vs, _, xc, sr, ht, xk, fun ds m vs H' S' Vs' ⟨z, p⟩ sr' s1 s2 r =>
    ⟨by rw [r.length]; exact z, fun q hq => by
      obtain ⟨S2, V2, sr2, q1, q2, q3⟩ := sr'.out (K := X.K) (.tup hq r)
      exact k _ m _ _ S2 V2 p sr2 (s1.trans q1) (s2.trans q2) q3⟩⟩⟩
end
/-- one class that may leave -/
def ct1 (nm : Str) (C : Addr) (f : Str) : XT := fun n => if n = nm then some (C, some f) else none
theorem ct1_self {nm : Str} {C : Addr} {f : Str} : ct1 nm C f nm = some (C, some f) := if_pos rfl
theorem ct1_inv {nm : Str} {C : Addr} {f : Str} : ∀ nm' C' f', ct1 nm C f nm' = some (C', f') → nm' = nm ∧ C' = C ∧ f' = some f := by
  intro nm' C' f' h
  unfold ct1 at h
  split at h
  · rename_i e
    cases h
    exact ⟨e, rfl, rfl⟩
  · cases h
end DL
/-! DX6: the readings of what may raise, step by step. -/
namespace DL
open PySem PySem.Spec L2
section
variable {xc : XC} {E : DEnds} {δ : DS} {n : Nat} {Q : D → Nat → Prop} {QA : List D → Nat → Prop} {s t : DTSX} {u : DTT} {x y : DTX} {xa : DTAX} {e : DTE} {f : FnX} {tr : DTR} {i nb : Nat} {nm : Str} {perm : List Nat} {rs : D → List D} {st : DTS}
theorem x_qSeq : qSeq s t xc E δ n = s xc { nx := t xc E, rt := E.rt, bk := E.bk, ct := E.ct } δ n := rfl
theorem x_qIf : qIf u s t xc E δ n = u δ n fun c m => if c = true then s xc E δ m else t xc E δ m := rfl
theorem x_qRet : qRet x xc E δ n = x xc δ n E.rt := rfl
theorem x_qSet : qSet i x xc E δ n = x xc δ n fun d m => i < δ.length ∧ E.nx (δ.set i (some (.dat d))) m := rfl
theorem x_qIfE : qIfE u x y xc δ n Q = u δ n fun c m => if c = true then x xc δ m Q else y xc δ m Q := rfl
theorem x_qRaise : qRaise nm e xc E δ n = e δ n fun d m => xc nm d δ m := rfl
theorem x_qNil : qNil xc δ n QA = QA [] n := rfl
theorem x_qCons : qCons x xa xc δ n QA = x xc δ n fun d m => xa xc δ m fun as k => QA (d :: as) k := rfl
theorem x_qLst : qLst xa xc δ n Q = xa xc δ n fun ds m => ds.length ≤ sizeLine ∧ Q (.list ds) m := rfl
theorem x_qTup : qTup xa xc δ n Q = xa xc δ n fun ds m => ds.length ≤ sizeLine ∧ Q (.tuple ds) m := rfl
theorem x_callX : dCallX f tr xc δ n Q = tr δ n fun as m => f as m (fun nm x m' => xc nm x δ m') Q := rfl
theorem x_callKX : dCallKX f nb perm tr xc δ n Q = tr δ n fun bs m => f (gP 0 nb perm [] bs) m (fun nm x m' => xc nm x δ m') Q := rfl
theorem x_try : sTry nm i s rs E δ n = s (fun nm' x δ' m => nm' = nm ∧ i < δ'.length ∧ (rs x).length ≤ sizeLine ∧ E.rt (.list (rs x)) m) E δ n := rfl
end
end DL
namespace DL
open PySem PySem.Spec L2
/-- an own class is caught by its own name -/
theorem exm_own {K : PySem.W.Frag} {C : Addr} (b : PySem.W.subIn K (.ref C) (.type "BaseException") = some true) (i : PySem.W.isClsIn K C = true) (t : PySem.W.typeIn K (.ref C) = some (.type "type")) (r : PySem.W.subIn K (.ref C) (.ref C) = some true) : PySem.W.exmOne K (.ref C) (.ref C) = some true := by
  have j : (PySem.W.clsIn K C).isSome = true := i
  unfold PySem.W.exmOne PySem.W.kitCls
  simp only [b, j, t, r, BEq.rfl, Bool.and_self, if_true]
end DL
/-! DX7: a loop that an own exception may leave. -/
namespace DL
open PySem PySem.Spec L2
section
variable {X : Cx} {ct : XT} {W : WX} {pos : Pos}
def qFor (s : DTA) (γ : DTG) (tb : DTSX) : DTSX := fun xc => sFor s γ (tb xc)
theorem dsx_for {tg iter : Expr} {body : List Stmt} {s : DTA} {g : TG} {is : List Nat} {γ : DTG} {tb : DTSX} (hp : PassesOwn (model X.prog X.w) X.A X.env X.xe) (hc : X.calm = true) (hi : DI X true tg iter s) (hg : PG X tg g) (sem : GSem X.K g is γ) (hb : DSsX X ct W body tb)
    (hs : ∀ x, foldedSetIterable iter X.env x = pure x := by intro _; rfl) : DSX X ct W (.For tg iter body [] pos) (qFor s γ tb) :=
  ⟨PS.imp (ps_for hp hc hi.run hg hb.run hs) fun D σ H ⟨gh, n, δ, S, Vs, E, xc, hT, sr, ht, ok, xk⟩ => by
    refine ⟨gh, n, δ, S, Vs, _, sr, ht, fun J H1 S1 V1 ds m hp sr1 q1 q2 w => ?_⟩
    rw [if_pos rfl] at w
    refine ⟨fun i k σ H => k = ds.length - i ∧ i ≤ ds.length ∧ ∃ δ2 m2 S2 V2, SR X.K gh m2 δ2 σ H S2 V2 ∧ Same S1 S2 ∧ forR γ (tb xc) E (ds.drop i) δ2 m2, ⟨ds.length, by simp, Nat.zero_le _, δ, m, S1, V1, sr1, Same.refl _, hp⟩,
      fun i k σ2 H2 ⟨hk, hi, δ2, m2, S2, V2, sr2, r1, hf⟩ => ?_⟩
    by_cases hlt : i < ds.length
    · have ed : ds[i]? = some ds[i] := List.getElem?_eq_getElem hlt
      obtain ⟨wg, wy⟩ := (w i H2 (r1.trans sr2.SH)).1 _ ed
      rw [List.drop_eq_getElem_cons hlt] at hf
      refine .inr ⟨wg, fun σ' H' => ∃ δ3 m3 S3 V3, SR X.K gh m3 δ3 σ' H' S3 V3 ∧ Same S1 S3 ∧ forR γ (tb xc) E (ds.drop (i + 1)) δ3 m3, fun σ' H' ⟨δ3, m3, S3, V3, a1, a2, a3⟩ => ⟨ds.length - (i + 1), by omega, rfl, hlt, δ3, m3, S3, V3, a1, a2, a3⟩, fun x H3 hy => ?_⟩
      obtain ⟨S3, V3, sr3, p1, p2, p3⟩ := sr2.out (Out.mono r1 (wy x H3 hy))
      refine sem gh m2 δ2 σ2 H3 S3 V3 _ x _ _ sr3 p3 hf fun δ4 σ4 h4 sr4 _ _ => ?_
      exact ⟨gh, m2, δ4, S3, V3, _, xc, hT, sr4, h4, ⟨fun δ' m' σ' H' S' Vs' a1 a2 a3 => ⟨δ', m', S', Vs', a2, r1.trans (p1.trans a3), a1⟩, fun d δ' m' v σ' H' S' Vs' a1 a2 a3 a4 => ok.2.1 d δ' m' v σ' H' S' Vs' a1 a2 (q1.trans (r1.trans (p1.trans a3))) a4,
        fun δ' m' σ' H' S' Vs' a1 a2 a3 => ok.1 δ' m' σ' H' S' Vs' a1 a2 (q1.trans (r1.trans (p1.trans a3))), fun δ' m' σ' H' S' Vs' a1 a2 a3 => ⟨δ', m', S', Vs', a2, r1.trans (p1.trans a3), a1⟩⟩, xk.less (q1.trans (r1.trans p1))⟩
    · have hge : ds.length ≤ i := Nat.le_of_not_lt hlt
      rw [List.drop_eq_nil_of_le hge] at hf
      exact .inl ⟨(w i H2 (r1.trans sr2.SH)).2 hge, ok.1 δ2 m2 σ2 H2 S2 V2 hf sr2 (q1.trans r1)⟩⟩
theorem x_qFor {s : DTA} {γ : DTG} {tb : DTSX} {xc : XC} {E : DEnds} {δ : DS} {n : Nat} : qFor s γ tb xc E δ n = s δ n fun ds m => forR γ (tb xc) E ds δ m := rfl
end
end DL
/-! DY: hash tables of up to 2048 slots: the walk through the slots, putting in, laying anew. -/
namespace DZ
open PySem PySem.Spec PyProof.Rows L2
/-! ### the round of the slots -/
/-- the powers of five, four times a table's size: one comes back just at the end -/
def Round (m : Nat) : Prop := 5 ^ (m + 1) % (4 * (m + 1)) = 1 ∧ ((List.range (m + 1)).all fun d => d == 0 || 5 ^ d % (4 * (m + 1)) != 1) = true
def MaskG (m : Nat) : Prop := m = 7 ∨ m = 31 ∨ m = 127 ∨ m = 511 ∨ m = 2047
theorem round7 : Round 7 := ⟨by decide +kernel, by decide +kernel⟩
theorem round31 : Round 31 := ⟨by decide +kernel, by decide +kernel⟩
theorem round127 : Round 127 := ⟨by decide +kernel, by decide +kernel⟩
theorem round511 : Round 511 := ⟨by decide +kernel, by decide +kernel⟩
theorem round2047 : Round 2047 := ⟨by decide +kernel, by decide +kernel⟩
theorem MaskG.round {m : Nat} (M : MaskG m) : Round m := by
  rcases M with e | e | e | e | e <;> rw [e]
  · exact round7
  · exact round31
  · exact round127
  · exact round511
  · exact round2047
theorem MaskG.odd {m : Nat} (M : MaskG m) : m % 2 = 1 := by rcases M with e | e | e | e | e <;> rw [e]
theorem MaskG.top {m : Nat} (M : MaskG m) : 7 ≤ m ∧ m ≤ 2047 := by rcases M with e | e | e | e | e <;> rw [e] <;> decide
/-- four times a start and one more is a power of five -/
theorem start_pow (m : Nat) : ∀ k, (4 * lcgN m k + 1) % (4 * (m + 1)) = 5 ^ k % (4 * (m + 1))
  | 0 => rfl
  | k + 1 => by
    have ih := start_pow m k
    rw [lcgN, ← Nat.mul_mod_mul_left, Nat.mod_add_mod, Nat.pow_succ, Nat.mul_mod, ← ih, ← Nat.mul_mod]
    congr 1
    omega
theorem start_le (m : Nat) : ∀ k, lcgN m k ≤ m
  | 0 => Nat.zero_le _
  | k + 1 => Nat.le_of_lt_succ (Nat.mod_lt _ (Nat.succ_pos _))
theorem back_zero {m : Nat} (R : Round m) : lcgN m (m + 1) = 0 := by
  have p := start_pow m (m + 1)
  have l := start_le m (m + 1)
  rw [R.1, Nat.mod_eq_of_lt (by omega)] at p
  omega
theorem not_zero {m d : Nat} (R : Round m) (d0 : 0 < d) (dm : d ≤ m) : lcgN m d ≠ 0 := by
  intro z
  have p := start_pow m d
  have q := List.all_eq_true.mp R.2 d (List.mem_range.mpr (by omega))
  rw [z, Nat.mod_eq_of_lt (by omega)] at p
  simp only [Bool.or_eq_true, beq_iff_eq, bne_iff_ne, ne_eq] at q
  rcases q with q | q
  · omega
  · exact q p.symm
theorem on_from (m k : Nat) : lcgI m 0 k = lcgN m k := by
  have q := lcgN_add m 0 k
  rw [Nat.zero_add] at q
  exact q
theorem once_more {m : Nat} (R : Round m) (k : Nat) : lcgN m (m + 1 + k) = lcgN m k := by
  rw [← lcgN_add, back_zero R, on_from]
theorem starts_apart {m a b : Nat} (R : Round m) (lt : a < b) (le : b ≤ m) : lcgN m a ≠ lcgN m b := by
  intro e
  have q1 := lcgN_add m a (m + 1 - b)
  have q2 := lcgN_add m b (m + 1 - b)
  rw [e, q2, show b + (m + 1 - b) = m + 1 by omega, back_zero R] at q1
  exact not_zero R (by omega) (by omega) q1.symm
/-- each slot is a start of the round from nought -/
theorem each_start {m j : Nat} (R : Round m) (hj : j ≤ m) : ∃ b, b ≤ m ∧ lcgN m b = j := by
  rcases Classical.em (∃ b, b ≤ m ∧ lcgN m b = j) with c | c
  · exact c
  exfalso
  have nd : ((List.range (m + 1)).map (lcgN m)).Nodup := by
    rw [List.Nodup, List.pairwise_map]
    refine List.Pairwise.imp_of_mem (fun {a b} ha hb h => ?_) (List.pairwise_lt_range (n := m + 1))
    exact starts_apart R h (Nat.le_of_lt_succ (List.mem_range.mp hb))
  have q := nat_nodup_len _ ((List.range (m + 1)).erase j) nd fun x hx => by
    obtain ⟨b, hb, rfl⟩ := List.mem_map.mp hx
    have ne : lcgN m b ≠ j := fun e => c ⟨b, Nat.le_of_lt_succ (List.mem_range.mp hb), e⟩
    exact (List.mem_erase_of_ne ne).mpr (List.mem_range.mpr (Nat.lt_succ_of_le (start_le m b)))
  rw [List.length_map, List.length_erase_of_mem (List.mem_range.mpr (Nat.lt_succ_of_le hj)), List.length_range] at q
  omega
/-- and of the round from anywhere -/
theorem from_any {m i j : Nat} (R : Round m) (hi : i ≤ m) (hj : j ≤ m) : ∃ k, k ≤ m ∧ lcgI m i k = j := by
  obtain ⟨a, a1, rfl⟩ := each_start R hi
  obtain ⟨b, b1, rfl⟩ := each_start R hj
  by_cases c : a ≤ b
  · exact ⟨b - a, by omega, by rw [lcgN_add, show a + (b - a) = b by omega]⟩
  · exact ⟨m + 1 + b - a, by omega, by rw [lcgN_add, show a + (m + 1 + b - a) = m + 1 + b by omega, once_more R]⟩
theorem off_small (m : Nat) : ∀ n i b, i ≤ m → off m i b n ≤ 10 * n
  | 0, _, _, _ => Nat.le_refl _
  | n + 1, i, b, hi => by
    have r := runEnd_bd hi
    have q := off_small m n (SetTable.leap m i b).1 (SetTable.leap m i b).2 (leap_le m i b)
    rw [off]
    omega
/-- the first slot on a hash's way of which B is not true, where there is one at all -/
theorem gap_on {m : Nat} (M : MaskG m) (h : Int) {B : Nat → Prop} {j : Nat} (hj : j ≤ m) (nb : ¬ B j) :
    ∃ n K, n ≤ m + 12 ∧ K ≤ off m (SetTable.bits h % (m + 1)) (SetTable.bits h) n ∧ K ≤ 10 * n ∧ ¬ B (way m h K) ∧ ∀ c, c < K → B (way m h c) := by
  obtain ⟨k, k1, k2⟩ := from_any M.round (runI_le m (SetTable.bits h) 12) hj
  have at_ : way m h (off m (SetTable.bits h % (m + 1)) (SetTable.bits h) (12 + k)) = j := by
    unfold way
    rw [nth_off, itL_run, runI_tail (bits_lt h), k2]
    rfl
  obtain ⟨K, z1, z2, z3⟩ := st_least (p := fun c => ¬ B (way m h c)) (off m (SetTable.bits h % (m + 1)) (SetTable.bits h) (12 + k)) (by simpa only [at_] using nb)
  have s := off_small m (12 + k) (SetTable.bits h % (m + 1)) (SetTable.bits h) (Nat.le_of_lt_succ (Nat.mod_lt _ (Nat.succ_pos _)))
  exact ⟨12 + k, K, by omega, z1, by omega, z2, fun c hc => Classical.not_not.mp (z3 c hc)⟩
theorem way_top (m : Nat) (h : Int) (k : Nat) : way m h k ≤ m := by
  have hi : SetTable.bits h % (m + 1) ≤ m := Nat.le_of_lt_succ (Nat.mod_lt _ (Nat.succ_pos _))
  have r := runEnd_bd hi
  have q := nth_in (m := m) k (runAt m (SetTable.bits h % (m + 1)) (SetTable.bits h)) (by simp only [runAt]; omega)
  exact Nat.le_trans (Nat.le_add_right _ _) q
/-! ### tables -/
/-- a table without holes in its ways -/
structure TabG (t : SetTable) (hs : List Int) : Prop where
  msk : MaskG t.mask
  ris : Ris t.place.toList
  dm : t.dummies = #[]
  sz : t.place.size = hs.length
  goes : ∀ (i : Nat) (g : Int) (j : Nat), hs[i]? = some g → t.place.toList[i]? = some j → ∃ c, way t.mask g c = j ∧ ∀ b, b < c → way t.mask g b ∈ t.place.toList
theorem TabG.first {t : SetTable} {hs : List Int} (T : TabG t hs) (le : hs.length ≤ t.mask) (g : Int) :
    ∃ K, K < 10 * SetTable.turns t.mask ∧ way t.mask g K ∉ t.place.toList ∧ ∀ c, c < K → way t.mask g c ∈ t.place.toList := by
  obtain ⟨j, j1, j2⟩ := st_missing t.place.toList (t.mask + 1) (by rw [Array.length_toList, T.sz]; omega)
  obtain ⟨n, K, k1, _, k2, k3, k4⟩ := gap_on T.msk g (B := fun x => x ∈ t.place.toList) (Nat.le_of_lt_succ j1) j2
  exact ⟨K, by unfold SetTable.turns; omega, k3, k4⟩
theorem TabG.before {t : SetTable} {hs : List Int} (T : TabG t hs) {g : Int} {K i j : Nat} (free : way t.mask g K ∉ t.place.toList) (hi : hs[i]? = some g) (hj : t.place.toList[i]? = some j) : ∃ c, c < K ∧ way t.mask g c = j := by
  obtain ⟨c, c1, c2⟩ := T.goes i g j hi hj
  by_cases l : c < K
  · exact ⟨c, l, c1⟩
  exfalso
  by_cases e : c = K
  · rw [← e, c1] at free; exact free (List.mem_of_getElem? hj)
  · exact free (c2 K (by omega))
theorem TabG.put {t : SetTable} {hs : List Int} (T : TabG t hs) {g : Int} {K : Nat} (free : way t.mask g K ∉ t.place.toList) (busy : ∀ c, c < K → way t.mask g c ∈ t.place.toList) :
    (t.put (way t.mask g K)).2 = SetTable.below t.place (way t.mask g K) ∧ SetTable.below t.place (way t.mask g K) ≤ hs.length ∧
    TabG (t.put (way t.mask g K)).1 (hs.take (SetTable.below t.place (way t.mask g K)) ++ g :: hs.drop (SetTable.below t.place (way t.mask g K))) ∧
    (t.put (way t.mask g K)).1.mask = t.mask ∧ (t.put (way t.mask g K)).1.led = t.led ∧ (t.put (way t.mask g K)).1.plain = t.plain ∧ (t.put (way t.mask g K)).1.moves = t.moves ∧ (t.put (way t.mask g K)).1.finger = t.finger ∧
    (t.put (way t.mask g K)).1.fill = hs.length + 1 := by
  generalize hw : way t.mask g K = y at free ⊢
  have cut := (below_cut T.ris y).1
  have lp : SetTable.below t.place y ≤ t.place.toList.length := by rw [Array.length_toList]; exact cut
  have lh : SetTable.below t.place y ≤ hs.length := by rw [← T.sz]; exact cut
  have pl := put_place t y
  have size1 : (t.put y).1.place.size = hs.length + 1 := by rw [← Array.length_toList, pl, len_ins _ lp, Array.length_toList, T.sz]
  have dm1 := put_dm T.dm y
  have mem1 : ∀ z, z ∈ t.place.toList → z ∈ (t.put y).1.place.toList := fun z hz => by rw [pl]; exact mem_ins.mpr (.inr hz)
  have ris1 : Ris (t.put y).1.place.toList := ris_insert T.ris fun e => free (List.mem_of_getElem? (by rw [Array.getElem?_toList]; exact e))
  refine ⟨rfl, lh, ⟨T.msk, ris1, dm1, by rw [size1, len_ins _ lh], ?_⟩, rfl, rfl, rfl, rfl, rfl, ?_⟩
  · intro i g' j a b
    rw [tins_get hs lh] at a
    rw [pl, tins_get _ lp] at b
    have old : ∀ i', hs[i']? = some g' → t.place.toList[i']? = some j → ∃ c, way t.mask g' c = j ∧ ∀ d, d < c → way t.mask g' d ∈ (t.put y).1.place.toList := fun i' a b => by
      obtain ⟨c, c1, c2⟩ := T.goes i' g' j a b
      exact ⟨c, c1, fun d hd => mem1 _ (c2 d hd)⟩
    split at a
    · rename_i c
      rw [if_pos c] at b
      exact old i a b
    · rename_i c
      rw [if_neg c] at b
      split at a
      · rename_i d
        rw [if_pos d] at b
        cases a
        cases b
        exact ⟨K, hw, fun d hd => mem1 _ (busy d hd)⟩
      · rename_i d
        rw [if_neg d] at b
        exact old (i - 1) a b
  · unfold SetTable.fill
    rw [size1, dm1]
    rfl
/-! ### laying anew -/
theorem Own.more {m : Nat} (M : MaskG m) {done : List Int} {owner : Array (Option Nat)} (W : Own m done owner) (le : done.length ≤ m) (g : Int) :
    ∃ y, SetTable.layClean.free m owner (SetTable.turns m) (SetTable.bits g % (m + 1)) (SetTable.bits g) = some y ∧ Own m (done ++ [g]) (owner.setIfInBounds y (some done.length)) := by
  obtain ⟨ps, ps1, ps2⟩ := W.ps
  obtain ⟨j, j1, j2⟩ := st_missing ps (m + 1) (by omega)
  have jn : ¬ (oAt owner j ≠ none) := fun z => j2 (ps2 j (Nat.le_of_lt_succ j1) z)
  obtain ⟨n, K, n1, k1, _, k2, k3⟩ := gap_on M g (B := fun x => oAt owner x ≠ none) (Nat.le_of_lt_succ j1) jn
  have k2 : oAt owner (way m g K) = none := Classical.not_not.mp k2
  have top := way_top m g K
  have fr : SetTable.layClean.free m owner (SetTable.turns m) (SetTable.bits g % (m + 1)) (SetTable.bits g) = some (way m g K) :=
    free_spec m owner (SetTable.turns m) n _ _ K (by unfold SetTable.turns; omega) k1 (fun c hc => by
      have q := k3 c hc
      cases z : oAt owner (way m g c) with
      | none => exact absurd z q
      | some x => rfl) ((congrArg Option.isNone k2).trans rfl)
  generalize hy : way m g K = y at *
  have ins : y < owner.size := by rw [W.sz]; omega
  have same := oAt_set_self (owner := owner) (some done.length) ins
  have stay : ∀ z, oAt owner z ≠ none → oAt (owner.setIfInBounds y (some done.length)) z ≠ none := fun z hz => by
    by_cases e : z = y
    · rw [e, same]; simp
    · rw [oAt_set_ne _ e]; exact hz
  refine ⟨y, fr, ⟨by simp [W.sz], ?_, ?_, y :: ps, by simp [ps1], ?_⟩⟩
  · intro z k hz e
    by_cases c : z = y
    · rw [c, same] at e
      cases e
      exact ⟨g, K, by simp, hy.trans c.symm, fun d hd => stay _ (k3 d hd)⟩
    · rw [oAt_set_ne _ c] at e
      obtain ⟨g', K', u1, u2, u3⟩ := W.at_ z k hz e
      exact ⟨g', K', by rw [List.getElem?_append_left (List.getElem?_eq_some_iff.mp u1).1, u1], u2, fun d hd => stay _ (u3 d hd)⟩
  · intro k hk
    by_cases c : k = done.length
    · exact ⟨y, top, by rw [same, c]⟩
    · obtain ⟨z, z1, z2⟩ := W.all k (by simp at hk; omega)
      refine ⟨z, z1, ?_⟩
      rw [oAt_set_ne _ fun e => by rw [e, k2] at z2; cases z2]
      exact z2
  · intro z hz e
    by_cases c : z = y
    · rw [c]; exact List.mem_cons_self
    · rw [oAt_set_ne _ c] at e
      exact List.mem_cons_of_mem _ (ps2 z hz e)
theorem lay_all {m : Nat} (M : MaskG m) : ∀ (rest done : List Int) (owner : Array (Option Nat)), Own m done owner → done.length + rest.length ≤ m →
    ∃ owner', rest.foldl (stepF m) (some (owner, done.length)) = some (owner', (done ++ rest).length) ∧ Own m (done ++ rest) owner'
  | [], done, owner, W, _ => ⟨owner, by simp, by simpa using W⟩
  | g :: rest, done, owner, W, le => by
    simp only [List.length_cons] at le
    obtain ⟨y, y1, y2⟩ := Own.more M W (by omega) g
    obtain ⟨o2, p1, p2⟩ := lay_all M rest (done ++ [g]) _ y2 (by simp; omega)
    refine ⟨o2, ?_, by simpa using p2⟩
    rw [List.foldl_cons, stepF_some y1]
    simpa using p1
theorem lay_clean {m : Nat} (M : MaskG m) {hs : Array Int} (le : hs.size ≤ m) : ∃ owner, SetTable.layClean m hs = some owner ∧ Own m hs.toList owner := by
  obtain ⟨owner, o1, o2⟩ := lay_all M hs.toList [] _ (Own.init m) (by simpa using le)
  refine ⟨owner, ?_, by simpa using o2⟩
  rw [layClean_eq]
  rw [List.length_nil] at o1
  rw [o1]
  rfl
theorem relaid_g (t : SetTable) {hs : Array Int} {wanted m : Nat} (hw : SetTable.sizeAbove wanted - 1 = m) (M : MaskG m) (le : hs.size ≤ m) :
    ∃ t' order, t.relaid hs wanted = some (t', order) ∧ order.toList.Perm (List.range hs.size) ∧ TabG t' (order.toList.map fun i => hs.getD i 0) ∧ t'.mask = m ∧ t'.led = t.led ∧ t'.plain = t.plain ∧ t'.dummies = #[] := by
  obtain ⟨owner, o1, W⟩ := lay_clean M le
  have eq1 : t.relaid hs wanted = some (tabOf t m owner, ((liveOf m owner).map (·.2)).toArray) := by
    rw [relaid_eq, hw, o1]
    rfl
  obtain ⟨up, inr⟩ := ris_live (fun j => owner.getD j none) (List.range (m + 1)) (List.pairwise_lt_range (n := m + 1))
  replace up : Ris ((liveOf m owner).map (·.1)) := up
  have sits := fun j k => mem_live (j := j) (k := k) W.sz
  have len : (liveOf m owner).length = hs.size := by
    apply Nat.le_antisymm
    · obtain ⟨ps, p1, p2⟩ := W.ps
      have nd : ((liveOf m owner).map (·.1)).Nodup := List.Pairwise.imp (fun z => Nat.ne_of_lt z) up
      have q := nat_nodup_len ((liveOf m owner).map (·.1)) ps nd fun x hx => by
        obtain ⟨⟨a, b⟩, hab, rfl⟩ := List.mem_map.mp hx
        obtain ⟨u1, u2⟩ := (sits a b).mp hab
        exact p2 a u1 (by rw [u2]; simp)
      rw [List.length_map, p1, Array.length_toList] at q
      exact q
    · have q := nat_nodup_len (List.range hs.size) ((liveOf m owner).map (·.2)) List.nodup_range fun k hk => by
        obtain ⟨j, u1, u2⟩ := W.all k (by rw [Array.length_toList]; exact List.mem_range.mp hk)
        exact List.mem_map.mpr ⟨(j, k), (sits j k).mpr ⟨u1, u2⟩, rfl⟩
      rw [List.length_map, List.length_range] at q
      exact q
  refine ⟨_, _, eq1, ?_, ⟨M, up, rfl, ?_, ?_⟩, rfl, rfl, rfl, rfl⟩
  · refine perm_range hs.size _ (by rw [List.toList_toArray, List.length_map, len]) fun k hk => ?_
    obtain ⟨j, u1, u2⟩ := W.all k (by rw [Array.length_toList]; exact hk)
    exact List.mem_map.mpr ⟨(j, k), (sits j k).mpr ⟨u1, u2⟩, rfl⟩
  · simp [tabOf]
  · intro i g j a b
    replace b : ((liveOf m owner).map (·.1))[i]? = some j := b
    rw [List.toList_toArray, List.getElem?_map, List.getElem?_map] at a
    rw [List.getElem?_map] at b
    cases at_ : (liveOf m owner)[i]? with
    | none => rw [at_] at b; cases b
    | some z =>
      obtain ⟨y, k⟩ := z
      rw [at_] at a b
      simp only [Option.map_some, Option.some.injEq] at a b
      subst b
      obtain ⟨u1, u2⟩ := (sits y k).mp (List.mem_of_getElem? at_)
      obtain ⟨g0, K, v1, v2, v3⟩ := W.at_ y k u1 u2
      rw [Array.getD_eq_getD_getElem?, ← Array.getElem?_toList, v1] at a
      cases a
      refine ⟨K, v2, fun c hc => ?_⟩
      show way m g0 c ∈ (liveOf m owner).map (·.1)
      cases w : oAt owner (way m g0 c) with
      | none => exact absurd w (v3 c hc)
      | some x => exact List.mem_map.mpr ⟨(way m g0 c, x), (sits _ _).mpr ⟨way_top m g0 c, w⟩, rfl⟩
theorem above5 : SetTable.sizeAbove (SetTable.grown 5) = 32 := by decide +kernel
theorem above19 : SetTable.sizeAbove (SetTable.grown 19) = 128 := by decide +kernel
theorem above77 : SetTable.sizeAbove (SetTable.grown 77) = 512 := by decide +kernel
theorem above307 : SetTable.sizeAbove (SetTable.grown 307) = 2048 := by decide +kernel
end DZ
/-! DZ: sets of nested tuples (fewer than 1200), sorted. -/
namespace DZ
open PySem PySem.Spec PyProof.Rows L2
section
variable {P : Program} {w : World}
abbrev Kn (P : Program) (w : World) := nestedKind P w
/-- no class statement within -/
def ClsNo (P : Program) (w : World) (n : Nat) (s : Shared) (v : Value) : Prop := ∀ (A : Around) (E : Value → Shared → Prop) (Q : Bool → Shared → Prop), Q false s → wpAny (model P w) A (ofAClassStatement n v) Q E s
/-- whether the hash is by value is known -/
def HvAt (P : Program) (w : World) (n : Nat) (s : Shared) (v : Value) : Prop := ∃ b : Bool, ∀ (A : Around) (E : Value → Shared → Prop) (Q : Bool → Shared → Prop), Q b s → wpAny (model P w) A (hashByValue n v) Q E s
theorem cls_tup {n : Nat} {s : Shared} {b : Addr} {o : Obj} {us : Array Value} {e : Nat} (g : s.heap.get? b = some o) (c : o.cls = .type "tuple") (d : o.data = .seq us e) (all : ∀ v ∈ us.toList, ClsNo P w n s v) : ClsNo P w (n + 1) s (.ref b) := by
  intro A E Q q
  have T : s.TypeIs (.ref b) "tuple" := ⟨o, g, c⟩
  unfold ofAClassStatement
  refine wpAny_bind (wpAny_typeOf T ?_)
  have tt : (("tuple" : String) == "tuple") = true := by decide
  dsimp only
  simp only [tt, if_true, Bool.not_true, Bool.false_eq_true, if_false]
  try refine wpAny_bind (wpAny_pure ?_)
  try simp only [Bool.not_true, Bool.false_eq_true, if_false]
  refine wpAny_bind (wpAny_seqItems g d ?_)
  dsimp only
  refine wpAny_bind ?_
  rw [← Array.forIn_toList]
  refine wpAny_forIn_list _ (fun r x z => x.1 = none ∧ z = s ∧ ∀ v ∈ r, ClsNo P w n s v) _ (fun v r x z i => ?_) (fun x z i => ?_) _ _ ⟨rfl, rfl, all⟩
  · obtain ⟨i1, i2, i3⟩ := i
    subst i2
    refine wpAny_bind (i3 v List.mem_cons_self _ _ _ ?_)
    simp only [Bool.false_eq_true, if_false]
    exact wpAny_pure ⟨rfl, rfl, fun u hu => i3 u (List.mem_cons_of_mem _ hu)⟩
  · obtain ⟨x1, x2⟩ := x
    obtain ⟨i1, i2, _⟩ := i
    simp only at i1
    subst i1 i2
    exact wpAny_pure q
mutual
theorem cls_key : ∀ (k : NestedKey) (v : Value) (n : Nat) (s : Shared), NestedIs s.heap k v → k.depth ≤ n → ClsNo P w n s v
  | .none, _, n, s, x, _ => by cases x; intro A E Q q; cases n <;> exact wpAny_pure q
  | .num _, _, n, s, x, _ => by cases x <;> (intro A E Q q; cases n <;> exact wpAny_pure q)
  | .text _, _, n, s, x, _ => by cases x; intro A E Q q; cases n <;> exact wpAny_pure q
  | .tup ks, _, n, s, x, l => by
    cases x with
    | tup g c d all =>
      cases n with
      | zero => simp [NestedKey.depth] at l
      | succ n => exact cls_tup g c d (cls_keys ks _ n s all (by simp [NestedKey.depth] at l; omega))
theorem cls_keys : ∀ (ks : List NestedKey) (vs : List Value) (n : Nat) (s : Shared), NestedAll s.heap ks vs → NestedKey.depthAll ks ≤ n → ∀ v ∈ vs, ClsNo P w n s v
  | [], _, n, s, x, _, v, hv => by cases x; cases hv
  | k :: ks, _, n, s, x, l, v, hv => by
    cases x with
    | cons x y =>
      simp only [NestedKey.depthAll] at l
      rcases List.mem_cons.mp hv with rfl | hv
      · exact cls_key k _ n s x (by omega)
      · exact cls_keys ks _ n s y (by omega) v hv
end
theorem hv_tup {n : Nat} {s : Shared} {b : Addr} {o : Obj} {us : Array Value} {e : Nat} (g : s.heap.get? b = some o) (c : o.cls = .type "tuple") (d : o.data = .seq us e) (all : ∀ v ∈ us.toList, HvAt P w n s v) : HvAt P w (n + 1) s (.ref b) := by
  classical
  let bv : Value → Bool := fun v => if h : HvAt P w n s v then h.choose else true
  have hv : ∀ v ∈ us.toList, ∀ (A : Around) (E : Value → Shared → Prop) (Q : Bool → Shared → Prop), Q (bv v) s → wpAny (model P w) A (hashByValue n v) Q E s := fun v m => by
    have h := all v m
    simp only [bv, dif_pos h]
    exact h.choose_spec
  have T : s.TypeIs (.ref b) "tuple" := ⟨o, g, c⟩
  refine ⟨us.toList.all bv, fun A E Q q => ?_⟩
  unfold hashByValue
  refine wpAny_bind (wpAny_specialOf T F.slot_tuple_hash.lookup ?_)
  show wpAny _ _ (seqItems? (.ref b) >>= _) _ _ s
  refine wpAny_bind (wpAny_seqItems g d (wpAny_bind ?_))
  show wpAny _ _ (forIn us _ _) _ _ s
  rw [← Array.forIn_toList]
  refine wpAny_forIn_list _ (fun r x z => z = s ∧ x.1 = none ∧ (∀ v ∈ r, v ∈ us.toList) ∧ r.all bv = us.toList.all bv) _ (fun v r x z i => ?_) (fun x z i => ?_) _ _ ⟨rfl, rfl, fun _ h => h, rfl⟩
  · obtain ⟨rfl, i2, i3, i4⟩ := i
    refine wpAny_bind (hv v (i3 v List.mem_cons_self) _ _ _ ?_)
    rw [List.all_cons] at i4
    cases q0 : bv v with
    | false =>
      rw [q0, Bool.false_and] at i4
      rw [← i4] at q
      simp only [Bool.not_false, if_true]
      exact wpAny_pure (wpAny_pure q)
    | true =>
      rw [q0, Bool.true_and] at i4
      simp only [Bool.not_true, Bool.false_eq_true, if_false]
      exact wpAny_pure ⟨rfl, rfl, fun u hu => i3 u (List.mem_cons_of_mem _ hu), i4⟩
  · obtain ⟨x1, x2⟩ := x
    obtain ⟨rfl, i2, _, i4⟩ := i
    simp only at i2
    subst i2
    rw [← i4] at q
    exact wpAny_pure q
mutual
theorem hv_key : ∀ (k : NestedKey) (v : Value) (n : Nat) (s : Shared), NestedIs s.heap k v → k.depth ≤ n → HvAt P w n s v
  | .none, _, n, s, x, _ => by cases x; exact ⟨true, fun A E Q q => by cases n <;> exact wpAny_pure q⟩
  | .num _, _, n, s, x, _ => by cases x <;> exact ⟨true, fun A E Q q => by cases n <;> exact wpAny_pure q⟩
  | .text _, _, n, s, x, _ => by cases x; exact ⟨false, fun A E Q q => by cases n <;> exact wpAny_pure q⟩
  | .tup ks, _, n, s, x, l => by
    cases x with
    | tup g c d all =>
      cases n with
      | zero => simp [NestedKey.depth] at l
      | succ n => exact hv_tup g c d (hv_keys ks _ n s all (by simp [NestedKey.depth] at l; omega))
theorem hv_keys : ∀ (ks : List NestedKey) (vs : List Value) (n : Nat) (s : Shared), NestedAll s.heap ks vs → NestedKey.depthAll ks ≤ n → ∀ v ∈ vs, HvAt P w n s v
  | [], _, n, s, x, _, v, hv => by cases x; cases hv
  | k :: ks, _, n, s, x, l, v, hv => by
    cases x with
    | cons x y =>
      simp only [NestedKey.depthAll] at l
      rcases List.mem_cons.mp hv with rfl | hv
      · exact hv_key k _ n s x (by omega)
      · exact hv_keys ks _ n s y (by omega) v hv
end
abbrev KAt (P : Program) (w : World) (h : Heap) (k : NestedKey) (b : Addr) : Prop := (nestedKind P w).is h k b
/-- looking among such keys shows nothing -/
theorem unseen {A : Around} {E : Value → Shared → Prop} {s : Shared} {k : NestedKey} {b : Addr} {ys : List Value} {Q : Bool → Shared → Prop} (x : KAt P w s.heap k b) (all : ∀ y ∈ ys, ∃ j c, y = .ref c ∧ KAt P w s.heap j c) (q : Q false s) :
    wpAny (model P w) A (searchCouldBeSeen (.ref b) ys) Q E s := by
  unfold searchCouldBeSeen
  refine wpAny_bind (wpAny_forIn_list _ (fun r m z => z = s ∧ m.1 = none ∧ ∀ y ∈ r, ∃ j c, y = .ref c ∧ KAt P w s.heap j c) _ (fun v r m z i => ?_) (fun m z i => ?_) _ _ ⟨rfl, rfl, all⟩)
  · obtain ⟨rfl, i2, i3⟩ := i
    obtain ⟨j, c, rfl, y⟩ := i3 v List.mem_cons_self
    have more : ∀ u ∈ r, ∃ j c, u = Value.ref c ∧ KAt P w z.heap j c := fun u hu => i3 u (List.mem_cons_of_mem _ hu)
    dsimp only
    by_cases same : (b == c || (carriedByValue (.ref b) && carriedByValue (.ref c))) = true
    · exact wp_if_pos same (wpAny_pure ⟨rfl, rfl, more⟩)
    refine wp_if_neg same (wpAny_bind ((nestedKind P w).quiet x ?_))
    simp only [Bool.not_true, Bool.false_eq_true, if_false]
    refine wpAny_bind ((nestedKind P w).quiet y ?_)
    simp only [Bool.not_true, Bool.false_eq_true, if_false]
    refine wpAny_bind (cls_key k _ 8 z x.1 x.2 _ _ _ ?_)
    simp only [Bool.false_eq_true, if_false]
    refine wpAny_bind (cls_key j _ 8 z y.1 y.2 _ _ _ ?_)
    simp only [Bool.false_eq_true, if_false]
    exact wpAny_pure ⟨rfl, rfl, more⟩
  · obtain ⟨m1, m2⟩ := m
    obtain ⟨rfl, i2, _⟩ := i
    simp only at i2
    subst i2
    exact wpAny_pure q
end
end DZ
/-! DZ2: the table of a set of nested tuples: looking, adding. -/
namespace DZ
open PySem PySem.Spec PyProof.Rows L2
section
variable {P : Program} {w : World} {A : Around} {E : Value → Shared → Prop} {s : Shared}
abbrev KL := List (Addr × NestedKey)
/-- a set's entries, their hashes -/
def ents (w : World) (L : KL) : List (Int × Value) := L.map fun p => (p.2.hash w, .ref p.1)
def hashs (w : World) (L : KL) : List Int := L.map fun p => p.2.hash w
structure SetN (P : Program) (w : World) (h : Heap) (a : Addr) (L : KL) (es : Array (Int × Value)) (ep : Nat) (t : SetTable) : Prop where
  obj : ∃ o, h.get? a = some o ∧ o.ExactSet ∧ o.data = .set es ep t
  ent : es.toList = ents w L
  tab : TabG t (hashs w L)
  uni : (L.map (·.2)).Nodup
  key : ∀ p ∈ L, KAt P w h p.2 p.1
  led : w.params.followText "set-order" = true ∨ t.led = true
  gap : L.length * 5 < t.mask * 3
  few : L.length < 1200
theorem ents_len (w : World) (L : KL) : (ents w L).length = L.length := by rw [ents, List.length_map]
theorem hashs_len (w : World) (L : KL) : (hashs w L).length = L.length := by rw [hashs, List.length_map]
theorem size_of {es : Array (Int × Value)} {L : KL} (e : es.toList = ents w L) : es.size = L.length := by
  rw [← ents_len w L, ← e, Array.length_toList]
theorem fits_of {t : SetTable} {n : Nat} (h1 : t.place.size = n) (h2 : t.dummies = #[]) (h3 : n ≤ t.mask) : t.fits n = true := by
  unfold SetTable.fits SetTable.fill
  rw [h1, h2]
  simp only [beq_self_eq_true, Bool.true_and, decide_eq_true_eq]
  exact h3
variable {a : Addr} {L : KL} {es : Array (Int × Value)} {ep : Nat} {t : SetTable}
theorem SetN.sz (R : SetN P w s.heap a L es ep t) : es.size = L.length := size_of R.ent
theorem SetN.places (R : SetN P w s.heap a L es ep t) : t.place.toList.length = L.length := by
  rw [Array.length_toList, R.tab.sz, hashs_len]
theorem SetN.fit (R : SetN P w s.heap a L es ep t) : t.fits es.size = true :=
  fits_of (by rw [R.tab.sz, hashs_len, R.sz]) R.tab.dm (by rw [R.sz]; have := R.gap; omega)
theorem ent_at (e : es.toList = ents w L) {i : Nat} {p : Addr × NestedKey} (h : L[i]? = some p) : es[i]? = some (p.2.hash w, Value.ref p.1) := by
  rw [← Array.getElem?_toList, e, ents, List.getElem?_map, h]
  rfl
theorem firm_mask {m : Nat} (h : MaskG m) {u : SetTable} (e : u.mask = m) : ¬ u.gaveWay = true := by
  unfold SetTable.gaveWay
  rw [e, h.odd]
  decide
/-- the c-th step of a search for the hash g -/
abbrev stp (m : Nat) (g : Int) (c : Nat) : SetTable.Probe := nth m (runAt m (SetTable.bits g % (m + 1)) (SetTable.bits g)) c
theorem stp_dummy (m : Nat) : ∀ (n : Nat) (p : SetTable.Probe), p.dummy = none → (nth m p n).dummy = none
  | 0, _, h => h
  | n + 1, p, h => stp_dummy m n (adv m p) (by unfold adv; split <;> exact h)
theorem stp_add (m : Nat) (g : Int) (c q : Nat) : nth m (stp m g c) q = stp m g (c + q) := (nth_add m c _ q).symm
/-- looking for k from the c-th step on: K is the first step that is free -/
theorem look (R : SetN P w s.heap a L es ep t) {x : Addr} {k : NestedKey} (kx : KAt P w s.heap k x) (room : A.units + 8 < cLine) {K : Nat} (small : K < 10 * SetTable.turns t.mask) (free : way t.mask (k.hash w) K ∉ t.place.toList)
    (busy : ∀ c, c < K → way t.mask (k.hash w) c ∈ t.place.toList) {Q : SetFound → Shared → Prop} (yes : k ∈ L.map (·.2) → Q (.there none) s) (no : k ∉ L.map (·.2) → Q (.free (way t.mask (k.hash w) K) false) s) :
    ∀ (f c : Nat) (stand : Option SetTable.Probe), stand.getD (t.probeStart (k.hash w)) = stp t.mask (k.hash w) c → c ≤ K → K - c < f →
      (∀ (i : Nat) p, L[i]? = some p → p.2 = k → ∃ d, c ≤ d ∧ d < K ∧ t.place.toList[i]? = some (way t.mask (k.hash w) d)) → wpAny (model P w) A (setSearchFrom a (.ref x) (k.hash w) true f stand) Q E s
  | 0, _, _, _, _, lt, _ => absurd lt (Nat.not_lt_zero _)
  | f + 1, c, stand, at_, le, lt, ahead => by
    obtain ⟨o, g1, g2, g3⟩ := R.obj
    have js : ∀ q, (nth t.mask (stp t.mask (k.hash w) c) q).j = way t.mask (k.hash w) (c + q) := fun q => congrArg SetTable.Probe.j (stp_add t.mask (k.hash w) c q)
    have hash_at : ∀ (i : Nat) p, L[i]? = some p → (es[i]?.map (·.1)).getD 0 = p.2.hash w := fun i p e => by rw [ent_at R.ent e]; rfl
    rw [setSearchFrom_succ]
    refine wpAny_bind (wpAny_setState_of g1 g3 R.fit (wp_if_neg (firm_mask R.tab.msk rfl) ?_))
    try refine wpAny_bind (wpAny_pure ?_)
    rcases go_spec t R.tab.ris R.tab.dm (fun i => (es[i]?.map (·.1)).getD 0) (k.hash w) (10 * SetTable.turns t.mask) (K - c) (stp t.mask (k.hash w) c) (stp_dummy _ _ _ rfl) (by omega) (fun q h => by rw [js]; exact busy _ (by omega)) (by rw [js, show c + (K - c) = K by omega]; exact free) with ⟨q, i, lq, pi, hi, before, met⟩ | ⟨before, met⟩
    · -- one of the same hash
      rw [js] at pi met
      have met2 : t.probe (fun i => (es[i]?.map (·.1)).getD 0) (k.hash w) (stand.getD (t.probeStart (k.hash w))) = some (.candidate (way t.mask (k.hash w) (c + q)) i (stp t.mask (k.hash w) (c + (q + 1)))) := by
        rw [at_, ← stp_add t.mask (k.hash w) c (q + 1)]; exact met
      rw [met2]
      dsimp only
      have il : i < L.length := by rw [← R.places]; exact (List.getElem?_eq_some_iff.mp pi).1
      obtain ⟨p, pe⟩ : ∃ p, L[i]? = some p := ⟨_, List.getElem?_eq_getElem il⟩
      have pm : p ∈ L := List.mem_of_getElem? pe
      have alive : t.slot (way t.mask (k.hash w) (c + q)) = .live i := slot_live R.tab.ris pi
      have rest : wpAny (model P w) A (searchRest a (.ref x) (k.hash w) true f es t (way t.mask (k.hash w) (c + q)) i (stp t.mask (k.hash w) (c + (q + 1)))) Q E s := by
        unfold searchRest
        rw [ent_at R.ent pe]
        dsimp only
        refine wpAny_bind (wpAny_holding ((nestedKind P w).eqBool room (R.key p pm) kx (wpAny_bind (wpAny_setState_of g1 g3 R.fit ?_))))
        by_cases same : p.2 = k
        · exact wp_if_pos (by simp [same]) (wpAny_pure (yes (List.mem_map.mpr ⟨p, pm, same⟩)))
        refine wp_if_neg (by simp [same]) ?_
        try refine wpAny_bind (wpAny_pure ?_)
        rw [sameMem]
        simp only [if_true, alive, ent_at R.ent pe]
        refine wpAny_bind (wpAny_isSame_ref_self (wpAny_bind (wpAny_pure ?_)))
        simp only [if_true]
        refine wp_if_neg (by simp [same]) (look R kx room small free busy yes no f (c + (q + 1)) _ rfl (by omega) (by omega) fun i2 p2 e2 k2 => ?_)
        obtain ⟨d, d1, d2, d3⟩ := ahead i2 p2 e2 k2
        refine ⟨d, ?_, d2, d3⟩
        rcases Nat.lt_trichotomy d (c + q) with z | z | z
        · exact absurd ((hash_at i2 p2 e2).trans (by rw [k2])) (before (d - c) i2 (by omega) (by rw [js, show c + (d - c) = d by omega]; exact d3))
        · have al2 := slot_live R.tab.ris d3
          rw [z, alive] at al2
          injection al2 with al2
          rw [← al2, pe] at e2
          exact absurd ((congrArg Prod.snd (Option.some.inj e2)).trans k2) same
        · omega
      by_cases l : t.led = true
      · refine wp_if_neg (by simp [l]) ?_
        try refine wpAny_bind (wpAny_pure ?_)
        exact rest
      · refine wp_if_pos (by simp [l]) (wpAny_bind (unseen kx (fun y hy => ?_) (wp_if_neg (by decide) ?_)))
        · obtain ⟨e, he, rfl⟩ := List.mem_map.mp hy
          have he2 : e ∈ es.toList := by have : e ∈ es ∧ e.1 = k.hash w := by simpa using he
                                         simpa using this.1
          rw [R.ent] at he2
          obtain ⟨p2, hp2, rfl⟩ := List.mem_map.mp he2
          exact ⟨p2.2, p2.1, rfl, R.key p2 hp2⟩
        · try refine wpAny_bind (wpAny_pure ?_)
          exact rest
    · -- none
      rw [js, show c + (K - c) = K by omega] at met
      have met2 : t.probe (fun i => (es[i]?.map (·.1)).getD 0) (k.hash w) (stand.getD (t.probeStart (k.hash w))) = some (.empty (way t.mask (k.hash w) K) none) := by rw [at_]; exact met
      rw [met2]
      refine wpAny_pure (no fun hm => ?_)
      obtain ⟨p, pm, pk⟩ := List.mem_map.mp hm
      obtain ⟨i, il, e⟩ := List.getElem_of_mem pm
      have pe : L[i]? = some p := by rw [List.getElem?_eq_getElem il, e]
      obtain ⟨d, d1, d2, d3⟩ := ahead i p pe pk
      exact before (d - c) i (by omega) (by rw [js, show c + (d - c) = d by omega]; exact d3) ((hash_at i p pe).trans (by rw [pk]))
/-- .. from the start -/
theorem look0 (R : SetN P w s.heap a L es ep t) {x : Addr} {k : NestedKey} (kx : KAt P w s.heap k x) (room : A.units + 8 < cLine) {Q : SetFound → Shared → Prop} (yes : k ∈ L.map (·.2) → Q (.there none) s)
    (no : ∀ K, k ∉ L.map (·.2) → way t.mask (k.hash w) K ∉ t.place.toList → (∀ c, c < K → way t.mask (k.hash w) c ∈ t.place.toList) → Q (.free (way t.mask (k.hash w) K) false) s) : wpAny (model P w) A (setSearch a (.ref x) (k.hash w) true) Q E s := by
  have gap := R.gap
  obtain ⟨K, k1, k2, k3⟩ := R.tab.first (by rw [hashs_len]; omega) (k.hash w)
  have bound : 10 * SetTable.turns t.mask ≤ 20620 := by have := R.tab.msk.top; unfold SetTable.turns; omega
  unfold setSearch
  refine look R kx room k1 k2 k3 yes (fun n => no K n k2 k3) 100000 0 none rfl (Nat.zero_le _) (by omega) fun i p e ek => ?_
  have il : i < t.place.toList.length := by rw [R.places]; exact (List.getElem?_eq_some_iff.mp e).1
  have pe := List.getElem?_eq_getElem il
  obtain ⟨d, d1, d2⟩ := R.tab.before (i := i) (g := k.hash w) k2 (by rw [hashs, List.getElem?_map, e, ← ek]; rfl) pe
  exact ⟨d, Nat.zero_le _, d1, by rw [pe, d2]⟩
end
end DZ
/-! DZ3: adding to a set of nested tuples. -/
namespace DZ
open PySem PySem.Spec PyProof.Rows L2
section
variable {P : Program} {w : World} {A : Around} {E : Value → Shared → Prop} {s : Shared} {a : Addr} {L : KL} {es : Array (Int × Value)} {ep : Nat} {t : SetTable}
theorem key_but {h h' : Heap} {k : NestedKey} {b a : Addr} {o : Obj} (x : KAt P w h k b) (g1 : h.get? a = some o) (g3 : o.data = .set es ep t) (sb : Heap.SameBut a h h') : KAt P w h' k b :=
  ⟨NestedIs.at (fun c u vs n hc hd => (sb.2 c fun z => by
    subst z
    cases g1.symm.trans hc
    rw [g3] at hd
    cases hd).trans hc) _ _ x.1, x.2⟩
theorem key_keep {h h' : Heap} {k : NestedKey} {b : Addr} (x : KAt P w h k b) (keep : ∀ c o, h.get? c = some o → h'.get? c = some o) : KAt P w h' k b :=
  ⟨NestedIs.at (fun c u vs n hc _ => keep c u hc) _ _ x.1, x.2⟩
theorem pick_all {α β : Type} {g : α → Option β} {h : α → β} : ∀ l : List α, (∀ x ∈ l, g x = some (h x)) → l.filterMap g = l.map h
  | [], _ => rfl
  | x :: l, e => by
    rw [List.filterMap_cons_some (e x List.mem_cons_self), List.map_cons, pick_all l fun y hy => e y (List.mem_cons_of_mem _ hy)]
theorem pick_range {α : Type} (L : List α) : (List.range L.length).filterMap (fun i => L[i]?) = L := by
  induction L with
  | nil => rfl
  | cons x L ih =>
    rw [List.length_cons, List.range_succ_eq_map, List.filterMap_cons_some (b := x) (by rfl), List.filterMap_map]
    exact congrArg (x :: ·) ih
theorem reorder {order : Array Nat} (e : es.toList = ents w L) (hp : order.toList.Perm (List.range L.length)) :
    ∃ M : KL, M.Perm L ∧ (order.filterMap (es[·]?)).toList = ents w M ∧ hashs w M = order.toList.map fun i => (es.map (·.1)).getD i 0 := by
  have each : ∀ i : Nat, es[i]? = (L[i]?).map fun p => (p.2.hash w, Value.ref p.1) := fun i => by
    rw [← Array.getElem?_toList, e, ents, List.getElem?_map]
  refine ⟨order.toList.filterMap (fun i => L[i]?), ?_, ?_, ?_⟩
  · have := hp.filterMap (fun i => L[i]?)
    rwa [pick_range] at this
  · rw [Array.toList_filterMap, ents, List.map_filterMap]
    exact congrFun (congrArg List.filterMap (funext each)) _
  · rw [hashs, List.map_filterMap]
    refine pick_all _ fun i hi => ?_
    have il : i < L.length := List.mem_range.mp (hp.mem_iff.mp hi)
    have e1 : es[i]? = some ((L[i]).2.hash w, Value.ref (L[i]).1) := by rw [each, List.getElem?_eq_getElem il]; rfl
    rw [List.getElem?_eq_getElem il, Array.getD_eq_getD_getElem?, Array.getElem?_map, e1]
    rfl
theorem relay {o : Obj} (g1 : s.heap.get? a = some o) (g2 : o.ExactSet) (g3 : o.data = .set es ep t) (e : es.toList = ents w L) (psz : t.place.size = es.size) (dm : t.dummies = #[]) (fl : es.size ≤ t.mask) (uni : (L.map (·.2)).Nodup) (key : ∀ p ∈ L, KAt P w s.heap p.2 p.1)
    (led : w.params.followText "set-order" = true ∨ t.led = true) (few : L.length < 1200) {wanted M : Nat} (hw : SetTable.sizeAbove wanted - 1 = M) (hM : MaskG M) (h128 : SetTable.sizeAbove wanted ≤ 2048) (gap : L.length * 5 < M * 3) {Q : Unit → Shared → Prop}
    (q : ∀ h' L' es' ep' t', Heap.SameBut a s.heap h' → SetN P w h' a L' es' ep' t' → L'.Perm L → Q () { s with heap := h' }) : wpAny (model P w) A (setRelay a wanted) Q E s := by
  have sz := size_of e
  obtain ⟨t', order, r1, r2, r3, r4, r5, r6, r7⟩ := relaid_g t (hs := es.map (·.1)) hw hM (by rw [Array.size_map, sz]; omega)
  rw [Array.size_map, sz] at r2
  obtain ⟨L', p1, p2, p3⟩ := reorder e r2
  rw [← p3] at r3
  have sz2 : (order.filterMap (es[·]?)).size = es.size := by rw [size_of p2, sz, p1.length_eq]
  rw [setRelay_eq]
  refine wpAny_bind (wpAny_setState_of g1 g3 (fits_of psz dm fl) (wp_if_neg (by rw [sizeLine_eq]; omega) ?_))
  try refine wpAny_bind (wpAny_pure ?_)
  rw [r1]
  refine wpAny_bind (wp_if_neg (by rw [sz2]; simp) ?_)
  try refine wpAny_bind (wpAny_pure ?_)
  refine wpAny_pure (wpAny_storeSet_of g1 g3 ?_ (by rw [sz2, sz, sizeLine_eq]; omega))
  have sb : Heap.SameBut a s.heap (s.heap.update a (Obj.putSet (order.filterMap (es[·]?)) t')) := Heap.SameBut.update ..
  exact q _ L' (order.filterMap (es[·]?)) (ep + 1) t' sb ⟨⟨_, store_at g1 g3, ⟨g2.1, g2.2.1, g2.2.2⟩, rfl⟩, p2, r3, (p1.map (·.2)).nodup_iff.mpr uni, fun p hp => key_but (key p (p1.mem_iff.mp hp)) g1 g3 sb, by rw [r5]; exact led, by rw [p1.length_eq, r4]; exact gap, by rw [p1.length_eq]; exact few⟩ p1
def noPlain (b : Bool) (t : SetTable) : SetTable := if b then t else { t with plain := false }
theorem noPlain_tab {t : SetTable} {l : List Int} (b : Bool) (T : TabG t l) : TabG (noPlain b t) l := by
  cases b with
  | true => exact T
  | false => exact ⟨T.msk, T.ris, T.dm, T.sz, T.goes⟩
theorem noPlain_same (b : Bool) (t : SetTable) : (noPlain b t).mask = t.mask ∧ (noPlain b t).led = t.led ∧ (noPlain b t).fill = t.fill ∧ (noPlain b t).place = t.place ∧ (noPlain b t).tooFull = t.tooFull := by
  cases b <;> exact ⟨rfl, rfl, rfl, rfl, rfl⟩
/-- one key more -/
theorem add (R : SetN P w s.heap a L es ep t) {x : Addr} {k : NestedKey} (kx : KAt P w s.heap k x) (room : A.units + 8 < cLine) (few : L.length + 1 < 1200) {Q : Bool → Shared → Prop}
    (q : ∀ b h' L' es' ep' t', Heap.SameBut a s.heap h' → SetN P w h' a L' es' ep' t' → (k ∈ L.map (·.2) → L' = L) → (k ∉ L.map (·.2) → L'.Perm ((x, k) :: L)) → Q b { s with heap := h' }) :
    wpAny (model P w) A (setAddHashed a (.ref x) (k.hash w)) Q E s := by
  obtain ⟨o, g1, g2, g3⟩ := R.obj
  have sz := R.sz
  have gap := R.gap
  unfold setAddHashed
  refine wpAny_holding ?_
  rw [show (100000 : Nat) = 99999 + 1 from rfl, setAddHashedIn_succ]
  refine wpAny_bind (wpAny_setState_of g1 g3 R.fit (wp_if_neg (by simp [byScan, Value.scannable]) ?_))
  try refine wpAny_bind (wpAny_pure ?_)
  refine wpAny_bind (look0 R kx room (fun yes => wpAny_pure (q false s.heap L es ep t (Heap.SameBut.refl a s.heap) R (fun _ => rfl) fun z => absurd yes z)) fun K no free busy => ?_)
  refine wpAny_bind (wpAny_setState_of g1 g3 R.fit ?_)
  obtain ⟨b, hb⟩ := hv_key (P := P) (w := w) k (.ref x) 8 s kx.1 kx.2
  obtain ⟨q1, q2, q3, q4, q5, q6, q7, q8, q9⟩ := R.tab.put free busy
  generalize hpt : t.put (way t.mask (k.hash w) K) = pt at q1 q2 q3 q4 q5 q6 q7 q8 q9 ⊢
  obtain ⟨t1, p⟩ := pt
  dsimp only at q1 q2 q3 q4 q5 q6 q7 q8 q9 ⊢
  rw [hashs_len] at q2 q9
  subst q1
  -- whatever is told of the hash
  have go : ∀ c : Bool, wpAny (model P w) A (storeSet a (SetTable.insertAt es (SetTable.below t.place (way t.mask (k.hash w) K)) (k.hash w, Value.ref x)) (noPlain c t1) >>= fun _ =>
      if (!false && (noPlain c t1).tooFull) = true then setRelay a (SetTable.grown (es.size + 1)) >>= fun _ => pure true else pure true) Q E s := fun c => by
    obtain ⟨n1, n2, n3, n4, n5⟩ := noPlain_same c t1
    generalize SetTable.below t.place (way t.mask (k.hash w) K) = p at q2 q3 ⊢
    have pm := put_perm L p (x, k)
    have e1 : (SetTable.insertAt es p (k.hash w, Value.ref x)).toList = ents w (L.take p ++ (x, k) :: L.drop p) := by
      rw [SetTable.toList_insertAt, R.ent, ents, ents, List.map_append, List.map_cons, List.map_take, List.map_drop]
    have e2 : hashs w (L.take p ++ (x, k) :: L.drop p) = (hashs w L).take p ++ k.hash w :: (hashs w L).drop p := by
      rw [hashs, hashs, List.map_append, List.map_cons, List.map_take, List.map_drop]
    rw [← e2] at q3
    have T := noPlain_tab c q3
    generalize L.take p ++ (x, k) :: L.drop p = L1 at pm e1 T
    generalize SetTable.insertAt es p (k.hash w, Value.ref x) = es1 at e1 ⊢
    have len1 : L1.length = L.length + 1 := pm.length_eq
    have sz1 := size_of e1
    have uni1 : (L1.map (·.2)).Nodup := (pm.map (·.2)).nodup_iff.mpr (by rw [List.map_cons]; exact List.nodup_cons.mpr ⟨no, R.uni⟩)
    refine wpAny_bind (wpAny_storeSet_of g1 g3 ?_ (by rw [sz1, len1, sizeLine_eq]; omega))
    have sb : Heap.SameBut a s.heap (s.heap.update a (Obj.putSet es1 (noPlain c t1))) := Heap.SameBut.update ..
    have at1 := store_at (es' := es1) (t' := noPlain c t1) g1 g3
    generalize s.heap.update a (Obj.putSet es1 (noPlain c t1)) = h1 at sb at1 ⊢
    have key1 : ∀ p ∈ L1, KAt P w h1 p.2 p.1 := fun p hp => by
      rcases List.mem_cons.mp (pm.mem_iff.mp hp) with e | hp
      · rw [e]; exact key_but kx g1 g3 sb
      · exact key_but (R.key p hp) g1 g3 sb
    have led1 : w.params.followText "set-order" = true ∨ (noPlain c t1).led = true := by rw [n2, q5]; exact R.led
    by_cases full : t1.tooFull = true
    · refine wp_if_pos (by rw [n5, full]; rfl) (wpAny_bind ?_)
      have lim : (L.length + 1) * 5 ≥ t1.mask * 3 := by
        unfold SetTable.tooFull at full
        rw [decide_eq_true_eq, q9] at full
        exact full
      rw [sz]
      have two : (t.mask = 7 ∧ L.length = 4) ∨ (t.mask = 31 ∧ L.length = 18) ∨ (t.mask = 127 ∧ L.length = 76) ∨ (t.mask = 511 ∧ L.length = 306) := by
        rw [q4] at lim
        rcases R.tab.msk with e | e | e | e | e <;> rw [e] at lim gap
        · exact .inl ⟨e, by omega⟩
        · exact .inr (.inl ⟨e, by omega⟩)
        · exact .inr (.inr (.inl ⟨e, by omega⟩))
        · exact .inr (.inr (.inr ⟨e, by omega⟩))
        · omega
      have next : ∀ M, SetTable.sizeAbove (SetTable.grown (L.length + 1)) - 1 = M → MaskG M → SetTable.sizeAbove (SetTable.grown (L.length + 1)) ≤ 2048 → (L.length + 1) * 5 < M * 3 →
          wpAny (model P w) A (setRelay a (SetTable.grown (L.length + 1))) (fun _ s' => wpAny (model P w) A (pure true) Q E s') E { s with heap := h1 } := fun M m1 m2 m3 m4 =>
        relay (s := { s with heap := h1 }) at1 ⟨g2.1, g2.2.1, g2.2.2⟩ rfl e1 (by rw [T.sz, hashs_len, sz1]) T.dm (by rw [n1, q4, sz1, len1]; rcases two with ⟨e, _⟩ | ⟨e, _⟩ | ⟨e, _⟩ | ⟨e, _⟩ <;> omega) uni1 key1 led1 (by omega) m1 m2 m3 (by rw [len1]; exact m4)
          fun h2 L2 es2 ep2 t2 sb2 R2 pm2 => wpAny_pure (q true h2 L2 es2 ep2 t2 (sb.trans sb2) R2 (fun z => absurd z no) fun _ => pm2.trans pm)
      rcases two with ⟨_, e⟩ | ⟨_, e⟩ | ⟨_, e⟩ | ⟨_, e⟩
      · exact next 31 (by rw [e, above5]) (.inr (.inl rfl)) (by rw [e, above5]; decide) (by omega)
      · exact next 127 (by rw [e, above19]) (.inr (.inr (.inl rfl))) (by rw [e, above19]; decide) (by omega)
      · exact next 511 (by rw [e, above77]) (.inr (.inr (.inr (.inl rfl)))) (by rw [e, above77]; decide) (by omega)
      · exact next 2047 (by rw [e, above307]) (.inr (.inr (.inr (.inr rfl)))) (by rw [e, above307]; decide) (by omega)
    · refine wp_if_neg (by rw [n5]; simpa using full) (wpAny_pure (q true h1 L1 es1 (ep + 1) (noPlain c t1) sb ⟨⟨_, at1, ⟨g2.1, g2.2.1, g2.2.2⟩, rfl⟩, e1, T, uni1, key1, led1, ?_, by omega⟩ (fun z => absurd z no) fun _ => pm))
      unfold SetTable.tooFull at full
      rw [decide_eq_true_eq, q9] at full
      rw [n1, len1]
      omega
  rw [hpt]
  by_cases pl : t1.plain = true
  · exact wp_if_pos pl (wpAny_bind (hb _ _ _ (go b)))
  · exact wp_if_neg pl (wpAny_bind (wpAny_pure (go true)))
end
end DZ
/-! DZ4: set(xs), xs a list or a tuple of nested tuples. -/
namespace DZ
open PySem PySem.Spec PyProof.Rows L2
abbrev Kept (h h' : Heap) : Prop := ∀ b o, h.get? b = some o → h'.get? b = some o
/-- what i items have brought -/
structure Have (ks : KL) (i : Nat) (L : KL) : Prop where
  sub : ∀ p ∈ L, p ∈ ks.take i
  all : ∀ p ∈ ks.take i, p.2 ∈ L.map (·.2)
  len : L.length ≤ i
theorem take1 {α : Type} {l : List α} {i : Nat} {x : α} (h : l[i]? = some x) : l.take (i + 1) = l.take i ++ [x] := by
  rw [List.take_succ, h]
  rfl
theorem Have.next {ks L L' : KL} {i : Nat} {x : Addr × NestedKey} (g : Have ks i L) (h : ks[i]? = some x) (old : x.2 ∈ L.map (·.2) → L' = L) (new : x.2 ∉ L.map (·.2) → L'.Perm (x :: L)) : Have ks (i + 1) L' := by
  by_cases m : x.2 ∈ L.map (·.2)
  · rw [old m]
    refine ⟨fun p hp => by rw [take1 h]; exact List.mem_append_left _ (g.sub p hp), fun p hp => ?_, Nat.le_succ_of_le g.len⟩
    rw [take1 h, List.mem_append, List.mem_singleton] at hp
    rcases hp with z | rfl
    · exact g.all p z
    · exact m
  · have pm := new m
    refine ⟨fun p hp => ?_, fun p hp => ?_, by rw [pm.length_eq]; exact Nat.succ_le_succ g.len⟩
    · rw [take1 h, List.mem_append, List.mem_singleton]
      exact (List.mem_cons.mp (pm.mem_iff.mp hp)).elim .inr fun z => .inl (g.sub p z)
    · rw [take1 h, List.mem_append, List.mem_singleton] at hp
      rw [(pm.map (·.2)).mem_iff, List.map_cons, List.mem_cons]
      rcases hp with z | rfl
      · exact .inr (g.all p z)
      · exact .inl rfl
section
variable {P : Program} {w : World} {A : Around} {E : Value → Shared → Prop} {s : Shared}
theorem SetN.keep {h h' : Heap} {a : Addr} {L : KL} {es : Array (Int × Value)} {ep : Nat} {t : SetTable} (R : SetN P w h a L es ep t) (ha : ∀ o, h.get? a = some o → h'.get? a = some o) (hk : ∀ p ∈ L, KAt P w h' p.2 p.1) : SetN P w h' a L es ep t := by
  obtain ⟨o, g1, g2⟩ := R.obj
  exact ⟨⟨o, ha o g1, g2⟩, R.ent, R.tab, R.uni, hk, R.led, R.gap, R.few⟩
def newSetO (w : World) : Obj := { cls := .type "set", dict := none, data := .set #[] 0 (.fresh 0 0 (!w.params.followText "set-order")) }
theorem setN_new {h : Heap} {a : Addr} (g : h.get? a = some (newSetO w)) : SetN P w h a [] #[] 0 (.fresh 0 0 (!w.params.followText "set-order")) := by
  refine ⟨⟨_, g, ⟨rfl, rfl, rfl⟩, rfl⟩, rfl, ⟨.inl rfl, List.Pairwise.nil, rfl, rfl, fun i z j hi => (by simp [hashs] at hi)⟩, List.nodup_nil, fun p hp => (by cases hp), ?_, (show 0 * 5 < 7 * 3 by decide), (show 0 < 1200 by decide)⟩
  cases q : w.params.followText "set-order" with
  | true => exact .inl rfl
  | false => exact .inr rfl
/-- the loop that fills a set -/
theorem fill {I : Addr} {fp wr : List Addr} {G : Array GenState → Array GenState → Prop} {n : Nat} {Pv : Nat → Value → Prop} {St : Nat → Shared → Prop} {R : Result → Shared → Prop} (W : WalksS P w A.in1 I fp wr G n Pv St) (S : Addr) (apart : S ∉ fp) (ks : KL) (hn : n = ks.length)
    (few : ks.length < 1200) (val : ∀ i v, Pv i v → ∃ p, ks[i]? = some p ∧ v = .ref p.1) (h0 : Heap) (key : ∀ p ∈ ks, KAt P w h0 p.2 p.1) (S0 : h0.get? S = none) (w0 : ∀ b ∈ wr, h0.get? b = none) (room : A.in1.units + 8 < cLine) :
    ∀ (k i : Nat) (s : Shared), n - i = k → i ≤ n → St i s → Kept h0 s.heap → (∃ L es ep t, SetN P w s.heap S L es ep t ∧ Have ks i L) →
      (∀ s' L es ep t, Moved (S :: wr) G s s' → SetN P w s'.heap S L es ep t → Have ks n L → Kept h0 s'.heap → R (.ok (.ret .none)) s') → codeAny (model P w) A (.builtin "set.update.loop" ⟨[.ref S, .ref I], []⟩) R s := by
  have Sw : S ∉ wr := fun z => apart (W.sub _ z)
  have kept : ∀ {u u' : Shared}, Moved wr G u u' → Kept h0 u.heap → Kept h0 u'.heap := fun m kp b o e => m.heap b o (fun z => by rw [w0 b z] at e; cases e) (kp b o e)
  have more : ∀ b ∈ wr, b ∈ S :: wr := fun b z => List.mem_cons_of_mem _ z
  intro k
  induction k with
  | zero =>
    rintro i s hk le st kp ⟨L, es, ep, t, N, g⟩ r
    obtain rfl : i = n := by omega
    refine codeAny_builtin F.entry_set_update_loop ?_
    rw [Around.under_plainId F.plain_set_update_loop _]
    refine wpAny_bind (W.done s _ _ st fun s' m => ?_)
    have kp' := kept m kp
    exact wpAny_pure (r s' L es ep t (m.mono more) (N.keep (fun o e => m.heap S o Sw e) fun p hp => key_keep (key p (List.mem_of_mem_take (g.sub p hp))) kp') g kp')
  | succ k ih =>
    rintro i s hk le st kp ⟨L, es, ep, t, N, g⟩ r
    have lt : i < n := by omega
    refine codeAny_builtin F.entry_set_update_loop ?_
    rw [Around.under_plainId F.plain_set_update_loop _]
    refine wpAny_bind (W.item i s _ _ lt st fun v s' pv st' m => ?_)
    obtain ⟨p, pe, rfl⟩ := val i v pv
    have kp' := kept m kp
    have N' : SetN P w s'.heap S L es ep t := N.keep (fun o e => m.heap S o Sw e) fun q hq => key_keep (key q (List.mem_of_mem_take (g.sub q hq))) kp'
    have kx : KAt P w s'.heap p.2 p.1 := key_keep (key p (List.mem_of_getElem? pe)) kp'
    show wpAny _ A.in1 (holding [Value.ref p.1] (setAdd S (.ref p.1)) >>= _) _ _ s'
    unfold setAdd
    refine wpAny_bind (wpAny_holding (wpAny_holding (wpAny_bind ((nestedKind P w).pyHash room kx ?_))))
    refine add (s := { s' with toks := s'.toks + p.2.draws }) N' kx room (by have := g.len; omega) fun b h' L' es' ep' t' sb N2 c1 c2 => ?_
    have g' : Have ks (i + 1) L' := g.next pe c1 c2
    have kp2 : Kept h0 h' := fun b o e => (sb.2 b fun z => by rw [z, S0] at e; cases e).trans (kp' b o e)
    refine wpAny_pure ⟨plainId_quiet F.plain_set_update_loop _, ih (i + 1) _ (by omega) lt (W.frame _ s' _ _ st' (Nat.le_add_right _ _) fun b hb o e => (sb.2 b fun z => apart (z ▸ hb)).trans e) kp2 ⟨L', es', ep', t', N2, g'⟩ fun s2 L2 es2 ep2 t2 m2 N3 g2 kp3 => ?_⟩
    exact r s2 L2 es2 ep2 t2 (Moved.trans W.gtrans ((m.mono more).then_heap (Nat.le_add_right _ _) fun b o hb e => (sb.2 b fun z => hb (z ▸ List.mem_cons_self)).trans e) m2) N3 g2 kp3
/-- what set(xs) leaves -/
abbrev SetEnd (P : Program) (w : World) (h : Heap) (ks : KL) (h' : Heap) : Prop := ∃ L es ep t, SetN P w h' h.objs.size L es ep t ∧ Have ks ks.length L ∧ Kept h h'
/-- the call, its iterable aside -/
theorem set_call {x : Addr} {Z : Heap → Prop} {Q : Value → Shared → Prop}
    (init : ∀ (A : Around) (E : Value → Shared → Prop), A.units + 12 < cLine → A.handled = none → codeAny (model P w) A (.builtin "set.__init__" ⟨[.ref s.heap.objs.size, .ref x], []⟩) (wants (fun r u => r = .none ∧ ∃ h' tk, u = { s with heap := h', toks := tk } ∧ Z h') E) { s with heap := s.heap.push (newSetO w) })
    (hh : A.handled = none) (hu : A.units + 16 < cLine) (h : ∀ h' tk, Z h' → Q (.ref s.heap.objs.size) { s with heap := h', toks := tk }) : wpAny (model P w) A (call (.type "set") [.ref x]) Q E s := by
  obtain ⟨c, tl, hmro⟩ := F.called_set.mro
  have f1 := F.called_set.made
  have f2 := F.called_set.sub
  have f3 := F.called_set.notType
  have f4 := F.called_set.canCreate
  have f5 := F.typeCall_set_1 (.ref x)
  refine wpAny_call (codeAny_of_tree (?_ : wpAny _ _ (callAny (.type "set") _) _ _ _))
  refine wpAny_pure ⟨Code.quiet_builtin _ (by decide +kernel), codeAny_builtin F.entry_type_call ?_⟩
  rw [Around.under_plain (weight_type_call_type "set" [.ref x] []) rfl]
  repeat any_goals first | assumption | wp_step
  refine codeAny_mono (code_set_led1 (.ref x) (E := E) (Q₁ := fun obj u => obj = .ref s.heap.objs.size ∧ u = { s with heap := s.heap.push (newSetO w) }) ⟨rfl, rfl⟩) fun r u hr => ?_
  cases r with
  | error e => exact hr
  | ok fl =>
    cases fl with
    | ret obj =>
      obtain ⟨rfl, rfl⟩ := hr
      have hT : Shared.TypeIs { s with heap := s.heap.push (newSetO w) } (.ref s.heap.objs.size) "set" := ⟨_, Heap.get?_push_size _ rfl, rfl⟩
      have f6 := F.called_set.init.lookup
      have f7 := F.called_set.init.bind (.ref s.heap.objs.size)
      repeat any_goals first | assumption | wp_step
      refine codeAny_mono (codeAny_call_builtin_code (plainId_quiet F.called_set.init.plain _) (check_set_init_1 hT (init A.in1 E (by simp only [Around.in1_units]; omega) (by simp [hh])))) fun r2 u2 h2 => ?_
      cases r2 with
      | error e => exact h2
      | ok fl2 =>
        cases fl2 with
        | ret v =>
          obtain ⟨rfl, h', tk, rfl, en⟩ := h2
          repeat any_goals first | assumption | wp_step
          exact h h' tk en
        | next => exact h2.elim
        | brk => exact h2.elim
        | cont => exact h2.elim
    | next => exact hr.elim
    | brk => exact hr.elim
    | cont => exact hr.elim
theorem big_none {h : Heap} {b : Addr} (le : h.objs.size ≤ b) : h.get? b = none := by
  cases q : h.get? b with
  | none => rfl
  | some o => exact absurd (Heap.lt_size q) (Nat.not_lt.mpr le)
theorem at_item {ks : KL} {items : Array Value} (e : items.toList = ks.map fun p => Value.ref p.1) (i : Nat) (v : Value) (h : items[i]? = some v) : ∃ p, ks[i]? = some p ∧ v = .ref p.1 := by
  rw [← Array.getElem?_toList, e, List.getElem?_map] at h
  cases q : ks[i]? with
  | none => rw [q] at h; cases h
  | some p => rw [q] at h; exact ⟨p, rfl, (Option.some.inj h).symm⟩
theorem int_item {ns : List Int} {items : Array Value} (e : IntsAre items.toList ns) (i : Nat) (v : Value) (h : items[i]? = some v) : ∃ k t, ns[i]? = some k ∧ v = .int k t := by
  have il : i < ns.length := by rw [← IntsAre.length e, Array.length_toList]; exact (Array.getElem?_eq_some_iff.mp h).1
  obtain ⟨t, q⟩ := IntsAre.int_at e i v (by rw [Array.getElem?_toList]; exact h)
  refine ⟨ns[i], t, List.getElem?_eq_getElem il, ?_⟩
  rw [q, List.getD_eq_getElem?_getD, List.getElem?_eq_getElem il]
  rfl
/-- set(xs), xs a list -/
theorem set_list {l : Addr} {items : Array Value} {ks : KL} {Q : Value → Shared → Prop} (hh : A.handled = none) (hl : s.heap.IsList l items) (e : items.toList = ks.map fun p => Value.ref p.1) (key : ∀ p ∈ ks, KAt P w s.heap p.2 p.1) (few : ks.length < 1200) (hu : A.units + 16 < cLine)
    (h : ∀ h' tk, SetEnd P w s.heap ks h' → Q (.ref s.heap.objs.size) { s with heap := h', toks := tk }) : wpAny (model P w) A (call (.type "set") [.ref l]) Q E s := by
  refine set_call (Z := fun h' => SetEnd P w s.heap ks h') (fun A E hu hh => ?_) hh hu h
  have sz : items.size = ks.length := by rw [← Array.length_toList, e, List.length_map]
  obtain ⟨⟨oc, od, ox, os⟩, ho, hc, n, hd⟩ := hl
  simp only at hc hd
  subst hc hd
  have hT : Shared.TypeIs { s with heap := s.heap.push (newSetO w) } (.ref s.heap.objs.size) "set" := ⟨_, Heap.get?_push_size _ rfl, rfl⟩
  have ho' : (s.heap.push (newSetO w)).get? l = some { cls := .type "list", dict := od, data := .seq items n, slots := os } := Heap.get?_push_of_some _ ho
  have hl1 : (s.heap.push (newSetO w)).IsList l items := ⟨_, ho', rfl, n, rfl⟩
  have g1 := F.sub_list_set
  have g2 := F.sub_list_frozenset
  have g3 : (Value.type "list" == Value.type "dict") = false := by decide
  have lt : l < s.heap.objs.size := Heap.lt_size ho
  refine codeAny_builtin F.entry_set_init ?_
  rw [Around.under_plainId F.called_set.init.plain _]
  unfold Builtin.«set.__init__» noKeywords Builtin.Frozenset.updateFrom
  generalize hIt : pyIter = it
  wp_walk
  subst hIt
  refine wpAny_pyIter_list hl1 (wpAny_bind (wpAny_runValue ?_))
  have z1 : (s.heap.push (newSetO w)).objs.size = s.heap.objs.size + 1 := Heap.size_push ..
  have ne : l ≠ (s.heap.push (newSetO w)).objs.size := by rw [z1]; exact Nat.ne_of_lt (Nat.lt_succ_of_lt lt)
  have nf : s.heap.objs.size ∉ [(s.heap.push (newSetO w)).objs.size, l] := by
    rw [z1]
    intro z
    rcases List.mem_cons.mp z with z | z
    · exact absurd z (Nat.ne_of_lt (Nat.lt_succ_self _))
    · exact absurd (List.mem_singleton.mp z) (Nat.ne_of_gt lt)
  refine fill ((Walks.list (by simp [hh]) _ l ne items).toS) s.heap.objs.size nf ks sz few (at_item e) s.heap key (big_none (Nat.le_refl _)) (fun b hb => big_none (by rw [List.mem_singleton.mp hb, z1]; exact Nat.le_succ _)) (by simp only [Around.in1_units] at hu ⊢; omega) _ 0 _ rfl (Nat.zero_le _)
    ⟨⟨_, Heap.get?_push_size _ rfl, rfl, rfl⟩, hl1.push _⟩ (fun b o q => Heap.get?_push_of_some _ (Heap.get?_push_of_some _ q)) ⟨[], #[], 0, _, setN_new (Heap.get?_push_of_some _ (Heap.get?_push_size _ rfl)), fun p hp => (by cases hp), fun p hp => (by simp at hp), Nat.le_refl _⟩ fun s' L es ep t m N g kp => ?_
  obtain ⟨h', gs, dr, tk, os'⟩ := s'
  cases (show gs = s.gens from m.gens)
  cases (show dr = s.drawn from m.drawn)
  cases (show os' = s.os from m.os)
  rw [sz] at g
  exact wpAny_pure (wpAny_pure ⟨rfl, h', tk, rfl, L, es, ep, t, N, g, kp⟩)
/-- set(xs), xs a tuple -/
theorem set_tuple {l : Addr} {items : Array Value} {ks : KL} {Q : Value → Shared → Prop} (hh : A.handled = none) (hl : s.heap.IsTuple l items) (e : items.toList = ks.map fun p => Value.ref p.1) (key : ∀ p ∈ ks, KAt P w s.heap p.2 p.1) (few : ks.length < 1200) (hu : A.units + 16 < cLine)
    (h : ∀ h' tk, SetEnd P w s.heap ks h' → Q (.ref s.heap.objs.size) { s with heap := h', toks := tk }) : wpAny (model P w) A (call (.type "set") [.ref l]) Q E s := by
  refine set_call (Z := fun h' => SetEnd P w s.heap ks h') (fun A E hu hh => ?_) hh hu h
  have sz : items.size = ks.length := by rw [← Array.length_toList, e, List.length_map]
  obtain ⟨⟨oc, od, ox, os⟩, ho, hc, n, hd⟩ := hl
  simp only at hc hd
  subst hc hd
  have hT : Shared.TypeIs { s with heap := s.heap.push (newSetO w) } (.ref s.heap.objs.size) "set" := ⟨_, Heap.get?_push_size _ rfl, rfl⟩
  have ho' : (s.heap.push (newSetO w)).get? l = some { cls := .type "tuple", dict := od, data := .seq items n, slots := os } := Heap.get?_push_of_some _ ho
  have hl1 : (s.heap.push (newSetO w)).IsTuple l items := ⟨_, ho', rfl, n, rfl⟩
  have g1 := F.sub_tuple_set
  have g2 := F.sub_tuple_frozenset
  have g3 : (Value.type "tuple" == Value.type "dict") = false := by decide
  have lt : l < s.heap.objs.size := Heap.lt_size ho
  refine codeAny_builtin F.entry_set_init ?_
  rw [Around.under_plainId F.called_set.init.plain _]
  unfold Builtin.«set.__init__» noKeywords Builtin.Frozenset.updateFrom
  generalize hIt : pyIter = it
  wp_walk
  subst hIt
  refine wpAny_pyIter_tuple hl1 (wpAny_bind (wpAny_runValue ?_))
  have z1 : (s.heap.push (newSetO w)).objs.size = s.heap.objs.size + 1 := Heap.size_push ..
  have ne : l ≠ (s.heap.push (newSetO w)).objs.size := by rw [z1]; exact Nat.ne_of_lt (Nat.lt_succ_of_lt lt)
  have nf : s.heap.objs.size ∉ [(s.heap.push (newSetO w)).objs.size, l] := by
    rw [z1]
    intro z
    rcases List.mem_cons.mp z with z | z
    · exact absurd z (Nat.ne_of_lt (Nat.lt_succ_self _))
    · exact absurd (List.mem_singleton.mp z) (Nat.ne_of_gt lt)
  refine fill ((Walks.tuple (by simp [hh]) _ l ne items).toS) s.heap.objs.size nf ks sz few (at_item e) s.heap key (big_none (Nat.le_refl _)) (fun b hb => big_none (by rw [List.mem_singleton.mp hb, z1]; exact Nat.le_succ _)) (by simp only [Around.in1_units] at hu ⊢; omega) _ 0 _ rfl (Nat.zero_le _)
    ⟨⟨_, Heap.get?_push_size _ rfl, rfl, rfl⟩, hl1.push _⟩ (fun b o q => Heap.get?_push_of_some _ (Heap.get?_push_of_some _ q)) ⟨[], #[], 0, _, setN_new (Heap.get?_push_of_some _ (Heap.get?_push_size _ rfl)), fun p hp => (by cases hp), fun p hp => (by simp at hp), Nat.le_refl _⟩ fun s' L es ep t m N g kp => ?_
  obtain ⟨h', gs, dr, tk, os'⟩ := s'
  cases (show gs = s.gens from m.gens)
  cases (show dr = s.drawn from m.drawn)
  cases (show os' = s.os from m.os)
  rw [sz] at g
  exact wpAny_pure (wpAny_pure ⟨rfl, h', tk, rfl, L, es, ep, t, N, g, kp⟩)
/-- set(xs), xs a list -/
theorem set_listI {l : Addr} {items : Array Value} {ns : List Int} {Q : Value → Shared → Prop} (hh : A.handled = none) (hl : s.heap.IsList l items) (e : IntsAre items.toList ns) (few : ns.length < 4000) (hu : A.units + 16 < cLine)
    (h : ∀ h' tk, (∃ c, SetR w h' s.heap.objs.size (fun j => decide (j ∈ ns)) c ∧ c ≤ ns.length ∧ Kept s.heap h') → Q (.ref s.heap.objs.size) { s with heap := h', toks := tk }) : wpAny (model P w) A (call (.type "set") [.ref l]) Q E s := by
  refine set_call (Z := fun h' => (∃ c, SetR w h' s.heap.objs.size (fun j => decide (j ∈ ns)) c ∧ c ≤ ns.length ∧ Kept s.heap h')) (fun A E hu hh => ?_) hh hu h
  have sz : items.size = ns.length := by rw [← Array.length_toList]; exact IntsAre.length e
  obtain ⟨⟨oc, od, ox, os⟩, ho, hc, n, hd⟩ := hl
  simp only at hc hd
  subst hc hd
  have hT : Shared.TypeIs { s with heap := s.heap.push (newSetO w) } (.ref s.heap.objs.size) "set" := ⟨_, Heap.get?_push_size _ rfl, rfl⟩
  have ho' : (s.heap.push (newSetO w)).get? l = some { cls := .type "list", dict := od, data := .seq items n, slots := os } := Heap.get?_push_of_some _ ho
  have hl1 : (s.heap.push (newSetO w)).IsList l items := ⟨_, ho', rfl, n, rfl⟩
  have g1 := F.sub_list_set
  have g2 := F.sub_list_frozenset
  have g3 : (Value.type "list" == Value.type "dict") = false := by decide
  have lt : l < s.heap.objs.size := Heap.lt_size ho
  refine codeAny_builtin F.entry_set_init ?_
  rw [Around.under_plainId F.called_set.init.plain _]
  unfold Builtin.«set.__init__» noKeywords Builtin.Frozenset.updateFrom
  generalize hIt : pyIter = it
  wp_walk
  subst hIt
  refine wpAny_pyIter_list hl1 (wpAny_bind (wpAny_runValue ?_))
  have z1 : (s.heap.push (newSetO w)).objs.size = s.heap.objs.size + 1 := Heap.size_push ..
  have ne : l ≠ (s.heap.push (newSetO w)).objs.size := by rw [z1]; exact Nat.ne_of_lt (Nat.lt_succ_of_lt lt)
  have nf : s.heap.objs.size ∉ [(s.heap.push (newSetO w)).objs.size, l] := by
    rw [z1]
    intro z
    rcases List.mem_cons.mp z with z | z
    · exact absurd z (Nat.ne_of_lt (Nat.lt_succ_self _))
    · exact absurd (List.mem_singleton.mp z) (Nat.ne_of_gt lt)
  refine set_update_ints ((Walks.list (by simp [hh]) _ l ne items).toS) s.heap.objs.size nf ns sz (by unfold scanBound; omega) (int_item e) _ 0 _ rfl (Nat.zero_le _)
    ⟨⟨_, Heap.get?_push_size _ rfl, rfl, rfl⟩, hl1.push _⟩ ⟨0, Nat.le_refl 0, setR_new_at (Heap.get?_push_of_some _ (Heap.get?_push_size _ rfl))⟩ fun s' c m hc N => ?_
  obtain ⟨h', gs, dr, tk, os'⟩ := s'
  cases (show gs = s.gens from m.gens)
  cases (show dr = s.drawn from m.drawn)
  cases (show os' = s.os from m.os)
  rw [sz] at hc
  refine wpAny_pure (wpAny_pure ⟨rfl, h', tk, rfl, c, N, hc, fun b o q => m.heap b o (fun z => ?_) (Heap.get?_push_of_some _ (Heap.get?_push_of_some _ q))⟩)
  have lb := Heap.lt_size q
  rcases List.mem_cons.mp z with z | z
  · exact absurd z (Nat.ne_of_lt lb)
  · rw [List.mem_singleton.mp z, z1] at lb
    exact absurd lb (Nat.not_lt.mpr (Nat.le_succ _))
/-- set(xs), xs a tuple -/
theorem set_tupleI {l : Addr} {items : Array Value} {ns : List Int} {Q : Value → Shared → Prop} (hh : A.handled = none) (hl : s.heap.IsTuple l items) (e : IntsAre items.toList ns) (few : ns.length < 4000) (hu : A.units + 16 < cLine)
    (h : ∀ h' tk, (∃ c, SetR w h' s.heap.objs.size (fun j => decide (j ∈ ns)) c ∧ c ≤ ns.length ∧ Kept s.heap h') → Q (.ref s.heap.objs.size) { s with heap := h', toks := tk }) : wpAny (model P w) A (call (.type "set") [.ref l]) Q E s := by
  refine set_call (Z := fun h' => (∃ c, SetR w h' s.heap.objs.size (fun j => decide (j ∈ ns)) c ∧ c ≤ ns.length ∧ Kept s.heap h')) (fun A E hu hh => ?_) hh hu h
  have sz : items.size = ns.length := by rw [← Array.length_toList]; exact IntsAre.length e
  obtain ⟨⟨oc, od, ox, os⟩, ho, hc, n, hd⟩ := hl
  simp only at hc hd
  subst hc hd
  have hT : Shared.TypeIs { s with heap := s.heap.push (newSetO w) } (.ref s.heap.objs.size) "set" := ⟨_, Heap.get?_push_size _ rfl, rfl⟩
  have ho' : (s.heap.push (newSetO w)).get? l = some { cls := .type "tuple", dict := od, data := .seq items n, slots := os } := Heap.get?_push_of_some _ ho
  have hl1 : (s.heap.push (newSetO w)).IsTuple l items := ⟨_, ho', rfl, n, rfl⟩
  have g1 := F.sub_tuple_set
  have g2 := F.sub_tuple_frozenset
  have g3 : (Value.type "tuple" == Value.type "dict") = false := by decide
  have lt : l < s.heap.objs.size := Heap.lt_size ho
  refine codeAny_builtin F.entry_set_init ?_
  rw [Around.under_plainId F.called_set.init.plain _]
  unfold Builtin.«set.__init__» noKeywords Builtin.Frozenset.updateFrom
  generalize hIt : pyIter = it
  wp_walk
  subst hIt
  refine wpAny_pyIter_tuple hl1 (wpAny_bind (wpAny_runValue ?_))
  have z1 : (s.heap.push (newSetO w)).objs.size = s.heap.objs.size + 1 := Heap.size_push ..
  have ne : l ≠ (s.heap.push (newSetO w)).objs.size := by rw [z1]; exact Nat.ne_of_lt (Nat.lt_succ_of_lt lt)
  have nf : s.heap.objs.size ∉ [(s.heap.push (newSetO w)).objs.size, l] := by
    rw [z1]
    intro z
    rcases List.mem_cons.mp z with z | z
    · exact absurd z (Nat.ne_of_lt (Nat.lt_succ_self _))
    · exact absurd (List.mem_singleton.mp z) (Nat.ne_of_gt lt)
  refine set_update_ints ((Walks.tuple (by simp [hh]) _ l ne items).toS) s.heap.objs.size nf ns sz (by unfold scanBound; omega) (int_item e) _ 0 _ rfl (Nat.zero_le _)
    ⟨⟨_, Heap.get?_push_size _ rfl, rfl, rfl⟩, hl1.push _⟩ ⟨0, Nat.le_refl 0, setR_new_at (Heap.get?_push_of_some _ (Heap.get?_push_size _ rfl))⟩ fun s' c m hc N => ?_
  obtain ⟨h', gs, dr, tk, os'⟩ := s'
  cases (show gs = s.gens from m.gens)
  cases (show dr = s.drawn from m.drawn)
  cases (show os' = s.os from m.os)
  rw [sz] at hc
  refine wpAny_pure (wpAny_pure ⟨rfl, h', tk, rfl, c, N, hc, fun b o q => m.heap b o (fun z => ?_) (Heap.get?_push_of_some _ (Heap.get?_push_of_some _ q))⟩)
  have lb := Heap.lt_size q
  rcases List.mem_cons.mp z with z | z
  · exact absurd z (Nat.ne_of_lt lb)
  · rw [List.mem_singleton.mp z, z1] at lb
    exact absurd lb (Nat.not_lt.mpr (Nat.le_succ _))
end
end DZ
/-! DZ5: sorted(set(e)) over data. -/
namespace DZ
open PySem PySem.Spec PyProof.Rows L2 DL
mutual
/-- data as a key -/
def dkey : D → NestedKey
  | .none => .none
  | .bool b => .num (if b = true then 1 else 0)
  | .int i => .num i
  | .str x => .text x
  | .tuple ds => .tup (dkeys ds)
  | .list _ => .none
  | .dict _ => .none
def dkeys : List D → List NestedKey
  | [] => []
  | d :: ds => dkey d :: dkeys ds
end
mutual
theorem key_reads {h : Heap} : ∀ (d : D) (v : Value) (as : List Addr), noList d = true → Reads h v d as → NestedIs h (dkey d) v
  | .none, _, _, _, r => by cases r; exact .none
  | .bool b, _, _, _, r => by cases r; exact .bool rfl
  | .int i, _, _, _, r => by cases r; exact .int _ _
  | .str x, _, _, _, r => by cases r; exact .text _ _
  | .tuple ds, _, _, n, r => by
    cases r with
    | tuple g c d all => exact .tup g c d (keys_reads ds _ _ (by simpa [noList] using n) all)
  | .list _, _, _, n, _ => by simp [noList] at n
  | .dict _, _, _, n, _ => by simp [noList] at n
theorem keys_reads {h : Heap} : ∀ (ds : List D) (vs : List Value) (as : List Addr), noListAll ds = true → ReadsAll h vs ds as → NestedAll h (dkeys ds) vs
  | [], _, _, _, r => by cases r; exact .nil
  | d :: ds, _, _, n, r => by
    cases r with
    | cons r1 r2 =>
      have n' : noList d = true ∧ noListAll ds = true := by simpa [noListAll] using n
      exact .cons (key_reads d _ _ n'.1 r1) (keys_reads ds _ _ n'.2 r2)
end
mutual
theorem key_depth : ∀ d : D, (dkey d).depth ≤ d.depth
  | .none => by simp [dkey, NestedKey.depth]
  | .bool _ => by simp [dkey, NestedKey.depth]
  | .int _ => by simp [dkey, NestedKey.depth]
  | .str _ => by simp [dkey, NestedKey.depth]
  | .tuple ds => by
    have := keys_depth ds
    simp only [dkey, NestedKey.depth, PyData.depth]
    omega
  | .list _ => by simp [dkey, NestedKey.depth]
  | .dict _ => by simp [dkey, NestedKey.depth]
theorem keys_depth : ∀ ds : List D, NestedKey.depthAll (dkeys ds) ≤ PyData.depthAll ds
  | [] => by simp [dkeys, NestedKey.depthAll]
  | d :: ds => by
    have h1 := key_depth d
    have h2 := keys_depth ds
    simp only [dkeys, NestedKey.depthAll, PyData.depthAll]
    omega
end
mutual
theorem key_eqv : ∀ d e : D, noList d = true → noList e = true → dkey d = dkey e → PyData.eqv d e = true
  | .none, e, _, n, h => by cases e <;> simp [dkey, noList] at h n ⊢ <;> rfl
  | .bool a, e, _, n, h => by cases e <;> simp [dkey, noList] at h n ⊢ <;> (rw [PyData.eqv]; first | (simp [h]; done) | (rename_i b; cases a <;> cases b <;> simp_all))
  | .int a, e, _, n, h => by cases e <;> simp [dkey, noList] at h n ⊢ <;> (rw [PyData.eqv]; simp [h])
  | .str a, e, _, n, h => by cases e <;> simp [dkey, noList] at h n ⊢ <;> (rw [PyData.eqv]; simp [h])
  | .tuple ds, e, m, n, h => by
    cases e with
    | tuple es =>
      rw [PyData.eqv]
      exact keys_eqv ds es (by simpa [noList] using m) (by simpa [noList] using n) (by simpa [dkey] using h)
    | _ => simp [dkey, noList] at h n
  | .list _, _, m, _, _ => by simp [noList] at m
  | .dict _, _, m, _, _ => by simp [noList] at m
theorem keys_eqv : ∀ ds es : List D, noListAll ds = true → noListAll es = true → dkeys ds = dkeys es → PyData.eqvAll ds es = true
  | [], [], _, _, _ => rfl
  | [], _ :: _, _, _, h => by simp [dkeys] at h
  | _ :: _, [], _, _, h => by simp [dkeys] at h
  | d :: ds, e :: es, m, n, h => by
    simp only [noListAll, Bool.and_eq_true] at m n
    simp only [dkeys, List.cons.injEq] at h
    rw [PyData.eqvAll, key_eqv d e m.1 n.1 h.1, keys_eqv ds es m.2 n.2 h.2]
    rfl
end
theorem perm_back {α β : Type} {f : α → β} : ∀ {vs ws : List β}, vs.Perm ws → ∀ L : List α, ws = L.map f → ∃ M : List α, M.Perm L ∧ vs = M.map f := by
  intro vs ws h
  induction h with
  | nil => intro L e; exact ⟨[], by cases L with | nil => exact .nil | cons _ _ => simp at e, rfl⟩
  | cons x _ ih =>
    intro L e
    cases L with
    | nil => simp at e
    | cons y L =>
      simp only [List.map_cons, List.cons.injEq] at e
      obtain ⟨M, m1, m2⟩ := ih L e.2
      exact ⟨y :: M, m1.cons y, by rw [List.map_cons, m2, e.1]⟩
  | swap x y l =>
    intro L e
    match L, e with
    | a :: b :: L, e =>
      simp only [List.map_cons, List.cons.injEq] at e
      exact ⟨b :: a :: L, .swap a b L, by simp [e.1, e.2.1, e.2.2]⟩
    | [_], e => simp at e
    | [], e => simp at e
  | trans _ _ ih1 ih2 =>
    intro L e
    obtain ⟨M, m1, m2⟩ := ih2 L e
    obtain ⟨N, n1, n2⟩ := ih1 M m2
    exact ⟨N, n1.trans m1, n2⟩
/-- what sorted(set(..)) may give -/
structure SetSorted (ds es : List D) : Prop where
  sub : ∀ d ∈ es, d ∈ ds
  all : ∀ d ∈ ds, ∃ d' ∈ es, dkey d' = dkey d
  uni : (es.map dkey).Nodup
  asc : es.Pairwise fun a b => PySem.W.dataLt b a = false
theorem sortD_asc (ds : List D) : (sortD ds).Pairwise fun a b => PySem.W.dataLt b a = false := by
  classical exact sortE_asc (e := (id : D → D)) ds
section
variable {P : Program} {w : World} {A : Around} {E : Value → Shared → Prop} {s : Shared}
/-- sorted(a), a such a set -/
theorem sorted_setN {a : Addr} {L : KL} {es : Array (Int × Value)} {ep : Nat} {t : SetTable} {Q : Value → Shared → Prop} {R : Value → D → Prop} (N : SetN P w s.heap a L es ep t) (hh : A.handled = none)
    (val : ∀ p ∈ L, ∃ d, R (.ref p.1) d ∧ dkey d = p.2 ∧ (∃ as, Reads s.heap (.ref p.1) d as) ∧ (∃ xs, d = .tuple xs) ∧ A.units + 2 + d.depth < cLine) (al : ∀ p ∈ L, ∀ q ∈ L, ∀ d e, R (.ref p.1) d → R (.ref q.1) e → PySem.W.alike d e = true)
    (q : ∀ s' p (out : List Value) (c : Nat) (ds : List D), Kept s.heap s'.heap → s'.gens = s.gens → s'.os = s.os → s.heap.objs.size ≤ p → s'.heap.get? p = some (seqObj "list" out.toArray c) → PySem.W.EachIs R out ds → (ds.map dkey).Perm (L.map (·.2)) → ds.Pairwise (fun a b => PySem.W.dataLt b a = false) → Q (.ref p) s') :
    wpAny (model P w) A (call (.builtin "sorted") [.ref a]) Q E s := by
  obtain ⟨o, g1, g2, g3⟩ := N.obj
  have few := N.few
  refine Calls.call_function_entry kind_sorted plain_sorted entry_sorted (args_sorted1 _) ?_
  unfold Builtin.«sorted»
  refine wpAny_bind (m := checkCount "sorted" 1 1 _) (wpAny_pure (wpAny_bind ?_))
  refine collect_set (A := A.in1) (by simp [hh]) ⟨o, g1, g2.1, g3⟩ N.fit (by unfold scanBound; rw [N.sz]; omega) N.tab.ris N.led fun s1 vs k1 hz e1 e2 pm => ?_
  have ee : es.toList.map (·.2) = L.map fun p => Value.ref p.1 := by rw [N.ent, ents, List.map_map]; rfl
  obtain ⟨M, m1, rfl⟩ := perm_back pm L ee
  have few2 : M.length < 1200 := by rw [m1.length_eq]; exact few
  have pick : ∀ M : KL, (∀ p ∈ M, p ∈ L) → ∃ ds : List D, PySem.W.EachIs (fun u d => R u d ∧ (∃ as, Reads s.heap u d as)) (M.map fun p => Value.ref p.1) ds ∧ ds.map dkey = M.map (·.2) ∧ (∀ d ∈ ds, (∃ xs, d = .tuple xs) ∧ A.units + 2 + d.depth < cLine ∧ ∃ p ∈ L, R (.ref p.1) d) := by
    intro M
    induction M with
    | nil => intro _; exact ⟨[], .nil, rfl, fun d hd => by cases hd⟩
    | cons p M ih =>
      intro hM
      obtain ⟨ds, i1, i2, i3⟩ := ih fun z hz => hM z (List.mem_cons_of_mem _ hz)
      obtain ⟨d, d1, d2, d3, d4, d5⟩ := val p (hM p List.mem_cons_self)
      refine ⟨d :: ds, .cons ⟨d1, d3⟩ i1, by rw [List.map_cons, List.map_cons, d2, i2], fun z hz => ?_⟩
      rcases List.mem_cons.mp hz with rfl | hz
      · exact ⟨d4, d5, p, hM p List.mem_cons_self, d1⟩
      · exact i3 z hz
  obtain ⟨ds, i1, i2, i3⟩ := pick M fun p hp => m1.mem_iff.mp hp
  have hal : PySem.W.AllAlike ds := fun d hd e he => by
    obtain ⟨_, _, p, hp, rp⟩ := i3 d hd
    obtain ⟨_, _, p', hp', rp'⟩ := i3 e he
    exact al p hp p' hp' d e rp rp'
  refine wpAny_bind (wpAny_newList ?_ (by rw [sizeLine_eq, List.length_map]; omega))
  generalize hvs : M.map (fun p => Value.ref p.1) = vs at i1 ⊢
  have at1 : (s1.heap.push (seqObj "list" vs.toArray 0)).get? s1.heap.objs.size = some (seqObj "list" vs.toArray 0) := Heap.get?_push_size _ rfl
  have k2 : Kept s.heap (PySem.W.sortingHeap (s1.heap.push (seqObj "list" vs.toArray 0)) s1.heap.objs.size vs) := fun b u z =>
    PySem.W.sortingHeap_old (Nat.ne_of_lt (Heap.lt_size (k1 b u z))) (Heap.get?_push_of_some _ (k1 b u z))
  have er : PySem.W.EachIs (fun v d => ∃ as, Reads (PySem.W.sortingHeap (s1.heap.push (seqObj "list" vs.toArray 0)) s1.heap.objs.size vs) v (id d) as) vs ds := i1.mono fun _ _ ⟨_, as, r⟩ => ⟨as, PyProof.Rows.Reads.keeps k2 r⟩
  have hmap : ds.map id = ds := List.map_id ds
  have S : PySem.W.SortsAt P w A.in1.in1 { s1 with heap := PySem.W.sortingHeap (s1.heap.push (seqObj "list" vs.toArray 0)) s1.heap.objs.size vs } (PySem.W.dataKind (PySem.W.sortingHeap (s1.heap.push (seqObj "list" vs.toArray 0)) s1.heap.objs.size vs) (ds.map id)) vs := by
    rw [hmap]
    have hu : ∀ d, d ∈ ds → A.in1.in1.units + d.depth < cLine := fun d hd => by
      have := (i3 d hd).2.1
      simp only [Around.in1_units]
      omega
    rcases SortOk.tups fun d hd => (i3 d hd).1 with hk | ⟨h1, h2⟩
    · exact PySem.W.SortsAt.data er hal hk hu
    · exact sorts_mixed er hal h1 h2 hu
  have len : vs.length = M.length := by rw [← hvs, List.length_map]
  refine wpAny_bind (wpAny_holding (wpAny_call_entry slot_list_sort ⟨_, at1, rfl⟩ entry_list_sort (PySem.W.list_sort_vals (s := { s1 with heap := s1.heap.push (seqObj "list" vs.toArray 0) }) at1 S (by rw [sizeLine_eq]; omega) ⟨_, rfl, ?_⟩) (args_list_sort _)))
  have eo : PySem.W.EachIs R (PySem.W.sortVals (PySem.W.dataKind (PySem.W.sortingHeap (s1.heap.push (seqObj "list" vs.toArray 0)) s1.heap.objs.size vs) (ds.map id)) false vs vs) (sortD ds) :=
    PySem.W.sortVals_data (enc := id) false (i1.mono fun _ _ z => z.1) er (by rw [hmap]; exact hal)
  generalize PySem.W.sortVals (PySem.W.dataKind (PySem.W.sortingHeap (s1.heap.push (seqObj "list" vs.toArray 0)) s1.heap.objs.size vs) (ds.map id)) false vs vs = out at eo ⊢
  obtain ⟨c, hc⟩ := sortedHeap_at (vs := vs) (out := out.toArray) at1
  refine wpAny_pure ⟨_, rfl, q _ s1.heap.objs.size out c (sortD ds) (fun b u z => ?_) e1 e2 hz hc eo ?_ (sortD_asc ds)⟩
  · have lt := Heap.lt_size (k1 b u z)
    show (sortedHeap (s1.heap.push (seqObj "list" vs.toArray 0)) s1.heap.objs.size vs out.toArray).get? b = some u
    rw [sortedHeap_old (Nat.ne_of_lt lt) (by rw [size_push']; exact Nat.lt_succ_of_lt lt)]
    exact Heap.get?_push_of_some _ (k1 b u z)
  · refine ((List.mergeSort_perm ds _).map dkey).trans ?_
    rw [i2]
    exact m1.map _
end
theorem each_right {α β : Type} {R : α → β → Prop} : ∀ {as : List α} {bs : List β}, PySem.W.EachIs R as bs → ∀ b ∈ bs, ∃ a ∈ as, R a b
  | _, _, .cons h t, b, hb => by
    rcases List.mem_cons.mp hb with rfl | hb
    · exact ⟨_, List.mem_cons_self, h⟩
    · obtain ⟨a, h1, h2⟩ := each_right t b hb
      exact ⟨a, List.mem_cons_of_mem _ h1, h2⟩
/-- what may stand in such a set -/
def KeyOk (z : D) : Prop := z.depth ≤ 8 ∧ noList z = true ∧ ∃ ys, z = .tuple ys
def KeysOk (ds : List D) : Prop := PySem.W.AllAlike ds ∧ ds.length < 1200 ∧ ∀ z ∈ ds, KeyOk z
section
variable {X : Cx}
abbrev RKey (X : Cx) (B : Hp) (ds : List D) (u : Value) (d : D) : Prop := (∃ v, RelV v u ∧ DL.Dp X.K B v d) ∧ d ∈ ds
/-- keys of values -/
theorem keys_of {P : Program} {w : World} {B : Hp} {h : Heap} {all : List D} : ∀ {us : List Value} {ds : List D}, PySem.W.EachIs (fun u d => (∃ v, RelV v u ∧ DL.Dp X.K B v d) ∧ ∃ as, Reads h u d as) us ds → (∀ z ∈ ds, KeyOk z ∧ z ∈ all) →
    ∃ ks : KL, us = ks.map (fun p => Value.ref p.1) ∧ ks.map (·.2) = ds.map dkey ∧ ∀ p ∈ ks, KAt P w h p.2 p.1 ∧ ∃ d, RKey X B all (.ref p.1) d ∧ dkey d = p.2 ∧ (∃ as, Reads h (.ref p.1) d as) ∧ KeyOk d
  | _, _, .nil, _ => ⟨[], rfl, rfl, fun p hp => by cases hp⟩
  | _, _, .cons (a := u) (b := d) ⟨r, as, rd⟩ t, hk => by
    obtain ⟨ks, i1, i2, i3⟩ := keys_of (P := P) (w := w) t fun z hz => hk z (List.mem_cons_of_mem _ hz)
    obtain ⟨⟨k1, k2, ys, k3⟩, k4⟩ := hk d List.mem_cons_self
    obtain ⟨b, rfl⟩ : ∃ b, u = .ref b := by subst k3; cases rd; exact ⟨_, rfl⟩
    refine ⟨(b, dkey d) :: ks, by rw [List.map_cons, i1], by rw [List.map_cons, List.map_cons, i2], fun p hp => ?_⟩
    rcases List.mem_cons.mp hp with rfl | hp
    · exact ⟨⟨key_reads d _ as k2 rd, Nat.le_trans (key_depth d) k1⟩, d, ⟨r, k4⟩, rfl, ⟨as, rd⟩, k1, k2, ys, k3⟩
    · exact i3 p hp
/-- sorted(set(e)) -/
def tSortSet (K : PySem.W.Frag) (ta : TE) : TE := fun σ H Q => ta σ H fun x H1 => ∃ (l : Addr) (xs : List V) (ds : List D) (B : Hp), x = .ref l ∧ Same B H1 ∧ (H1 l = some (.lst xs) ∨ SqT K H1 l xs) ∧ DL.DpAll K B xs ds ∧
  ((KeysOk ds ∧ ∀ p ys es, SetSorted ds es → H1 p = none → DL.DpAll K B ys es → Q (.ref p) (upd H1 p (.lst ys))) ∨
  ∃ ns : List Int, ds = intsD ns ∧ ns.length < 64 ∧ ∀ p (ms : List Int), ms.Pairwise (· < ·) → (∀ k, k ∈ ms ↔ k ∈ ns) → H1 p = none → Q (.ref p) (upd H1 p (.lst (ms.map V.int))))
theorem ints_back {K : PySem.W.Frag} {B : Hp} : ∀ {ns : List Int} {xs : List V}, DL.DpAll K B xs (intsD ns) → xs = ns.map V.int
  | [], _, h => by cases h; rfl
  | n :: ns, _, h => by
    cases h with
    | cons h1 h2 =>
      cases h1
      rw [List.map_cons, ints_back h2]
theorem pe_sortSet {a : Expr} {ta : TE} {p p2 q pos : Pos} (hc : X.calm = true) (hu : X.A.units + 64 < cLine) (hg : Gl X "sorted") (hm : X.mg "sorted" = none) (hg2 : Gl X "set") (hm2 : X.mg "set" = none) (ha : PE X a ta)
    (na : starEach [a] X.env = (false, eval a X.env) :: starEach [] X.env := by rfl) : PE X (.Call (.Name "sorted" p) [.Call (.Name "set" p2) [a] [] q] [] pos) (tSortSet X.K ta) := by
  refine ⟨fun pins s σ H Q I h => Call_ (ld_blt I hg hm PyProof.Rows.boot_sorted (PyProof.Rows.callWith_builtin1 (PyProof.Rows.args_cons (Call_ (ld_blt I hg2 hm2 PyProof.Rows.boot_set ?_)) rfl) rfl rfl))⟩
  refine PyProof.Rows.callWith_type1 (PyProof.Rows.args_cons (thn (ha.run pins s σ H _ I h) fun v s1 ⟨x, H1, I1, r1, q1⟩ => PyProof.Rows.args_nil ?_) na) na rfl
  obtain ⟨l, xs, ds, B, rfl, sb, hseq, hd, qq⟩ := q1
  cases r1
  rcases qq with ⟨⟨hal, hlen, hk⟩, q1⟩ | ⟨ns, rfl, hlen, q1⟩
  case inr =>
    have ex := ints_back hd
    subst ex
    have fin : ∀ {its : List Value} {c : Nat} {h' : Heap} {tk : Nat}, SetR X.w h' s1.heap.objs.size (fun j => decide (j ∈ ns)) c → c ≤ ns.length → Kept s1.heap h' →
        wpAny (model X.prog X.w) X.A (call (.builtin "sorted") [.ref s1.heap.objs.size]) (EP X pins σ Q) X.xe { s1 with heap := h', toks := tk } := fun {its c h' tk} N hcn kp => by
      refine sorted_set N (I1.ok.hd hc) (by omega) fun s' pa out c2 ms kp2 gg oo hp hget hi asc mem hl => ?_
      have lt : s1.heap.objs.size < h'.objs.size := N.lt
      have hp3 : s1.heap.objs.size ≤ pa := Nat.le_trans (Nat.le_of_lt lt) hp
      have kp3 : Kept s1.heap s'.heap := fun b o e => kp2 b o (kp b o e)
      have hn : H1 pa = none := I1.hok.fresh hp3
      have yl : (ms.map V.int).length ≤ sizeLine := by rw [List.length_map, hl, sizeLine_eq]; omega
      have J : Inv X pins σ (upd H1 pa (.lst (ms.map V.int))) { s1 with heap := s'.heap, gens := s'.gens, drawn := s'.drawn, toks := s'.toks } :=
        I1.call (ch := []) (Un.laid kp3 hp3 hn) (I1.hok.laid kp3 hp3 ⟨yl, out.toList, c2, vals_of_ints hi, hget⟩) (by rw [gg]; exact I1.bare) (fun _ z => nomatch z)
      have es' : s' = { s1 with heap := s'.heap, gens := s'.gens, drawn := s'.drawn, toks := s'.toks } := by
        obtain ⟨u1, u2, u3, u4, u5⟩ := s'
        obtain ⟨v1, v2, v3, v4, v5⟩ := s1
        cases oo
        rfl
      rw [es']
      exact ⟨.ref pa, _, J, rfl, q1 pa ms asc (fun k => (mem k).trans decide_eq_true_iff) hn⟩
    rcases hseq with hl | ht
    · obtain ⟨its, rv, pl, hz⟩ := I1.list (SqL.of hl)
      exact set_listI (ns := ns) (I1.ok.hd hc) pl.isList (by simpa using rv.ints) (by omega) (by omega) fun h' tk ⟨c, e1, e2, e3⟩ => PyProof.Rows.args_nil (fin (its := its) e1 e2 e3)
    · obtain ⟨its, rv, pl, hz⟩ := I1.tuple ht
      exact set_tupleI (ns := ns) (I1.ok.hd hc) pl (by simpa using rv.ints) (by omega) (by omega) fun h' tk ⟨c, e1, e2, e3⟩ => PyProof.Rows.args_nil (fin (its := its) e1 e2 e3)
  have fin : ∀ {its : List Value}, Vals xs its → ∃ ks : KL, its = ks.map (fun p => Value.ref p.1) ∧ ks.length < 1200 ∧ (∀ p ∈ ks, KAt X.prog X.w s1.heap p.2 p.1) ∧ ∀ h' tk, SetEnd X.prog X.w s1.heap ks h' →
      wpAny (model X.prog X.w) X.A (call (.builtin "sorted") [.ref s1.heap.objs.size]) (EP X pins σ Q) X.xe { s1 with heap := h', toks := tk } := fun {its} rv => by
    have ei := each_of I1 sb rv hd
    obtain ⟨ks, i1, i2, i3⟩ := keys_of (P := X.prog) (w := X.w) (all := ds) ei fun z hz => ⟨hk z hz, hz⟩
    have kl : ks.length = ds.length := by have := congrArg List.length i2; simpa using this
    refine ⟨ks, i1, by omega, fun p hp => (i3 p hp).1, fun h' tk ⟨L, es, ep, t, N, g, kp⟩ => ?_⟩
    have inks : ∀ p ∈ L, p ∈ ks := fun p hp => List.mem_of_mem_take (g.sub p hp)
    have I2 : Inv X pins σ H1 { s1 with heap := h', toks := tk } := I1.kept kp
    refine sorted_setN (R := RKey X B ds) N (I1.ok.hd hc) (fun p hp => ?_) (fun p hp q hq d e rd re => hal d rd.2 e re.2) fun s' pa out c es2 kp2 gg oo hp hget eo pm asc => ?_
    · obtain ⟨_, d, d1, d2, ⟨as, d3⟩, d4, d5, d6⟩ := i3 p (inks p hp)
      exact ⟨d, d1, d2, ⟨as, PyProof.Rows.Reads.keeps kp d3⟩, d6, by omega⟩
    · obtain ⟨ys, y1, y2⟩ := of_each (eo.mono fun _ _ z => z.1)
      have hn : H1 pa = none := I2.hok.fresh hp
      have yl : ys.length ≤ sizeLine := by
        have e1 := y2.length
        have e3 := pm.length_eq
        have few := N.few
        simp only [List.length_map] at e3
        rw [sizeLine_eq]
        omega
      have kp3 : Kept s1.heap s'.heap := fun b o e => kp2 b o (kp b o e)
      have hp3 : s1.heap.objs.size ≤ pa := by
        obtain ⟨o, g1, _⟩ := N.obj
        exact Nat.le_trans (Nat.le_of_lt (Heap.lt_size g1)) hp
      have J : Inv X pins σ (upd H1 pa (.lst ys)) { s1 with heap := s'.heap, gens := s'.gens, drawn := s'.drawn, toks := s'.toks } :=
        I1.call (ch := []) (Un.laid kp3 hp3 hn) (I1.hok.laid kp3 hp3 ⟨yl, out, c, y1, hget⟩) (by rw [gg]; exact I1.bare) (fun _ z => nomatch z)
      have es' : s' = { s1 with heap := s'.heap, gens := s'.gens, drawn := s'.drawn, toks := s'.toks } := by
        obtain ⟨u1, u2, u3, u4, u5⟩ := s'
        obtain ⟨v1, v2, v3, v4, v5⟩ := s1
        cases oo
        rfl
      rw [es']
      refine ⟨.ref pa, _, J, rfl, q1 pa ys es2 ⟨fun d hd => ?_, fun d hd => ?_, ?_, asc⟩ hn y2⟩
      · obtain ⟨_, _, r⟩ := each_right eo d hd
        exact r.2
      · have m1 : dkey d ∈ ks.map (·.2) := by rw [i2]; exact List.mem_map.mpr ⟨d, hd, rfl⟩
        obtain ⟨p, hp, e⟩ := List.mem_map.mp m1
        have m2 := g.all p (by rw [List.take_length]; exact hp)
        obtain ⟨d', hd', e'⟩ := List.mem_map.mp (pm.mem_iff.mpr m2)
        exact ⟨d', hd', e'.trans e⟩
      · exact pm.nodup_iff.mpr N.uni
  rcases hseq with hl | ht
  · obtain ⟨its, rv, pl, hz⟩ := I1.list (SqL.of hl)
    obtain ⟨ks, i1, i2, i3, i4⟩ := fin rv
    exact set_list (ks := ks) (I1.ok.hd hc) pl.isList (by simpa using i1) i3 i2 (by omega) fun h' tk e => PyProof.Rows.args_nil (i4 h' tk e)
  · obtain ⟨its, rv, pl, hz⟩ := I1.tuple ht
    obtain ⟨ks, i1, i2, i3, i4⟩ := fin rv
    exact set_tuple (ks := ks) (I1.ok.hd hc) pl (by simpa using i1) i3 i2 (by omega) fun h' tk e => PyProof.Rows.args_nil (i4 h' tk e)
end
end DZ
namespace DL
open PySem PySem.Spec L2 DZ
section
variable {X : Cx} {a : Expr} {p p2 q pos : Pos} {b1 : Bool} {t1 : DTE}
/-- sorted(set(e)): tuples without a list within, or whole numbers; fewer than 64 -/
def aSetSort (t : DTE) : DTA := fun δ n Q => t δ n fun d m => ∃ ds, itemsOf d = some ds ∧ ((KeysOk ds ∧ ∀ es, SetSorted ds es → Q es m) ∨ ∃ ns : List Int, ds = intsD ns ∧ ns.length < 64 ∧ ∀ ms : List Int, ms.Pairwise (· < ·) → (∀ k, k ∈ ms ↔ k ∈ ns) → Q (intsD ms) m)
theorem dp_ints {K : PySem.W.Frag} {B : Hp} : ∀ ms : List Int, DpAll K B (ms.map V.int) (intsD ms)
  | [] => .nil
  | m :: ms => .cons (.int m) (dp_ints ms)
theorem dl_sortSet (hc : X.calm = true) (hu : X.A.units + 64 < cLine) (hg : Gl X "sorted") (hm : X.mg "sorted" = none) (hg2 : Gl X "set") (hm2 : X.mg "set" = none) (ha : DE X b1 a t1)
    (na : starEach [a] X.env = (false, eval a X.env) :: starEach [] X.env := by rfl) : DL X (.Call (.Name "sorted" p) [.Call (.Name "set" p2) [a] [] q] [] pos) (aSetSort t1) :=
  ⟨PE.imp (pe_sortSet hc hu hg hm hg2 hm2 ha.run na) fun σ H Q ⟨gh, n, δ, S, Vs, P, sr, ht, k⟩ => ⟨gh, n, δ, S, Vs, _, sr, ht, fun d m v H' S' Vs' ⟨ds, e1, qq⟩ sr' s1 s2 rp => by
    obtain ⟨l, xs, rfl, hd, q⟩ := brep_items (Rp.br rp) e1
    refine ⟨l, xs, ds, S', rfl, sr'.SH, ?_, hd, ?_⟩
    · rcases q with ⟨es, _, q⟩ | ⟨es, e2, q⟩
      · exact .inl (q.elim (fun z => sr'.SH _ _ z) fun z => sr'.VH _ _ z)
      · exact .inr (sqt_mono sr'.SH q)
    · rcases qq with ⟨h1, pp⟩ | ⟨ns, h1, h2, pp⟩
      · exact .inl ⟨h1, fun p3 ys es hs hp hy => k es m p3 ys _ S' Vs' (pp es hs) (sr'.temp hp) s1 s2 upd_same (sr'.vN hp) (sr'.h0 hp) (sr'.notW hp) hy⟩
      · exact .inr ⟨ns, h1, h2, fun p3 ms a1 a2 hp => k (intsD ms) m p3 _ _ S' Vs' (pp ms a1 a2) (sr'.temp hp) s1 s2 upd_same (sr'.vN hp) (sr'.h0 hp) (sr'.notW hp) (dp_ints ms)⟩⟩⟩
theorem x_aSetSort {δ : DS} {n : Nat} {QA : List D → Nat → Prop} : aSetSort t1 δ n QA = t1 δ n fun d m => ∃ ds, itemsOf d = some ds ∧ ((KeysOk ds ∧ ∀ es, SetSorted ds es → QA es m) ∨ ∃ ns : List Int, ds = intsD ns ∧ ns.length < 64 ∧ ∀ ms : List Int, ms.Pairwise (· < ·) → (∀ k, k ∈ ms ↔ k ∈ ns) → QA (intsD ms) m) := rfl
end
/-! ### typed -/
section
variable {α : Type} [DecidableEq α] {e : α → D} {m : Nat}
theorem setSorted_typed (h : Enc m e) (inj : ∀ x y, dkey (e x) = dkey (e y) → x = y) {l : List α} {es : List D} (s : SetSorted (l.map e) es) : es = (onceE e l).map e := by
  have back : ∀ es : List D, (∀ d ∈ es, d ∈ l.map e) → ∃ k : List α, es = k.map e ∧ ∀ x ∈ k, x ∈ l := by
    intro es
    induction es with
    | nil => intro _; exact ⟨[], rfl, fun x hx => by cases hx⟩
    | cons d es ih =>
      intro hs
      obtain ⟨x, hx, rfl⟩ := List.mem_map.mp (hs d List.mem_cons_self)
      obtain ⟨k, rfl, hk⟩ := ih fun d hd => hs d (List.mem_cons_of_mem _ hd)
      refine ⟨x :: k, rfl, fun y hy => ?_⟩
      rcases List.mem_cons.mp hy with rfl | hy
      · exact hx
      · exact hk y hy
  obtain ⟨k, rfl, hk⟩ := back es s.sub
  have nd : k.Nodup := by
    have u := s.uni
    rw [List.map_map] at u
    exact List.Pairwise.of_map _ (fun x y hne z => hne (congrArg (fun w => dkey (e w)) z)) u
  have asc : k.Pairwise fun x y => ltE e x y = true := by
    have a := List.pairwise_map.mp s.asc
    refine (List.pairwise_and_iff.mpr ⟨a, nd⟩).imp fun {x y} ⟨a1, a2⟩ => ?_
    rcases ltE_tot h a2 with q | q
    · exact q
    · rw [show PySem.W.dataLt (e y) (e x) = true from q] at a1; cases a1
  obtain ⟨o1, o2⟩ := onceE_asc h l
  rw [asc_extE asc o1 fun x => ?_]
  rw [o2]
  refine ⟨hk x, fun hx => ?_⟩
  obtain ⟨d, hd, e1⟩ := s.all _ (List.mem_map.mpr ⟨x, hx, rfl⟩)
  obtain ⟨y, hy, rfl⟩ := List.mem_map.mp hd
  rw [← inj y x e1]; exact hy
theorem keysOk_typed (h : Enc m e) (hm : m ≤ 8) (hn : ∀ x, noList (e x) = true) (ht : ∀ x, ∃ ys, e x = .tuple ys) {l : List α} (hl : l.length < 1200) : KeysOk (l.map e) :=
  ⟨allAlike_map h l, by rw [List.length_map]; exact hl, fun z hz => by
    obtain ⟨x, _, rfl⟩ := List.mem_map.mp hz
    exact ⟨Nat.le_trans (h.shp x).dep hm, hn x, ht x⟩⟩
/-- a type of keys -/
structure KEnc {α : Type} [DecidableEq α] (m : Nat) (e : α → D) : Prop where
  enc : Enc m e
  le : m ≤ 8
  nl : ∀ x, noList (e x) = true
  inj : ∀ x y, dkey (e x) = dkey (e y) → x = y
theorem kinj_tup {e : α → D} (inj : ∀ x y, dkey (e x) = dkey (e y) → x = y) : ∀ x y : List α, dkeys (x.map e) = dkeys (y.map e) → x = y
  | [], [], _ => rfl
  | [], _ :: _, h => by simp [dkeys] at h
  | _ :: _, [], h => by simp [dkeys] at h
  | a :: x, b :: y, h => by
    simp only [List.map_cons, dkeys, List.cons.injEq] at h
    rw [inj a b h.1, kinj_tup inj x y h.2]
theorem nl_all {e : α → D} (nl : ∀ x, noList (e x) = true) : ∀ l : List α, noListAll (l.map e) = true
  | [] => rfl
  | x :: l => by rw [List.map_cons, noListAll, nl x, nl_all nl l]; rfl
theorem kenc_int : KEnc 0 PyData.int := ⟨enc_int, by decide, fun _ => rfl, fun x y h => by simpa [dkey] using h⟩
theorem KEnc.tup (h : KEnc m e) (hm : m + 1 ≤ 8) : KEnc (m + 1) fun l : List α => PyData.tuple (l.map e) := ⟨enc_tup h.enc, hm, fun l => by
  show noListAll _ = true
  exact nl_all h.nl l, fun x y q => kinj_tup h.inj x y (by simpa [dkey] using q)⟩
theorem KEnc.pair {β : Type} [DecidableEq β] {f : β → D} (h : KEnc m e) (g : KEnc m f) (hm : m + 1 ≤ 8) : KEnc (m + 1) fun p : α × β => PyData.tuple [e p.1, f p.2] := ⟨enc_pair h.enc g.enc, hm, fun p => by
  show noListAll [e p.1, f p.2] = true
  simp [noListAll, h.nl, g.nl], fun p r q => by
  simp only [dkey, dkeys, NestedKey.tup.injEq, List.cons.injEq, and_true] at q
  exact Prod.ext (h.inj _ _ q.1) (g.inj _ _ q.2)⟩
theorem kenc_row : KEnc 1 rowD := kenc_int.tup (by decide)
/-- sorted(set(..)) of typed data -/
theorem setSort_typed (h : KEnc m e) (ht : ∀ x, ∃ ys, e x = .tuple ys) {l : List α} (hl : l.length < 1200) {QA : List D → Prop} (q : QA ((onceE e l).map e)) :
    (KeysOk (l.map e) ∧ ∀ es, SetSorted (l.map e) es → QA es) ∨ ∃ ns : List Int, l.map e = intsD ns ∧ ns.length < 64 ∧ ∀ ms : List Int, ms.Pairwise (· < ·) → (∀ k, k ∈ ms ↔ k ∈ ns) → QA (intsD ms) :=
  .inl ⟨keysOk_typed h.enc h.le h.nl ht hl, fun es s => by rw [setSorted_typed h.enc h.inj s]; exact q⟩
end
end DL
/-! DL15: three names stored at once. -/
namespace DL
open PySem PySem.Spec L2
section
variable {X : Cx} {st : Stmt} {es : List Expr} {ta : DTA} {i j l : Nat} {E : DEnds} {δ : DS} {n : Nat}
def sPar3 (i j l : Nat) (t : DTA) : DTS := fun E δ n => t δ n fun ds m => ∃ x y z, ds = [x, y, z] ∧ i < δ.length ∧ j < δ.length ∧ l < δ.length ∧ E.nx (((δ.set i (some (.dat x))).set j (some (.dat y))).set l (some (.dat z))) m
theorem ds_par3 (h : ∀ te, PA X es te → PS X st (tPar3 i j l te)) (he : DA X es ta) : DSt X st (sPar3 i j l ta) :=
  ⟨PS.imp (h _ he.run) fun D σ H ⟨gh, n, δ, S, Vs, E, hT, sr, ht, ok⟩ => ⟨gh, n, δ, S, Vs, _, sr, ht, fun ds m vs H' S' Vs' p sr' q1 q2 r => by
    obtain ⟨x, y, z, rfl, hi, hj, hl, p⟩ := p
    cases r with
    | cons r1 r =>
      cases r with
      | cons r2 r =>
        cases r with
        | cons r3 r =>
          cases r
          exact ⟨_, _, _, rfl, ok.1 _ m _ H' S' Vs' p (((sr'.set hi r1).set (by simpa using hj) r2).set (by simpa using hl) r3) q1⟩⟩⟩
theorem x_par3 : sPar3 i j l ta E δ n = ta δ n fun ds m => ∃ x y z, ds = [x, y, z] ∧ i < δ.length ∧ j < δ.length ∧ l < δ.length ∧ E.nx (((δ.set i (some (.dat x))).set j (some (.dat y))).set l (some (.dat z))) m := rfl
theorem x_slL {ds : List D} {lo hi : Option Int} {P : D → Prop} : gSl (.list ds) lo hi P = P (.list (cutD ds lo hi)) := rfl
theorem x_slT {ds : List D} {lo hi : Option Int} {P : D → Prop} : gSl (.tuple ds) lo hi P = P (.tuple (cutD ds lo hi)) := rfl
end
end DL
/-! DL16: a, b = [..], y at a name that a text within reads (by way of a pair). -/
namespace DL
open PySem PySem.Spec L2
section
variable {X : Cx} {a b : Expr} {pos : Pos} {t2 : DTE} {ta : DTA} {st : Stmt} {i j : Nat} {k0}
theorem ds_parLEt (h : ∀ te, PE X (.Tuple [a, b] k0 pos) te → PS X st (tAsg te (gTup X.K 2 (gCons (gName i) (gCons (gName j) gNil))))) (ha : DL X a ta) (hb : DE X true b t2) (hs : starEach (a :: [b]) X.env = (false, eval a X.env) :: starEach [b] X.env := by rfl) (hs2 : starEach (b :: []) X.env = (false, eval b X.env) :: starEach [] X.env := by rfl) : DSt X st (sParLE i j ta t2) :=
  ⟨PS.imp (h _ (pe_tup (pa_cons ha.run (pa_cons hb.run pa_nil hs2) hs))) fun D σ H ⟨⟨W, H0, S0, T⟩, n, δ, S, Vs, E, hT, sr, ht, ok⟩ => by
    cases (show T = [] from hT)
    exact ⟨_, n, δ, S, Vs, _, sr, ht, fun es m p xs H1 S1 V1 p1 sr1 q1 q2 e1 e2 e3 e4 r1 =>
      ⟨⟨W, H0, S0, [p]⟩, m, δ, S1, upd V1 p (.lst xs), _, sr1.withTmp e1 e2 e3 e4, p1, fun d k v H2 S2 V2 p2 sr2 w1 w2 r2 => ⟨small _ (by simp), fun q hq =>
        ⟨q, [.ref p, v], rfl, .inl (Rd.of upd_same), rfl, .ref p, [v], rfl, v, [], rfl, rfl, ok.1 _ k _ (upd H2 q (.tup [.ref p, v])) S2 _ p2.2.2 (((sr2.temp hq).tmpOwn (w2 _ _ upd_same) e3 p2.1 (DpAll.mono w1 r1) (by simp)).set (by rw [List.length_set]; exact p2.2.1) (show Dp X.K S2 v d from r2)) (q1.trans w1)⟩⟩⟩⟩⟩
end
end DL
/-! DL17: max(a, b), min(a, b) of two whole numbers. -/
namespace DL
open PySem PySem.Spec L2
section
variable {X : Cx} {a b e : Expr} {p pos : Pos} {t1 t2 : DTE} {b1 b2 : Bool}
theorem de_fnS2 {r : List V → Hp → VK → Prop} {g : G2} (hp : ∀ {t : TA}, PA X [a, b] t → PE X e (tCB r t)) (hs : ∀ (H : Hp) dx dy P (Q : VK) (x y : V) (B : Hp), Dp X.K B x dx → Dp X.K B y dy → g dx dy P → (∀ d v, P d → Sc d v → Q v H) → r [x, y] H Q) (ha : DE X b1 a t1) (hb : DE X b2 b t2)
    (he : starEach (a :: [b]) X.env = (false, eval a X.env) :: starEach [b] X.env := by rfl) (he2 : starEach (b :: []) X.env = (false, eval b X.env) :: starEach [] X.env := by rfl) : DE X true e (d2 g t1 t2) :=
  ⟨PE.imp (hp (pa_cons ha.run (pa_cons hb.run pa_nil he2) he)) fun σ H Q ⟨gh, n, δ, S, Vs, P, sr, ht, k⟩ => ⟨gh, n, δ, S, Vs, _, sr, ht, fun d m v H' S' Vs' q sr' s1 s2 rp =>
    ⟨gh, m, δ, S', Vs', _, sr', q, fun d2 m2 v2 H2 S2 V2 q2 sr2 w1 w2 rp2 =>
      hs H2 d d2 _ Q v v2 V2 (Dp.mono w2 (Rp.dp rp sr'.SV)) (Rp.dp rp2 sr2.SV) q2 fun d3 v3 q3 sc => k d3 m2 v3 H2 S2 V2 q3 sr2 (s1.trans w1) (s2.trans w2) (sc _ _)⟩⟩⟩
theorem de_max2 (hc : X.calm = true) (hg : Gl X "max") (hm : X.mg "max" = none) (ha : DE X b1 a t1) (hb : DE X b2 b t2) (he : starEach (a :: [b]) X.env = (false, eval a X.env) :: starEach [b] X.env := by rfl) (he2 : starEach (b :: []) X.env = (false, eval b X.env) :: starEach [] X.env := by rfl) (hpl : (backTo pos (starEach [b] X.env)).any (·.1) = false := by rfl) :
    DE X true (.Call (.Name "max" p) [a, b] [] pos) (d2 (gI fun i j => .int (if j > i then j else i)) t1 t2) :=
  de_fnS2 (fun h => pe_callB (call_max2 hc) hg hm PyProof.Rows.boot_max h (by decide) (by decide) he hpl) (by
    intro H dx dy P Q x y B hx hy ⟨i, j, e1, e2, g⟩ k
    subst e1 e2
    cases hx
    cases hy
    exact ⟨i, j, rfl, k _ _ g (sc_int _)⟩) ha hb he he2
theorem de_min2 (hc : X.calm = true) (hg : Gl X "min") (hm : X.mg "min" = none) (ha : DE X b1 a t1) (hb : DE X b2 b t2) (he : starEach (a :: [b]) X.env = (false, eval a X.env) :: starEach [b] X.env := by rfl) (he2 : starEach (b :: []) X.env = (false, eval b X.env) :: starEach [] X.env := by rfl) (hpl : (backTo pos (starEach [b] X.env)).any (·.1) = false := by rfl) :
    DE X true (.Call (.Name "min" p) [a, b] [] pos) (d2 (gI fun i j => .int (if j < i then j else i)) t1 t2) :=
  de_fnS2 (fun h => pe_callB (call_min2 hc) hg hm PyProof.Rows.boot_min h (by decide) (by decide) he hpl) (by
    intro H dx dy P Q x y B hx hy ⟨i, j, e1, e2, g⟩ k
    subst e1 e2
    cases hx
    cases hy
    exact ⟨i, j, rfl, k _ _ g (sc_int _)⟩) ha hb he he2
end
end DL
/-! DL18: dicts written down as data; a tuple turned about. -/
namespace DL
open PySem PySem.Spec PyProof.Rows L2
section
variable {X : Cx} {K : PySem.W.Frag} {e : Expr} {pos : Pos} {t1 : DTE} {b1 : Bool}
/-! ### {} and {k: v, ..} of constants -/
theorem upd_twice {H : Hp} {p : Addr} {o o' : HO} : upd (upd H p o) p o' = upd H p o' := by
  funext b
  by_cases h : b = p
  · rw [h, upd_same, upd_same]
  · rw [upd_ne h, upd_ne h, upd_ne h]
theorem de_dict0 : DE X true (.Dict [] [] pos) (dC (.dict [])) :=
  ⟨PE.imp pe_dnewK fun σ H Q ⟨g, n, δ, S, Vs, P, sr, ht, k⟩ => fun p hp => k _ n _ _ _ _ ht (sr.alloc hp) (same_upd (sr.sN hp)) (same_upd (sr.vN hp)) (Rp.of (.dic upd_same .nil))⟩
def ctr (kvs : List (Key × V)) : List (TE × TE) := kvs.map fun p => (tC (kV p.1), tC p.2)
theorem ctr_run (σ : L2.St) (H : Hp) : ∀ (kvs : List (Key × V)) (Q : List (V × V) → Hp → Prop), Q (kvs.map fun p => (kV p.1, p.2)) H → tPairs (ctr kvs) σ H Q
  | [], _, q => q
  | p :: kvs, Q, q => ctr_run σ H kvs (fun ps H3 => Q ((kV p.1, p.2) :: ps) H3) q
theorem de_dictC {keys : List (Option Expr)} {values : List Expr} {kvs : List (Key × V)} {ds : List (D × D)} (h : PPs X pos keys values (ctr kvs)) (f : Flat (mergeK [] kvs) ds) (few : kvs.length ≤ 15 := by decide)
    (hall : keys.all (·.isSome) = true := by rfl) (hl : keys.length = values.length := by rfl) (h0 : keys ≠ [] := by simp) (h15 : keys.length ≤ 15 := by decide) : DE X true (.Dict keys values pos) (dC (.dict ds)) :=
  ⟨PE.imp (pe_disp h hall hl h0 h15) fun σ H Q ⟨g, n, δ, S, Vs, P, sr, ht, k⟩ => fun p hp => ctr_run σ _ kvs _ ⟨upd_same, kvs, rfl, few, by
    rw [upd_twice]
    exact k _ n _ _ _ _ ht (sr.alloc hp) (same_upd (sr.sN hp)) (same_upd (sr.vN hp)) (Rp.of (.dic upd_same f))⟩⟩
/-! ### t[::-1] -/
theorem adjust_back (n : Nat) : Builtin.Slice.sliceAdjust none none (-1) (n : Int) = ((n : Int) - 1, -1) := rfl
theorem places_back (n : Nat) : Builtin.Slice.slicePlaces ((n : Int) - 1) (-1) (-1) = n := by
  unfold Builtin.Slice.slicePlaces
  rw [if_neg (by decide)]
  split
  · have e : ((n : Int) - 1 - -1 - 1) / (- -1) = (n : Int) - 1 := by rw [Int.neg_neg, Int.ediv_one]; omega
    rw [e]; omega
  · omega
theorem pick_back (xs : Array Value) : ((List.range xs.size).filterMap fun (m : Nat) => xs[(((xs.size : Int) - 1) + (m : Int) * -1).toNat]?).toArray = xs.toList.reverse.toArray := by
  congr 1
  apply List.ext_getElem?
  have e : ((List.range xs.size).filterMap fun (m : Nat) => xs[(((xs.size : Int) - 1) + (m : Int) * -1).toNat]?) = (List.range xs.size).map fun m => xs.getD (xs.size - 1 - m) .none := by
    refine DZ.pick_all _ fun m hm => ?_
    have hm' := List.mem_range.mp hm
    have e1 : (((xs.size : Int) - 1) + (m : Int) * -1).toNat = xs.size - 1 - m := by omega
    have l1 : xs.size - 1 - m < xs.size := by omega
    rw [e1, Array.getElem?_eq_getElem l1]
    simp only [Array.getD, l1, dif_pos]
    rfl
  intro i
  rw [e, List.getElem?_map]
  by_cases h : i < xs.size
  · have l1 : xs.size - 1 - i < xs.size := by omega
    rw [List.getElem?_range h, List.getElem?_reverse (by rw [Array.length_toList]; exact h), Array.length_toList, Array.getElem?_toList, Array.getElem?_eq_getElem l1]
    simp only [Option.map_some, Array.getD, l1, dif_pos]
    rfl
  · rw [List.getElem?_eq_none (by rw [List.length_range]; omega), List.getElem?_eq_none (by rw [List.length_reverse, Array.length_toList]; omega)]
    rfl
section
variable {prog : Program} {w : World} {A : Around} {E : Value → Shared → Prop} {s : Shared}
theorem applied_back {sl : Addr} {vs : Value} {n : Nat} {Q : Int × Int × Nat → Shared → Prop} (hs : s.heap.IsSliceOf sl .none .none vs) (ps : IsPart vs (some (-1)))
    (h : Q ((n : Int) - 1, -1, n) s) : wpAny (model prog w) A (Builtin.Slice.sliceApplied (.ref sl) (pure (n : Int))) Q E s := by
  obtain ⟨o, ho, _, hd⟩ := id hs
  unfold Builtin.Slice.sliceApplied Builtin.Slice.sliceFields
  refine wpAny_bind (wpAny_bind (wpAny_field ho hd (x := .none) rfl (wpAny_bind (wpAny_field ho hd (x := .none) rfl (wpAny_bind (wpAny_field ho hd (x := vs) rfl (wpAny_pure ?_)))))))
  refine wpAny_bind (HT.slicePart_ ps ?_)
  show wpAny _ _ (if ((-1 : Int) == 0) = true then _ else _) _ _ s
  rw [if_neg (by decide)]
  refine wpAny_bind (slicePart_none (wpAny_bind (slicePart_none (wpAny_bind (wpAny_pure ?_)))))
  show wpAny _ _ (match Builtin.Slice.sliceAdjust none none (-1) (n : Int) with | (lo, hi) => pure (lo, (-1 : Int), Builtin.Slice.slicePlaces lo hi (-1))) _ _ s
  rw [adjust_back]
  show wpAny _ _ (pure ((n : Int) - 1, (-1 : Int), Builtin.Slice.slicePlaces ((n : Int) - 1) (-1) (-1))) _ _ s
  rw [places_back]
  exact wpAny_pure h
theorem item_back {t sl : Addr} {items : Array Value} {vs : Value} {Q : Value → Shared → Prop} (ht : IsTup s.heap t items) (hs : s.heap.IsSliceOf sl .none .none vs) (ps : IsPart vs (some (-1)))
    (h : Q (.ref s.heap.objs.size) { s with heap := s.heap.push { cls := .type "tuple", data := .seq items.toList.reverse.toArray } }) (hz : items.size ≤ sizeLine) : wpAny (model prog w) A (getItem (.ref t) (.ref sl)) Q E s := by
  have room : sizeOk (.seq items.toList.reverse.toArray) := by
    show items.toList.reverse.toArray.size ≤ sizeLine
    rw [List.size_toArray, List.length_reverse, Array.length_toList]
    exact hz
  obtain ⟨o, ho, hc, hd⟩ := id hs
  have isl : s.TypeIs (.ref sl) "slice" := ⟨o, ho, hc⟩
  unfold getItem
  try with_reducible refine wpAny_holding ?_
  first | refine wpAny_bind (wpAny_pure ?_) | skip
  refine wpAny_bind (wpAny_sequenceKey ht.typeIs (by decide) ?_)
  refine wpAny_bind (wpAny_callSpecial?_slot (name := Str.ofString "__getitem__") ht.typeIs PyProof.Rows.slot_tuple_getitem (wpAny_call_entry PyProof.Rows.slot_tuple_getitem ht.typeIs entry_tuple_getitem ?_ (args_tuple_getitem _ _)))
  show wpAny _ _ (Builtin.Tuple.tupleItemsOf (.ref t) >>= _) _ _ s
  refine wpAny_bind (tupleItemsOf_ ht (wpAny_bind (wpAny_typeOf isl ?_)))
  rw [if_pos (by decide)]
  refine wpAny_bind (applied_back hs ps ?_)
  have differs : ¬ (((items.size : Int) - 1 == 0 && (-1 : Int) == 1 && items.size == items.size) = true) := by
    rw [show ((-1 : Int) == 1) = false from rfl, Bool.and_false, Bool.false_and]
    exact Bool.false_ne_true
  show wpAny _ _ (if ((items.size : Int) - 1 == 0 && (-1 : Int) == 1 && items.size == items.size) = true then _ else _) _ _ s
  rw [if_neg differs, pick_back]
  first
    | exact wpAny_bind (m := Builtin.Tuple.tupleExact _) (wpAny_newObj_type (wpAny_pure ⟨_, rfl, wpAny_pure h⟩) room)
    | exact wpAny_bind (m := Builtin.Tuple.tupleExact _) (wpAny_newObj_type (wpAny_bind (wpAny_pure (wpAny_pure ⟨_, rfl, wpAny_pure h⟩))) room)
    | exact wpAny_bind (wpAny_bind (m := Builtin.Tuple.tupleExact _) (wpAny_newObj_type (wpAny_pure (wpAny_pure ⟨_, rfl, wpAny_pure h⟩)) room))
    | exact wpAny_bind (wpAny_bind (m := Builtin.Tuple.tupleExact _) (wpAny_newObj_type (wpAny_pure ⟨_, rfl, wpAny_pure h⟩) room))
end
def tBackT (K : PySem.W.Frag) (te : TE) : TE := fun σ H Q => te σ H fun x H1 => ∃ a xs, x = .ref a ∧ SqT K H1 a xs ∧ ∀ p, H1 p = none → Q (.ref p) (upd H1 p (.tup xs.reverse))
theorem pe_backT {te : TE} {k : Nat} {p1 p2 p3 : Pos} (he : PE X e te) : PE X (.Subscript e (.Slice none none (some (.UnaryOp .USub (.Constant (.int 1) k p1) p2)) p3) pos) (tBackT X.K te) := by
  refine ⟨fun pins s σ H Q I h => Subscript_ (thn (he.run pins s σ H _ I h) fun v s1 ⟨x, H1, I1, r1, a, xs, ex, hx, q⟩ => ?_)⟩
  subst ex
  cases r1
  have back : PO X (some (.UnaryOp .USub (.Constant (.int 1) k p1) p2)) (tPart (tUn (rU fun i => .int (-i)) (tC (.int 1)))) := po_some (pe_un un_neg pe_int)
  refine wpAny_Slice (thn (po_none.run pins s1 σ H1 (fun o H2 => o = none ∧ H2 = H1) I1 ⟨rfl, rfl⟩) fun vl s2 ⟨l, H2, I2, pl, el, e2⟩ => ?_)
  subst el e2
  refine thn (po_none.run pins s2 σ H2 (fun o H3 => o = none ∧ H3 = H2) I2 ⟨rfl, rfl⟩) fun vu s3 ⟨u, H3, I3, pu, eu, e3⟩ => ?_
  subst eu e3
  refine thn (back.run pins s3 σ H3 (fun o H4 => o = some (-1) ∧ H4 = H3) I3 ⟨1, rfl, -1, rfl, rfl, rfl⟩) fun vs s4 ⟨o, H4, I4, ps, eo, e4⟩ => ?_
  subst eo e4
  cases pl
  cases pu
  have I5 : Inv X pins σ H4 { s4 with heap := s4.heap.push { cls := .type "slice", data := .fields #[.none, .none, vs] } } := I4.kept (t' := s4.toks) fun b ob q => Heap.get?_push_of_some _ q
  obtain ⟨its, r, ht, hz⟩ := I5.tuple hx
  have hlen := r.length
  have ty : Shared.TypeIs { s4 with heap := s4.heap.push { cls := .type "slice", data := .fields #[.none, .none, vs] } } (.ref a) "tuple" := let ⟨o, ho, hc, _⟩ := ht; ⟨o, ho, hc⟩
  show wpAny (model X.prog X.w) X.A (subscriptTail e (.Slice none none (some (.UnaryOp .USub (.Constant (.int 1) k p1) p2)) p3) (.ref a) (.ref s4.heap.objs.size)) (EP X pins σ Q) X.xe { s4 with heap := s4.heap.push { cls := .type "slice", data := .fields #[.none, .none, vs] } }
  refine tail_any (ops := [.ref a, .ref s4.heap.objs.size]) ty (PyProof.Rows.slot_tuple_getitem.lookup) ?_ (by with_unfolding_all rfl)
  refine item_back ht (Heap.IsSliceOf.new _ _ _ vs) ps ?_ (by rw [List.size_toArray]; omega)
  refine ⟨.ref _, _, I5.laid (t' := s4.toks) (o := .tup xs.reverse) (fun b ob q => Heap.get?_push_of_some _ q) (Nat.le_refl _) ?_, rfl, q _ (I5.hok.fresh (Nat.le_refl _))⟩
  exact ⟨by rw [List.length_reverse]; exact hz, _, r.reverse, _, Heap.get?_push_size _ rfl, rfl, 0, rfl⟩
theorem DpAll.rev {H : Hp} {vs : List V} {ds : List D} (h : DpAll K H vs ds) : DpAll K H vs.reverse ds.reverse := by
  refine DpAll.of_get (by rw [List.length_reverse, List.length_reverse, h.length]) fun i v d e1 e2 => ?_
  have l1 : i < vs.length := by rw [← List.length_reverse]; exact (List.getElem?_eq_some_iff.mp e1).1
  rw [List.getElem?_reverse l1] at e1
  rw [List.getElem?_reverse (by rw [← h.length]; exact l1)] at e2
  obtain ⟨d', e3, e4⟩ := h.get e1
  rw [h.length, e2] at e3
  cases e3
  exact e4
def gBack : G1 := fun d P => match d with
  | .tuple ds => P (.tuple ds.reverse)
  | _ => False
theorem de_backT {k : Nat} {p1 p2 p3 : Pos} (ha : DE X true e t1) : DE X true (.Subscript e (.Slice none none (some (.UnaryOp .USub (.Constant (.int 1) k p1) p2)) p3) pos) (d1 gBack t1) :=
  de_un (r := fun x H1 Q => ∃ a xs, x = .ref a ∧ SqT X.K H1 a xs ∧ ∀ p, H1 p = none → Q (.ref p) (upd H1 p (.tup xs.reverse))) (fun ta h => pe_backT h) (by
    intro B H x dx P Q hx sb g k
    cases hx with
    | tup h1 h2 => exact ⟨_, _, rfl, sqt_mono sb h1, fun p hp => k _ _ _ g (.tup hp (DpAll.rev h2))⟩
    | _ => exact absurd g (fun z => z)) ha
end
end DL
/-! DL19: a new list of two, pairs of two tuples, a tuple many times, a whole number as a text. -/
namespace DL
open PySem PySem.Spec PyProof.Rows L2 RZ
section
variable {X : Cx} {K : PySem.W.Frag} {a b e : Expr} {elts : List Expr} {pos p tpos : Pos} {kk : Nat} {t1 t2 : DTE} {b1 b2 : Bool}
/-! ### x + y, two lists: a new list -/
def aAdd (t1 t2 : DTE) : DTA := fun δ n Q => t1 δ n fun x m => t2 δ m fun y k => ∃ xs ys, x = .list xs ∧ y = .list ys ∧ xs.length + ys.length ≤ sizeLine ∧ Q (xs ++ ys) k
theorem dl_add (ha : DE X true a t1) (hb : DE X true b t2) : DL X (.BinOp a .Add b pos) (aAdd t1 t2) :=
  dl_of (pe_op op_cat ha.run hb.run) fun σ H Q ⟨g, n, δ, S, Vs, P, sr, ht, k⟩ => ⟨g, n, δ, S, Vs, _, sr, ht, fun d m v H' S' Vs' p1 sr' s1 s2 r1 =>
    ⟨g, m, δ, S', Vs', _, sr', p1, fun d2 m2 v2 H2 S2 V2 ⟨xs, ys, e1, e2, z, p2⟩ sr2 q1 q2 r2 => by
      subst e1 e2
      have h1 : Dp X.K S2 v (.list xs) := Dp.mono q1 r1
      have h2 : Dp X.K S2 v2 (.list ys) := r2
      cases h1 with
      | lst a1 a2 =>
        cases h2 with
        | lst c1 c2 =>
          exact ⟨_, _, _, _, rfl, rfl, sr2.SH _ _ a1, sr2.SH _ _ c1, by rw [a2.length, c2.length]; exact z, fun q hq =>
            k (xs ++ ys) m2 q _ _ S2 V2 p2 (sr2.temp hq) (s1.trans q1) (s2.trans q2) upd_same (sr2.vN hq) (sr2.h0 hq) (sr2.notW hq) (a2.append c2)⟩⟩⟩
/-! ### zip of two tuples -/
def zipD (xs ys : List D) : List D := List.zipWith (fun x y => .tuple [x, y]) xs ys
theorem zipD_get (xs ys : List D) (i : Nat) : (zipD xs ys)[i]? = match xs[i]?, ys[i]? with
    | some x, some y => some (.tuple [x, y])
    | _, _ => none := by
  rw [zipD, List.getElem?_zipWith]
  cases xs[i]? <;> cases ys[i]? <;> rfl
theorem walk_z {B S : Hp} {a b : Addr} {xs ys : List V} {ds es : List D} (h1 : SqT K B a xs) (h2 : SqT K B b ys) (d1 : DpAll K S xs ds) (d2 : DpAll K S ys es) : WalkD K (ItzT K a b) B S (zipD ds es) := fun i H s => by
  have q1 : SqT K H a xs := sqt_mono s h1
  have q2 : SqT K H b ys := sqt_mono s h2
  refine ⟨fun d e => ?_, fun hl => ⟨xs, ys, q1, q2, by
    rw [zipD, List.length_zipWith, ← d1.length, ← d2.length] at hl
    omega⟩⟩
  rw [zipD_get] at e
  cases e1 : ds[i]? with
  | none => rw [e1] at e; cases e
  | some x =>
    cases e2 : es[i]? with
    | none => rw [e1, e2] at e; cases e
    | some y =>
      rw [e1, e2] at e
      obtain ⟨v, v1, v2⟩ := d1.get' e1
      obtain ⟨u, u1, u2⟩ := d2.get' e2
      refine ⟨⟨xs, ys, v, u, q1, q2, v1, u1⟩, fun z H' ⟨T, c, f, g1, g2, g3, g4, g5⟩ => ?_⟩
      subst g1 g3
      have k1 := g4 _ q1
      have k2 := g5 _ q2
      rw [v1] at k1
      rw [u1] at k2
      cases k1
      cases k2
      cases e
      exact .tup g2 (.cons v2 (.cons u2 .nil))
def iZp (t1 t2 : DTE) : DTA := fun δ n Q => t1 δ n fun x m => t2 δ m fun y k => ∃ xs ys, x = .tuple xs ∧ y = .tuple ys ∧ Q (zipD xs ys) k
theorem di_zip (hg : Gl X "zip") (hm : X.mg "zip" = none) (ha : DE X true a t1) (hb : DE X true b t2) (hs : starEach [a, b] X.env = (false, eval a X.env) :: starEach [b] X.env := by rfl) (hs2 : starEach (b :: []) X.env = (false, eval b X.env) :: starEach [] X.env := by rfl)
    (hpl : (backTo pos (starEach [b] X.env)).any (·.1) = false := by rfl) : DI X true (.Tuple elts kk tpos) (.Call (.Name "zip" p) [a, b] [] pos) (iZp t1 t2) :=
  ⟨PI.imp (pi_zipA hg hm (pa_cons ha.run (pa_cons hb.run pa_nil hs2) hs) hs hpl) fun σ H R ⟨g, n, δ, S, Vs, P, sr, ht, k⟩ => ⟨g, n, δ, S, Vs, _, sr, ht, fun d m v H' S' Vs' p1 sr' s1 s2 r1 =>
    ⟨g, m, δ, S', Vs', _, sr', p1, fun d2 m2 v2 H2 S2 V2 ⟨xs, ys, e1, e2, p2⟩ sr2 q1 q2 r2 => by
      subst e1 e2
      have h1 : Dp X.K S2 v (.tuple xs) := Dp.mono q1 r1
      have h2 : Dp X.K S2 v2 (.tuple ys) := r2
      cases h1 with
      | tup a1 a2 =>
        cases h2 with
        | tup c1 c2 => exact ⟨_, _, _, _, rfl, .inr ⟨sqt_mono sr2.SH a1, sqt_mono sr2.SH c1, k _ H2 S2 V2 _ m2 p2 sr2 (s1.trans q1) (s2.trans q2) (by rw [if_pos rfl]; exact walk_z a1 c1 a2 c2)⟩⟩⟩⟩⟩
/-! ### a tuple, some times -/
def gRepT : G2 := fun x y P => ∃ ds k, x = .tuple ds ∧ y = .int k ∧ ds ≠ [] ∧ 2 ≤ k ∧ k ≤ 1000 ∧ ds.length ≤ 1000 ∧ P (.tuple (List.replicate k.toNat ds).flatten)
theorem de_repT (ha : DE X true a t1) (hb : DE X true b t2) : DE X true (.BinOp a .Mult b pos) (d2 gRepT t1 t2) :=
  de_bin (fun _ _ h1 h2 => pe_op op_repT h1 h2) (by
    intro B H x y dx dy P Q hx hy sb ⟨ds, k, e1, e2, c1, c2, c3, z, p⟩ q
    subst e1 e2
    cases hy
    cases hx with
    | tup h1 h2 => exact ⟨_, k, _, rfl, rfl, sqt_mono sb h1, fun y => c1 (by have := h2.length; rw [y] at this; exact List.length_eq_zero_iff.mp this.symm), c2, c3, by rw [h2.length]; exact z, fun p' hp => q _ _ _ p (.tup hp (dpAll_rep h2 _))⟩) ha hb
/-! ### str(i) -/
def gStrI : G1 := fun d P => ∃ i : Int, d = .int i ∧ i.natAbs.log2 < 1920 ∧ P (.str (toString i))
theorem de_str1 (hg : Gl X "str") (hm : X.mg "str" = none) (ha : DE X b1 a t1) (he : starEach (a :: []) X.env = (false, eval a X.env) :: starEach [] X.env := by rfl) (hpl : (backTo pos (starEach [] X.env)).any (·.1) = false := by rfl) :
    DE X true (.Call (.Name "str" p) [a] [] pos) (d1 gStrI t1) :=
  de_fnS (fun h => pe_callTy call_str_int hg hm (by decide +kernel) h (by decide) (by decide) he hpl) (by
    intro B H x dx P Q hx sb ⟨i, e, hz, g⟩ k
    subst e
    cases hx
    exact ⟨i, rfl, hz, k _ _ g (sc_str _)⟩) ha he
end
end DL
/-! DL20: an own list from a list some times. -/
namespace L2
open PySem PySem.Spec PyProof.Rows
/-! ### a tuple times an int: the same one, or none -/
theorem tuple_mulS (l : Addr) (items : Array Value) (n : Nat) (dd : Option Addr) (sl : Array (Option Value)) (x : Int) (u : Tok) (c0 : (decide (x < -(2 ^ 63)) || decide (x ≥ 2 ^ 63)) = false) (c1 : (items.isEmpty || x == 1) = true) :
    Meets (Builtin.«tuple.__mul__» ⟨[.ref l, .int x u], []⟩) (fun _ R s => s.heap.get? l = some { cls := .type "tuple", dict := dd, data := .seq items n, slots := sl } ∧ R (.ok (.ret (.ref l))) s) :=
  .of_wp fun prog w A R s h => by
    obtain ⟨hp, g, d, tk, os⟩ := s
    obtain ⟨hl, h⟩ := h
    have f1 := AutoSeq1.idx_int
    wp_walk using wpAny_loadPart' hl
    repeat (first
      | (refine wpAny_ite_false (decide_eq_false (by rw [c0]; exact Bool.false_ne_true)) ?_; wp_walk using wpAny_loadPart' hl)
      | (refine wpAny_ite_true (decide_eq_true c1) ?_; wp_walk using wpAny_loadPart' hl))
    exact ⟨_, rfl, h⟩
theorem tuple_mulZ (l : Addr) (items : Array Value) (n : Nat) (dd : Option Addr) (sl : Array (Option Value)) (x : Int) (u : Tok) (c0 : (decide (x < -(2 ^ 63)) || decide (x ≥ 2 ^ 63)) = false) (c1 : (items.isEmpty || x == 1) = false) (c2 : (decide (x ≤ 0) || items.isEmpty) = true) :
    Meets (Builtin.«tuple.__mul__» ⟨[.ref l, .int x u], []⟩) (fun _ R s => s.heap.get? l = some { cls := .type "tuple", dict := dd, data := .seq items n, slots := sl } ∧
      R (.ok (.ret (Value.ref s.heap.objs.size))) { s with heap := s.heap.push { cls := Value.type "tuple", data := Data.seq #[] }, toks := s.toks }) :=
  .of_wp fun prog w A R s h => by
    obtain ⟨hp, g, d, tk, os⟩ := s
    obtain ⟨hl, h⟩ := h
    have f1 := AutoSeq1.idx_int
    wp_walk using wpAny_loadPart' hl
    repeat (first
      | (refine wpAny_ite_false (decide_eq_false (by rw [c0]; exact Bool.false_ne_true)) ?_; wp_walk using wpAny_loadPart' hl)
      | (refine wpAny_ite_false (decide_eq_false (by rw [c1]; exact Bool.false_ne_true)) ?_; wp_walk using wpAny_loadPart' hl)
      | (refine wpAny_ite_true (decide_eq_true c2) ?_; wp_walk using wpAny_loadPart' hl))
    exact ⟨_, rfl, h⟩
def rRepS (K : PySem.W.Frag) : R2 := fun x y H Q => ∃ l k xs, x = .ref l ∧ y = .int k ∧ SqT K H l xs ∧ (xs = [] ∨ k = 1) ∧ -1000 ≤ k ∧ k ≤ 1000 ∧ Q (.ref l) H
def rRepZ (K : PySem.W.Frag) : R2 := fun x y H Q => ∃ l k xs, x = .ref l ∧ y = .int k ∧ SqT K H l xs ∧ xs ≠ [] ∧ -1000 ≤ k ∧ k ≤ 0 ∧ ∀ p, H p = none → Q (.ref p) (upd H p (.tup []))
section
variable {X : Cx}
theorem op_repS : OpR X (binaryOp .Mult) (rRepS X.K) := by
  intro pins s σ H x y v u Q I rx ry h
  obtain ⟨l, k, xs, rfl, rfl, hT, hne, h1, h2, q⟩ := h
  cases rx
  obtain ⟨t, rfl⟩ := ry
  obtain ⟨its, r, ⟨⟨cls, dd, data, sl⟩, ho, hc, n, hd⟩, hs⟩ := I.tuple hT
  simp only at hc hd
  subst hc hd
  have c0 : (decide (k < -(2 ^ 63)) || decide (k ≥ 2 ^ 63)) = false := by
    rw [decide_eq_false (by omega), decide_eq_false (by omega)] <;> rfl
  have c1 : (its.toArray.isEmpty || k == 1) = true := by
    rcases hne with e | e
    · have : its = [] := (r.nil_iff).mpr e
      rw [this]
      rfl
    · rw [e]; simp
  refine wpAny_binaryOp_repeat_ref (T := "tuple") (U := "int") (by decide) ⟨_, ho, rfl⟩ (fun s' => typeIs_int s' k t) noFill_tuple_mul F.fills_int_mul F.slot_int_rmul repeat_tuple F.slot_int_index.lookup
    (call_meets F.slot_int_rmul (typeIs_int s k t) F.entry_int_rmul (F.args_int_rmul_2 _ _) (int_rmul_tuple k t l its.toArray n dd sl)
      ⟨ho, rfl, ⟨_, ho, rfl⟩, call_meets F.slot_tuple_mul ⟨_, ho, rfl⟩ F.entry_tuple_mul (F.args_tuple_mul_2 _ _) (tuple_mulS l its.toArray n dd sl k t c0 c1) ⟨ho, ?_⟩⟩)
  exact ⟨.ref l, H, I, rfl, q⟩
theorem op_repZ : OpR X (binaryOp .Mult) (rRepZ X.K) := by
  intro pins s σ H x y v u Q I rx ry h
  obtain ⟨l, k, xs, rfl, rfl, hT, hne, h1, h2, q⟩ := h
  cases rx
  obtain ⟨t, rfl⟩ := ry
  obtain ⟨its, r, ⟨⟨cls, dd, data, sl⟩, ho, hc, n, hd⟩, hs⟩ := I.tuple hT
  simp only at hc hd
  subst hc hd
  have hn : its ≠ [] := fun e => hne (r.nil_iff.mp e)
  have hi : its.toArray.isEmpty = false := by
    cases its with
    | nil => exact absurd rfl hn
    | cons a b => rfl
  have c0 : (decide (k < -(2 ^ 63)) || decide (k ≥ 2 ^ 63)) = false := by
    rw [decide_eq_false (by omega), decide_eq_false (by omega)] <;> rfl
  have c1 : (its.toArray.isEmpty || k == 1) = false := by
    rw [hi, Bool.false_or]
    exact beq_eq_false_iff_ne.mpr (by omega)
  have c2 : (decide (k ≤ 0) || its.toArray.isEmpty) = true := by rw [decide_eq_true h2]; rfl
  refine wpAny_binaryOp_repeat_ref (T := "tuple") (U := "int") (by decide) ⟨_, ho, rfl⟩ (fun s' => typeIs_int s' k t) noFill_tuple_mul F.fills_int_mul F.slot_int_rmul repeat_tuple F.slot_int_index.lookup
    (call_meets F.slot_int_rmul (typeIs_int s k t) F.entry_int_rmul (F.args_int_rmul_2 _ _) (int_rmul_tuple k t l its.toArray n dd sl)
      ⟨ho, rfl, ⟨_, ho, rfl⟩, call_meets F.slot_tuple_mul ⟨_, ho, rfl⟩ F.entry_tuple_mul (F.args_tuple_mul_2 _ _) (tuple_mulZ l its.toArray n dd sl k t c0 c1 c2) ⟨ho, ?_⟩⟩)
  refine ⟨.ref s.heap.objs.size, _, I.laid (t' := s.toks) (o := .tup []) (fun b ob q => Heap.get?_push_of_some _ q) (Nat.le_refl _) ?_, rfl, q _ (I.hok.fresh (Nat.le_refl _))⟩
  exact ⟨Nat.zero_le _, [], .nil, IsTup.new _ _⟩
end
end L2
namespace DL
open PySem PySem.Spec PyProof.Rows L2 RZ
section
variable {X : Cx} {K : PySem.W.Frag} {a b e : Expr} {elts : List Expr} {pos p tpos : Pos} {kk : Nat} {t1 t2 : DTE} {b1 b2 : Bool}
def aRep (t1 t2 : DTE) : DTA := fun δ n Q => t1 δ n fun x m => t2 δ m fun y l => ∃ ds k, x = .list ds ∧ y = .int k ∧ -(2 ^ 63) ≤ k ∧ k < 2 ^ 63 ∧ ds.length * k.toNat ≤ sizeLine ∧ Q (List.replicate k.toNat ds).flatten l
theorem dl_rep (ha : DE X true a t1) (hb : DE X true b t2) : DL X (.BinOp a .Mult b pos) (aRep t1 t2) :=
  dl_of (pe_op op_rep ha.run hb.run) fun σ H Q ⟨g, n, δ, S, Vs, P, sr, ht, k⟩ => ⟨g, n, δ, S, Vs, _, sr, ht, fun d m v H' S' Vs' p1 sr' s1 s2 r1 =>
    ⟨g, m, δ, S', Vs', _, sr', p1, fun d2 m2 v2 H2 S2 V2 ⟨xs, j, e1, e2, c1, c2, z, p2⟩ sr2 q1 q2 r2 => by
      subst e1 e2
      have h1 : Dp X.K S2 v (.list xs) := Dp.mono q1 r1
      have h2 : Dp X.K S2 v2 (.int j) := r2
      cases h2
      cases h1 with
      | lst a1 a2 =>
        exact ⟨_, j, _, rfl, rfl, sr2.SH _ _ a1, c1, c2, by rw [a2.length]; exact z, fun q hq =>
          k _ m2 q _ _ S2 V2 p2 (sr2.temp hq) (s1.trans q1) (s2.trans q2) upd_same (sr2.vN hq) (sr2.h0 hq) (sr2.notW hq) (dpAll_rep a2 _)⟩⟩⟩
/-! ### a tuple, any number of times -/
def gRepU : G2 := fun x y P => ∃ ds k, x = .tuple ds ∧ y = .int k ∧ -1000 ≤ k ∧ k ≤ 1000 ∧ ds.length ≤ 1000 ∧ P (.tuple (List.replicate k.toNat ds).flatten)
theorem de_repU (ha : DE X true a t1) (hb : DE X true b t2) : DE X true (.BinOp a .Mult b pos) (d2 gRepU t1 t2) :=
  de_bin (fun _ _ h1 h2 => pe_op (OpR.or op_repT (OpR.or op_repS op_repZ)) h1 h2) (by
    intro B H x y dx dy P Q hx hy sb ⟨ds, k, e1, e2, c1, c2, c3, p⟩ q
    subst e1 e2
    cases hy
    cases hx with
    | tup h1 h2 =>
      have hl := h2.length
      by_cases e : ds = [] ∨ k = 1
      · have e3 : (List.replicate k.toNat ds).flatten = ds := by
          rcases e with e | e
          · rw [e]; simp
          · rw [e]; simp
        rw [e3] at p
        refine .inr (.inl ⟨_, k, _, rfl, rfl, sqt_mono sb h1, ?_, c1, c2, q _ _ _ p (.same (.tup h1 h2))⟩)
        rcases e with e | e
        · exact .inl (List.length_eq_zero_iff.mp (by rw [hl, e]; rfl))
        · exact .inr e
      · have n1 : ds ≠ [] := fun z => e (.inl z)
        have n2 : k ≠ 1 := fun z => e (.inr z)
        by_cases z : k ≤ 0
        · have e3 : (List.replicate k.toNat ds).flatten = [] := by rw [show k.toNat = 0 by omega]; rfl
          rw [e3] at p
          exact .inr (.inr ⟨_, k, _, rfl, rfl, sqt_mono sb h1, fun y => n1 (by rw [y] at hl; exact List.length_eq_zero_iff.mp hl.symm), c1, z, fun p' hp => q _ _ _ p (.tup hp .nil)⟩)
        · exact .inl ⟨_, k, _, rfl, rfl, sqt_mono sb h1, fun y => n1 (by rw [y] at hl; exact List.length_eq_zero_iff.mp hl.symm), by omega, c2, by rw [hl]; exact c3, fun p' hp => q _ _ _ p (.tup hp (dpAll_rep h2 _))⟩) ha hb
end
end DL
/-! DL21: zip of three tuples of one length. -/
namespace RZ
open PySem PySem.Spec PyProof.Rows L2
open PySem.Sem (wp)
abbrev IsTrip (h : Heap) (T : Addr) (a b c : Value) : Prop := h.get? T = some { cls := .type "tuple", data := .seq #[a, b, c] }
structure ZipApart3 (z TI TO i1 i2 i3 l1 l2 l3 : Addr) : Prop where
  TIz : TI ≠ z
  TOz : TO ≠ z
  i1z : i1 ≠ z
  i2z : i2 ≠ z
  i3z : i3 ≠ z
  TITO : TI ≠ TO
  TIi1 : TI ≠ i1
  TIi2 : TI ≠ i2
  TIi3 : TI ≠ i3
  TOi1 : TO ≠ i1
  TOi2 : TO ≠ i2
  TOi3 : TO ≠ i3
  i12 : i1 ≠ i2
  i13 : i1 ≠ i3
  i23 : i2 ≠ i3
  l1z : l1 ≠ z
  l2z : l2 ≠ z
  l2TO : l2 ≠ TO
  l2i1 : l2 ≠ i1
  l3z : l3 ≠ z
  l3TO : l3 ≠ TO
  l3i1 : l3 ≠ i1
  l3i2 : l3 ≠ i2
section
variable {prog : Program} {w : World} {A : Around} {E : Value → Shared → Prop} {s : Shared}
theorem wpAny_updateSeq_trip {T : Addr} {a b c x : Value} {k : Nat} {Q : Unit → Shared → Prop} (hT : IsTrip s.heap T a b c)
    (h : ∀ h', h'.get? T = some { cls := .type "tuple", data := .seq ((#[a, b, c] : Array Value).setIfInBounds k x) } → Heap.SameBut T s.heap h' → Q () { s with heap := h' }) :
    wpAny (model prog w) A (updateSeq T (·.setIfInBounds k x)) Q E s := by
  refine wpAny_updateSeq hT rfl (h _ ?_ (Heap.SameBut.update ..))
  rw [Heap.get?_update_self _ hT rfl]
  simp [Obj.mapSeq]
theorem zip3_next_item {z TI TO i1 i2 i3 l1 l2 l3 : Addr} {k : Nat} {xs ys zs : Array Value} {x y v a b c : Value} {Q : Value → Shared → Prop} (D : ZipApart3 z TI TO i1 i2 i3 l1 l2 l3)
    (hz : IsZip s.heap z TI TO .none) (hTI : IsTrip s.heap TI (.ref i1) (.ref i2) (.ref i3)) (hTO : IsTrip s.heap TO a b c)
    (h1 : s.heap.IsTupleIter i1 l1 k) (h2 : s.heap.IsTupleIter i2 l2 k) (h3 : s.heap.IsTupleIter i3 l3 k) (hl1 : s.heap.IsTuple l1 xs) (hl2 : s.heap.IsTuple l2 ys) (hl3 : s.heap.IsTuple l3 zs) (hx : xs[k]? = some x) (hy : ys[k]? = some y) (hv : zs[k]? = some v)
    (hQ : ∀ h', IsZip h' z TI TO (rawInt s.heap.objs.size) → IsTrip h' TO x y v → h'.IsTupleIter i1 l1 (k + 1) → h'.IsTupleIter i2 l2 (k + 1) → h'.IsTupleIter i3 l3 (k + 1) → IsTrip h' s.heap.objs.size x y v → h'.objs.size = s.heap.objs.size + 1 →
      (∀ c o, c ≠ z → c ≠ TO → c ≠ i1 → c ≠ i2 → c ≠ i3 → s.heap.get? c = some o → h'.get? c = some o) → Q (.ref s.heap.objs.size) { s with heap := h' }) :
    wpAny (model prog w) A (Builtin.«zip.__next__» ⟨[.ref z], []⟩) (fun fin s' => ∃ v, fin = .done (.ret v) ∧ Q v s') E s := by
  show wpAny _ _ (field (.ref z) 2 >>= _) _ _ _
  refine wpAny_bind (wpAny_field hz rfl (x := .bool false) rfl ?_)
  show wpAny _ _ (field (.ref z) 3 >>= _) _ _ _
  refine wpAny_bind (wpAny_field hz rfl (x := .ref TI) rfl ?_)
  refine wpAny_bind (wpAny_seqItems hTI rfl ?_)
  show wpAny _ _ (Builtin.SmallTypes.ownedTupleIsFree (.ref z) >>= _) _ _ _
  refine wpAny_bind ?_
  unfold Builtin.SmallTypes.ownedTupleIsFree
  refine wpAny_bind (wpAny_field hz rfl (x := .none) rfl (wpAny_pure ?_))
  simp only [if_true]
  refine wpAny_bind (wpAny_rule ?_)
  refine wpAny_bind (wpAny_field hz rfl (x := .ref TO) rfl ?_)
  refine wpAny_bind (wpAny_setField_rec hz (by simp) fun h₁ hz₁ hs₁ => ?_)
  replace hz₁ : IsZip h₁ z TI TO .ellipsis := hz₁
  refine wpAny_bind ?_
  simp only [List.zipIdx_cons, List.zipIdx_nil, List.forIn_cons, List.forIn_nil]
  refine wpAny_bind (wpAny_bind (wpAny_onRaise ?_))
  show wpAny _ _ (Builtin.SmallTypes.nextOf (.ref i1) >>= _) _ _ _
  refine wpAny_bind (nextOf_tuple_item (h1.extBut hs₁.extBut D.i1z) (hl1.extBut hs₁.extBut D.l1z) hx fun h₂ h1₂ hs₂ => wpAny_pure ?_)
  have hTO₂ : IsTrip h₂ TO a b c := hs₂.extBut _ _ D.TOi1 (hs₁.extBut _ _ D.TOz hTO)
  refine wpAny_bind (wpAny_seqItems hTO₂ rfl ?_)
  refine wpAny_bind (wpAny_updateSeq_trip hTO₂ fun h₃ hTO₃ hs₃ => ?_)
  replace hTO₃ : IsTrip h₃ TO x b c := hTO₃
  refine wpAny_bind (wpAny_letGo (wpAny_pure ?_))
  refine wpAny_bind (wpAny_bind (wpAny_onRaise ?_))
  show wpAny _ _ (Builtin.SmallTypes.nextOf (.ref i2) >>= _) _ _ _
  refine wpAny_bind (nextOf_tuple_item (((h2.extBut hs₁.extBut D.i2z).extBut hs₂.extBut D.i12.symm).extBut hs₃.extBut D.TOi2.symm)
    (((hl2.extBut hs₁.extBut D.l2z).extBut hs₂.extBut D.l2i1).extBut hs₃.extBut D.l2TO) hy fun h₄ h2₄ hs₄ => wpAny_pure ?_)
  have hTO₄ : IsTrip h₄ TO x b c := hs₄.extBut _ _ D.TOi2 hTO₃
  refine wpAny_bind (wpAny_seqItems hTO₄ rfl ?_)
  refine wpAny_bind (wpAny_updateSeq_trip hTO₄ fun h₅ hTO₅ hs₅ => ?_)
  replace hTO₅ : IsTrip h₅ TO x y c := hTO₅
  refine wpAny_bind (wpAny_letGo (wpAny_pure ?_))
  refine wpAny_bind (wpAny_bind (wpAny_onRaise ?_))
  show wpAny _ _ (Builtin.SmallTypes.nextOf (.ref i3) >>= _) _ _ _
  refine wpAny_bind (nextOf_tuple_item (((((h3.extBut hs₁.extBut D.i3z).extBut hs₂.extBut D.i13.symm).extBut hs₃.extBut D.TOi3.symm).extBut hs₄.extBut D.i23.symm).extBut hs₅.extBut D.TOi3.symm)
    (((((hl3.extBut hs₁.extBut D.l3z).extBut hs₂.extBut D.l3i1).extBut hs₃.extBut D.l3TO).extBut hs₄.extBut D.l3i2).extBut hs₅.extBut D.l3TO) hv fun h₆ h3₆ hs₆ => wpAny_pure ?_)
  have hTO₆ : IsTrip h₆ TO x y c := hs₆.extBut _ _ D.TOi3 hTO₅
  refine wpAny_bind (wpAny_seqItems hTO₆ rfl ?_)
  refine wpAny_bind (wpAny_updateSeq_trip hTO₆ fun h₇ hTO₇ hs₇ => ?_)
  replace hTO₇ : IsTrip h₇ TO x y v := hTO₇
  refine wpAny_bind (wpAny_letGo (wpAny_pure (wpAny_pure ?_)))
  refine wpAny_bind (wpAny_seqItems hTO₇ rfl ?_)
  refine wpAny_bind (wpAny_newTuple ?_)
  have hsz : h₇.objs.size = s.heap.objs.size := by rw [hs₇.1, hs₆.1, hs₅.1, hs₄.1, hs₃.1, hs₂.1, hs₁.1]
  have hk₇ : ∀ c o, c ≠ z → c ≠ TO → c ≠ i1 → c ≠ i2 → c ≠ i3 → s.heap.get? c = some o → h₇.get? c = some o := fun c o c1 c2 c3 c4 c5 e =>
    hs₇.extBut _ _ c2 (hs₆.extBut _ _ c5 (hs₅.extBut _ _ c2 (hs₄.extBut _ _ c4 (hs₃.extBut _ _ c2 (hs₂.extBut _ _ c3 (hs₁.extBut _ _ c1 e))))))
  have hz₇ : IsZip h₇ z TI TO .ellipsis := hs₇.extBut _ _ D.TOz.symm (hs₆.extBut _ _ D.i3z.symm (hs₅.extBut _ _ D.TOz.symm (hs₄.extBut _ _ D.i2z.symm (hs₃.extBut _ _ D.TOz.symm (hs₂.extBut _ _ D.i1z.symm hz₁)))))
  have h1₇ : h₇.IsTupleIter i1 l1 (k + 1) := ((((h1₂.extBut hs₃.extBut D.TOi1.symm).extBut hs₄.extBut D.i12).extBut hs₅.extBut D.TOi1.symm).extBut hs₆.extBut D.i13).extBut hs₇.extBut D.TOi1.symm
  have h2₇ : h₇.IsTupleIter i2 l2 (k + 1) := ((h2₄.extBut hs₅.extBut D.TOi2.symm).extBut hs₆.extBut D.i23).extBut hs₇.extBut D.TOi2.symm
  have h3₇ : h₇.IsTupleIter i3 l3 (k + 1) := h3₆.extBut hs₇.extBut D.TOi3.symm
  have hzlt : z < h₇.objs.size := Heap.lt_size hz₇
  show wpAny _ _ (Builtin.SmallTypes.ownedTupleHandOut (.ref z) (.ref h₇.objs.size) >>= _) _ _ _
  refine wpAny_bind ?_
  unfold Builtin.SmallTypes.ownedTupleHandOut
  have hz₈ : IsZip (h₇.push { cls := .type "tuple", data := .seq #[x, y, v] }) z TI TO .ellipsis := Heap.get?_push_of_some _ hz₇
  refine wpAny_bind (wpAny_setField_rec hz₈ (by simp) fun h₉ hz₉ hs₉ => ?_)
  replace hz₉ : IsZip h₉ z TI TO (rawInt h₇.objs.size) := hz₉
  refine wpAny_setField_rec hz₉ (by simp) fun h₀ hz₀ hs₀ => ?_
  replace hz₀ : IsZip h₀ z TI TO (rawInt h₇.objs.size) := hz₀
  have up : ∀ c o, c ≠ z → h₇.get? c = some o → h₀.get? c = some o := fun c o c1 e => hs₀.extBut _ _ c1 (hs₉.extBut _ _ c1 (Heap.get?_push_of_some _ e))
  have hT₀ : IsTrip h₀ h₇.objs.size x y v := hs₀.extBut _ _ (Nat.ne_of_gt hzlt) (hs₉.extBut _ _ (Nat.ne_of_gt hzlt) (Heap.get?_push_size _ rfl))
  have hz0 : h₀.objs.size = h₇.objs.size + 1 := by rw [hs₀.1, hs₉.1, Heap.size_push]
  rw [hsz] at hz₀ hT₀ hz0
  refine wpAny_pure ⟨_, rfl, ?_⟩
  show Q (.ref h₇.objs.size) _
  rw [hsz]
  exact hQ h₀ hz₀ (up _ _ D.TOz hTO₇) (h1₇.at fun o e => up _ o D.i1z e) (h2₇.at fun o e => up _ o D.i2z e) (h3₇.at fun o e => up _ o D.i3z e) hT₀ hz0 fun c o c1 c2 c3 c4 c5 e => up c o c1 (hk₇ c o c1 c2 c3 c4 c5 e)
theorem zip3_next_end {z TI TO i1 i2 i3 l1 l2 l3 : Addr} {k : Nat} {xs : Array Value} {a b c : Value} {Q : Fin → Shared → Prop} (hh : A.handled = none) (D : ZipApart3 z TI TO i1 i2 i3 l1 l2 l3)
    (hz : IsZip s.heap z TI TO .none) (hTI : IsTrip s.heap TI (.ref i1) (.ref i2) (.ref i3)) (hTO : IsTrip s.heap TO a b c)
    (h1 : s.heap.IsTupleIter i1 l1 k) (hl1 : s.heap.IsTuple l1 xs) (hx : xs[k]? = none)
    (hE : ∀ h' e, (∀ c o, c ≠ z → c ≠ TO → c ≠ i1 → c ≠ i2 → c ≠ i3 → s.heap.get? c = some o → h'.get? c = some o) → (∃ o, h'.get? e = some o ∧ o.cls = .type "StopIteration") → E (.ref e) { s with heap := h' }) :
    wpAny (model prog w) A (Builtin.«zip.__next__» ⟨[.ref z], []⟩) Q E s := by
  show wpAny _ _ (field (.ref z) 2 >>= _) _ _ _
  refine wpAny_bind (wpAny_field hz rfl (x := .bool false) rfl ?_)
  show wpAny _ _ (field (.ref z) 3 >>= _) _ _ _
  refine wpAny_bind (wpAny_field hz rfl (x := .ref TI) rfl ?_)
  refine wpAny_bind (wpAny_seqItems hTI rfl ?_)
  show wpAny _ _ (Builtin.SmallTypes.ownedTupleIsFree (.ref z) >>= _) _ _ _
  refine wpAny_bind ?_
  unfold Builtin.SmallTypes.ownedTupleIsFree
  refine wpAny_bind (wpAny_field hz rfl (x := .none) rfl (wpAny_pure ?_))
  simp only [if_true]
  refine wpAny_bind (wpAny_rule ?_)
  refine wpAny_bind (wpAny_field hz rfl (x := .ref TO) rfl ?_)
  refine wpAny_bind (wpAny_setField_rec hz (by simp) fun h₁ hz₁ hs₁ => ?_)
  replace hz₁ : IsZip h₁ z TI TO .ellipsis := hz₁
  refine wpAny_bind ?_
  simp only [List.zipIdx_cons, List.zipIdx_nil, List.forIn_cons, List.forIn_nil]
  refine wpAny_bind (wpAny_bind (wpAny_onRaise ?_))
  show wpAny _ _ (Builtin.SmallTypes.nextOf (.ref i1) >>= _) _ _ _
  refine wpAny_bind (nextOf_tuple_end hh (h1.extBut hs₁.extBut D.i1z) (hl1.extBut hs₁.extBut D.l1z) hx fun h₂ e hs₂ he => ?_)
  obtain ⟨oe, hoe, hce⟩ := he
  have hz₂ : IsZip h₂ z TI TO .ellipsis := hs₂ _ _ D.i1z.symm hz₁
  have hez : e ≠ z := fun x => by subst x; rw [hz₂] at hoe; cases hoe; simp at hce
  refine wpAny_setField_rec hz₂ (by simp) fun h₃ _ hs₃ => hE h₃ e (fun c o c1 _ c3 _ _ x => hs₃.extBut _ _ c1 (hs₂ _ _ c3 (hs₁.extBut _ _ c1 x))) ⟨oe, hs₃.extBut _ _ hez hoe, hce⟩
theorem pyNext_zip3_item {z TI TO i1 i2 i3 l1 l2 l3 : Addr} {k : Nat} {xs ys zs : Array Value} {x y v a b c : Value} {Q : Option Value → Shared → Prop} (D : ZipApart3 z TI TO i1 i2 i3 l1 l2 l3)
    (hz : IsZip s.heap z TI TO .none) (hTI : IsTrip s.heap TI (.ref i1) (.ref i2) (.ref i3)) (hTO : IsTrip s.heap TO a b c)
    (h1 : s.heap.IsTupleIter i1 l1 k) (h2 : s.heap.IsTupleIter i2 l2 k) (h3 : s.heap.IsTupleIter i3 l3 k) (hl1 : s.heap.IsTuple l1 xs) (hl2 : s.heap.IsTuple l2 ys) (hl3 : s.heap.IsTuple l3 zs) (hx : xs[k]? = some x) (hy : ys[k]? = some y) (hv : zs[k]? = some v)
    (hQ : ∀ h', IsZip h' z TI TO (rawInt s.heap.objs.size) → IsTrip h' TO x y v → h'.IsTupleIter i1 l1 (k + 1) → h'.IsTupleIter i2 l2 (k + 1) → h'.IsTupleIter i3 l3 (k + 1) → IsTrip h' s.heap.objs.size x y v → h'.objs.size = s.heap.objs.size + 1 →
      (∀ c o, c ≠ z → c ≠ TO → c ≠ i1 → c ≠ i2 → c ≠ i3 → s.heap.get? c = some o → h'.get? c = some o) → Q (some (.ref s.heap.objs.size)) { s with heap := h' }) :
    wpAny (model prog w) A (pyNext (.ref z)) Q E s := by
  have hT : s.TypeIs (.ref z) "zip" := ⟨_, hz, rfl⟩
  unfold pyNext
  exact wpAny_bind (wpAny_attempt (wpAny_callSpecial?_slot (name := Str.ofString "__next__") hT F.slot_zip_next
    (wpAny_call_entry F.slot_zip_next hT F.entry_zip_next
      (zip3_next_item D hz hTI hTO h1 h2 h3 hl1 hl2 hl3 hx hy hv fun h' a1 a2 a3 a4 a5 a6 a7 a8 => wpAny_pure (hQ h' a1 a2 a3 a4 a5 a6 a7 a8)) (F.args_zip_next_1 _))))
theorem pyNext_zip3_end {z TI TO i1 i2 i3 l1 l2 l3 : Addr} {k : Nat} {xs : Array Value} {a b c : Value} {Q : Option Value → Shared → Prop} (hh : A.handled = none) (D : ZipApart3 z TI TO i1 i2 i3 l1 l2 l3)
    (hz : IsZip s.heap z TI TO .none) (hTI : IsTrip s.heap TI (.ref i1) (.ref i2) (.ref i3)) (hTO : IsTrip s.heap TO a b c)
    (h1 : s.heap.IsTupleIter i1 l1 k) (hl1 : s.heap.IsTuple l1 xs) (hx : xs[k]? = none)
    (hQ : ∀ h', (∀ c o, c ≠ z → c ≠ TO → c ≠ i1 → c ≠ i2 → c ≠ i3 → s.heap.get? c = some o → h'.get? c = some o) → Q none { s with heap := h' }) : wpAny (model prog w) A (pyNext (.ref z)) Q E s := by
  have hT : s.TypeIs (.ref z) "zip" := ⟨_, hz, rfl⟩
  unfold pyNext
  refine wpAny_bind (wpAny_attempt (wpAny_callSpecial?_slot (name := Str.ofString "__next__") hT F.slot_zip_next
    (wpAny_call_entry F.slot_zip_next hT F.entry_zip_next (zip3_next_end hh D hz hTI hTO h1 hl1 hx fun h' e hk he => ?_) (F.args_zip_next_1 _))))
  obtain ⟨o, ho, hc⟩ := he
  refine wpAny_bind (wpAny_isInstance (T := "StopIteration") (b := true) ⟨o, ho, hc⟩ isSubtype_stop ?_)
  exact wpAny_pure (hQ _ hk)
end
abbrev zip3H1 (h : Heap) (l1 : Addr) : Heap := h.push { cls := .type "tuple_iterator", data := .fields #[.ref l1, .int 0 0] }
abbrev zip3H2 (h : Heap) (l1 l2 : Addr) : Heap := (zip3H1 h l1).push { cls := .type "tuple_iterator", data := .fields #[.ref l2, .int 0 0] }
abbrev zip3H3 (h : Heap) (l1 l2 l3 : Addr) : Heap := (zip3H2 h l1 l2).push { cls := .type "tuple_iterator", data := .fields #[.ref l3, .int 0 0] }
abbrev zip3H4 (h : Heap) (l1 l2 l3 : Addr) : Heap := (zip3H3 h l1 l2 l3).push { cls := .type "tuple", data := .seq #[.ref h.objs.size, .ref (zip3H1 h l1).objs.size, .ref (zip3H2 h l1 l2).objs.size] }
abbrev zip3H5 (h : Heap) (l1 l2 l3 : Addr) : Heap := (zip3H4 h l1 l2 l3).push { cls := .type "tuple", data := .seq #[.none, .none, .none] }
abbrev zip3H6 (h : Heap) (l1 l2 l3 : Addr) : Heap := (zip3H5 h l1 l2 l3).push { cls := .type "zip", data := .fields #[.none, .bool false, .bool false, .ref (zip3H3 h l1 l2 l3).objs.size, .ref (zip3H4 h l1 l2 l3).objs.size] }
theorem meets_zip3_new (l1 l2 l3 : Addr) (xs ys zs : Array Value) :
    Meets (Builtin.«zip.__new__» ⟨[.type "zip", .ref l1, .ref l2, .ref l3], []⟩) (fun _ R s => s.heap.IsTuple l1 xs ∧ s.heap.IsTuple l2 ys ∧ s.heap.IsTuple l3 zs ∧
      R (.ok (.ret (.ref (zip3H5 s.heap l1 l2 l3).objs.size))) { s with heap := zip3H6 s.heap l1 l2 l3 }) :=
  .of_wp fun prog w A R s h => by
    obtain ⟨hp, g, d, tk, os⟩ := s; obtain ⟨hl1, hl2, hl3, h⟩ := h
    have hsub := sub_zip
    have hL1 : Heap.IsTuple (Shared.heap ⟨hp, g, d, tk, os⟩) l1 xs := hl1
    have hL2 : Heap.IsTuple (Shared.heap ⟨hp.push { cls := .type "tuple_iterator", data := .fields #[.ref l1, .int 0 0] }, g, d, tk, os⟩) l2 ys := Heap.IsTuple.push hl2 _
    have hL3 : Heap.IsTuple (Shared.heap ⟨(hp.push { cls := .type "tuple_iterator", data := .fields #[.ref l1, .int 0 0] }).push { cls := .type "tuple_iterator", data := .fields #[.ref l2, .int 0 0] }, g, d, tk, os⟩) l3 zs := Heap.IsTuple.push (Heap.IsTuple.push hl3 _) _
    wp_walk using wpAny_pyIter_tuple hL1, wpAny_pyIter_tuple hL2, wpAny_pyIter_tuple hL3
    exact ⟨_, rfl, h⟩
section
variable {prog : Program} {w : World} {A : Around} {E : Value → Shared → Prop} {s : Shared}
theorem call_zip3 {l1 l2 l3 : Addr} {xs ys zs : Array Value} {Q : Value → Shared → Prop} (hl1 : s.heap.IsTuple l1 xs) (hl2 : s.heap.IsTuple l2 ys) (hl3 : s.heap.IsTuple l3 zs)
    (h : ∀ h', IsZip h' (s.heap.objs.size + 5) (s.heap.objs.size + 3) (s.heap.objs.size + 4) .none → IsTrip h' (s.heap.objs.size + 3) (.ref s.heap.objs.size) (.ref (s.heap.objs.size + 1)) (.ref (s.heap.objs.size + 2)) →
      IsTrip h' (s.heap.objs.size + 4) .none .none .none → h'.IsTupleIter s.heap.objs.size l1 0 → h'.IsTupleIter (s.heap.objs.size + 1) l2 0 → h'.IsTupleIter (s.heap.objs.size + 2) l3 0 → h'.objs.size = s.heap.objs.size + 6 →
      (∀ c o, s.heap.get? c = some o → h'.get? c = some o) → Q (.ref (s.heap.objs.size + 5)) { s with heap := h' }) :
    wpAny (model prog w) A (call (.type "zip") [.ref l1, .ref l2, .ref l3]) Q E s := by
  refine callType_new F.called_zip (by decide) (F.typeCall_zip_3 _ _ _) (F.newCall_zip_3 _ _ _) (fun obj => F.args_object_init_4 obj _ _ _) F.entry_zip_new
    (meets_zip3_new l1 l2 l3 xs ys zs) ⟨hl1, hl2, hl3, ?_⟩
  have z1 : (zip3H1 s.heap l1).objs.size = s.heap.objs.size + 1 := Heap.size_push ..
  have z2 : (zip3H2 s.heap l1 l2).objs.size = s.heap.objs.size + 2 := by rw [Heap.size_push, z1]
  have z3 : (zip3H3 s.heap l1 l2 l3).objs.size = s.heap.objs.size + 3 := by rw [Heap.size_push, z2]
  have z4 : (zip3H4 s.heap l1 l2 l3).objs.size = s.heap.objs.size + 4 := by rw [Heap.size_push, z3]
  have z5 : (zip3H5 s.heap l1 l2 l3).objs.size = s.heap.objs.size + 5 := by rw [Heap.size_push, z4]
  have z6 : (zip3H6 s.heap l1 l2 l3).objs.size = s.heap.objs.size + 6 := by rw [Heap.size_push, z5]
  have g6 : (zip3H6 s.heap l1 l2 l3).get? (zip3H5 s.heap l1 l2 l3).objs.size = some _ := Heap.get?_push_size _ rfl
  have g5 : (zip3H6 s.heap l1 l2 l3).get? (zip3H4 s.heap l1 l2 l3).objs.size = some _ := Heap.get?_push_of_some _ (Heap.get?_push_size _ rfl)
  have g4 : (zip3H6 s.heap l1 l2 l3).get? (zip3H3 s.heap l1 l2 l3).objs.size = some _ := Heap.get?_push_of_some _ (Heap.get?_push_of_some _ (Heap.get?_push_size _ rfl))
  have g3 : (zip3H6 s.heap l1 l2 l3).get? (zip3H2 s.heap l1 l2).objs.size = some _ := Heap.get?_push_of_some _ (Heap.get?_push_of_some _ (Heap.get?_push_of_some _ (Heap.get?_push_size _ rfl)))
  have g2 : (zip3H6 s.heap l1 l2 l3).get? (zip3H1 s.heap l1).objs.size = some _ := Heap.get?_push_of_some _ (Heap.get?_push_of_some _ (Heap.get?_push_of_some _ (Heap.get?_push_of_some _ (Heap.get?_push_size _ rfl))))
  have g1 : (zip3H6 s.heap l1 l2 l3).get? s.heap.objs.size = some _ := Heap.get?_push_of_some _ (Heap.get?_push_of_some _ (Heap.get?_push_of_some _ (Heap.get?_push_of_some _ (Heap.get?_push_of_some _ (Heap.get?_push_size _ rfl)))))
  show _ ∧ _
  rw [z3, z4, z5] at g6
  rw [z1, z2, z3] at g4
  rw [z4] at g5
  rw [z2] at g3
  rw [z1] at g2
  rw [z5]
  exact ⟨⟨_, g6, rfl⟩, h _ g6 g4 g5 ⟨_, g1, rfl, rfl⟩ ⟨_, g2, rfl, rfl⟩ ⟨_, g3, rfl, rfl⟩ z6 fun c o x =>
    Heap.get?_push_of_some _ (Heap.get?_push_of_some _ (Heap.get?_push_of_some _ (Heap.get?_push_of_some _ (Heap.get?_push_of_some _ (Heap.get?_push_of_some _ x)))))⟩
end
end RZ
namespace RZ
open PySem PySem.Spec PyProof.Rows L2
/-- the tuples at a, b and c as they stand at each turn, the items in new triples; all of the length of the first one -/
def ItzT3 (K : PySem.W.Frag) (a b c : Addr) : It :=
  ⟨fun i H => ∃ (xs ys zs : List V) (x y v : V), SqT K H a xs ∧ SqT K H b ys ∧ SqT K H c zs ∧ xs[i]? = some x ∧ ys[i]? = some y ∧ zs[i]? = some v,
    fun i H u H' => ∃ T x y v, u = .ref T ∧ H T = none ∧ H' = upd H T (.tup [x, y, v]) ∧ (∀ xs, SqT K H a xs → xs[i]? = some x) ∧ (∀ ys, SqT K H b ys → ys[i]? = some y) ∧ ∀ zs, SqT K H c zs → zs[i]? = some v,
    fun i H => ∃ xs : List V, SqT K H a xs ∧ xs.length ≤ i⟩
theorem turn_zip3 {P : Program} {w : World} {K : PySem.W.Frag} {elts : List Expr} {kk : Nat} {tpos : Pos} {a b c z TI TO i1 i2 i3 : Addr} (D : ZipApart3 z TI TO i1 i2 i3 a b c) :
    Turn P w K (.Tuple elts kk tpos) (ItzT3 K a b c) [z, TI, TO, i1, i2, i3] z (fun i h => IsZip h z TI TO .none ∧ IsTrip h TI (.ref i1) (.ref i2) (.ref i3) ∧ (∃ x y v, IsTrip h TO x y v) ∧ h.IsTupleIter i1 a i ∧ h.IsTupleIter i2 b i ∧ h.IsTupleIter i3 c i) where
  mem := by simp
  obj := fun i h st c hc => by
    obtain ⟨hz, hTI, ⟨x, y, v, hTO⟩, ⟨o1, e1, _, d1⟩, ⟨o2, e2, _, d2⟩, ⟨o3, e3, _, d3⟩⟩ := st
    have e' : c = z ∨ c = TI ∨ c = TO ∨ c = i1 ∨ c = i2 ∨ c = i3 := by simpa using hc
    rcases e' with q | q | q | q | q | q
    · rw [q]; exact ⟨_, hz, fun v q => nomatch q⟩
    · rw [q]; exact ⟨_, hTI, fun v q => nomatch q⟩
    · rw [q]; exact ⟨_, hTO, fun v q => nomatch q⟩
    · rw [q]; exact ⟨o1, e1, fun v q => by rw [d1] at q; cases q⟩
    · rw [q]; exact ⟨o2, e2, fun v q => by rw [d2] at q; cases q⟩
    · rw [q]; exact ⟨o3, e3, fun v q => by rw [d3] at q; cases q⟩
  keep := fun i h h' st k => by
    obtain ⟨hz, hTI, ⟨x, y, v, hTO⟩, h1, h2, h3⟩ := st
    exact ⟨k z (by simp) _ hz, k TI (by simp) _ hTI, ⟨x, y, v, k TO (by simp) _ hTO⟩, h1.at fun o q => k i1 (by simp) o q, h2.at fun o q => k i2 (by simp) o q, h3.at fun o q => k i3 (by simp) o q⟩
  item := by
    intro X hP hw hK hc i pins s σ H E I hf st hg
    subst hP hw hK
    obtain ⟨hz, hTI, ⟨x0, y0, v0, hTO⟩, h1, h2, h3⟩ := st
    obtain ⟨xs, ys, zs, x, y, v, hqx, hqy, hqz, hx, hy, hv⟩ := hg
    obtain ⟨its, rv, p, _⟩ := I.tuple hqx
    obtain ⟨its2, rv2, p2, _⟩ := I.tuple hqy
    obtain ⟨its3, rv3, p3, _⟩ := I.tuple hqz
    obtain ⟨u, hu, ru⟩ := rv.get hx
    obtain ⟨u2, hu2, ru2⟩ := rv2.get hy
    obtain ⟨u3, hu3, ru3⟩ := rv3.get hv
    have hzl : z < s.heap.objs.size := Heap.lt_size hz
    refine pyNext_zip3_item D hz hTI hTO h1 h2 h3 p p2 p3 (x := u) (y := u2) (v := u3) (by simpa using hu) (by simpa using hu2) (by simpa using hu3) fun h' z' TO' h1' h2' h3' hT hsz hk => ?_
    refine ⟨_, rfl, wpAny_letOwnedTupleGo_zip (s := { s with heap := h' }) z' fun h'' z'' sb => ?_⟩
    have hT2 : h''.get? s.heap.objs.size = some { cls := .type "tuple", data := .seq #[u, u2, u3] } := (sb.2 _ (Nat.ne_of_gt hzl)).trans hT
    have new : ObjOk X.prog X.w (upd H s.heap.objs.size (.tup [x, y, v])) h'' s.heap.objs.size (.tup [x, y, v]) :=
      ⟨by show 3 ≤ sizeLine; decide, [u, u2, u3], .cons ru (.cons ru2 (.cons ru3 .nil)), ⟨_, hT2, rfl, _, rfl⟩⟩
    have I1 : Inv X pins σ (upd H s.heap.objs.size (.tup [x, y, v])) { s with heap := h'' } :=
      I.turnedNew (t' := s.toks) (ch := [z, TI, TO, i1, i2, i3]) (fun c o hb q => (sb.2 c (fun q' => hb (by simp [q']))).trans (hk c o (fun q' => hb (by simp [q'])) (fun q' => hb (by simp [q'])) (fun q' => hb (by simp [q'])) (fun q' => hb (by simp [q'])) (fun q' => hb (by simp [q'])) q)) hf (Nat.le_refl _) new
    refine ⟨.ref s.heap.objs.size, _, I1, rfl, ⟨_, x, y, v, rfl, I.hok.fresh (Nat.le_refl _), rfl, fun l hl => by rw [I.tuple_inj hl hqx]; exact hx, fun l hl => by rw [I.tuple_inj hl hqy]; exact hy, fun l hl => by rw [I.tuple_inj hl hqz]; exact hv⟩, ⟨z'', ?_, ⟨u, u2, u3, ?_⟩, ?_, ?_, ?_⟩, fun c hcm => ?_⟩
    · exact (sb.2 _ D.TIz).trans (hk _ _ D.TIz D.TITO D.TIi1 D.TIi2 D.TIi3 hTI)
    · exact (sb.2 _ D.TOz).trans TO'
    · exact h1'.at fun o q => (sb.2 _ D.i1z).trans q
    · exact h2'.at fun o q => (sb.2 _ D.i2z).trans q
    · exact h3'.at fun o q => (sb.2 _ D.i3z).trans q
    · have hlt : c < s.heap.objs.size := by
        have e' : c = z ∨ c = TI ∨ c = TO ∨ c = i1 ∨ c = i2 ∨ c = i3 := by simpa using hcm
        rcases e' with q | q | q | q | q | q
        · rw [q]; exact hzl
        · rw [q]; exact Heap.lt_size hTI
        · rw [q]; exact Heap.lt_size hTO
        · rw [q]; obtain ⟨_, e1, _⟩ := h1; exact Heap.lt_size e1
        · rw [q]; obtain ⟨_, e2, _⟩ := h2; exact Heap.lt_size e2
        · rw [q]; obtain ⟨_, e3, _⟩ := h3; exact Heap.lt_size e3
      rw [upd_ne (Nat.ne_of_lt hlt)]
      exact (hf c hcm).1
  done := by
    intro X hP hw hK hc i pins s σ H E I hf st hg
    subst hP hw hK
    obtain ⟨hz, hTI, ⟨x0, y0, v0, hTO⟩, h1, h2, h3⟩ := st
    obtain ⟨xs, hqx, hend⟩ := hg
    obtain ⟨its, rv, p, _⟩ := I.tuple hqx
    have l1 := rv.length
    have he : its.toArray[i]? = none := by simp; omega
    exact pyNext_zip3_end (I.ok.hd hc) D hz hTI hTO h1 p he fun h' hk => ⟨rfl, I.turnedL (t' := s.toks) (ch := [z, TI, TO, i1, i2, i3]) (fun c o hb q =>
      hk c o (fun q' => hb (by simp [q'])) (fun q' => hb (by simp [q'])) (fun q' => hb (by simp [q'])) (fun q' => hb (by simp [q'])) (fun q' => hb (by simp [q'])) q) hf⟩
  self := fun A i s Q E st h => wpAny_pyIter_zip st.1 h
theorem apart3 {n a b c : Nat} (h1 : a < n) (h2 : b < n) (h3 : c < n) : ZipApart3 (n + 5) (n + 3) (n + 4) n (n + 1) (n + 2) a b c :=
  ⟨by show n + 3 ≠ n + 5; omega, by show n + 4 ≠ n + 5; omega, by show n ≠ n + 5; omega, by show n + 1 ≠ n + 5; omega, by show n + 2 ≠ n + 5; omega, by show n + 3 ≠ n + 4; omega, by show n + 3 ≠ n; omega, by show n + 3 ≠ n + 1; omega, by show n + 3 ≠ n + 2; omega,
    by show n + 4 ≠ n; omega, by show n + 4 ≠ n + 1; omega, by show n + 4 ≠ n + 2; omega, by show n ≠ n + 1; omega, by show n ≠ n + 2; omega, by show n + 1 ≠ n + 2; omega, by show a ≠ n + 5; omega, by show b ≠ n + 5; omega, by show b ≠ n + 4; omega, by show b ≠ n; omega,
    by show c ≠ n + 5; omega, by show c ≠ n + 4; omega, by show c ≠ n; omega, by show c ≠ n + 1; omega⟩
def iZip3 (K : PySem.W.Frag) (ta : TA) : TI := fun σ H R => ta σ H fun vs H1 => ∃ a b c xs ys zs, vs = [.ref a, .ref b, .ref c] ∧ SqT K H1 a xs ∧ SqT K H1 b ys ∧ SqT K H1 c zs ∧ R (ItzT3 K a b c) H1
theorem pi_zip3 {X : Cx} {e e2 e3 : Expr} {ta : TA} {p pos tpos : Pos} {elts : List Expr} {kk : Nat} (hg : Gl X "zip") (hm : X.mg "zip" = none) (ha : PA X [e, e2, e3] ta)
    (hs : starEach [e, e2, e3] X.env = (false, eval e X.env) :: starEach [e2, e3] X.env := by rfl) (hpl : (backTo pos (starEach [e2, e3] X.env)).any (·.1) = false := by rfl) :
    PI X (.Tuple elts kk tpos) (.Call (.Name "zip" p) [e, e2, e3] [] pos) (iZip3 X.K ta) := by
  refine ⟨fun pins s σ H R I h => ?_⟩
  refine Call_ (ld_blt I hg hm PyProof.Rows.boot_zip (PyProof.Rows.callWith_type1 (thn (ha.run pos pins s σ H _ I h) fun us s1 ⟨vs, H1, I1, r1, q1⟩ => ?_) hs hpl))
  obtain ⟨a, b, c, xs, ys, zs, ex, hqx, hqy, hqz, q⟩ := q1
  subst ex
  cases r1 with
  | cons r rr =>
    cases rr with
    | cons r' rr =>
      cases rr with
      | cons r'' rr =>
        cases rr
        cases r
        cases r'
        cases r''
        have fresh6 : ∀ c, c ∈ [s1.heap.objs.size + 5, s1.heap.objs.size + 3, s1.heap.objs.size + 4, s1.heap.objs.size, s1.heap.objs.size + 1, s1.heap.objs.size + 2] → FpOk X pins H1 c := fun c hcm => by
          have e' : c = s1.heap.objs.size + 5 ∨ c = s1.heap.objs.size + 3 ∨ c = s1.heap.objs.size + 4 ∨ c = s1.heap.objs.size ∨ c = s1.heap.objs.size + 1 ∨ c = s1.heap.objs.size + 2 := by simpa using hcm
          have hle : s1.heap.objs.size ≤ c := by
            rcases e' with z | z | z | z | z | z
            · rw [z]; exact Nat.le_add_right _ _
            · rw [z]; exact Nat.le_add_right _ _
            · rw [z]; exact Nat.le_add_right _ _
            · rw [z]; exact Nat.le_refl _
            · rw [z]; exact Nat.le_add_right _ _
            · rw [z]; exact Nat.le_add_right _ _
          exact I1.fpOk hle (I1.hok.fresh hle)
        obtain ⟨its, rv, p1, _⟩ := I1.tuple hqx
        obtain ⟨its2, rv2, p2, _⟩ := I1.tuple hqy
        obtain ⟨its3, rv3, p3, _⟩ := I1.tuple hqz
        obtain ⟨o1, ho1, _⟩ := id p1
        obtain ⟨o2, ho2, _⟩ := id p2
        obtain ⟨o3, ho3, _⟩ := id p3
        refine call_zip3 (show s1.heap.IsTuple a its.toArray from p1) (show s1.heap.IsTuple b its2.toArray from p2) (show s1.heap.IsTuple c its3.toArray from p3) fun h' hz hTI hTO h1 h2 h3 hsz hk => wpAny_pyIter_zip hz ?_
        have I2 : Inv X pins σ H1 { s1 with heap := h' } := I1.kept (t' := s1.toks) hk
        exact ⟨s1.heap.objs.size + 5, [s1.heap.objs.size + 5, s1.heap.objs.size + 3, s1.heap.objs.size + 4, s1.heap.objs.size, s1.heap.objs.size + 1, s1.heap.objs.size + 2], _, _, H1, rfl, I2, turn_zip3 (apart3 (Heap.lt_size ho1) (Heap.lt_size ho2) (Heap.lt_size ho3)), ⟨hz, hTI, ⟨_, _, _, hTO⟩, h1, h2, h3⟩, fresh6, q⟩
end RZ
namespace DL
open PySem PySem.Spec PyProof.Rows L2 RZ
section
variable {X : Cx} {K : PySem.W.Frag} {a b c e : Expr} {elts : List Expr} {pos p tpos : Pos} {kk : Nat} {t1 t2 t3 : DTE}
def zip3D : List D → List D → List D → List D
  | x :: xs, y :: ys, z :: zs => .tuple [x, y, z] :: zip3D xs ys zs
  | _, _, _ => []
theorem zip3D_get : ∀ (xs ys zs : List D) (i : Nat), (zip3D xs ys zs)[i]? = match xs[i]?, ys[i]?, zs[i]? with
    | some x, some y, some z => some (.tuple [x, y, z])
    | _, _, _ => none
  | [], ys, zs, i => by simp [zip3D]
  | x :: xs, [], zs, i => by
    rw [zip3D]
    · simp only [List.getElem?_nil]
      cases (x :: xs)[i]? <;> rfl
    · intros; simp_all
  | x :: xs, y :: ys, [], i => by
    rw [zip3D]
    · simp only [List.getElem?_nil]
      cases (x :: xs)[i]? <;> cases (y :: ys)[i]? <;> rfl
    · intros; simp_all
  | x :: xs, y :: ys, z :: zs, 0 => by rw [zip3D]; rfl
  | x :: xs, y :: ys, z :: zs, i + 1 => by
    rw [zip3D, List.getElem?_cons_succ, List.getElem?_cons_succ, List.getElem?_cons_succ, List.getElem?_cons_succ]
    exact zip3D_get xs ys zs i
theorem zip3D_len : ∀ {xs ys zs : List D}, ys.length = xs.length → zs.length = xs.length → (zip3D xs ys zs).length = xs.length
  | [], _, _, _, _ => by simp [zip3D]
  | x :: xs, [], _, h, _ => by simp at h
  | x :: xs, y :: ys, [], _, h => by simp at h
  | x :: xs, y :: ys, z :: zs, h1, h2 => by
    rw [zip3D, List.length_cons, List.length_cons, zip3D_len (by simpa using h1) (by simpa using h2)]
theorem walk_z3 {B S : Hp} {a b c : Addr} {xs ys zs : List V} {ds es fs : List D} (h1 : SqT K B a xs) (h2 : SqT K B b ys) (h3 : SqT K B c zs) (d1 : DpAll K S xs ds) (d2 : DpAll K S ys es) (d3 : DpAll K S zs fs) (l2 : es.length = ds.length) (l3 : fs.length = ds.length) : WalkD K (ItzT3 K a b c) B S (zip3D ds es fs) := fun i H s => by
  have q1 : SqT K H a xs := sqt_mono s h1
  have q2 : SqT K H b ys := sqt_mono s h2
  have q3 : SqT K H c zs := sqt_mono s h3
  refine ⟨fun d e => ?_, fun hl => ⟨xs, q1, by rw [zip3D_len l2 l3] at hl; rw [d1.length]; exact hl⟩⟩
  rw [zip3D_get] at e
  cases e1 : ds[i]? with
  | none => rw [e1] at e; cases e
  | some x =>
    cases e2 : es[i]? with
    | none => rw [e1, e2] at e; cases e
    | some y =>
      cases e3 : fs[i]? with
      | none => rw [e1, e2, e3] at e; cases e
      | some z =>
        rw [e1, e2, e3] at e
        obtain ⟨v, v1, v2⟩ := d1.get' e1
        obtain ⟨u, u1, u2⟩ := d2.get' e2
        obtain ⟨o, o1, o2⟩ := d3.get' e3
        refine ⟨⟨xs, ys, zs, v, u, o, q1, q2, q3, v1, u1, o1⟩, fun z' H' ⟨T, c1, f, g0, g1, g2, g3, g4, g5, g6⟩ => ?_⟩
        subst g1 g3
        have k1 := g4 _ q1
        have k2 := g5 _ q2
        have k3 := g6 _ q3
        rw [v1] at k1
        rw [u1] at k2
        rw [o1] at k3
        cases k1
        cases k2
        cases k3
        cases e
        exact .tup g2 (.cons v2 (.cons u2 (.cons o2 .nil)))
def iZp3 (t1 t2 t3 : DTE) : DTA := fun δ n Q => t1 δ n fun x m => t2 δ m fun y k => t3 δ k fun z l => ∃ xs ys zs, x = .tuple xs ∧ y = .tuple ys ∧ z = .tuple zs ∧ ys.length = xs.length ∧ zs.length = xs.length ∧ Q (zip3D xs ys zs) l
theorem di_zip3 (hg : Gl X "zip") (hm : X.mg "zip" = none) (ha : DE X true a t1) (hb : DE X true b t2) (hc : DE X true c t3) (hs : starEach [a, b, c] X.env = (false, eval a X.env) :: starEach [b, c] X.env := by rfl) (hs2 : starEach (b :: [c]) X.env = (false, eval b X.env) :: starEach [c] X.env := by rfl) (hs3 : starEach (c :: []) X.env = (false, eval c X.env) :: starEach [] X.env := by rfl)
    (hpl : (backTo pos (starEach [b, c] X.env)).any (·.1) = false := by rfl) : DI X true (.Tuple elts kk tpos) (.Call (.Name "zip" p) [a, b, c] [] pos) (iZp3 t1 t2 t3) :=
  ⟨PI.imp (pi_zip3 hg hm (pa_cons ha.run (pa_cons hb.run (pa_cons hc.run pa_nil hs3) hs2) hs) hs hpl) fun σ H R ⟨g, n, δ, S, Vs, P, sr, ht, k⟩ => ⟨g, n, δ, S, Vs, _, sr, ht, fun d m v H' S' Vs' p1 sr' s1 s2 r1 =>
    ⟨g, m, δ, S', Vs', _, sr', p1, fun d2 m2 v2 H2 S2 V2 p2 sr2 q1 q2 r2 =>
      ⟨g, m2, δ, S2, V2, _, sr2, p2, fun d3 m3 v3 H3 S3 V3 ⟨xs, ys, zs, e1, e2, e3, l2, l3, p3⟩ sr3 w1 w2 r3 => by
        subst e1 e2 e3
        have h1 : Dp X.K S3 v (.tuple xs) := Dp.mono w1 (Dp.mono q1 r1)
        have h2 : Dp X.K S3 v2 (.tuple ys) := Dp.mono w1 r2
        have h3 : Dp X.K S3 v3 (.tuple zs) := r3
        cases h1 with
        | tup a1 a2 =>
          cases h2 with
          | tup c1 c2 =>
            cases h3 with
            | tup f1 f2 => exact ⟨_, _, _, _, _, _, rfl, sqt_mono sr3.SH a1, sqt_mono sr3.SH c1, sqt_mono sr3.SH f1, k _ H3 S3 V3 _ m3 p3 sr3 (s1.trans (q1.trans w1)) (s2.trans (q2.trans w2)) (by rw [if_pos rfl]; exact walk_z3 a1 c1 f1 a2 c2 f2 l2 l3)⟩⟩⟩⟩⟩
end
end DL
/-! DL22: drawing dicts whose def takes a number beside the script, and whose list is an own one. -/
namespace DL
open PySem PySem.Spec L2
def spRl2 (K : PySem.W.Frag) : Sp := fun vs H Q _ => ∃ (a : Addr) (ns : List Int) (s : Int), vs = [.ref a, .int s] ∧ (0 ≤ s ∧ s < 4294967296) ∧ SqL K H a (ns.map V.int) ∧ ns.length ≤ 63 ∧ ∀ r f H', Same H H' → H r = none → H f = none → RillOk H' r f N0 → Q (.ref r) H'
theorem start_scr2 {K : PySem.W.Frag} {H : Hp} {a : Addr} {ns : List Int} {n k : Nat} {s : Int} {N : List Str} (hS : SqL K H a (ns.map V.int)) (hN : N.length = k + 2) :
    SR K ⟨none, H, H, []⟩ n (some (.scr ns) :: some (.dat (.int s)) :: List.replicate k none) (L2.start N [.ref a, .int s]) H H H := by
  have key : ∀ (i : Nat) x, (some (DV.scr ns) :: some (.dat (.int s)) :: List.replicate k none)[i]? = some (some x) → (i = 0 ∧ x = .scr ns) ∨ (i = 1 ∧ x = .dat (.int s)) := fun i x e => by
    match i, e with
    | 0, e => simp at e; exact .inl ⟨rfl, e.symm⟩
    | 1, e => simp at e; exact .inr ⟨rfl, e.symm⟩
    | i + 2, e =>
      rw [List.getElem?_cons_succ, List.getElem?_cons_succ, List.getElem?_replicate] at e
      split at e <;> cases e
  refine ⟨Same.refl _, Same.refl _, Same.refl _, fun b o e => .inl e, fun b o e _ => e, fun b ⟨r, f, e, _⟩ => (by cases e), fun b o e => .inl e, fun r f e => (by cases e), ?_, fun i x e => ?_, fun i j ds es _ e _ => ?_, fun a ha => by cases ha⟩
  · unfold L2.start
    simp [hN]
  · rcases key i x e with ⟨rfl, rfl⟩ | ⟨rfl, rfl⟩
    · exact ⟨.ref a, by unfold L2.start; rfl, a, rfl, hS⟩
    · exact ⟨.int s, by unfold L2.start; rfl, .int s⟩
  · rcases key i _ e with ⟨_, z⟩ | ⟨_, z⟩ <;> cases z
theorem rl_mk2 {K : PySem.W.Frag} {g : Gh} {n : Nat} {δ : DS} {σ : L2.St} {H S Vs : Hp} (hg : g.W = none) (sr : SR K g n δ σ H S Vs) {i : Nat} {far : List Int} (hf : δ[i]? = some (some (.own (intsD far)))) (h2 : ∀ x ∈ far, 0 ≤ x) (h3 : far.length ≤ 64)
    {te : DTE} (hte : te δ n fun d _ => ∃ flow : Int, d = .int flow ∧ 0 ≤ flow ∧ flow < 2 ^ 33) {Q : VK} (hQ : ∀ r f H', Same g.H0 H' → g.H0 r = none → g.H0 f = none → RillOk H' r f N0 → Q (.ref r) H') :
    tDisp [(tC (.str (Str.ofString "deep")), tVar i), (tC (.str (Str.ofString "seal")), lE K true te), (tC (.str (Str.ofString "turn")), tC (.int 0))] σ H Q := by
  intro p hp
  have sr0 := sr.alloc (o := .dK []) hp
  obtain ⟨v, ev, dv⟩ := sr0.slots i _ hf
  refine ⟨v, ev, ?_⟩
  refine ⟨g, n, δ, upd S p (.dK []), upd Vs p (.dK []), _, sr0, hte, fun d m u H1 S1 V1 ⟨flow, e1, e2, e3⟩ sr1 q1 q2 e4 => ?_⟩
  subst e1
  cases (show DL.Dp K S1 u (.int flow) from e4)
  obtain ⟨v1, ev1, dv1⟩ := sr1.slots i _ hf
  rw [ev] at ev1
  cases ev1
  obtain ⟨a, xs, rfl, a1, a2, a3, a4⟩ := dv1
  have hpS : S1 p = some (.dK []) := q1 _ _ upd_same
  have hpH : H1 p = some (.dK []) := sr1.SH _ _ hpS
  have aH : H1 a = some (.lst xs) := sr1.VH _ _ a1
  refine ⟨hpH, rdic a flow 0, rfl, by show 3 ≤ 15; decide, ?_⟩
  rw [rm_disp]
  have np : g.H0 p = none := sr.h0 hp
  have npa : p ≠ a := fun z => by subst z; rw [hpH] at aH; cases aH
  have hx : xs = far.map V.int := intsD_inv a4
  subst hx
  refine hQ p a _ (fun b o e => ?_) np a3 ⟨npa, far, flow, 0, upd_same, ?_, h2, h3, e2, e3, by decide, ?_⟩
  · rw [upd_ne (ne_of_none e np)]
    exact sr1.base b o e fun ⟨r, f, z, _⟩ => by rw [hg] at z; cases z
  · rw [upd_ne npa.symm]; exact aH
  · unfold N0; decide
/-- rill = _law_rill(script, number), then what is by data -/
theorem law_go2 {K : PySem.W.Frag} {N : List Str} {t : DTS} {D : Ends} {Ex : XK} {H : Hp} {a : Addr} {ns : List Int} {j : Nat} {s : Int} (s0 : 0 ≤ s ∧ s < 4294967296) (hN : N.length = j + 2) (hS : SqL K H a (ns.map V.int)) (hl : ns.length ≤ 63)
    (hf : t ⟨fun _ _ => False, fun d _ => d = .bool true, fun _ _ => False, fun _ _ => False⟩ (none :: some .rl :: List.replicate j none) N0) (hD : ∀ H', D.rt (.bl true) H') :
    tSeq (tAsg (gCall (spRl2 K) Ex (tCons (tVar 0) (tCons (tC (.int s)) tNil))) (gName 1)) (lS K t) D (L2.start N [.ref a]) H := by
  have hst : L2.start N [.ref a] = some (.ref a) :: List.replicate (j + 1) none := by
    unfold L2.start
    rw [hN]
    rfl
  rw [hst]
  refine ⟨.ref a, rfl, a, ns, s, rfl, s0, hS, hl, fun r f H' same nr nf ok => ?_⟩
  show lS K t D ((some (V.ref a) :: List.replicate (j + 1) none).set 1 (some (.ref r))) H'
  have nW : ∀ b, inW (some (r, f)) b → H b = none := fun b ⟨r', f', e, h⟩ => by
    cases e
    rcases h with rfl | rfl
    · exact nr
    · exact nf
  refine ⟨⟨some (r, f), H', H, []⟩, N0, none :: some .rl :: List.replicate j none, H, H, _, rfl, ⟨Same.refl _, Same.refl _, same, fun b o e => .inl e, fun b o e _ => e, nW, fun b o e => .inl e, fun r' f' e => ?_, ?_, fun i x e => ?_, fun i k ds es _ e _ => ?_, fun a ha => by cases ha⟩, hf, fun _ _ _ _ _ _ q => q.elim, fun d δ' m v σ' H2 S2 V2 q _ _ rv => ?_, fun _ _ _ _ _ _ q => q.elim, fun _ _ _ _ _ _ q => q.elim⟩
  · cases e; exact ok
  · simp
  · match i, e with
    | 0, e => cases e
    | 1, e => cases e; exact ⟨.ref r, rfl, r, f, rfl, rfl⟩
    | i + 2, e =>
      rw [List.getElem?_cons_succ, List.getElem?_cons_succ, List.getElem?_replicate] at e
      split at e <;> cases e
  · match i, e with
    | 0, e => cases e
    | 1, e => cases e
    | i + 2, e =>
      rw [List.getElem?_cons_succ, List.getElem?_cons_succ, List.getElem?_replicate] at e
      split at e <;> cases e
  · cases q
    cases rv
    exact hD H2
end DL
/-! DL23: a, b, c = parts, some of them new lists; list.index. -/
namespace DL
open PySem PySem.Spec L2
inductive Pt where
  | d (d : D)
  | o (ds : List D)
def ptD : Pt → DV
  | .d d => .dat d
  | .o ds => .own ds
abbrev DTM := DS → Nat → (List Pt → Nat → Prop) → Prop
def mNil : DTM := fun _ n Q => Q [] n
def mE (t : DTE) (u : DTM) : DTM := fun δ n Q => t δ n fun d m => u δ m fun ps k => Q (.d d :: ps) k
def mL (t : DTA) (u : DTM) : DTM := fun δ n Q => t δ n fun ds m => u δ m fun ps k => Q (.o ds :: ps) k
inductive PtsOk (K : PySem.W.Frag) (H0 S Vs : Hp) : List V → List Pt → List Addr → Prop
  | nil : PtsOk K H0 S Vs [] [] []
  | d {v : V} {d : D} {vs : List V} {ps : List Pt} {ts : List Addr} : Dp K S v d → PtsOk K H0 S Vs vs ps ts → PtsOk K H0 S Vs (v :: vs) (.d d :: ps) ts
  | o {p : Addr} {xs : List V} {ds : List D} {vs : List V} {ps : List Pt} {ts : List Addr} : Vs p = some (.lst xs) → H0 p = none → DpAll K S xs ds → p ∉ ts → PtsOk K H0 S Vs vs ps ts → PtsOk K H0 S Vs (.ref p :: vs) (.o ds :: ps) (p :: ts)
def lM (K : PySem.W.Frag) (t : DTM) : TA := fun σ H Q => ∃ W H0 S0 T n δ S Vs P, SR K ⟨W, H0, S0, T⟩ n δ σ H S Vs ∧ t δ n P ∧
  ∀ ps m vs H' S' Vs' ts T', P ps m → SR K ⟨W, H0, S0, T'⟩ m δ σ H' S' Vs' → PtsOk K H0 S' Vs' vs ps ts → (∀ a ∈ ts, a ∈ T' ∧ a ∉ T) → (∀ a ∈ T, a ∈ T') → Same S S' → Same Vs Vs' → Q vs H'
structure DM (X : Cx) (es : List Expr) (t : DTM) : Prop where
  run : PA X es (lM X.K t)
section
variable {X : Cx} {K : PySem.W.Frag} {a o : Expr} {es : List Expr} {t1 t2 : DTE} {ta : DTA} {u : DTM} {pos : Pos} {st : Stmt} {k0} {b1 b2 : Bool}
theorem dm_nil : DM X [] mNil :=
  ⟨PA.imp pa_nil fun σ H Q ⟨W, H0, S0, T, n, δ, S, Vs, P, sr, ht, k⟩ => k [] n [] H S Vs [] T ht sr .nil (fun a h => by cases h) (fun a h => h) (Same.refl _) (Same.refl _)⟩
theorem dm_E (ha : DE X true a t1) (hr : DM X es u) (hs : starEach (a :: es) X.env = (false, eval a X.env) :: starEach es X.env := by rfl) : DM X (a :: es) (mE t1 u) :=
  ⟨PA.imp (pa_cons ha.run hr.run hs) fun σ H Q ⟨W, H0, S0, T, n, δ, S, Vs, P, sr, ht, k⟩ => ⟨⟨W, H0, S0, T⟩, n, δ, S, Vs, _, sr, ht, fun d m v H1 S1 V1 p1 sr1 q1 q2 r1 =>
    ⟨W, H0, S0, T, m, δ, S1, V1, _, sr1, p1, fun ps j vs H2 S2 V2 ts T2 p2 sr2 ok h1 h2 w1 w2 => k _ j _ H2 S2 V2 ts T2 p2 sr2 (.d (Dp.mono w1 (show Dp X.K S1 v d from r1)) ok) h1 h2 (q1.trans w1) (q2.trans w2)⟩⟩⟩
theorem dm_L (ha : DL X a ta) (hr : DM X es u) (hs : starEach (a :: es) X.env = (false, eval a X.env) :: starEach es X.env := by rfl) : DM X (a :: es) (mL ta u) :=
  ⟨PA.imp (pa_cons ha.run hr.run hs) fun σ H Q ⟨W, H0, S0, T, n, δ, S, Vs, P, sr, ht, k⟩ => ⟨⟨W, H0, S0, T⟩, n, δ, S, Vs, _, sr, ht, fun ds m p xs H1 S1 V1 p1 sr1 q1 q2 e1 e2 e3 e4 r1 =>
    ⟨W, H0, S0, p :: T, m, δ, S1, upd V1 p (.lst xs), _, sr1.withTmp e1 e2 e3 e4, p1, fun ps j vs H2 S2 V2 ts T2 p2 sr2 ok h1 h2 w1 w2 =>
      k _ j _ H2 S2 V2 (p :: ts) T2 p2 sr2 (.o (w2 _ _ upd_same) e3 (DpAll.mono w1 r1) (fun z => (h1 p z).2 List.mem_cons_self) ok) (fun b hb => by
        rcases List.mem_cons.mp hb with rfl | hb
        · exact ⟨h2 _ List.mem_cons_self, fun z => by
            obtain ⟨_, ⟨ys, q⟩, _⟩ := sr1.tmps _ z
            rw [e2] at q
            cases q⟩
        · exact ⟨(h1 b hb).1, fun z => (h1 b hb).2 (List.mem_cons_of_mem _ z)⟩) (fun b hb => h2 b (List.mem_cons_of_mem _ hb)) (q1.trans w1) (q2.trans ((same_upd e2).trans w2))⟩⟩⟩
theorem SR.lessT {W : Option (Addr × Addr)} {H0 S0 H S Vs : Hp} {T T2 : List Addr} {n : Nat} {δ : DS} {σ : L2.St} (h : SR K ⟨W, H0, S0, T⟩ n δ σ H S Vs) (ht : ∀ a ∈ T2, a ∈ T) : SR K ⟨W, H0, S0, T2⟩ n δ σ H S Vs :=
  ⟨h.S0S, h.SV, h.VH, h.VS, h.base, h.nW, h.fresh, h.rill, h.len, fun i x e => by
    obtain ⟨v, e1, e2⟩ := h.slots i x e
    exact ⟨v, e1, by cases x <;> exact e2⟩, h.apart, fun a ha => h.tmps a (ht a ha)⟩
def setMany : DS → List Nat → List Pt → DS
  | δ, i :: is, p :: ps => setMany (δ.set i (some (ptD p))) is ps
  | δ, _, _ => δ
def inB : List Nat → Nat → Prop
  | [], _ => True
  | i :: is, k => i < k ∧ inB is k
def gNames : List Nat → TGs
  | [] => gNil
  | i :: is => gCons (gName i) (gNames is)
def setV : L2.St → List Nat → List V → L2.St
  | σ, i :: is, v :: vs => setV (σ.set i (some v)) is vs
  | σ, _, _ => σ
theorem names_go {H : Hp} {Q : L2.St → Hp → Prop} : ∀ (is : List Nat) (vs : List V) (σ : L2.St), vs.length = is.length → Q (setV σ is vs) H → gNames is vs σ H Q
  | [], [], _, _, k => ⟨rfl, k⟩
  | i :: is, v :: vs, σ, hl, k => ⟨_, _, rfl, names_go is vs _ (by simpa using hl) k⟩
theorem assign_sr {W : Option (Addr × Addr)} {H0 S0 H S Vs : Hp} {m : Nat} : ∀ {vs : List V} {ps : List Pt} {ts : List Addr}, PtsOk K H0 S Vs vs ps ts → ∀ (is : List Nat) (T : List Addr) (δ : DS) (σ : L2.St), ps.length = is.length → inB is δ.length →
    SR K ⟨W, H0, S0, T⟩ m δ σ H S Vs → (∀ a ∈ ts, a ∈ T) → SR K ⟨W, H0, S0, []⟩ m (setMany δ is ps) (setV σ is vs) H S Vs
  | _, _, _, .nil, [], T, δ, σ, _, _, sr, _ => sr.lessT fun a h => by cases h
  | _, _, _, .d hd ok, i :: is, T, δ, σ, hl, hb, sr, ht => assign_sr ok is T _ _ (by simpa using hl) (by rw [List.length_set]; exact hb.2) (sr.set hb.1 hd) ht
  | _, _, _, .o (p := p) (ts := ts) hv h0 hd hn ok, i :: is, T, δ, σ, hl, hb, sr, ht => by
    have sr1 : SR K ⟨W, H0, S0, p :: T.filter fun b => !decide (b = p)⟩ m δ σ H S Vs := sr.lessT fun b hb => by
      rcases List.mem_cons.mp hb with rfl | hb
      · exact ht _ List.mem_cons_self
      · exact (List.mem_filter.mp hb).1
    refine assign_sr ok is _ _ _ (by simpa using hl) (by rw [List.length_set]; exact hb.2) (sr1.tmpOwn hv h0 hb.1 hd (by simp)) fun b hb => ?_
    exact List.mem_filter.mpr ⟨ht _ (List.mem_cons_of_mem _ hb), by simp; intro z; exact hn (z ▸ hb)⟩
def sParM (is : List Nat) (t : DTM) : DTS := fun E δ n => t δ n fun ps m => ps.length = is.length ∧ inB is δ.length ∧ E.nx (setMany δ is ps) m
theorem PtsOk.len {H0 S Vs : Hp} {vs : List V} {ps : List Pt} {ts : List Addr} (h : PtsOk K H0 S Vs vs ps ts) : vs.length = ps.length := by
  induction h with
  | nil => rfl
  | d _ _ ih => simp [ih]
  | o _ _ _ _ _ ih => simp [ih]
theorem ds_parM {is : List Nat} (hk : is.length ≤ 100) (h : ∀ te, PE X (.Tuple es k0 pos) te → PS X st (tAsg te (gTup X.K is.length (gNames is)))) (he : DM X es u) : DSt X st (sParM is u) :=
  ⟨PS.imp (h _ (pe_tup he.run)) fun D σ H ⟨⟨W, H0, S0, T⟩, n, δ, S, Vs, E, hT, sr, ht, ok⟩ => by
    cases (show T = [] from hT)
    exact ⟨W, H0, S0, [], n, δ, S, Vs, _, sr, ht, fun ps m vs H1 S1 V1 ts T1 ⟨p1, p2, p3⟩ sr1 o1 h1 _ q1 q2 => ⟨small _ (by rw [o1.len, p1]; exact Nat.le_trans hk (by decide)), fun q hq =>
      ⟨q, _, rfl, .inl (Rd.of upd_same), by rw [o1.len, p1], names_go _ _ _ (by rw [o1.len, p1]) (ok.1 _ m _ _ S1 _ p3 (assign_sr o1 is T1 δ σ p1 p2 (sr1.temp hq) fun a ha => (h1 a ha).1) q1)⟩⟩⟩⟩
theorem ds_parM2 {i j : Nat} (h : ∀ te, PA X es te → PS X st (tPar i j te)) (he : DM X es u) : DSt X st (sParM [i, j] u) :=
  ⟨PS.imp (h _ he.run) fun D σ H ⟨⟨W, H0, S0, T⟩, n, δ, S, Vs, E, hT, sr, ht, ok⟩ => by
    cases (show T = [] from hT)
    exact ⟨W, H0, S0, [], n, δ, S, Vs, _, sr, ht, fun ps m vs H1 S1 V1 ts T1 ⟨p1, p2, p3⟩ sr1 o1 h1 _ q1 q2 => by
      have hl := o1.len
      rw [p1] at hl
      match vs, hl with
      | [x, y], _ => exact ⟨x, y, rfl, ok.1 _ m _ _ S1 _ p3 (assign_sr o1 [i, j] T1 δ σ p1 p2 sr1 fun a ha => (h1 a ha).1) q1⟩⟩⟩
theorem ds_parM3 {i j l : Nat} (h : ∀ te, PA X es te → PS X st (tPar3 i j l te)) (he : DM X es u) : DSt X st (sParM [i, j, l] u) :=
  ⟨PS.imp (h _ he.run) fun D σ H ⟨⟨W, H0, S0, T⟩, n, δ, S, Vs, E, hT, sr, ht, ok⟩ => by
    cases (show T = [] from hT)
    exact ⟨W, H0, S0, [], n, δ, S, Vs, _, sr, ht, fun ps m vs H1 S1 V1 ts T1 ⟨p1, p2, p3⟩ sr1 o1 h1 _ q1 q2 => by
      have hl := o1.len
      rw [p1] at hl
      match vs, hl with
      | [x, y, z], _ => exact ⟨x, y, z, rfl, ok.1 _ m _ _ S1 _ p3 (assign_sr o1 [i, j, l] T1 δ σ p1 p2 sr1 fun a ha => (h1 a ha).1) q1⟩⟩⟩
theorem x_parM {is : List Nat} {E : DEnds} {δ : DS} {n : Nat} : sParM is u E δ n = u δ n fun ps m => ps.length = is.length ∧ inB is δ.length ∧ E.nx (setMany δ is ps) m := rfl
theorem x_mN {δ : DS} {n : Nat} {Q : List Pt → Nat → Prop} : mNil δ n Q = Q [] n := rfl
theorem x_mE {δ : DS} {n : Nat} {Q : List Pt → Nat → Prop} : mE t1 u δ n Q = t1 δ n fun d m => u δ m fun ps k => Q (.d d :: ps) k := rfl
theorem x_mL {δ : DS} {n : Nat} {Q : List Pt → Nat → Prop} : mL ta u δ n Q = ta δ n fun ds m => u δ m fun ps k => Q (.o ds :: ps) k := rfl
theorem x_sm0 {δ : DS} {ps : List Pt} : setMany δ [] ps = δ := by cases ps <;> rfl
theorem x_smD {δ : DS} {i : Nat} {is : List Nat} {d : D} {ps : List Pt} : setMany δ (i :: is) (.d d :: ps) = setMany (δ.set i (some (.dat d))) is ps := rfl
theorem x_smO {δ : DS} {i : Nat} {is : List Nat} {d : List D} {ps : List Pt} : setMany δ (i :: is) (.o d :: ps) = setMany (δ.set i (some (.own d))) is ps := rfl
theorem x_iB0 {k : Nat} : inB [] k = True := rfl
theorem x_iBS {i k : Nat} {is : List Nat} : inB (i :: is) k = (i < k ∧ inB is k) := rfl
/-! ### list.index -/
def dIdx (t1 t2 : DTE) : DTE := fun δ n Q => t1 δ n fun x m => ∃ ds : List D, x = .list ds ∧ t2 δ m fun y k => ∃ (j : Nat) (z : D), SeqAt.shaped (.list ds) = true ∧ SeqAt.shaped y = true ∧ ds[j]? = some z ∧ PyData.eqv z y = true ∧ (∀ (i : Nat) (z' : D), i < j → ds[i]? = some z' → PyData.eqv z' y = false) ∧ Q (.int j) k
theorem de_index {apos cpos : Pos} (hu : X.A.units + 65 < cLine) (ho : DE X b1 o t1) (ha : DE X b2 a t2)
    (h : ∀ {to : TE} {t : TA}, PE X o to → PA X [a] t → PE X (.Call (.Attribute o "index" apos) [a] [] cpos) (tBM X.K "list" (rIndexD X.K) to t))
    (hs : starEach (a :: []) X.env = (false, eval a X.env) :: starEach [] X.env := by rfl) : DE X true (.Call (.Attribute o "index" apos) [a] [] cpos) (dIdx t1 t2) :=
  ⟨PE.imp (h ho.run (pa_cons ha.run pa_nil hs)) fun σ H Q ⟨g, n, δ, S, Vs, P, sr, ht, k⟩ => ⟨g, n, δ, S, Vs, _, sr, ht, fun d m v H1 S1 V1 ⟨ds, e0, p1⟩ sr1 q1 q2 r1 => by
    subst e0
    have hd1 : ∀ {H' : Hp}, Same V1 H' → Dp X.K H' v (.list ds) := fun s => Dp.mono s (Rp.dp r1 sr1.SV)
    have hty : tyV X.K "list" v H1 := by
      have z := hd1 sr1.VH
      cases z with
      | lst e _ => exact .inl ⟨rfl, _, SqL.of e⟩
    refine ⟨hty, g, m, δ, S1, V1, _, sr1, p1, fun e m2 w H2 S2 V2 ⟨j, z, s1, s2, hz, hj, hno, p2⟩ sr2 w1 w2 r2 => ?_⟩
    have z1 := (hd1 (w2.trans sr2.VH)).to s1
    have z2 : Dp X.K H2 w e := Dp.mono sr2.VH (Rp.dp r2 sr2.SV)
    cases z1 with
    | lst a1 a2 => exact ⟨_, _, _, _, j, z, rfl, rfl, .lst a1 a2, z2.to s2, s1, s2, hz, hj, hno, k _ m2 _ H2 S2 V2 p2 sr2 (q1.trans w1) (q2.trans w2) (Rp.of (sc_int _ _ _))⟩⟩⟩
theorem x_idx {δ : DS} {n : Nat} {Q : D → Nat → Prop} : dIdx t1 t2 δ n Q = t1 δ n fun x m => ∃ ds : List D, x = .list ds ∧ t2 δ m fun y k => ∃ (j : Nat) (z : D), SeqAt.shaped (.list ds) = true ∧ SeqAt.shaped y = true ∧ ds[j]? = some z ∧ PyData.eqv z y = true ∧ (∀ (i : Nat) (z' : D), i < j → ds[i]? = some z' → PyData.eqv z' y = false) ∧ Q (.int j) k := rfl
end
end DL
/-! DL24: sorted(set(e)) of many whole numbers, of which few are unlike. -/
namespace DZ
open PySem PySem.Spec PyProof.Rows L2 DL
theorem nd_len : ∀ (N : Nat) (L : List Int), L.Nodup → (∀ k ∈ L, 0 ≤ k ∧ k < N) → L.length ≤ N
  | 0, [], _, _ => Nat.le_refl 0
  | 0, k :: L, _, h => by have := h k List.mem_cons_self; omega
  | N + 1, L, nd, h => by
    have q := nd_len N (L.erase (N : Int)) (nd.erase _) fun k hk => by
      have := (nd.mem_erase_iff).mp hk
      have := h k this.2
      omega
    by_cases hm : (N : Int) ∈ L
    · rw [List.length_erase_of_mem hm] at q
      omega
    · rw [List.erase_of_not_mem hm] at q
      omega
section
variable {X : Cx}
def tSortSetI (K : PySem.W.Frag) (ta : TE) : TE := fun σ H Q => ta σ H fun x H1 => ∃ (l : Addr) (ns : List Int), x = .ref l ∧ (H1 l = some (.lst (ns.map V.int)) ∨ SqT K H1 l (ns.map V.int)) ∧ ns.length < 4000 ∧ (∀ k ∈ ns, 0 ≤ k ∧ k < 63) ∧
  ∀ p (ms : List Int), ms.Pairwise (· < ·) → (∀ k, k ∈ ms ↔ k ∈ ns) → H1 p = none → Q (.ref p) (upd H1 p (.lst (ms.map V.int)))
theorem pe_sortSetI {a : Expr} {ta : TE} {p p2 q pos : Pos} (hc : X.calm = true) (hu : X.A.units + 64 < cLine) (hg : Gl X "sorted") (hm : X.mg "sorted" = none) (hg2 : Gl X "set") (hm2 : X.mg "set" = none) (ha : PE X a ta)
    (na : starEach [a] X.env = (false, eval a X.env) :: starEach [] X.env := by rfl) : PE X (.Call (.Name "sorted" p) [.Call (.Name "set" p2) [a] [] q] [] pos) (tSortSetI X.K ta) := by
  refine ⟨fun pins s σ H Q I h => Call_ (ld_blt I hg hm PyProof.Rows.boot_sorted (PyProof.Rows.callWith_builtin1 (PyProof.Rows.args_cons (Call_ (ld_blt I hg2 hm2 PyProof.Rows.boot_set ?_)) rfl) rfl rfl))⟩
  refine PyProof.Rows.callWith_type1 (PyProof.Rows.args_cons (thn (ha.run pins s σ H _ I h) fun v s1 ⟨x, H1, I1, r1, q1⟩ => PyProof.Rows.args_nil ?_) na) na rfl
  obtain ⟨l, ns, rfl, hseq, hlen, hrg, q1⟩ := q1
  cases r1
  have fin : ∀ {its : List Value} {c : Nat} {h' : Heap} {tk : Nat}, SetR X.w h' s1.heap.objs.size (fun j => decide (j ∈ ns)) c → c ≤ ns.length → Kept s1.heap h' →
      wpAny (model X.prog X.w) X.A (call (.builtin "sorted") [.ref s1.heap.objs.size]) (EP X pins σ Q) X.xe { s1 with heap := h', toks := tk } := fun {its c h' tk} N hcn kp => by
    have c64 : c < 64 := by
      obtain ⟨o, es, ep, t, ho, hex, hd, g, nd, hm, hb, hf, hn, hr⟩ := N
      have q := nd_len 63 _ nd fun k hk => hrg k (of_decide_eq_true ((hm k).mpr hk))
      rw [List.length_map, Array.length_toList, hn] at q
      omega
    refine sorted_set N (I1.ok.hd hc) c64 fun s' pa out c2 ms kp2 gg oo hp hget hi asc mem hl => ?_
    have lt : s1.heap.objs.size < h'.objs.size := N.lt
    have hp3 : s1.heap.objs.size ≤ pa := Nat.le_trans (Nat.le_of_lt lt) hp
    have kp3 : Kept s1.heap s'.heap := fun b o e => kp2 b o (kp b o e)
    have hn : H1 pa = none := I1.hok.fresh hp3
    have yl : (ms.map V.int).length ≤ sizeLine := by rw [List.length_map, hl, sizeLine_eq]; omega
    have J : Inv X pins σ (upd H1 pa (.lst (ms.map V.int))) { s1 with heap := s'.heap, gens := s'.gens, drawn := s'.drawn, toks := s'.toks } :=
      I1.call (ch := []) (Un.laid kp3 hp3 hn) (I1.hok.laid kp3 hp3 ⟨yl, out.toList, c2, vals_of_ints hi, hget⟩) (by rw [gg]; exact I1.bare) (fun _ z => nomatch z)
    have es' : s' = { s1 with heap := s'.heap, gens := s'.gens, drawn := s'.drawn, toks := s'.toks } := by
      obtain ⟨u1, u2, u3, u4, u5⟩ := s'
      obtain ⟨v1, v2, v3, v4, v5⟩ := s1
      cases oo
      rfl
    rw [es']
    exact ⟨.ref pa, _, J, rfl, q1 pa ms asc (fun k => (mem k).trans decide_eq_true_iff) hn⟩
  rcases hseq with hl | ht
  · obtain ⟨its, rv, pl, hz⟩ := I1.list (SqL.of hl)
    exact set_listI (ns := ns) (I1.ok.hd hc) pl.isList (by simpa using rv.ints) (by omega) (by omega) fun h' tk ⟨c, e1, e2, e3⟩ => PyProof.Rows.args_nil (fin (its := its) e1 e2 e3)
  · obtain ⟨its, rv, pl, hz⟩ := I1.tuple ht
    exact set_tupleI (ns := ns) (I1.ok.hd hc) pl (by simpa using rv.ints) (by omega) (by omega) fun h' tk ⟨c, e1, e2, e3⟩ => PyProof.Rows.args_nil (fin (its := its) e1 e2 e3)
end
end DZ
namespace DL
open PySem PySem.Spec L2 DZ
section
variable {X : Cx} {a : Expr} {p p2 q pos : Pos} {b1 : Bool} {t1 : DTE}
def aSetSortI (t : DTE) : DTA := fun δ n Q => t δ n fun d m => ∃ ns : List Int, itemsOf d = some (intsD ns) ∧ ns.length < 4000 ∧ (∀ k ∈ ns, 0 ≤ k ∧ k < 63) ∧ ∀ ms : List Int, ms.Pairwise (· < ·) → (∀ k, k ∈ ms ↔ k ∈ ns) → Q (intsD ms) m
theorem dl_sortSetI (hc : X.calm = true) (hu : X.A.units + 64 < cLine) (hg : Gl X "sorted") (hm : X.mg "sorted" = none) (hg2 : Gl X "set") (hm2 : X.mg "set" = none) (ha : DE X b1 a t1)
    (na : starEach [a] X.env = (false, eval a X.env) :: starEach [] X.env := by rfl) : DL X (.Call (.Name "sorted" p) [.Call (.Name "set" p2) [a] [] q] [] pos) (aSetSortI t1) :=
  ⟨PE.imp (pe_sortSetI hc hu hg hm hg2 hm2 ha.run na) fun σ H Q ⟨gh, n, δ, S, Vs, P, sr, ht, k⟩ => ⟨gh, n, δ, S, Vs, _, sr, ht, fun d m v H' S' Vs' ⟨ns, e1, h2, h3, pp⟩ sr' s1 s2 rp => by
    obtain ⟨l, xs, rfl, hd, q⟩ := brep_items (Rp.br rp) e1
    have ex := ints_back hd
    subst ex
    refine ⟨l, ns, rfl, ?_, h2, h3, fun p3 ms a1 a2 hp => k (intsD ms) m p3 _ _ S' Vs' (pp ms a1 a2) (sr'.temp hp) s1 s2 upd_same (sr'.vN hp) (sr'.h0 hp) (sr'.notW hp) (dp_ints ms)⟩
    rcases q with ⟨es, _, q⟩ | ⟨es, e2, q⟩
    · exact .inl (q.elim (fun z => sr'.SH _ _ z) fun z => sr'.VH _ _ z)
    · exact .inr (sqt_mono sr'.SH q)⟩⟩
theorem x_aSetSortI {δ : DS} {n : Nat} {QA : List D → Nat → Prop} : aSetSortI t1 δ n QA = t1 δ n fun d m => ∃ ns : List Int, itemsOf d = some (intsD ns) ∧ ns.length < 4000 ∧ (∀ k ∈ ns, 0 ≤ k ∧ k < 63) ∧ ∀ ms : List Int, ms.Pairwise (· < ·) → (∀ k, k ∈ ms ↔ k ∈ ns) → QA (intsD ms) m := rfl
end
end DL
/-! DL25: a range kept in a slot, walked. -/
namespace DL
open PySem PySem.Spec L2 PyProof.Rows
section
variable {X : Cx}
theorem cr_range1 : CallR X (.type "range") (fun vs H Q => ∃ j, vs = [V.int j] ∧ ∀ p, H p = none → Q (.ref p) (upd H p (.rng 0 j))) := by
  intro pins s σ H vs us Q I r h
  obtain ⟨j, rfl, q⟩ := h
  cases r with
  | cons rj rr =>
    cases rr
    obtain ⟨u, rfl⟩ := rj
    refine call_range_1 ⟨.ref s.heap.objs.size, upd H s.heap.objs.size (.rng 0 j), I.laid (t' := s.toks + 1 + 1) (fun b o e => Heap.get?_push_of_some _ e) (Nat.le_refl _) ?_, rfl, q _ (I.hok.fresh (Nat.le_refl _))⟩
    exact ⟨s.toks, u, s.toks + 1, Heap.get?_push_size _ rfl⟩
/-- a range that stands -/
def iRgO (tl : TE) : TI := fun σ H R => tl σ H fun v H1 => ∃ a lo hi, v = .ref a ∧ H1 a = some (.rng lo hi) ∧ (-(2 ^ 62) ≤ lo ∧ lo < 2 ^ 62 ∧ -(2 ^ 62) ≤ hi ∧ hi < 2 ^ 62) ∧ R (Itr lo (hi - lo).toNat) H1
theorem pi_rgO {tg l : Expr} {tl : TE} (hl : PE X l tl) : PI X tg l (iRgO tl) := by
  refine ⟨fun pins s σ H R I h => ?_⟩
  refine thn (hl.run pins s σ H _ I h) fun v s1 ⟨x, H1, I1, r1, q1⟩ => ?_
  obtain ⟨a, lo, hi, e, hq, ⟨h1, h2, h3, h4⟩, q⟩ := q1
  subst e
  cases r1
  obtain ⟨t, u, v, ho⟩ : ∃ t u v, s1.heap.get? a = some { cls := .type "range", data := .fields #[.int lo t, .int hi u, .int 1 v] } := I1.hok a _ hq
  refine wpAny_pyIter_range (show IsRange s1.heap a lo hi 1 t u v from ho) (small_one h1 h2 h3 h4) ?_
  refine ⟨s1.heap.objs.size, [s1.heap.objs.size], _, _, H1, rfl, I1.kept (t' := s1.toks) fun b o e => Heap.get?_push_of_some _ e, turn_range _ lo (hi - lo).toNat, ?_, fun b hb => ?_, q⟩
  · have e1 : lo + ((0 : Nat) : Int) * 1 = lo := by simp
    have e2 : (((hi - lo).toNat : Nat) : Int) - ((0 : Nat) : Int) = Builtin.Range.rangeSize lo hi 1 := by rw [rangeSize_one]; split <;> omega
    show IsRangeIter _ _ (lo + ((0 : Nat) : Int) * 1) ((((hi - lo).toNat : Nat) : Int) - ((0 : Nat) : Int)) 1
    rw [e1, e2]
    exact Heap.get?_push_size _ rfl
  · have e : b = s1.heap.objs.size := by simpa using hb
    subst e
    exact I1.fpOk (Nat.le_refl _) (I1.hok.fresh (Nat.le_refl _))
theorem SR.setG {K : PySem.W.Frag} {g : Gh} {n : Nat} {δ : DS} {σ : L2.St} {H S Vs : Hp} (h : SR K g n δ σ H S Vs) {i : Nat} {a : Addr} {lo hi : Int} (hi' : i < δ.length) (ha : S a = some (.rng lo hi)) : SR K g n (δ.set i (some (.rg lo hi))) (σ.set i (some (.ref a))) H S Vs := by
  refine ⟨h.S0S, h.SV, h.VH, h.VS, h.base, h.nW, h.fresh, h.rill, by simp [h.len], fun j x e => ?_, fun j k ds es hjk e1 e2 => ?_, fun b hb => ?_⟩
  · rcases set_get e with ⟨rfl, rfl⟩ | ⟨hj, e⟩
    · exact ⟨_, by rw [List.getElem?_set_self (by rw [h.len]; exact hi')], a, rfl, ha⟩
    · obtain ⟨u, e1, e2⟩ := h.slots j x e
      exact ⟨u, by rw [List.getElem?_set_ne hj]; exact e1, e2⟩
  · rcases set_get e1 with ⟨_, z⟩ | ⟨hj, e1⟩
    · cases z
    rcases set_get e2 with ⟨_, z⟩ | ⟨hk, e2⟩
    · cases z
    rw [List.getElem?_set_ne hj, List.getElem?_set_ne hk]
    exact h.apart j k ds es hjk e1 e2
  · obtain ⟨q1, q2, q3⟩ := h.tmps b hb
    refine ⟨q1, q2, fun j ds e => ?_⟩
    rcases set_get e with ⟨_, z⟩ | ⟨hj, e⟩
    · cases z
    · rw [List.getElem?_set_ne hj]; exact q3 j ds e
/-- x = range(e) -/
def sSetRg (i : Nat) (t : DTE) : DTS := fun E δ n => t δ n fun d m => ∃ j : Int, d = .int j ∧ i < δ.length ∧ E.nx (δ.set i (some (.rg 0 j))) m
theorem ds_setRg {i : Nat} {a : Expr} {t1 : DTE} {p pos : Pos} {st : Stmt} {b1 : Bool} (h : ∀ te, PE X (.Call (.Name "range" p) [a] [] pos) te → PS X st (tAsg te (gName i))) (hg : Gl X "range") (hm : X.mg "range" = none) (ha : DE X b1 a t1)
    (he : starEach (a :: []) X.env = (false, eval a X.env) :: starEach [] X.env := by rfl) (hpl : (backTo pos (starEach [] X.env)).any (·.1) = false := by rfl) : DSt X st (sSetRg i t1) :=
  ⟨PS.imp (h _ (pe_callTy cr_range1 hg hm boot_range (pa_cons ha.run pa_nil he) (by decide) (by decide) he hpl)) fun D σ H ⟨g, n, δ, S, Vs, E, hT, sr, ht, ok⟩ => ⟨g, n, δ, S, Vs, _, sr, ht, fun d m v H' S' Vs' ⟨j, e1, hl, p⟩ sr' q1 q2 r => by
    subst e1
    have r' := Rp.dp r sr'.SV
    cases r'
    exact ⟨j, rfl, fun q hq => ok.1 _ m _ _ _ _ p ((sr'.alloc hq).setG hl upd_same) (q1.trans (same_upd (sr'.sN hq)))⟩⟩⟩
def iRgV (i : Nat) : DTA := fun δ n Q => ∃ lo hi : Int, δ[i]? = some (some (.rg lo hi)) ∧ (-(2 ^ 62) ≤ lo ∧ lo < 2 ^ 62 ∧ -(2 ^ 62) ≤ hi ∧ hi < 2 ^ 62) ∧ Q (rangeD lo (hi - lo).toNat) n
theorem di_rgV {tg a : Expr} {i : Nat} (ha : PE X a (tVar i)) : DI X true tg a (iRgV i) :=
  ⟨PI.imp (pi_rgO ha) fun σ H R ⟨g, n, δ, S, Vs, P, sr, ⟨lo, hi, ei, hb, ht⟩, k⟩ => by
    obtain ⟨v, e1, a, rfl, hs⟩ := sr.slots _ _ ei
    exact ⟨_, e1, a, lo, hi, rfl, sr.SH _ _ hs, hb, k _ H S Vs _ n ht sr (Same.refl _) (Same.refl _) (by rw [if_pos rfl]; exact walk_r)⟩⟩
theorem x_setRg {i : Nat} {t : DTE} {E : DEnds} {δ : DS} {n : Nat} : sSetRg i t E δ n = t δ n fun d m => ∃ j : Int, d = .int j ∧ i < δ.length ∧ E.nx (δ.set i (some (.rg 0 j))) m := rfl
theorem x_iRgV {i : Nat} {δ : DS} {n : Nat} {Q : List D → Nat → Prop} : iRgV i δ n Q = ∃ lo hi : Int, δ[i]? = some (some (.rg lo hi)) ∧ (-(2 ^ 62) ≤ lo ∧ lo < 2 ^ 62 ∧ -(2 ^ 62) ≤ hi ∧ hi < 2 ^ 62) ∧ Q (rangeD lo (hi - lo).toNat) n := rfl
end
end DL
/-! DX8: own exceptions whose maker hands nothing on and keeps nothing. -/
namespace DX
open PySem PySem.W PySem.Calls PyProof.Rows PySem.HandSPX
/-- the maker's text: self; super().__init__() -/
def mkA0 (a1 : Pos) : Arguments := { posonlyargs := [], args := [{ arg := "self", annotation := none, pos := a1 }], vararg := none, kwonlyargs := [], kw_defaults := [], kwarg := none, defaults := [] }
def mkB0 (b1 b2 b3 b5 b6 : Pos) : List Stmt := [.Expr (.Call (.Attribute (.Call (.Name "super" b1) [] [] b2) "__init__" b3) [] [] b5) b6]
def mkS0 : Scope := { kind := .function, names := [("self", .local), ("__class__", .free), ("super", .globalImplicit)], isGenerator := false, isCoroutine := false, more := [] }
/-- what the written part says of the class at C, its maker at fI, which keeps nothing -/
structure ExT0 (P : Program) (K : Frag) (mg : Str → Option Value) (C fI : Addr) (nm : Str) : Prop where
  gC : mg nm = some (.ref C)
  gs : mg "super" = none
  cls : ∃ n q N bs bm sn sub ab col dd k0 k1 k2 k3 k5, K.lookup C = some (excClassObj n q C N bs bm true sn sub ab col dd k0 k1 k2 k3 k5 "ValueError.__new__") ∧ refsVE bm = true ∧ alongIn K "__init__" bm = some (some (.builtin "ValueError.__init__"))
  q0 : excInitIn K C [.type "ValueError", .type "Exception", .type "BaseException", .type "object"] "ValueError.__new__" = true
  iC : findIn K (.ref C) "__init__" = some (some (.ref fI))
  tC : typeIn K (.ref fI) = some (.type "function")
  kC : keepIn K (.ref C) = true
  op : nsIn K cStatics "thirdparty.any" = some none
  sB : subIn K (.ref C) (.type "ValueError") = some true
  sC : mroIn K C (.ref C) = some true
  top : (P.main.scope.names.lookup ("super" : Str)).isSome = false
  ls : mkS0.names.lookup ("super" : Str) = some .globalImplicit
  lc : mkS0.names.lookup ("__class__" : Str) = some .free
  nc : ∀ x ∈ mkS0.names, x.2 ≠ .cell
  fn : ∃ (oc : Value) (od : Option Addr) (q : Str) (doc pm : Value) (an : Option Addr) (cda cc : Addr) (ct : Value) (osl : Array (Option Value)) (a1 b1 b2 b3 b5 b6 : Pos),
    K.lookup fI = some ⟨oc, od, .func (fnX "__init__" q (mkA0 a1) (mkB0 b1 b2 b3 b5 b6) mkS0 [("__class__", cc)] .none .none doc pm an (.ref cda) ct), osl⟩ ∧ codeIn K (.ref cda) q = true ∧
      (∀ a : Value, bindArgs (fnX "__init__" q (mkA0 a1) (mkB0 b1 b2 b3 b5 b6) mkS0 [("__class__", cc)] .none .none doc pm an (.ref cda) ct) ⟨[a], []⟩ = pure [(("self" : Str), a)]) ∧
      (∀ env : Env, ∃ pl : Sem Bool, eval (.Call (.Attribute (.Call (.Name "super" b1) [] [] b2) "__init__" b3) [] [] b5) env = (do
        let ov ← attributeBase (.Call (.Name "super" b1) [] [] b2) "__init__" env (eval (.Call (.Name "super" b1) [] [] b2) env)
        standAt b3.atName
        let (g, first) ← holding [ov] (getMethod ov "__init__" pl)
        callWith b5 g first (backTo b5 (starEach [] env)) [])) ∧
      (∃ ccl cdd vs ccs file tf, K.lookup cda = some ⟨ccl, cdd, .fields vs, ccs⟩ ∧ vs[2]? = some (.str file tf) ∧ ((P.main.file : Str) == file) = true) ∧ ∃ cl cld csl, K.lookup cc = some ⟨cl, cld, .cell (some (.ref C)), csl⟩
structure InitEnd0 (h h' : Heap) (x C t1 : Addr) : Prop where
  keep : ∀ b o, b ≠ x → h.get? b = some o → h'.get? b = some o
  obj : h'.get? x = some (excO C t1)
section
variable {prog : Program} {w : World} {A : Around} {E : Value → Shared → Prop} {R : Result → Shared → Prop} {s : Shared} {K : Frag} {mg mb : Str → Option Value} {C fI : Addr} {nm : Str}
theorem init_run0 (T : ExT0 prog K mg C fI nm) {hp : Heap} {x t0 : Addr} (X : K.In hp) (k0 : ∀ b o, hp.get? b = some o → s.heap.get? b = some o) (hpn : hp.get? x = none) (hz : hp.objs.size ≤ s.heap.objs.size) (n1 : hp.Ns mainGlobals mg) (n2 : hp.Ns builtinsNs mb) (n3 : ∀ x : Str, x ≠ "__name__" → mb x = bootBuiltins x) (n4 : hp.NoLimit)
    (hx : s.heap.get? x = some (excO C t0)) (hroom : A.depth < recursionLimit)
    (hq : ∀ h' tk t1, InitEnd0 hp h' x C t1 → R (.ok (.ret .none)) { s with heap := h', toks := tk }) :
    codeAny (model prog w) A (.call (.ref fI) ⟨[.ref x], []⟩) R s := by
  obtain ⟨oc, od, q, doc, pm, an, cda, cc, ct, osl, a1, b1, b2, b3, b5, b6, ho, hcd, hbind, hev, ⟨ccl, cdd, vs, ccs, file, tf, hco, hvs, hfile⟩, cl, cld, csl, hcell⟩ := T.fn
  obtain ⟨n, q', N, bs, bm, sn, sub, ab, col, dd, y0, y1, y2, y3, y5, hC, hbm, hal⟩ := T.cls
  have Xs : K.In s.heap := X.keeps k0
  have hcl : clsIn K C = some { name := n, bases := bs, mro := .ref C :: bm, ns := N, qualname := q', hasDict := true, slotNames := sn, subclasses := sub, abstract := ab, collection := col, hasDel := false } := by unfold clsIn; rw [hC] <;> rfl
  refine ks_codeAny_call_defAt (binds := [(("self" : Str), Value.ref x)]) hroom (Xs _ _ ho) rfl (n4.keeps k0) (codeRec_of Xs hcd) rfl (.of_eq (hbind _)) T.nc (fun y hy => ?_) (fun h₁ hns hk₁ => ?_)
  · rw [List.mem_singleton.mp hy]; rfl
  have k1 : ∀ b o, hp.get? b = some o → h₁.get? b = some o := fun b o e => hk₁ b o (k0 b o e)
  have X1 : K.In h₁ := X.keeps k1
  have hx1 := hk₁ _ _ hx
  have xne : x ≠ s.heap.objs.size := Nat.ne_of_lt (Heap.lt_size hx)
  have I1 : InstAt h₁ x (excO C t0) C none := ⟨hx1, rfl, rfl, trivial⟩
  have mself : (fun y => [(("self" : Str), Value.ref x)].reverse.lookup y) "self" = some (.ref x) := by
    show List.lookup ("self" : Str) [(("self" : Str), Value.ref x)] = _
    simp [List.lookup]
  obtain ⟨oD, hD1, hD2⟩ : ∃ oD, h₁.get? C = some oD ∧ ∃ cd, oD.data = .cls cd := ⟨_, X1 _ _ hC, _, rfl⟩
  obtain ⟨cdD, hD2⟩ := hD2
  -- super().__init__(p)
  obtain ⟨pl, hev⟩ := hev (callEnv (fnX "__init__" q (mkA0 a1) (mkB0 b1 b2 b3 b5 b6) mkS0 [("__class__", cc)] .none .none doc pm an (.ref cda) ct) s.heap.objs.size fI)
  refine ks_wpAt_execs_cons (ks_wpAt_Expr_any (ks_wpAt_MethodCall (pl := pl) (ks_wpAt_super_base T.ls T.lc rfl rfl (X1 _ _ ho) rfl rfl rfl (X1 _ _ hco) rfl hvs hfile T.top ?_) hev))
  refine ks_loadName_global rfl T.ls (loadGlobal_builtin (n1.keeps k1) T.gs (n2.keeps k1) ((n3 _ (by decide +kernel)).trans (by decide +kernel)) ⟨rfl, ?_⟩)
  refine wpAny_loadName_free rfl T.lc rfl ⟨_, X1 _ _ hcell, rfl⟩ ?_
  refine wpAny_loadName_local rfl rfl hns mself ?_
  refine ks_wpAny_isType_cls hD1 hD2 ⟨rfl, ?_⟩
  refine ks_wpAny_call_super hD1 hD2 hx1 rfl (fun c e => by cases e) (looks_mroIn X1 T.sC) (fun h2 hso k2 => ?_)
  have X2 : K.In h2 := X1.keeps k2
  have hx2 := k2 _ _ hx1
  have I2 : InstAt h2 x (excO C t0) C none := ⟨hx2, rfl, rfl, trivial⟩
  have hxC : x ≠ C := fun z => by rw [z, X _ _ hC] at hpn; cases hpn
  have hL : s.heap.objs.size < h2.objs.size := by
    obtain ⟨oL, _, _, e, _⟩ := hns
    exact Heap.lt_size (k2 _ _ e)
  refine kxs_getMethod kxs_ValueError hso (looks_opaque X2 T.op) (l₀ := .ref C :: bm) (fun A Q E s k q => wpAny_bind ((looks_clsIn X2 hcl) A _ E s k (wpAny_pure q))) (l := bm) (by simp [List.dropWhile_cons]) X2 hal (I2.type.andThen (looks_subIn X2 T.sB)) hxC rfl ?_
  have k3 : ∀ b o, h2.get? b = some o → (h2.push (kxs_mw "ValueError.__init__" x)).get? b = some o := fun b o e => Heap.get?_push_of_some _ e
  have hmw : (h2.push (kxs_mw "ValueError.__init__" x)).get? h2.objs.size = some (kxs_mw "ValueError.__init__" x) := Heap.get?_push_size _ rfl
  generalize hh3 : h2.push (kxs_mw "ValueError.__init__" x) = h3 at k3 hmw
  have hns3 : h3.Ns s.heap.objs.size (fun y => [(("self" : Str), Value.ref x)].reverse.lookup y) := hns.keeps fun b o e => k3 b o (k2 b o e)
  have kp3 : ∀ b o, hp.get? b = some o → h3.get? b = some o := fun b o e => k3 b o (k2 b o (k1 b o e))
  have F3 : Fr hp s.heap.objs.size h3 (fun y => [(("self" : Str), Value.ref x)].reverse.lookup y) := ⟨hns3, kp3, hz⟩
  have none_of : ∀ b, hp.objs.size ≤ b → hp.get? b = none := fun b hb => by
    cases z : hp.get? b with
    | none => rfl
    | some o => exact absurd (Heap.lt_size z) (Nat.not_lt.mpr hb)
  have N3 : News hp s.heap.objs.size h3 [(h2.objs.size, kxs_mw "ValueError.__init__" x), (x, excObj C t0 none .none)] := by
    intro r hr
    rcases List.mem_cons.mp hr with rfl | hr
    · exact ⟨hmw, Nat.ne_of_gt hL, none_of _ (Nat.le_trans hz (Nat.le_of_lt hL))⟩
    · rw [List.mem_singleton.mp hr]
      exact ⟨k3 _ _ hx2, xne, hpn⟩
  have xu : h2.objs.size ≠ x := Nat.ne_of_gt (Heap.lt_size hx2)
  refine kxs_callWith0 N3 List.mem_cons_self ?_
  refine kxs_call (rest := []) F3 X N3 F.excBase_ValueError T.q0 List.mem_cons_self (.tail xu (.head fun r hr => by cases hr)) (Nat.zero_le _) fun t1 h4 F4 N4 l4 => ?_
  have hx4 : h4.get? x = some (excO C t1) := (N4 (x, excObj C t1 none .none) (by simp)).1
  refine wpAt_of_wpAny (wpAny_execs_nil ?_)
  exact hq h4 _ t1 ⟨fun b o hb e => F4.keep b o e, hx4⟩
structure OwnMade0 (h h' : Heap) (e C : Addr) : Prop where
  keep : ∀ b o, h.get? b = some o → h'.get? b = some o
  new : h.objs.size ≤ e
  obj : ∃ oe vs, h'.get? e = some oe ∧ oe.cls = .ref C ∧ oe.dict = none ∧ oe.data = .fields vs ∧ vs[1]? = some .none
theorem made0 (T : ExT0 prog K mg C fI nm) (X : K.In s.heap) (n1 : s.heap.Ns mainGlobals mg) (n2 : s.heap.Ns builtinsNs mb) (n3 : ∀ x : Str, x ≠ "__name__" → mb x = bootBuiltins x) (n4 : s.heap.NoLimit) (hroom : A.depth + 1 < recursionLimit)
    (hq : ∀ h' tk e, OwnMade0 s.heap h' e C → R (.ok (.ret (.ref e))) { s with heap := h', toks := tk }) :
    codeAny (model prog w) A (.call (.ref C) ⟨[], []⟩) R s := by
  obtain ⟨n, q', N, bs, bm, sn, sub, ab, col, dd, y0, y1, y2, y3, y5, hC, hbm, hal⟩ := T.cls
  obtain ⟨hp, g, dr, tk, os⟩ := s
  have k : ∀ b o, hp.get? b = some o → ((hp.push (kdv_tup [])).push (excO C hp.objs.size)).get? b = some o := fun b o e => Heap.get?_push_of_some _ (Heap.get?_push_of_some _ e)
  have hget : ((hp.push (kdv_tup [])).push (excO C hp.objs.size)).get? (hp.objs.size + 1) = some (excO C hp.objs.size) := by heap_get
  have big : ∀ b, hp.objs.size ≤ b → hp.get? b = none := fun b hb => by
    cases z : hp.get? b with
    | none => rfl
    | some o => exact absurd (Heap.lt_size z) (Nat.not_lt.mpr hb)
  refine call_own F.excBase_ValueError (fun X => refsVE_contains X bm hbm) (X _ _ hC) (looks_findIn X T.iC) (fun self => bind_fn X self T.tC) (Nat.zero_le _) ?_
  refine init_run0 (s := ⟨(hp.push (kdv_tup [])).push (excO C hp.objs.size), g, dr, tk, os⟩) T X k (big _ (Nat.le_succ _)) (by simp only [Heap.size_push]; omega) n1 n2 n3 n4 hget hroom fun h' tk' t1 M => ?_
  exact ⟨rfl, hq h' tk' (hp.objs.size + 1) ⟨fun b o e => M.keep b o (Nat.ne_of_lt (Nat.lt_succ_of_lt (Heap.lt_size e))) e, Nat.le_succ _, ⟨_, _, M.obj, rfl, rfl, rfl, rfl⟩⟩⟩
end
end DX
namespace DX
open PySem PySem.Spec PyProof.Rows L2
section
variable {X : Cx} {C fI : Addr} {nm : Str}
theorem pmk_own0 {q pos : Pos} {k : Nat} (T : ExT0 X.prog X.K X.mg C fI nm) (exC : PySem.W.subIn X.K (.ref C) (.type "BaseException") = some true) (tyC : PySem.W.typeIn X.K (.ref C) = some (.type "type")) (hr : Room k X.A) (hg : Gl X nm)
    (hdb : (nm == ("__debug__" : Str)) = false := by decide) :
    PMk X (.Call (.Name nm q) [] [] pos) (fun _ H Q => Q (.ref C) none H) := by
  intro pins s σ H Q I h
  refine wpAny_Call_Name_kw (ld_glob I hg T.gC ?_ hdb)
  refine PySem.W.callWith_K0 I.kIn T.kC ?_
  have hlim := I.nolimit
  obtain ⟨mb, b1, b2⟩ := I.mod.blt
  have g1 := I.mod.glob.keeps I.bk
  have g2 := b1.keeps I.bk
  obtain ⟨hp, g, dr, tk, os⟩ := s
  refine wpAny_call (made0 T I.kIn g1 g2 b2 hlim (by have := hr.dp; omega) fun h' tk' e M => ?_)
  show MkP X pins σ Q (.ref e) ⟨h', g, dr, tk', os⟩
  obtain ⟨oe, fv, hoe, hc, hd, hdat, h1⟩ := M.obj
  obtain ⟨G', r1, r2⟩ := restrict h' fun b => decide (b ≠ e)
  have gk : ∀ b, b ≠ e → G'.get? b = h'.get? b := fun b hb => r1 b (decide_eq_true hb)
  have ge : G'.get? e = none := r2 e (by simp)
  have old : ∀ b o, hp.get? b = some o → G'.get? b = some o := fun b o z => (gk b (Nat.ne_of_lt (Nat.lt_of_lt_of_le (Heap.lt_size z) M.new))).trans (M.keep b o z)
  have J : Inv X pins σ H ⟨G', g, dr, tk', os⟩ := I.kept (t' := tk') old
  refine ⟨e, oe, fv, ⟨G', g, dr, tk', os⟩, H, .ref C, none, rfl, J, fun b o z => ?_, ge, hoe, ⟨hc, hd⟩, hdat, h1, I.hok.fresh M.new, rfl, I.bare, raises_own exC tyC, h⟩
  by_cases hb : b = e
  · subst hb
    rw [show G'.get? b = none from ge] at z
    cases z
  · exact (gk b hb).symm.trans z
end
end DX
/-! DX9: own exceptions that keep nothing: raised; caught by a suite that answers with what is written there. -/
namespace DL
open PySem PySem.Spec L2 PyProof.Rows
def ct0 (nm : Str) (C : Addr) : XT := fun n => if n = nm then some (C, none) else none
theorem ct0_self {nm : Str} {C : Addr} : ct0 nm C nm = some (C, none) := if_pos rfl
theorem ct0_inv {nm : Str} {C : Addr} : ∀ nm' C' f', ct0 nm C nm' = some (C', f') → nm' = nm ∧ C' = C ∧ f' = none := by
  intro nm' C' f' h
  unfold ct0 at h
  split at h
  · rename_i e
    cases h
    exact ⟨e, rfl, rfl⟩
  · cases h
section
variable {X : Cx} {ct : XT} {W : WX} {pos : Pos}
/-- raise nm() -/
def qRaise0 (nm : Str) : DTSX := fun xc _ δ n => xc nm .none δ n
theorem dsx_raise0 {C fI : Addr} {nm : Str} {k : Nat} {q cpos : Pos} (hct : ct nm = some (C, none)) (hc : X.calm = true) (T : DX.ExT0 X.prog X.K X.mg C fI nm) (exC : PySem.W.subIn X.K (.ref C) (.type "BaseException") = some true) (tyC : PySem.W.typeIn X.K (.ref C) = some (.type "type")) (hr : Room k X.A) (tk : Takes X W) (hg : Gl X nm)
    (hdb : (nm == ("__debug__" : Str)) = false := by decide) : DSX X ct W (.Raise (some (.Call (.Name nm q) [] [] cpos)) none pos) (qRaise0 nm) :=
  ⟨PS.imp (ps_raise hc tk (DX.pmk_own0 T exC tyC hr hg hdb)) fun D σ H ⟨g, n, δ, S, Vs, E, xc, hT, sr, ht, ok, xk⟩ => xk nm .none δ n σ H S Vs C _ _ hct ht sr (Same.refl _) .non⟩
/-- what is written: values without a place -/
def tVs (vs : List V) : TA := fun _ H Q => Q vs H
/-- try: .. except nm: return r -/
def sTry0 (nm : Str) (t : DTSX) (r : D) : DTS := fun E δ n => t (fun nm' _ δ' m => nm' = nm ∧ E.rt r m) E δ n
theorem dst_try0L {C : Addr} {nm : Str} {vs : List V} {ds : List D} {es : List Expr} {np tpos pos' lp rp : Pos} {body : List Stmt} {t : DTSX} (hs : X.stack = X.env :: X.outer) (hf : X.env.frame = some X.env.locals) (hct : ∀ nm' C' f', ct nm' = some (C', f') → nm' = nm ∧ C' = C ∧ f' = none) (hc : Names X nm (.ref C)) (te : PySem.W.exmOne X.K (.ref C) (.ref C) = some true)
    (hb : ∀ (W : WX) (pn : List (Addr × Obj)) (xe : Value → Shared → Prop), Takes (X.tr pn xe) W → PassesOwn (model X.prog X.w) X.A X.env xe → DSsX (X.tr pn xe) ct W body t)
    (hx : ∀ (a : Addr) oe (pn : List (Addr × Obj)), PA (X.suite a ((a, oe) :: pn)) es (tVs vs)) (hv : ∀ S, DpAll X.K S vs ds) (hz : ds.length ≤ sizeLine) : DSt X (.Try body [.ExceptHandler (some (.Name nm np)) none [.Return (some (.List es lp)) rp] pos'] [] [] tpos) (sTry0 nm t (.list ds)) := by
  refine ⟨PS.imp (ps_try_only (c := .ref C) (Wout := fun _ _ _ _ => False) (tb := fun W => lSX X.K ct W t) (ts := fun _ _ _ D σ H => tRet (tLst (tVs vs)) D σ H) hs hf hc takes0 (fun W pn xe tk hp => (hb W pn xe tk hp).run) (fun a oe cls d pn hz hv => pss_one (ps_ret (pe_lst (hx a oe pn))))) fun D σ H ⟨g, m, δ, S, Vs, E, hT, sr, ht, ok⟩ => ?_⟩
  refine ⟨g, m, δ, S, Vs, E, _, hT, sr, ht, ok, fun nm' x δ' m' σ' H' S' Vs' C' f' d hc' ⟨hn, hr⟩ sr' s1 hbd => ?_⟩
  obtain ⟨_, rfl, rfl⟩ := hct _ _ _ hc'
  refine ⟨true, te, fun _ a ha => ⟨by rw [(hv S').length]; exact hz, fun p hp => ?_⟩, fun z => Bool.noConfusion z⟩
  obtain ⟨S2, V2, sr2, w1, w2, w3⟩ := sr'.out (K := X.K) (.lst hp (hv S'))
  exact ok.2.1 _ δ' m' _ _ _ S2 V2 hr sr2 (s1.trans w1) w3
theorem dst_try0C {C : Addr} {nm : Str} {v : V} {d0 : D} {e : Expr} {np tpos pos' rp : Pos} {body : List Stmt} {t : DTSX} (hs : X.stack = X.env :: X.outer) (hf : X.env.frame = some X.env.locals) (hct : ∀ nm' C' f', ct nm' = some (C', f') → nm' = nm ∧ C' = C ∧ f' = none) (hc : Names X nm (.ref C)) (te : PySem.W.exmOne X.K (.ref C) (.ref C) = some true)
    (hb : ∀ (W : WX) (pn : List (Addr × Obj)) (xe : Value → Shared → Prop), Takes (X.tr pn xe) W → PassesOwn (model X.prog X.w) X.A X.env xe → DSsX (X.tr pn xe) ct W body t)
    (hx : ∀ (a : Addr) oe (pn : List (Addr × Obj)), PE (X.suite a ((a, oe) :: pn)) e (tC v)) (hv : ∀ S, Dp X.K S v d0) : DSt X (.Try body [.ExceptHandler (some (.Name nm np)) none [.Return (some e) rp] pos'] [] [] tpos) (sTry0 nm t d0) := by
  refine ⟨PS.imp (ps_try_only (c := .ref C) (Wout := fun _ _ _ _ => False) (tb := fun W => lSX X.K ct W t) (ts := fun _ _ _ D σ H => tRet (tC v) D σ H) hs hf hc takes0 (fun W pn xe tk hp => (hb W pn xe tk hp).run) (fun a oe cls d pn hz hv => pss_one (ps_ret (hx a oe pn)))) fun D σ H ⟨g, m, δ, S, Vs, E, hT, sr, ht, ok⟩ => ?_⟩
  refine ⟨g, m, δ, S, Vs, E, _, hT, sr, ht, ok, fun nm' x δ' m' σ' H' S' Vs' C' f' d hc' ⟨hn, hr⟩ sr' s1 hbd => ?_⟩
  obtain ⟨_, rfl, rfl⟩ := hct _ _ _ hc'
  exact ⟨true, te, fun _ a ha => ok.2.1 _ δ' m' _ _ _ S' Vs' hr sr' s1 (hv S'), fun z => Bool.noConfusion z⟩
theorem x_qRaise0 {nm : Str} {xc : XC} {E : DEnds} {δ : DS} {n : Nat} : qRaise0 nm xc E δ n = xc nm .none δ n := rfl
theorem x_try0 {nm : Str} {t : DTSX} {r : D} {E : DEnds} {δ : DS} {n : Nat} : sTry0 nm t r E δ n = t (fun nm' _ δ' m => nm' = nm ∧ E.rt r m) E δ n := rfl
end
end DL
namespace My
open PySem PySem.Spec L2 DL
def topS (i : Nat) : Stmt := PySem.Challenge.pw_stormhouses_k51_whole_what_detectors_are.main.body.getD i (.Pass ⟨0, 0, 0, 0⟩)
abbrev s_is_whole : Stmt := topS 6
abbrev s_is_ascending : Stmt := topS 7
abbrev s_is_row : Stmt := topS 8
abbrev s_is_lot : Stmt := topS 9
abbrev s_left : Stmt := topS 11
abbrev s_storm_error : Stmt := topS 13
abbrev s_detector_error : Stmt := topS 14
abbrev s_known_detector : Stmt := topS 15
abbrev s__law_mill : Stmt := topS 17
abbrev s__law_take : Stmt := topS 18
abbrev s__law_one : Stmt := topS 19
abbrev s__law_mixed : Stmt := topS 20
abbrev s__law_few : Stmt := topS 21
abbrev s__law_sky : Stmt := topS 22
abbrev s__law_left : Stmt := topS 23
abbrev s__law_set : Stmt := topS 24
abbrev s__law_drawn_detector : Stmt := topS 25
abbrev s__law_is_number : Stmt := topS 26
abbrev s__law_is_set : Stmt := topS 27
abbrev s__law_odd : Stmt := topS 28
abbrev s__law_detector_error : Stmt := topS 29
abbrev s__law_bent_detector : Stmt := topS 30
abbrev s__law_known : Stmt := topS 31
abbrev s__law_heard : Stmt := topS 32
abbrev s_law : Stmt := topS 33
theorem sc_is_whole : FnScope ["value", "low", "high"] ["value", "low", "high"] (defScope s_is_whole) := ⟨rfl, rfl, rfl, by decide +kernel, rfl, by decide +kernel, by decide +kernel⟩
theorem sc_is_ascending : FnScope ["items", "place"] ["items"] (defScope s_is_ascending) := ⟨rfl, rfl, rfl, by decide +kernel, rfl, by decide +kernel, by decide +kernel⟩
theorem sc_is_row : FnScope ["value", "many", "item"] ["value", "many"] (defScope s_is_row) := ⟨rfl, rfl, rfl, by decide +kernel, rfl, by decide +kernel, by decide +kernel⟩
theorem sc_is_lot : FnScope ["value", "many"] ["value", "many"] (defScope s_is_lot) := ⟨rfl, rfl, rfl, by decide +kernel, rfl, by decide +kernel, by decide +kernel⟩
theorem sc_left : FnScope ["sky", "s", "gone", "machine"] ["sky", "s"] (defScope s_left) := ⟨rfl, rfl, rfl, by decide +kernel, rfl, by decide +kernel, by decide +kernel⟩
theorem sc_storm_error : FnScope ["many", "s", "value", "place", "some"] ["many", "s", "value"] (defScope s_storm_error) := ⟨rfl, rfl, rfl, by decide +kernel, rfl, by decide +kernel, by decide +kernel⟩
theorem sc_detector_error : FnScope ["sky", "value", "s", "item", "error"] ["sky", "value"] (defScope s_detector_error) := ⟨rfl, rfl, rfl, by decide +kernel, rfl, by decide +kernel, by decide +kernel⟩
theorem sc_known_detector : FnScope ["word", "sky", "storms", "s", "i"] ["word", "sky"] (defScope s_known_detector) := ⟨rfl, rfl, rfl, by decide +kernel, rfl, by decide +kernel, by decide +kernel⟩
theorem sc__law_mill : FnScope ["script", "seal", "deep", "cell", "own"] ["script", "seal"] (defScope s__law_mill) := ⟨rfl, rfl, rfl, by decide +kernel, rfl, by decide +kernel, by decide +kernel⟩
theorem sc__law_take : FnScope ["mill", "many", "own", "number"] ["mill", "many"] (defScope s__law_take) := ⟨rfl, rfl, rfl, by decide +kernel, rfl, by decide +kernel, by decide +kernel⟩
theorem sc__law_one : FnScope ["mill", "some"] ["mill", "some"] (defScope s__law_one) := ⟨rfl, rfl, rfl, by decide +kernel, rfl, by decide +kernel, by decide +kernel⟩
theorem sc__law_mixed : FnScope ["mill", "some", "rest", "found"] ["mill", "some"] (defScope s__law_mixed) := ⟨rfl, rfl, rfl, by decide +kernel, rfl, by decide +kernel, by decide +kernel⟩
theorem sc__law_few : FnScope ["mill", "some", "many"] ["mill", "some", "many"] (defScope s__law_few) := ⟨rfl, rfl, rfl, by decide +kernel, rfl, by decide +kernel, by decide +kernel⟩
theorem sc__law_sky : FnScope ["mill", "many", "most", "machines", "storms", "turn", "gone", "bells"] ["mill", "many", "most"] (defScope s__law_sky) := ⟨rfl, rfl, rfl, by decide +kernel, rfl, by decide +kernel, by decide +kernel⟩
theorem sc__law_left : FnScope ["sky", "s", "i"] ["sky", "s"] (defScope s__law_left) := ⟨rfl, rfl, rfl, by decide +kernel, rfl, by decide +kernel, by decide +kernel⟩
theorem sc__law_set : FnScope ["mill", "signs"] ["mill", "signs"] (defScope s__law_set) := ⟨rfl, rfl, rfl, by decide +kernel, rfl, by decide +kernel, by decide +kernel⟩
theorem sc__law_drawn_detector : FnScope ["mill", "sky", "signs", "most", "ends", "storm", "turn"] ["mill", "sky", "signs", "most"] (defScope s__law_drawn_detector) := ⟨rfl, rfl, rfl, by decide +kernel, rfl, by decide +kernel, by decide +kernel⟩
theorem sc__law_is_number : FnScope ["value", "many"] ["value", "many"] (defScope s__law_is_number) := ⟨rfl, rfl, rfl, by decide +kernel, rfl, by decide +kernel, by decide +kernel⟩
theorem sc__law_is_set : FnScope ["value", "signs", "own", "low", "high"] ["value", "signs"] (defScope s__law_is_set) := ⟨rfl, rfl, rfl, by decide +kernel, rfl, by decide +kernel, by decide +kernel⟩
theorem sc__law_odd : FnScope ["mill", "some"] ["mill"] (defScope s__law_odd) := ⟨rfl, rfl, rfl, by decide +kernel, rfl, by decide +kernel, by decide +kernel⟩
theorem sc__law_detector_error : FnScope ["sky", "value", "signs", "ends", "s", "some", "k", "own"] ["sky", "value"] (defScope s__law_detector_error) := ⟨rfl, rfl, rfl, by decide +kernel, rfl, by decide +kernel, by decide +kernel⟩
theorem sc__law_bent_detector : FnScope ["mill", "detector", "signs", "ends", "way", "s", "some", "k", "fresh", "own", "turned"] ["mill", "detector"] (defScope s__law_bent_detector) := ⟨rfl, rfl, rfl, by decide +kernel, rfl, by decide +kernel, by decide +kernel⟩
theorem sc__law_known : FnScope ["word", "sky", "many", "left_v", "s", "own", "i"] ["word", "sky"] (defScope s__law_known) := ⟨rfl, rfl, rfl, by decide +kernel, rfl, by decide +kernel, by decide +kernel⟩
theorem sc__law_heard : FnScope ["word", "sky", "is_named"] ["word", "sky", "is_named"] (defScope s__law_heard) := ⟨rfl, rfl, rfl, by decide +kernel, rfl, by decide +kernel, by decide +kernel⟩
theorem sc_law : FnScope ["script", "mill", "turn", "most", "sky", "right", "kept", "some", "bent", "values", "k", "value", "before", "due", "told", "word"] ["script"] (defScope s_law) := ⟨rfl, rfl, rfl, by decide +kernel, rfl, by decide +kernel, by decide +kernel⟩
/-- what the top has written -/
structure Tops (P : Program) (K : PySem.W.Frag) (mg : Str → Option Value) where
  a_is_whole : Addr
  d_is_whole : FuncData
  F_is_whole : Fun K "is_whole" "is_whole" s_is_whole a_is_whole d_is_whole
  g_is_whole : mg "is_whole" = some (.ref a_is_whole)
  a_is_ascending : Addr
  d_is_ascending : FuncData
  F_is_ascending : Fun K "is_ascending" "is_ascending" s_is_ascending a_is_ascending d_is_ascending
  g_is_ascending : mg "is_ascending" = some (.ref a_is_ascending)
  a_is_row : Addr
  d_is_row : FuncData
  F_is_row : Fun K "is_row" "is_row" s_is_row a_is_row d_is_row
  g_is_row : mg "is_row" = some (.ref a_is_row)
  a_is_lot : Addr
  d_is_lot : FuncData
  F_is_lot : Fun K "is_lot" "is_lot" s_is_lot a_is_lot d_is_lot
  g_is_lot : mg "is_lot" = some (.ref a_is_lot)
  a_left : Addr
  d_left : FuncData
  F_left : Fun K "left" "left" s_left a_left d_left
  g_left : mg "left" = some (.ref a_left)
  a_storm_error : Addr
  d_storm_error : FuncData
  F_storm_error : Fun K "storm_error" "storm_error" s_storm_error a_storm_error d_storm_error
  g_storm_error : mg "storm_error" = some (.ref a_storm_error)
  a_detector_error : Addr
  d_detector_error : FuncData
  F_detector_error : Fun K "detector_error" "detector_error" s_detector_error a_detector_error d_detector_error
  g_detector_error : mg "detector_error" = some (.ref a_detector_error)
  a_known_detector : Addr
  d_known_detector : FuncData
  F_known_detector : Fun K "known_detector" "known_detector" s_known_detector a_known_detector d_known_detector
  g_known_detector : mg "known_detector" = some (.ref a_known_detector)
  a__law_mill : Addr
  d__law_mill : FuncData
  F__law_mill : Fun K "_law_mill" "_law_mill" s__law_mill a__law_mill d__law_mill
  g__law_mill : mg "_law_mill" = some (.ref a__law_mill)
  a__law_take : Addr
  d__law_take : FuncData
  F__law_take : Fun K "_law_take" "_law_take" s__law_take a__law_take d__law_take
  g__law_take : mg "_law_take" = some (.ref a__law_take)
  a__law_one : Addr
  d__law_one : FuncData
  F__law_one : Fun K "_law_one" "_law_one" s__law_one a__law_one d__law_one
  g__law_one : mg "_law_one" = some (.ref a__law_one)
  a__law_mixed : Addr
  d__law_mixed : FuncData
  F__law_mixed : Fun K "_law_mixed" "_law_mixed" s__law_mixed a__law_mixed d__law_mixed
  g__law_mixed : mg "_law_mixed" = some (.ref a__law_mixed)
  a__law_few : Addr
  d__law_few : FuncData
  F__law_few : Fun K "_law_few" "_law_few" s__law_few a__law_few d__law_few
  g__law_few : mg "_law_few" = some (.ref a__law_few)
  a__law_sky : Addr
  d__law_sky : FuncData
  F__law_sky : Fun K "_law_sky" "_law_sky" s__law_sky a__law_sky d__law_sky
  g__law_sky : mg "_law_sky" = some (.ref a__law_sky)
  a__law_left : Addr
  d__law_left : FuncData
  F__law_left : Fun K "_law_left" "_law_left" s__law_left a__law_left d__law_left
  g__law_left : mg "_law_left" = some (.ref a__law_left)
  a__law_set : Addr
  d__law_set : FuncData
  F__law_set : Fun K "_law_set" "_law_set" s__law_set a__law_set d__law_set
  g__law_set : mg "_law_set" = some (.ref a__law_set)
  a__law_drawn_detector : Addr
  d__law_drawn_detector : FuncData
  F__law_drawn_detector : Fun K "_law_drawn_detector" "_law_drawn_detector" s__law_drawn_detector a__law_drawn_detector d__law_drawn_detector
  g__law_drawn_detector : mg "_law_drawn_detector" = some (.ref a__law_drawn_detector)
  a__law_is_number : Addr
  d__law_is_number : FuncData
  F__law_is_number : Fun K "_law_is_number" "_law_is_number" s__law_is_number a__law_is_number d__law_is_number
  g__law_is_number : mg "_law_is_number" = some (.ref a__law_is_number)
  a__law_is_set : Addr
  d__law_is_set : FuncData
  F__law_is_set : Fun K "_law_is_set" "_law_is_set" s__law_is_set a__law_is_set d__law_is_set
  g__law_is_set : mg "_law_is_set" = some (.ref a__law_is_set)
  a__law_odd : Addr
  d__law_odd : FuncData
  F__law_odd : Fun K "_law_odd" "_law_odd" s__law_odd a__law_odd d__law_odd
  g__law_odd : mg "_law_odd" = some (.ref a__law_odd)
  a__law_detector_error : Addr
  d__law_detector_error : FuncData
  F__law_detector_error : Fun K "_law_detector_error" "_law_detector_error" s__law_detector_error a__law_detector_error d__law_detector_error
  g__law_detector_error : mg "_law_detector_error" = some (.ref a__law_detector_error)
  a__law_bent_detector : Addr
  d__law_bent_detector : FuncData
  F__law_bent_detector : Fun K "_law_bent_detector" "_law_bent_detector" s__law_bent_detector a__law_bent_detector d__law_bent_detector
  g__law_bent_detector : mg "_law_bent_detector" = some (.ref a__law_bent_detector)
  a__law_known : Addr
  d__law_known : FuncData
  F__law_known : Fun K "_law_known" "_law_known" s__law_known a__law_known d__law_known
  g__law_known : mg "_law_known" = some (.ref a__law_known)
  a__law_heard : Addr
  d__law_heard : FuncData
  F__law_heard : Fun K "_law_heard" "_law_heard" s__law_heard a__law_heard d__law_heard
  g__law_heard : mg "_law_heard" = some (.ref a__law_heard)
  z_abs : mg "abs" = none
  z_all : mg "all" = none
  z_any : mg "any" = none
  z_bool : mg "bool" = none
  z_enumerate : mg "enumerate" = none
  z_int : mg "int" = none
  z_isinstance : mg "isinstance" = none
  z_len : mg "len" = none
  z_list : mg "list" = none
  z_range : mg "range" = none
  z_repr : mg "repr" = none
  z_set : mg "set" = none
  z_sorted : mg "sorted" = none
  z_tuple : mg "tuple" = none
  z_zip : mg "zip" = none
  t_MAX_SETS : Tok
  v_MAX_SETS : mg "MAX_SETS" = some (.int 6 t_MAX_SETS)
  t_MAX_SIGNS : Tok
  v_MAX_SIGNS : mg "MAX_SIGNS" = some (.int 6 t_MAX_SIGNS)
  C_Unfit : Addr
  I_Unfit : Addr
  x_Unfit : DX.ExT0 P K mg C_Unfit I_Unfit "Unfit"
  e_Unfit : PySem.W.subIn K (.ref C_Unfit) (.type "BaseException") = some true
  y_Unfit : PySem.W.typeIn K (.ref C_Unfit) = some (.type "type")
  m_Unfit : PySem.W.exmOne K (.ref C_Unfit) (.ref C_Unfit) = some true
/-! readings -/
def rd_is_whole : DTS :=
  sRet (dAndV (d1 (gIsi "int") (dVar 0)) (dAndV (dNotV (d1 (gIsi "bool") (dVar 0))) (dChain gLe gLe (dVar 1) (dVar 0) (dVar 2))))
def rd_is_ascending : DTS :=
  sRet (d1 gAll (dL (dComp (iRg1 (d2 gSub (d1 gLen (dVar 0)) (dC (.int 1)))) (gNm 1) (dYes) (d2 gLt (d2 gIx (dVar 0) (dVar 1)) (d2 gIx (dVar 0) (d2 gAdd (dVar 1) (dC (.int 1))))) [1])))
def rd_is_row (f_is_whole : Fn) (f_is_ascending : Fn) : DTS :=
  sSeq (sIf (dOr (dNot (dB (d1 (gIsi "tuple") (dVar 0)))) (dNot (dB (d1 gAll (dL (dComp (iSeq (dVar 0)) (gNm 2) (dYes) (dCall f_is_whole (rCons (dVar 2) (rCons (dC (.int 0)) (rCons (d2 gSub (dVar 1) (dC (.int 1))) (rNil))))) [2])))))) (sRet (dC (.bool false))) (sNext))
      (sRet (dCall f_is_ascending (rCons (dVar 0) (rNil))))
def rd_is_lot (f_is_row : Fn) : DTS :=
  sRet (dAndV (dCall f_is_row (rCons (dVar 0) (rCons (dVar 1) (rNil)))) (d2 gNe (dVar 0) (dTup (aNil))))
def rd_left : DTS :=
  sSeq (sSet 2 (d2 gIx (d2 gIx (d2 gIx (dVar 0) (dC (.int 2))) (dVar 1)) (dC (.int 0))))
      (sRet (d1 gTuple (dL (dComp (iRg1 (d2 gIx (dVar 0) (dC (.int 0)))) (gNm 3) (dB (d2 gNotIn (dVar 3) (dVar 2))) (dVar 3) [3]))))
def rd_storm_error (f_is_lot : Fn) : DTS :=
  sSeq (sIf (dOr (dNot (dB (d1 (gIsi "tuple") (dVar 2)))) (dNot (dB (dChain gLe gLe (dC (.int 1)) (d1 gLen (dVar 2)) (dC (.int 6)))))) (sRet (dTup (aCons (dC (.str "storm")) (aCons (dVar 1) (aNil))))) (sNext))
      (sSeq (sFor (iEn (dVar 2)) (gTp (gCons' (gNm 3) (gCons' (gNm 4) (gNil')))) (sSeq (sIf (dNot (dTr (dCall f_is_lot (rCons (dVar 4) (rCons (dVar 0) (rNil)))))) (sRet (dTup (aCons (dC (.str "set")) (aCons (dVar 1) (aCons (dVar 3) (aNil)))))) (sNext))
      (sIf (dAnd (dB (d2 gGt (dVar 3) (dC (.int 0)))) (dNot (dB (d2 gLt (d2 gIx (dVar 2) (d2 gSub (dVar 3) (dC (.int 1)))) (dVar 4))))) (sRet (dTup (aCons (dC (.str "order")) (aCons (dVar 1) (aCons (dVar 3) (aNil)))))) (sNext))))
      (sRet (dC .none)))
def rd_detector_error (f_is_whole : Fn) (f_storm_error : Fn) : DTS :=
  sSeq (sIf (dOr (dNot (dB (d1 (gIsi "tuple") (dVar 1)))) (dOr (dB (d2 gNe (d1 gLen (dVar 1)) (dC (.int 2)))) (dNot (dTr (dCall f_is_whole (rCons (d2 gIx (dVar 1) (dC (.int 0))) (rCons (dC (.int 1)) (rCons (dC (.int 6)) (rNil))))))))) (sRet (dC (.str "form"))) (sNext))
      (sSeq (sIf (dNot (dB (d1 (gIsi "tuple") (d2 gIx (dVar 1) (dC (.int 1)))))) (sRet (dC (.str "form"))) (sNext))
      (sSeq (sIf (dB (d2 gNe (d1 gLen (d2 gIx (dVar 1) (dC (.int 1)))) (d1 gLen (d2 gIx (dVar 0) (dC (.int 2)))))) (sRet (dC (.str "ends"))) (sNext))
      (sSeq (sFor (iEn (d2 gIx (dVar 1) (dC (.int 1)))) (gTp (gCons' (gNm 2) (gCons' (gNm 3) (gNil')))) (sSeq (sSet 4 (dCall f_storm_error (rCons (d2 gIx (dVar 1) (dC (.int 0))) (rCons (dVar 2) (rCons (dVar 3) (rNil))))))
      (sIf (dB (d2 gIsNot (dVar 4) (dC .none))) (sRet (dVar 4)) (sNext))))
      (sRet (dC .none)))))
def rd_known_detector (f_left : Fn) : DTSX :=
  qSeq ((fun _ => sSetRg 2 (d1 gLen (d2 gIx (dVar 1) (dC (.int 2))))))
      (qSeq ((fun _ => sIf (dB (d2 gEq (dVar 0) (dC (.str "nothing")))) (sRet (dTup (aCons (dC (.int 1)) (aCons (d1 gTuple (dL (dComp (iRgV 2) (gNm 3) (dYes) (dTup (aCons (dTup (aCons (dC (.int 0)) (aNil))) (aNil))) [3]))) (aNil))))) (sNext)))
      (qSeq (qIf (dOr (dB (d2 gNotIn (dVar 0) (dTup (aCons (dC (.str "leader")) (aCons (dC (.str "left")) (aNil)))))) (dB (d1 gAny (dL (dComp (iRgV 2) (gNm 3) (dYes) (d2 gEq (dCall f_left (rCons (dVar 1) (rCons (dVar 3) (rNil)))) (dTup (aNil))) [3]))))) (qRaise0 "Unfit") ((fun _ => sNext)))
      ((fun _ => sSeq (sIf (dB (d2 gEq (dVar 0) (dC (.str "leader")))) (sRet (dTup (aCons (d2 gIx (dVar 1) (dC (.int 0))) (aCons (d1 gTuple (dL (dComp (iRgV 2) (gNm 3) (dYes) (d1 gTuple (dL (dComp (iSeq (dCall f_left (rCons (dVar 1) (rCons (dVar 3) (rNil))))) (gNm 4) (dYes) (dTup (aCons (dVar 4) (aNil))) [4]))) [3]))) (aNil))))) (sNext))
      (sRet (dTup (aCons (d2 gIx (dVar 1) (dC (.int 0))) (aCons (d1 gTuple (dL (dComp (iRgV 2) (gNm 3) (dYes) (dTup (aCons (dCall f_left (rCons (dVar 1) (rCons (dVar 3) (rNil)))) (aNil))) [3]))) (aNil)))))))))
def rd__law_one (f__law_take : Fn) : DTS :=
  sRet (d2 gIx (dVar 1) (dCall f__law_take (rRl 0 (rCons (d1 gLen (dVar 1)) (rNil)))))
def rd__law_mixed (f__law_take : Fn) : DTS :=
  sSeq (sParLL 2 3 (aList (dVar 1)) (aSz (aNil)))
      (sSeq (sWhile (dB (d2 gNe (dOwn 2) (dL (aSz (aNil))))) (sAppPop 3 2 (dCall f__law_take (rRl 0 (rCons (d1 gLen (dOwn 2)) (rNil))))))
      (sFrz 3 (sRet (dVar 3))))
def rd__law_few (f__law_mixed : Fn) : DTS :=
  sRet (d1 gTuple (dL (aSort (dSl (dCall f__law_mixed (rRl 0 (rCons (dVar 1) (rNil)))) (oNone) (oSome (dVar 2))))))
def rd__law_sky (f__law_take : Fn) (f__law_few : Fn) (f__law_one : Fn) : DTS :=
  sSeq (sParEL 3 4 (dL (aRg (rg1 (dVar 1)))) (aSz (aNil)))
      (sSeq (sFor (iRg1 (d2 gAdd (dC (.int 1)) (dCall f__law_take (rRl 0 (rCons (dVar 2) (rNil)))))) (gNm 5) (sSeq (sSet 6 (dCall f__law_few (rRl 0 (rCons (dVar 3) (rCons (dCall f__law_one (rRl 0 (rCons (dL (aSz (aCons (dC (.int 0)) (aCons (dC (.int 1)) (aCons (dC (.int 1)) (aCons (dC (.int 1)) (aCons (dC (.int 2)) (aNil)))))))) (rNil)))) (rNil))))))
      (sApp 4 (dTup (aCons (dVar 6) (aCons (dCall f__law_few (rRl 0 (rCons (dVar 3) (rCons (dCall f__law_one (rRl 0 (rCons (dL (aSz (aCons (dC (.int 0)) (aCons (dC (.int 0)) (aCons (dC (.int 1)) (aCons (dC (.int 2)) (aNil))))))) (rNil)))) (rNil))))) (aNil)))))))
      (sSeq (sSet 7 (dCall f__law_few (rRl 0 (rCons (dVar 3) (rCons (dCall f__law_one (rRl 0 (rCons (dL (aSz (aCons (dC (.int 0)) (aCons (dC (.int 0)) (aCons (dC (.int 0)) (aCons (dC (.int 1)) (aCons (dC (.int 2)) (aNil)))))))) (rNil)))) (rNil))))))
      (sRet (dTup (aCons (dVar 1) (aCons (dVar 7) (aCons (d1 gTuple (dL (aSetSort (dOwn 4)))) (aNil))))))))
def rd__law_left : DTS :=
  sRet (d1 gTuple (dL (dComp (iRg1 (d2 gIx (dVar 0) (dC (.int 0)))) (gNm 2) (dB (d2 gNotIn (dVar 2) (d2 gIx (d2 gIx (d2 gIx (dVar 0) (dC (.int 2))) (dVar 1)) (dC (.int 0))))) (dVar 2) [2])))
def rd__law_set (f__law_few : Fn) (f__law_take : Fn) : DTS :=
  sRet (dCall f__law_few (rRl 0 (rCons (dL (aRg (rg1 (dVar 1)))) (rCons (d2 gAdd (dC (.int 1)) (dCall f__law_take (rRl 0 (rCons (dVar 1) (rNil))))) (rNil)))))
def rd__law_drawn_detector (f__law_take : Fn) (f__law_set : Fn) : DTS :=
  sSeq (sSetL 4 (aSz (aNil)))
      (sSeq (sFor (iSeq (d2 gIx (dVar 1) (dC (.int 2)))) (gNm 5) (sApp 4 (d1 gTuple (dL (aSetSort (dL (dComp (iRg1 (d2 gAdd (dC (.int 1)) (dCall f__law_take (rRl 0 (rCons (dVar 3) (rNil)))))) (gNm 6) (dYes) (dCall f__law_set (rRl 0 (rCons (dVar 2) (rNil)))) [6])))))))
      (sRet (dTup (aCons (dVar 2) (aCons (d1 gTuple (dOwn 4)) (aNil))))))
def rd__law_is_number : DTS :=
  sRet (dAndV (d1 (gIsi "int") (dVar 0)) (dAndV (dNotV (d1 (gIsi "bool") (dVar 0))) (dChain gLe gLt (dC (.int 0)) (dVar 0) (dVar 1))))
def rd__law_is_set (f__law_is_number : Fn) : DTS :=
  sSeq (sIf (dOr (dNot (dB (d1 (gIsi "tuple") (dVar 0)))) (dOr (dB (d2 gEq (dVar 0) (dTup (aNil)))) (dNot (dB (d1 gAll (dL (dComp (iSeq (dVar 0)) (gNm 2) (dYes) (dCall f__law_is_number (rCons (dVar 2) (rCons (dVar 1) (rNil)))) [2]))))))) (sRet (dC (.bool false))) (sNext))
      (sRet (d1 gAll (dL (dComp (iZp (dVar 0) (dSl (dVar 0) (oSome (dC (.int 1))) (oNone))) (gTp (gCons' (gNm 3) (gCons' (gNm 4) (gNil')))) (dYes) (d2 gLt (dVar 3) (dVar 4)) [3, 4]))))
def rd__law_odd (f__law_one : Fn) : DTS :=
  sSeq (sSet 1 (dL (aSz (aCons (dC .none) (aCons (dC (.bool true)) (aCons (dC (.bool false)) (aCons (dC (.int 0)) (aCons (dC (.int 1)) (aCons (d1 gNeg (dC (.int 1))) (aCons (d2 gPow (dC (.int 10)) (dC (.int 30))) (aCons (dC (.str "")) (aCons (dC (.str "0")) (aCons (dTup (aNil)) (aCons (dTup (aCons (dC (.int 0)) (aNil))) (aCons (dTup (aCons (dTup (aCons (dC (.int 0)) (aNil))) (aNil))) (aCons (dL (aSz (aNil))) (aCons (dL (aSz (aCons (dC (.int 0)) (aNil)))) (aCons (dC (.dict [])) (aCons (dC (.dict [(.str "a", .int 1)])) (aCons (dTup (aCons (dC .none) (aNil))) (aCons (dTup (aCons (dTup (aNil)) (aNil))) (aNil))))))))))))))))))))))
      (sRet (dCall f__law_one (rRl 0 (rCons (d2 gAdd (dVar 1) (dL (aSz (aCons (dTup (aCons (dTup (aCons (dC (.int 0)) (aNil))) (aCons (dTup (aCons (dC (.int 0)) (aNil))) (aNil)))) (aCons (dTup (aCons (dC (.int 1)) (aCons (dTup (aNil)) (aNil)))) (aCons (dTup (aCons (dC (.int 0)) (aCons (dTup (aCons (dC (.int 0)) (aNil))) (aNil)))) (aCons (dTup (aCons (dC (.str "form")) (aNil))) (aCons (dTup (aCons (dC (.bool true)) (aCons (dTup (aCons (dC (.int 0)) (aNil))) (aNil)))) (aCons (dL (aSz (aCons (dTup (aCons (dC (.int 0)) (aNil))) (aNil)))) (aCons (dC (.str "signs")) (aNil))))))))))) (rNil)))))
def rd__law_detector_error (f__law_is_number : Fn) (f__law_is_set : Fn) : DTS :=
  sSeq (sIf (dOr (dNot (dB (d1 (gIsi "tuple") (dVar 1)))) (dOr (dB (d2 gNe (d1 gLen (dVar 1)) (dC (.int 2)))) (dNot (dB (d1 (gIsi "tuple") (d2 gIx (dVar 1) (dC (.int 1)))))))) (sRet (dC (.str "form"))) (sNext))
      (sSeq (sAsg (gTp (gCons' (gNm 2) (gCons' (gNm 3) (gNil')))) (dVar 1))
      (sSeq (sIf (dOr (dNot (dTr (dCall f__law_is_number (rCons (dVar 2) (rCons (dC (.int 7)) (rNil)))))) (dB (d2 gEq (dVar 2) (dC (.int 0))))) (sRet (dC (.str "form"))) (sNext))
      (sSeq (sIf (dB (d2 gNe (d1 gLen (dVar 3)) (d1 gLen (d2 gIx (dVar 0) (dC (.int 2)))))) (sRet (dC (.str "ends"))) (sNext))
      (sSeq (sFor (iEn (dVar 3)) (gTp (gCons' (gNm 4) (gCons' (gNm 5) (gNil')))) (sSeq (sIf (dOr (dNot (dB (d1 (gIsi "tuple") (dVar 5)))) (dNot (dB (dChain gLe gLe (dC (.int 1)) (d1 gLen (dVar 5)) (dC (.int 6)))))) (sRet (dTup (aCons (dC (.str "storm")) (aCons (dVar 4) (aNil))))) (sNext))
      (sFor (iEn (dVar 5)) (gTp (gCons' (gNm 6) (gCons' (gNm 7) (gNil')))) (sSeq (sIf (dNot (dTr (dCall f__law_is_set (rCons (dVar 7) (rCons (dVar 2) (rNil)))))) (sRet (dTup (aCons (dC (.str "set")) (aCons (dVar 4) (aCons (dVar 6) (aNil)))))) (sNext))
      (sIf (dAnd (dB (d2 gGt (dVar 6) (dC (.int 0)))) (dNot (dB (d2 gLt (d2 gIx (dVar 5) (d2 gSub (dVar 6) (dC (.int 1)))) (dVar 7))))) (sRet (dTup (aCons (dC (.str "order")) (aCons (dVar 4) (aCons (dVar 6) (aNil)))))) (sNext))))))
      (sRet (dC .none))))))
def rd__law_bent_detector (f__law_take : Fn) (f__law_one : Fn) (f__law_mixed : Fn) : DTS :=
  sSeq (sAsg (gTp (gCons' (gNm 2) (gCons' (gNm 3) (gNil')))) (dVar 1))
      (sSeq (sPar 4 5 (aCons (dCall f__law_take (rRl 0 (rCons (dC (.int 14)) (rNil)))) (aCons (dCall f__law_take (rRl 0 (rCons (d1 gLen (dVar 3)) (rNil)))) (aNil))))
      (sSeq (sSet 6 (d2 gIx (dVar 3) (dVar 5)))
      (sSeq (sSet 7 (dCall f__law_take (rRl 0 (rCons (d1 gLen (dVar 6)) (rNil)))))
      (sSeq (sSet 8 (dL (aSz (aCons (dTup (aCons (dVar 2) (aNil))) (aCons (dTup (aCons (d1 gNeg (dC (.int 1))) (aNil))) (aCons (dTup (aNil)) (aCons (dL (aSz (aCons (dC (.int 0)) (aNil)))) (aCons (dTup (aCons (dC (.int 0)) (aCons (dC (.int 0)) (aNil)))) (aCons (dTup (aCons (dC (.bool true)) (aNil))) (aCons (dTup (aCons (d2 gSub (dVar 2) (dC (.int 1))) (aCons (dC (.int 0)) (aNil)))) (aCons (d2 gAdd (d2 gIx (dVar 6) (dVar 7)) (dTup (aCons (dVar 2) (aNil)))) (aCons (d1 gBack (d2 gIx (dVar 6) (dVar 7))) (aCons (dC .none) (aCons (dC (.int 0)) (aNil)))))))))))))))
      (sSeq (sSet 9 (dCall f__law_one (rRl 0 (rCons (d2 gAdd (dVar 8) (dL (aSz (aCons (dL (aList (d2 gIx (dVar 6) (dVar 7)))) (aCons (dTup (aCons (dC (.str "0")) (aNil))) (aCons (dTup (aCons (dC (.int 0)) (aCons (dC .none) (aNil)))) (aCons (d2 gAdd (d2 gIx (dVar 6) (dVar 7)) (d2 gIx (dVar 6) (dVar 7))) (aCons (dTup (aCons (d2 gPow (dC (.int 10)) (dC (.int 30))) (aNil))) (aNil))))))))) (rNil)))))
      (sSeq (sIf (dB (d2 gLt (dVar 4) (dC (.int 5)))) (sRet (dTup (aCons (dVar 2) (aCons (d2 gAdd (d2 gAdd (dSl (dVar 3) (oNone) (oSome (dVar 5))) (dTup (aCons (d2 gAdd (d2 gAdd (dSl (dVar 6) (oNone) (oSome (dVar 7))) (dTup (aCons (dVar 9) (aNil)))) (dSl (dVar 6) (oSome (d2 gAdd (dVar 7) (dC (.int 1)))) (oNone))) (aNil)))) (dSl (dVar 3) (oSome (d2 gAdd (dVar 5) (dC (.int 1)))) (oNone))) (aNil))))) (sNext))
      (sSeq (sIf (dB (d2 gLt (dVar 4) (dC (.int 8)))) (sSeq (sSet 10 (dL (aSz (aCons (d1 gBack (dVar 6)) (aCons (d2 gAdd (dVar 6) (dVar 6)) (aCons (d2 gRepU (dVar 6) (dC (.int 7))) (aCons (dTup (aNil)) (aCons (d2 gIx (dVar 6) (dVar 7)) (aCons (dC .none) (aCons (dL (aList (dVar 6))) (aCons (d2 gAdd (dSl (dVar 6) (oNone) (oSome (dVar 7))) (dTup (aCons (dTup (aCons (dC (.int 0)) (aNil))) (aNil)))) (aNil))))))))))))
      (sRet (dTup (aCons (dVar 2) (aCons (d2 gAdd (d2 gAdd (dSl (dVar 3) (oNone) (oSome (dVar 5))) (dTup (aCons (dCall f__law_one (rRl 0 (rCons (dVar 10) (rNil)))) (aNil)))) (dSl (dVar 3) (oSome (d2 gAdd (dVar 5) (dC (.int 1)))) (oNone))) (aNil)))))) (sNext))
      (sSeq (sIf (dB (d2 gEq (dVar 4) (dC (.int 8)))) (sRet (dTup (aCons (dVar 2) (aCons (dCall f__law_one (rRl 0 (rCons (dL (aSz (aCons (dSl (dVar 3) (oSome (dC (.int 1))) (oNone)) (aCons (d2 gAdd (dVar 3) (dSl (dVar 3) (oNone) (oSome (dC (.int 1))))) (aCons (dTup (aNil)) (aCons (dL (aList (dVar 3))) (aCons (d2 gIx (dVar 3) (dC (.int 0))) (aCons (dC .none) (aNil))))))))) (rNil)))) (aNil))))) (sNext))
      (sSeq (sIf (dB (d2 gEq (dVar 4) (dC (.int 9)))) (sRet (dTup (aCons (dCall f__law_one (rRl 0 (rCons (dL (aSz (aCons (dC (.int 0)) (aCons (dC (.int 7)) (aCons (d2 gSub (dVar 2) (dC (.int 1))) (aCons (dC (.bool true)) (aCons (dC .none) (aCons (dC (.str "1")) (aCons (d1 gNeg (dC (.int 1))) (aCons (d2 gAdd (dVar 2) (dC (.int 1))) (aCons (dTup (aCons (dVar 2) (aNil))) (aNil)))))))))))) (rNil)))) (aCons (dVar 3) (aNil))))) (sNext))
      (sSeq (sIf (dB (d2 gEq (dVar 4) (dC (.int 10)))) (sRet (dCall f__law_one (rRl 0 (rCons (dL (aSz (aCons (dL (aSz (aCons (dVar 2) (aCons (dVar 3) (aNil))))) (aCons (dTup (aCons (dVar 2) (aNil))) (aCons (dTup (aCons (dVar 2) (aCons (dVar 3) (aCons (dTup (aNil)) (aNil))))) (aCons (dVar 3) (aCons (dTup (aCons (dVar 3) (aCons (dVar 2) (aNil)))) (aCons (d2 gAdd (dVar 1) (dTup (aCons (dC (.int 0)) (aNil)))) (aNil))))))))) (rNil))))) (sNext))
      (sRet (dIf (dB (d2 gEq (dVar 4) (dC (.int 11)))) (dTup (aCons (dVar 2) (aCons (dCall f__law_mixed (rRl 0 (rCons (dVar 3) (rNil)))) (aNil)))) (dTup (aCons (dVar 2) (aCons (d1 gTuple (dCall f__law_mixed (rRl 0 (rCons (dVar 3) (rNil))))) (aNil))))))))))))))))
def rd__law_known (f__law_left : Fn) : DTS :=
  sSeq (sSet 2 (d2 gIx (dVar 1) (dC (.int 0))))
      (sSeq (sIf (dB (d2 gEq (dVar 0) (dC (.str "nothing")))) (sRet (dL (aSz (aCons (dC (.str "told")) (aCons (dTup (aCons (dC (.int 1)) (aCons (d2 gRepU (dTup (aCons (dTup (aCons (dTup (aCons (dC (.int 0)) (aNil))) (aNil))) (aNil))) (d1 gLen (d2 gIx (dVar 1) (dC (.int 2))))) (aNil)))) (aNil)))))) (sNext))
      (sSeq (sSetL 3 (dComp (iRg1 (d1 gLen (d2 gIx (dVar 1) (dC (.int 2))))) (gNm 4) (dYes) (dCall f__law_left (rCons (dVar 1) (rCons (dVar 4) (rNil)))) [4]))
      (sFrz 3 (sSeq (sIf (dOr (dB (d2 gNotIn (dVar 0) (dTup (aCons (dC (.str "leader")) (aCons (dC (.str "left")) (aNil)))))) (dB (d2 gIn (dTup (aNil)) (dVar 3)))) (sRet (dL (aSz (aCons (dC (.str "unfit")) (aNil))))) (sNext))
      (sSeq (sIf (dB (d2 gEq (dVar 0) (dC (.str "left")))) (sRet (dL (aSz (aCons (dC (.str "told")) (aCons (dTup (aCons (dVar 2) (aCons (d1 gTuple (dL (dComp (iSeq (dVar 3)) (gNm 5) (dYes) (dTup (aCons (dVar 5) (aNil))) [5]))) (aNil)))) (aNil)))))) (sNext))
      (sRet (dL (aSz (aCons (dC (.str "told")) (aCons (dTup (aCons (dVar 2) (aCons (d1 gTuple (dL (dComp (iSeq (dVar 3)) (gNm 5) (dYes) (d1 gTuple (dL (dComp (iSeq (dVar 5)) (gNm 6) (dYes) (dTup (aCons (dVar 6) (aNil))) [6]))) [5]))) (aNil)))) (aNil)))))))))))
def rd__law_heard (f_known_detector : FnX) : DTS :=
  sTry0 "Unfit" (qRet (qLst (qCons ((fun _ => dC (.str "told"))) (qCons (qIfE (dTr (dVar 2)) (dCallKX f_known_detector 2 [1, 0] (rCons (dVar 1) (rCons (dVar 0) (rNil)))) (dCallX f_known_detector (rCons (dVar 0) (rCons (dVar 1) (rNil))))) (qNil))))) (.list [.str "unfit"])
def rd_law (f__law_take f__law_sky f__law_one f__law_drawn_detector f__law_bent_detector f__law_odd f__law_detector_error f_detector_error f__law_known f__law_heard : Fn) : DTS :=
  sSeq (sFor (iRg1 (dC (.int 6))) (gNm 2) (sSeq (sSet 3 (dIf (dB (d2 gEq (dCall f__law_take (rRl 1 (rCons (dC (.int 8)) (rNil)))) (dC (.int 0)))) (dC (.int 10)) (dC (.int 4))))
      (sSeq (sSet 4 (dCall f__law_sky (rRl 1 (rCons (dCall f__law_one (rRl 1 (rCons (dL (aSz (aCons (dC (.int 1)) (aCons (dC (.int 2)) (aCons (dC (.int 3)) (aCons (dC (.int 3)) (aCons (dC (.int 4)) (aCons (dC (.int 5)) (aCons (dC (.int 6)) (aNil)))))))))) (rNil)))) (rCons (dVar 3) (rNil))))))
      (sSeq (sPar 5 6 (aCons (dCall f__law_drawn_detector (rRl 1 (rCons (dVar 4) (rCons (d2 gAdd (dC (.int 1)) (dCall f__law_take (rRl 1 (rCons (dC (.int 6)) (rNil))))) (rCons (dCall f__law_one (rRl 1 (rCons (dL (aSz (aCons (dC (.int 2)) (aCons (dC (.int 4)) (aCons (dC (.int 9)) (aNil)))))) (rNil)))) (rNil)))))) (aCons (d1 gRepr (dVar 4)) (aNil))))
      (sSeq (sSet 5 (dTup (aCons (d2 gIx (dVar 5) (dC (.int 0))) (aCons (d1 gTuple (dL (dComp (iSeq (d2 gIx (dVar 5) (dC (.int 1)))) (gNm 7) (dYes) (dSl (dVar 7) (oNone) (oSome (dC (.int 6)))) [7]))) (aNil)))))
      (sSeq (sSet 8 (dCall f__law_bent_detector (rRl 1 (rCons (dVar 5) (rNil)))))
      (sSeq (sSetL 9 (aSz (aCons (dVar 5) (aCons (dVar 8) (aCons (dCall f__law_odd (rRl 1 (rNil))) (aCons (dCall f__law_bent_detector (rRl 1 (rCons (dVar 5) (rNil)))) (aCons (dTup (aCons (d2 gIx (dVar 5) (dC (.int 0))) (aCons (dCall f__law_odd (rRl 1 (rNil))) (aNil)))) (aNil))))))))
      (sSeq (sIf (dAnd (dB (d1 (gIsi "tuple") (dVar 8))) (dB (d2 gIs (dCall f__law_detector_error (rCons (dVar 4) (rCons (dVar 8) (rNil)))) (dC .none)))) (sApp 9 (dCall f__law_bent_detector (rRl 1 (rCons (dVar 8) (rNil))))) (sNext))
      (sFrz 9 (sSeq (sFor (iEn (dVar 9)) (gTp (gCons' (gNm 10) (gCons' (gNm 11) (gNil')))) (sSeq (sPar 12 13 (aCons (d1 gRepr (dVar 11)) (aCons (d1 gRepr (dCall f__law_detector_error (rCons (dVar 4) (rCons (dVar 11) (rNil))))) (aNil))))
      (sSeq (sSet 14 (dIf (dB (d2 gEq (dVar 10) (dVar 2))) (dCallK f_detector_error 0 2 [1, 0] rNil (rCons (dVar 11) (rCons (dVar 4) (rNil)))) (dCall f_detector_error (rCons (dVar 4) (rCons (dVar 11) (rNil))))))
      (sSeq (sIf (dOr (dB (d2 gNe (d1 gRepr (dVar 14)) (dVar 13))) (dOr (dB (d2 gNe (d1 gRepr (dVar 11)) (dVar 12))) (dB (d2 gNe (d1 gRepr (dVar 4)) (dVar 6))))) (sRet (dC (.bool false))) (sNext))
      (sIf (dAnd (dB (d2 gLt (dVar 10) (dC (.int 2)))) (dB (d2 gNe (d1 gRepr (dCall f_detector_error (rCons (dVar 4) (rCons (dVar 11) (rNil))))) (dVar 13)))) (sRet (dC (.bool false))) (sNext))))))
      (sFor (iSeq (dTup (aCons (dC (.str "nothing")) (aCons (dC (.str "leader")) (aCons (dC (.str "left")) (aCons (dCall f__law_one (rRl 1 (rCons (dL (aSz (aCons (dC (.str "right")) (aCons (dC (.str "")) (aCons (dC (.str "Leader")) (aCons (dC (.str "nothing ")) (aCons (dC (.str "lefts")) (aNil)))))))) (rNil)))) (aNil))))))) (gNm 15) (sSeq (sSet 13 (d1 gRepr (dCall f__law_known (rCons (dVar 15) (rCons (dVar 4) (rNil))))))
      (sSeq (sIf (dB (d2 gNe (d1 gRepr (dL (aSz (aCons (dCall f__law_heard (rCons (dVar 15) (rCons (dVar 4) (rCons (dC (.bool true)) (rNil))))) (aCons (dCall f__law_heard (rCons (dVar 15) (rCons (dVar 4) (rCons (dC (.bool false)) (rNil))))) (aNil)))))) (d1 gRepr (d2 gRep (dL (aSz (aCons (dCall f__law_known (rCons (dVar 15) (rCons (dVar 4) (rNil)))) (aNil)))) (dC (.int 2)))))) (sRet (dC (.bool false))) (sNext))
      (sIf (dOr (dB (d2 gNe (d1 gRepr (dCall f__law_heard (rCons (dVar 15) (rCons (dVar 4) (rCons (d2 gEq (dVar 2) (dC (.int 0))) (rNil)))))) (dVar 13))) (dB (d2 gNe (d1 gRepr (dVar 4)) (dVar 6)))) (sRet (dC (.bool false))) (sNext)))))))))))))))
      (sRet (dC (.bool true)))
/-! the steps -/
section
variable {P : Program} {w : World} {K : PySem.W.Frag} {mg : Str → Option Value} {base : Heap}
theorem st_is_whole (T : Tops P K mg) {f : Fn} (hf : ∀ as n P, as.length = 3 → f as n P → rd_is_whole  ⟨fun _ m => P .none m, P, fun _ _ => False, fun _ _ => False⟩ (startD ["value", "low", "high"] as) n) : FnG P w K mg base CX0 1 T.a_is_whole T.d_is_whole ["value", "low", "high"] (spD K 3 f) :=
  dfn T.F_is_whole sc_is_whole rfl (fun cdv A outer s H E hgd hr => by
    have hu5 := hu5_of hr
    have hu := hu_of5 hu5
    have nd := sc_is_whole.nd
    refine dss_one ?_
    exact ds_ret (de_and (de_isi (T := "int") (by rfl) T.z_isinstance (de_var (pv 0)) (pe_bltn (by rfl) T.z_int (by decide +kernel) rfl)) (de_and (de_not (de_isi (T := "bool") (by rfl) T.z_isinstance (de_var (pv 0)) (pe_bltn (by rfl) T.z_bool (by decide +kernel) rfl))) (de_one (de_chain (cd_le hu) (cd_le hu) (de_var (pv 1)) (de_var (pv 0)) (de_var (pv 2))))))) hf
theorem st_is_ascending (T : Tops P K mg) {f : Fn} (hf : ∀ as n P, as.length = 1 → f as n P → rd_is_ascending  ⟨fun _ m => P .none m, P, fun _ _ => False, fun _ _ => False⟩ (startD ["items", "place"] as) n) : FnG P w K mg base CX0 1 T.a_is_ascending T.d_is_ascending ["items"] (spD K 1 f) :=
  dfn T.F_is_ascending sc_is_ascending rfl (fun cdv A outer s H E hgd hr => by
    have hu5 := hu5_of hr
    have hu := hu_of5 hu5
    have nd := sc_is_ascending.nd
    refine dss_one ?_
    exact ds_ret (de_all rfl (by rfl) T.z_all (DL.DL.de (dl_comp rfl nd (di_range1 (de_sub (de_len (by rfl) T.z_len (de_var (pv 0))) (de_int)) (by rfl) T.z_range) (own := [("place", 1)]) (blkD (N := ["items", "place"]) (sc := defScope s_is_ascending) rfl (by decide +kernel) (by decide +kernel) (by decide +kernel) (by decide +kernel)) (fun _ _ _ _ _ => pg_name (i := 1) nd rfl (by first | exact .inl rfl | exact .inr rfl)) (gs_name) (by decide) (fun _ _ _ _ _ => dts_nil) (fun _ _ _ _ _ => de_lt hu (de_ix (de_var (pv 0)) (de_var (pv 1))) (de_ix (de_var (pv 0)) (de_add (de_var (pv 1)) (de_int)))))))) hf
theorem st_is_row (T : Tops P K mg) {f_is_whole : Fn} {f_is_ascending : Fn} (c_is_whole : FnG P w K mg base CX0 1 T.a_is_whole T.d_is_whole ["value", "low", "high"] (spD K 3 f_is_whole)) (c_is_ascending : FnG P w K mg base CX0 1 T.a_is_ascending T.d_is_ascending ["items"] (spD K 1 f_is_ascending)) {f : Fn} (hf : ∀ as n P, as.length = 2 → f as n P → rd_is_row f_is_whole f_is_ascending ⟨fun _ m => P .none m, P, fun _ _ => False, fun _ _ => False⟩ (startD ["value", "many", "item"] as) n) : FnG P w K mg base CX0 2 T.a_is_row T.d_is_row ["value", "many"] (spD K 2 f) :=
  dfn T.F_is_row sc_is_row rfl (fun cdv A outer s H E hgd hr => by
    have hu5 := hu5_of hr
    have hu := hu_of5 hu5
    have nd := sc_is_row.nd
    refine dss_cons ?_ ?_
    · refine ds_if (DW.dt (dw_or (dt_not (dt_val (de_isi (T := "tuple") (by rfl) T.z_isinstance (de_var (pv 0)) (pe_bltn (by rfl) T.z_tuple (by decide +kernel) rfl)))) (dw_or1 (dt_not (dt_val (de_all rfl (by rfl) T.z_all (DL.DL.de (dl_comp rfl nd (di_seq (de_var (pv 0))) (own := [("item", 2)]) (blkD (N := ["value", "many", "item"]) (sc := defScope s_is_row) rfl (by decide +kernel) (by decide +kernel) (by decide +kernel) (by decide +kernel)) (fun _ _ _ _ _ => pg_name (i := 2) nd rfl (by first | exact .inl rfl | exact .inr rfl)) (gs_name) (by decide) (fun _ _ _ _ _ => dts_nil) (fun _ _ _ _ _ => de_call (c_is_whole.up (by decide)) hgd hr (by rfl) T.g_is_whole T.F_is_whole.kp (T.F_is_whole.binds (ps := ["value", "low", "high"]) fun _ _ _ _ _ _ us hl => match us, hl with | [_, _, _], _ => rfl) rfl (dr_cons (de_var (pv 2)) (dr_cons (de_int) (dr_cons (de_sub (de_var (pv 1)) (de_int)) (dr_nil))))))))))))) ?_ ?_
      · refine dss_one ?_
        exact ds_ret (de_bl)
      · exact dss_nil
    refine dss_one ?_
    exact ds_ret (de_call (c_is_ascending.up (by decide)) hgd hr (by rfl) T.g_is_ascending T.F_is_ascending.kp (T.F_is_ascending.binds (ps := ["items"]) fun _ _ _ _ _ _ us hl => match us, hl with | [_], _ => rfl) rfl (dr_cons (de_var (pv 0)) (dr_nil)))) hf
theorem st_is_lot (T : Tops P K mg) {f_is_row : Fn} (c_is_row : FnG P w K mg base CX0 2 T.a_is_row T.d_is_row ["value", "many"] (spD K 2 f_is_row)) {f : Fn} (hf : ∀ as n P, as.length = 2 → f as n P → rd_is_lot f_is_row ⟨fun _ m => P .none m, P, fun _ _ => False, fun _ _ => False⟩ (startD ["value", "many"] as) n) : FnG P w K mg base CX0 3 T.a_is_lot T.d_is_lot ["value", "many"] (spD K 2 f) :=
  dfn T.F_is_lot sc_is_lot rfl (fun cdv A outer s H E hgd hr => by
    have hu5 := hu5_of hr
    have hu := hu_of5 hu5
    have nd := sc_is_lot.nd
    refine dss_one ?_
    exact ds_ret (de_and (de_call (c_is_row.up (by decide)) hgd hr (by rfl) T.g_is_row T.F_is_row.kp (T.F_is_row.binds (ps := ["value", "many"]) fun _ _ _ _ _ _ us hl => match us, hl with | [_, _], _ => rfl) rfl (dr_cons (de_var (pv 0)) (dr_cons (de_var (pv 1)) (dr_nil)))) (de_one (de_ne hu (de_var (pv 0)) (de_tup (da_nil)))))) hf
theorem st_left (T : Tops P K mg) {f : Fn} (hf : ∀ as n P, as.length = 2 → f as n P → rd_left  ⟨fun _ m => P .none m, P, fun _ _ => False, fun _ _ => False⟩ (startD ["sky", "s", "gone", "machine"] as) n) : FnG P w K mg base CX0 1 T.a_left T.d_left ["sky", "s"] (spD K 2 f) :=
  dfn T.F_left sc_left rfl (fun cdv A outer s H E hgd hr => by
    have hu5 := hu5_of hr
    have hu := hu_of5 hu5
    have nd := sc_left.nd
    refine dss_cons ?_ ?_
    · exact ds_set (i := 2) (fun _ h => ps_set (i := 2) nd rfl (.inr rfl) h) (de_ix (de_ix (de_ix (de_var (pv 0)) (de_int)) (de_var (pv 1))) (de_int))
    refine dss_one ?_
    exact ds_ret (de_tuple (by rfl) T.z_tuple (DL.DL.de (dl_comp rfl nd (di_range1 (de_ix (de_var (pv 0)) (de_int)) (by rfl) T.z_range) (own := [("machine", 3)]) (blkD (N := ["sky", "s", "gone", "machine"]) (sc := defScope s_left) rfl (by decide +kernel) (by decide +kernel) (by decide +kernel) (by decide +kernel)) (fun _ _ _ _ _ => pg_name (i := 3) nd rfl (by first | exact .inl rfl | exact .inr rfl)) (gs_name) (by decide) (fun _ _ _ _ _ => dts_one (dt_cp (cd_notIn hu5) (de_var (pv 3)) (de_var (pv 2)))) (fun _ _ _ _ _ => de_var (pv 3)))))) hf
theorem st_storm_error (T : Tops P K mg) {f_is_lot : Fn} (c_is_lot : FnG P w K mg base CX0 3 T.a_is_lot T.d_is_lot ["value", "many"] (spD K 2 f_is_lot)) {f : Fn} (hf : ∀ as n P, as.length = 3 → f as n P → rd_storm_error f_is_lot ⟨fun _ m => P .none m, P, fun _ _ => False, fun _ _ => False⟩ (startD ["many", "s", "value", "place", "some"] as) n) : FnG P w K mg base CX0 4 T.a_storm_error T.d_storm_error ["many", "s", "value"] (spD K 3 f) :=
  dfn T.F_storm_error sc_storm_error rfl (fun cdv A outer s H E hgd hr => by
    have hu5 := hu5_of hr
    have hu := hu_of5 hu5
    have nd := sc_storm_error.nd
    refine dss_cons ?_ ?_
    · refine ds_if (DW.dt (dw_or (dt_not (dt_val (de_isi (T := "tuple") (by rfl) T.z_isinstance (de_var (pv 2)) (pe_bltn (by rfl) T.z_tuple (by decide +kernel) rfl)))) (dw_or1 (dt_not (dt_chain (cd_le hu) (cd_le hu) (de_int) (de_len (by rfl) T.z_len (de_var (pv 2))) (de_globI (by rfl) T.v_MAX_SETS)))))) ?_ ?_
      · refine dss_one ?_
        exact ds_ret (de_tup (da_cons (de_str) (da_cons (de_var (pv 1)) (da_nil))))
      · exact dss_nil
    refine dss_cons ?_ ?_
    · refine ds_for PassesOwn.never rfl (di_enum (by rfl) T.z_enumerate (de_var (pv 2))) (pg_tup rfl (pgs_cons (pg_name (i := 3) nd rfl (by first | exact .inl rfl | exact .inr rfl)) (pgs_cons (pg_name (i := 4) nd rfl (by first | exact .inl rfl | exact .inr rfl)) (pgs_nil)))) (gs_tup (gs_cons (gs_cons (gs_nil)))) ?_
      refine dss_cons ?_ ?_
      · refine ds_if (dt_not (dt_truth (de_call (c_is_lot.up (by decide)) hgd hr (by rfl) T.g_is_lot T.F_is_lot.kp (T.F_is_lot.binds (ps := ["value", "many"]) fun _ _ _ _ _ _ us hl => match us, hl with | [_, _], _ => rfl) rfl (dr_cons (de_var (pv 4)) (dr_cons (de_var (pv 0)) (dr_nil)))))) ?_ ?_
        · refine dss_one ?_
          exact ds_ret (de_tup (da_cons (de_str) (da_cons (de_var (pv 1)) (da_cons (de_var (pv 3)) (da_nil)))))
        · exact dss_nil
      refine dss_one ?_
      refine ds_if (DW.dt (dw_and (dt_cp (cd_gt hu) (de_var (pv 3)) (de_int)) (dw_and1 (dt_not (dt_cp (cd_lt hu) (de_ix (de_var (pv 2)) (de_sub (de_var (pv 3)) (de_int))) (de_var (pv 4))))))) ?_ ?_
      · refine dss_one ?_
        exact ds_ret (de_tup (da_cons (de_str) (da_cons (de_var (pv 1)) (da_cons (de_var (pv 3)) (da_nil)))))
      · exact dss_nil
    refine dss_one ?_
    exact ds_ret (de_non)) hf
theorem st_detector_error (T : Tops P K mg) {f_is_whole : Fn} {f_storm_error : Fn} (c_is_whole : FnG P w K mg base CX0 1 T.a_is_whole T.d_is_whole ["value", "low", "high"] (spD K 3 f_is_whole)) (c_storm_error : FnG P w K mg base CX0 4 T.a_storm_error T.d_storm_error ["many", "s", "value"] (spD K 3 f_storm_error)) {f : Fn} (hf : ∀ as n P, as.length = 2 → f as n P → rd_detector_error f_is_whole f_storm_error ⟨fun _ m => P .none m, P, fun _ _ => False, fun _ _ => False⟩ (startD ["sky", "value", "s", "item", "error"] as) n) : FnG P w K mg base CX0 5 T.a_detector_error T.d_detector_error ["sky", "value"] (spD K 2 f) :=
  dfn T.F_detector_error sc_detector_error rfl (fun cdv A outer s H E hgd hr => by
    have hu5 := hu5_of hr
    have hu := hu_of5 hu5
    have nd := sc_detector_error.nd
    refine dss_cons ?_ ?_
    · refine ds_if (DW.dt (dw_or (dt_not (dt_val (de_isi (T := "tuple") (by rfl) T.z_isinstance (de_var (pv 1)) (pe_bltn (by rfl) T.z_tuple (by decide +kernel) rfl)))) (dw_or (dt_cp (cd_ne hu) (de_len (by rfl) T.z_len (de_var (pv 1))) (de_int)) (dw_or1 (dt_not (dt_truth (de_call (c_is_whole.up (by decide)) hgd hr (by rfl) T.g_is_whole T.F_is_whole.kp (T.F_is_whole.binds (ps := ["value", "low", "high"]) fun _ _ _ _ _ _ us hl => match us, hl with | [_, _, _], _ => rfl) rfl (dr_cons (de_ix (de_var (pv 1)) (de_int)) (dr_cons (de_int) (dr_cons (de_globI (by rfl) T.v_MAX_SIGNS) (dr_nil))))))))))) ?_ ?_
      · refine dss_one ?_
        exact ds_ret (de_str)
      · exact dss_nil
    refine dss_cons ?_ ?_
    · refine ds_if (dt_not (dt_val (de_isi (T := "tuple") (by rfl) T.z_isinstance (de_ix (de_var (pv 1)) (de_int)) (pe_bltn (by rfl) T.z_tuple (by decide +kernel) rfl)))) ?_ ?_
      · refine dss_one ?_
        exact ds_ret (de_str)
      · exact dss_nil
    refine dss_cons ?_ ?_
    · refine ds_if (dt_cp (cd_ne hu) (de_len (by rfl) T.z_len (de_ix (de_var (pv 1)) (de_int))) (de_len (by rfl) T.z_len (de_ix (de_var (pv 0)) (de_int)))) ?_ ?_
      · refine dss_one ?_
        exact ds_ret (de_str)
      · exact dss_nil
    refine dss_cons ?_ ?_
    · refine ds_for PassesOwn.never rfl (di_enum (by rfl) T.z_enumerate (de_ix (de_var (pv 1)) (de_int))) (pg_tup rfl (pgs_cons (pg_name (i := 2) nd rfl (by first | exact .inl rfl | exact .inr rfl)) (pgs_cons (pg_name (i := 3) nd rfl (by first | exact .inl rfl | exact .inr rfl)) (pgs_nil)))) (gs_tup (gs_cons (gs_cons (gs_nil)))) ?_
      refine dss_cons ?_ ?_
      · exact ds_set (i := 4) (fun _ h => ps_set (i := 4) nd rfl (.inl rfl) h) (de_call (c_storm_error.up (by decide)) hgd hr (by rfl) T.g_storm_error T.F_storm_error.kp (T.F_storm_error.binds (ps := ["many", "s", "value"]) fun _ _ _ _ _ _ us hl => match us, hl with | [_, _, _], _ => rfl) rfl (dr_cons (de_ix (de_var (pv 1)) (de_int)) (dr_cons (de_var (pv 2)) (dr_cons (de_var (pv 3)) (dr_nil)))))
      refine dss_one ?_
      refine ds_if (dt_cp (cd_isNot) (de_var (pv 4)) (de_non)) ?_ ?_
      · refine dss_one ?_
        exact ds_ret (de_var (pv 4))
      · exact dss_nil
    refine dss_one ?_
    exact ds_ret (de_non)) hf
theorem st_known_detector (T : Tops P K mg) {f_left : Fn} (c_left : FnG P w K mg base CX0 1 T.a_left T.d_left ["sky", "s"] (spD K 2 f_left)) {f : FnX} (hf : ∀ as n px P, as.length = 2 → f as n px P → rd_known_detector f_left (fun nm x _ m => px nm x m) ⟨fun _ m => P .none m, P, fun _ _ => False, fun _ _ => False⟩ (startD ["word", "sky", "storms", "s", "i"] as) n) : FnG P w K mg base (L2.CX P w) 2 T.a_known_detector T.d_known_detector ["word", "sky"] (spDX K 2 (ct0 "Unfit" T.C_Unfit) f) :=
  dfnX T.F_known_detector sc_known_detector rfl (fun cdv A outer s H E hgd hr => by
    have hu5 := hu5_of hr
    have hu := hu_of5 hu5
    have nd := sc_known_detector.nd
    refine dssx_cons ?_ ?_
    · refine dsx_of ?_
      exact ds_setRg (i := 2) (fun _ h => ps_set (i := 2) nd rfl (.inl rfl) h) (by rfl) T.z_range (de_len (by rfl) T.z_len (de_ix (de_var (pv 1)) (de_int)))
    refine dssx_cons ?_ ?_
    · refine dsx_of ?_
      refine ds_if (dt_cp (cd_eq hu) (de_var (pv 0)) (de_str)) ?_ ?_
      · refine dss_one ?_
        exact ds_ret (de_tup (da_cons (de_int) (da_cons (de_tuple (by rfl) T.z_tuple (DL.DL.de (dl_comp rfl nd (di_rgV (pv 2)) (own := [("s", 3)]) (blkD (N := ["word", "sky", "storms", "s", "i"]) (sc := defScope s_known_detector) rfl (by decide +kernel) (by decide +kernel) (by decide +kernel) (by decide +kernel)) (fun _ _ _ _ _ => pg_name (i := 3) nd rfl (by first | exact .inl rfl | exact .inr rfl)) (gs_name) (by decide) (fun _ _ _ _ _ => dts_nil) (fun _ _ _ _ _ => de_tup (da_cons (de_tup (da_cons (de_int) (da_nil))) (da_nil)))))) (da_nil))))
      · exact dss_nil
    refine dssx_cons ?_ ?_
    · refine dsx_if (DW.dt (dw_or (dt_cp (cd_notIn hu5) (de_var (pv 0)) (de_tup (da_cons (de_str) (da_cons (de_str) (da_nil))))) (dw_or1 (dt_val (de_any rfl (by rfl) T.z_any (DL.DL.de (dl_comp rfl nd (di_rgV (pv 2)) (own := [("s", 3)]) (blkD (N := ["word", "sky", "storms", "s", "i"]) (sc := defScope s_known_detector) rfl (by decide +kernel) (by decide +kernel) (by decide +kernel) (by decide +kernel)) (fun _ _ _ _ _ => pg_name (i := 3) nd rfl (by first | exact .inl rfl | exact .inr rfl)) (gs_name) (by decide) (fun _ _ _ _ _ => dts_nil) (fun _ _ _ _ _ => de_eq hu (de_call (c_left.up (by decide)) hgd hr (by rfl) T.g_left T.F_left.kp (T.F_left.binds (ps := ["sky", "s"]) fun _ _ _ _ _ _ us hl => match us, hl with | [_, _], _ => rfl) rfl (dr_cons (de_var (pv 1)) (dr_cons (de_var (pv 3)) (dr_nil)))) (de_tup (da_nil)))))))))) ?_ ?_
      · refine dssx_one ?_
        exact dsx_raise0 ct0_self rfl T.x_Unfit T.e_Unfit T.y_Unfit hr (takes_of rfl rfl rfl rfl) (by rfl)
      · refine dssx_of ?_
        exact dss_nil
    refine dssx_of ?_
    refine dss_cons ?_ ?_
    · refine ds_if (dt_cp (cd_eq hu) (de_var (pv 0)) (de_str)) ?_ ?_
      · refine dss_one ?_
        exact ds_ret (de_tup (da_cons (de_ix (de_var (pv 1)) (de_int)) (da_cons (de_tuple (by rfl) T.z_tuple (DL.DL.de (dl_comp rfl nd (di_rgV (pv 2)) (own := [("s", 3)]) (blkD (N := ["word", "sky", "storms", "s", "i"]) (sc := defScope s_known_detector) rfl (by decide +kernel) (by decide +kernel) (by decide +kernel) (by decide +kernel)) (fun _ _ _ _ _ => pg_name (i := 3) nd rfl (by first | exact .inl rfl | exact .inr rfl)) (gs_name) (by decide) (fun _ _ _ _ _ => dts_nil) (fun _ _ _ _ _ => de_tuple (by rfl) T.z_tuple (DL.DL.de (dl_comp rfl nd (di_seq (de_call (c_left.up (by decide)) hgd hr (by rfl) T.g_left T.F_left.kp (T.F_left.binds (ps := ["sky", "s"]) fun _ _ _ _ _ _ us hl => match us, hl with | [_, _], _ => rfl) rfl (dr_cons (de_var (pv 1)) (dr_cons (de_var (pv 3)) (dr_nil))))) (own := [("i", 4)]) (blkD (N := ["word", "sky", "storms", "s", "i"]) (sc := relS _ (defScope s_known_detector)) rfl (by decide +kernel) (by decide +kernel) (by decide +kernel) (by decide +kernel)) (fun _ _ _ _ _ => pg_name (i := 4) nd rfl (by first | exact .inl rfl | exact .inr rfl)) (gs_name) (by decide) (fun _ _ _ _ _ => dts_nil) (fun _ _ _ _ _ => de_tup (da_cons (de_var (pv 4)) (da_nil))))))))) (da_nil))))
      · exact dss_nil
    refine dss_one ?_
    exact ds_ret (de_tup (da_cons (de_ix (de_var (pv 1)) (de_int)) (da_cons (de_tuple (by rfl) T.z_tuple (DL.DL.de (dl_comp rfl nd (di_rgV (pv 2)) (own := [("s", 3)]) (blkD (N := ["word", "sky", "storms", "s", "i"]) (sc := defScope s_known_detector) rfl (by decide +kernel) (by decide +kernel) (by decide +kernel) (by decide +kernel)) (fun _ _ _ _ _ => pg_name (i := 3) nd rfl (by first | exact .inl rfl | exact .inr rfl)) (gs_name) (by decide) (fun _ _ _ _ _ => dts_nil) (fun _ _ _ _ _ => de_tup (da_cons (de_call (c_left.up (by decide)) hgd hr (by rfl) T.g_left T.F_left.kp (T.F_left.binds (ps := ["sky", "s"]) fun _ _ _ _ _ _ us hl => match us, hl with | [_, _], _ => rfl) rfl (dr_cons (de_var (pv 1)) (dr_cons (de_var (pv 3)) (dr_nil)))) (da_nil)))))) (da_nil))))) hf
theorem st__law_one (T : Tops P K mg) {f__law_take : Fn} (c__law_take : FnG P w K mg base CX0 1 T.a__law_take T.d__law_take ["mill", "many"] (spD K 2 f__law_take)) {f : Fn} (hf : ∀ as n P, as.length = 2 → f as n P → rd__law_one f__law_take ⟨fun _ m => P .none m, P, fun _ _ => False, fun _ _ => False⟩ (startD ["mill", "some"] as) n) : FnG P w K mg base CX0 2 T.a__law_one T.d__law_one ["mill", "some"] (spD K 2 f) :=
  dfn T.F__law_one sc__law_one rfl (fun cdv A outer s H E hgd hr => by
    have hu5 := hu5_of hr
    have hu := hu_of5 hu5
    have nd := sc__law_one.nd
    refine dss_one ?_
    exact ds_ret (de_ix (de_var (pv 1)) (de_call (c__law_take.up (by decide)) hgd hr (by rfl) T.g__law_take T.F__law_take.kp (T.F__law_take.binds (ps := ["mill", "many"]) fun _ _ _ _ _ _ us hl => match us, hl with | [_, _], _ => rfl) rfl (dr_rl (pv 0) (dr_cons (de_len (by rfl) T.z_len (de_var (pv 1))) (dr_nil)))))) hf
theorem st__law_mixed (T : Tops P K mg) {f__law_take : Fn} (c__law_take : FnG P w K mg base CX0 1 T.a__law_take T.d__law_take ["mill", "many"] (spD K 2 f__law_take)) {f : Fn} (hf : ∀ as n P, as.length = 2 → f as n P → rd__law_mixed f__law_take ⟨fun _ m => P .none m, P, fun _ _ => False, fun _ _ => False⟩ (startD ["mill", "some", "rest", "found"] as) n) : FnG P w K mg base CX0 2 T.a__law_mixed T.d__law_mixed ["mill", "some"] (spD K 2 f) :=
  dfn T.F__law_mixed sc__law_mixed rfl (fun cdv A outer s H E hgd hr => by
    have hu5 := hu5_of hr
    have hu := hu_of5 hu5
    have nd := sc__law_mixed.nd
    refine dss_cons ?_ ?_
    · exact ds_parLL (i := 2) (j := 3) (fun _ h => ps_par rfl nd rfl rfl (by decide) rfl rfl h (by rfl)) (dl_list (by rfl) T.z_list (de_var (pv 1))) (dl_lst (da_nil))
    refine dss_cons ?_ ?_
    · refine ds_while PassesOwn.never (dt_cp (cd_ne hu) (de_own (pv 2)) (DL.DL.de (dl_lst (da_nil)))) ?_
      refine dss_one ?_
      exact ds_appPop (i := 3) (j := 2) (pv 3) (pv 2) (de_call (c__law_take.up (by decide)) hgd hr (by rfl) T.g__law_take T.F__law_take.kp (T.F__law_take.binds (ps := ["mill", "many"]) fun _ _ _ _ _ _ us hl => match us, hl with | [_, _], _ => rfl) rfl (dr_rl (pv 0) (dr_cons (de_len (by rfl) T.z_len (de_own (pv 2))) (dr_nil)))) (fun hx ha => pe_bm PySem.F.plainAttrs_list PySem.F.slot_list_append PySem.F.type_list_append mt_append hx ha) (fun hx ha => pe_bm PySem.F.plainAttrs_list PySem.F.slot_list_pop PySem.F.type_list_pop mt_popAt hx ha)
    refine dss_frz (i := 3) ?_
    refine dss_one ?_
    exact ds_ret (de_var (pv 3))) hf
theorem st__law_few (T : Tops P K mg) {f__law_mixed : Fn} (c__law_mixed : FnG P w K mg base CX0 2 T.a__law_mixed T.d__law_mixed ["mill", "some"] (spD K 2 f__law_mixed)) {f : Fn} (hf : ∀ as n P, as.length = 3 → f as n P → rd__law_few f__law_mixed ⟨fun _ m => P .none m, P, fun _ _ => False, fun _ _ => False⟩ (startD ["mill", "some", "many"] as) n) : FnG P w K mg base CX0 3 T.a__law_few T.d__law_few ["mill", "some", "many"] (spD K 3 f) :=
  dfn T.F__law_few sc__law_few rfl (fun cdv A outer s H E hgd hr => by
    have hu5 := hu5_of hr
    have hu := hu_of5 hu5
    have nd := sc__law_few.nd
    refine dss_one ?_
    exact ds_ret (de_tuple (by rfl) T.z_tuple (DL.DL.de (dl_sorted hu (by rfl) T.z_sorted (de_slice (de_call (c__law_mixed.up (by decide)) hgd hr (by rfl) T.g__law_mixed T.F__law_mixed.kp (T.F__law_mixed.binds (ps := ["mill", "some"]) fun _ _ _ _ _ _ us hl => match us, hl with | [_, _], _ => rfl) rfl (dr_rl (pv 0) (dr_cons (de_var (pv 1)) (dr_nil)))) (do_none) (do_some (de_var (pv 2)))))))) hf
theorem st__law_sky (T : Tops P K mg) {f__law_take : Fn} {f__law_few : Fn} {f__law_one : Fn} (c__law_take : FnG P w K mg base CX0 1 T.a__law_take T.d__law_take ["mill", "many"] (spD K 2 f__law_take)) (c__law_few : FnG P w K mg base CX0 3 T.a__law_few T.d__law_few ["mill", "some", "many"] (spD K 3 f__law_few)) (c__law_one : FnG P w K mg base CX0 2 T.a__law_one T.d__law_one ["mill", "some"] (spD K 2 f__law_one)) {f : Fn} (hf : ∀ as n P, as.length = 3 → f as n P → rd__law_sky f__law_take f__law_few f__law_one ⟨fun _ m => P .none m, P, fun _ _ => False, fun _ _ => False⟩ (startD ["mill", "many", "most", "machines", "storms", "turn", "gone", "bells"] as) n) : FnG P w K mg base CX0 4 T.a__law_sky T.d__law_sky ["mill", "many", "most"] (spD K 3 f) :=
  dfn T.F__law_sky sc__law_sky rfl (fun cdv A outer s H E hgd hr => by
    have hu5 := hu5_of hr
    have hu := hu_of5 hu5
    have nd := sc__law_sky.nd
    refine dss_cons ?_ ?_
    · exact ds_parEL (i := 3) (j := 4) (fun _ h => ps_par rfl nd rfl rfl (by decide) rfl rfl h (by rfl)) (DL.DL.de (dl_listRg rfl (by rfl) T.z_list (dr_1 (by rfl) T.z_range (de_var (pv 1))))) (dl_lst (da_nil))
    refine dss_cons ?_ ?_
    · refine ds_for PassesOwn.never rfl (di_range1 (de_add (de_int) (de_call (c__law_take.up (by decide)) hgd hr (by rfl) T.g__law_take T.F__law_take.kp (T.F__law_take.binds (ps := ["mill", "many"]) fun _ _ _ _ _ _ us hl => match us, hl with | [_, _], _ => rfl) rfl (dr_rl (pv 0) (dr_cons (de_var (pv 2)) (dr_nil))))) (by rfl) T.z_range) (pg_name (i := 5) nd rfl (by first | exact .inl rfl | exact .inr rfl)) (gs_name) ?_
      refine dss_cons ?_ ?_
      · exact ds_set (i := 6) (fun _ h => ps_set (i := 6) nd rfl (.inl rfl) h) (de_call (c__law_few.up (by decide)) hgd hr (by rfl) T.g__law_few T.F__law_few.kp (T.F__law_few.binds (ps := ["mill", "some", "many"]) fun _ _ _ _ _ _ us hl => match us, hl with | [_, _, _], _ => rfl) rfl (dr_rl (pv 0) (dr_cons (de_var (pv 3)) (dr_cons (de_call (c__law_one.up (by decide)) hgd hr (by rfl) T.g__law_one T.F__law_one.kp (T.F__law_one.binds (ps := ["mill", "some"]) fun _ _ _ _ _ _ us hl => match us, hl with | [_, _], _ => rfl) rfl (dr_rl (pv 0) (dr_cons (DL.DL.de (dl_lst (da_cons (de_int) (da_cons (de_int) (da_cons (de_int) (da_cons (de_int) (da_cons (de_int) (da_nil)))))))) (dr_nil)))) (dr_nil)))))
      refine dss_one ?_
      exact ds_append (i := 4) (pv 4) (de_tup (da_cons (de_var (pv 6)) (da_cons (de_call (c__law_few.up (by decide)) hgd hr (by rfl) T.g__law_few T.F__law_few.kp (T.F__law_few.binds (ps := ["mill", "some", "many"]) fun _ _ _ _ _ _ us hl => match us, hl with | [_, _, _], _ => rfl) rfl (dr_rl (pv 0) (dr_cons (de_var (pv 3)) (dr_cons (de_call (c__law_one.up (by decide)) hgd hr (by rfl) T.g__law_one T.F__law_one.kp (T.F__law_one.binds (ps := ["mill", "some"]) fun _ _ _ _ _ _ us hl => match us, hl with | [_, _], _ => rfl) rfl (dr_rl (pv 0) (dr_cons (DL.DL.de (dl_lst (da_cons (de_int) (da_cons (de_int) (da_cons (de_int) (da_cons (de_int) (da_nil))))))) (dr_nil)))) (dr_nil))))) (da_nil)))) (fun hx ha => pe_bm PySem.F.plainAttrs_list PySem.F.slot_list_append PySem.F.type_list_append mt_append hx ha)
    refine dss_cons ?_ ?_
    · exact ds_set (i := 7) (fun _ h => ps_set (i := 7) nd rfl (.inl rfl) h) (de_call (c__law_few.up (by decide)) hgd hr (by rfl) T.g__law_few T.F__law_few.kp (T.F__law_few.binds (ps := ["mill", "some", "many"]) fun _ _ _ _ _ _ us hl => match us, hl with | [_, _, _], _ => rfl) rfl (dr_rl (pv 0) (dr_cons (de_var (pv 3)) (dr_cons (de_call (c__law_one.up (by decide)) hgd hr (by rfl) T.g__law_one T.F__law_one.kp (T.F__law_one.binds (ps := ["mill", "some"]) fun _ _ _ _ _ _ us hl => match us, hl with | [_, _], _ => rfl) rfl (dr_rl (pv 0) (dr_cons (DL.DL.de (dl_lst (da_cons (de_int) (da_cons (de_int) (da_cons (de_int) (da_cons (de_int) (da_cons (de_int) (da_nil)))))))) (dr_nil)))) (dr_nil)))))
    refine dss_one ?_
    exact ds_ret (de_tup (da_cons (de_var (pv 1)) (da_cons (de_var (pv 7)) (da_cons (de_tuple (by rfl) T.z_tuple (DL.DL.de (dl_sortSet rfl hu (by rfl) T.z_sorted (by rfl) T.z_set (de_own (pv 4))))) (da_nil)))))) hf
theorem st__law_left (T : Tops P K mg) {f : Fn} (hf : ∀ as n P, as.length = 2 → f as n P → rd__law_left  ⟨fun _ m => P .none m, P, fun _ _ => False, fun _ _ => False⟩ (startD ["sky", "s", "i"] as) n) : FnG P w K mg base CX0 1 T.a__law_left T.d__law_left ["sky", "s"] (spD K 2 f) :=
  dfn T.F__law_left sc__law_left rfl (fun cdv A outer s H E hgd hr => by
    have hu5 := hu5_of hr
    have hu := hu_of5 hu5
    have nd := sc__law_left.nd
    refine dss_one ?_
    exact ds_ret (de_tuple (by rfl) T.z_tuple (DL.DL.de (dl_comp rfl nd (di_range1 (de_ix (de_var (pv 0)) (de_int)) (by rfl) T.z_range) (own := [("i", 2)]) (blkD (N := ["sky", "s", "i"]) (sc := defScope s__law_left) rfl (by decide +kernel) (by decide +kernel) (by decide +kernel) (by decide +kernel)) (fun _ _ _ _ _ => pg_name (i := 2) nd rfl (by first | exact .inl rfl | exact .inr rfl)) (gs_name) (by decide) (fun _ _ _ _ _ => dts_one (dt_cp (cd_notIn hu5) (de_var (pv 2)) (de_ix (de_ix (de_ix (de_var (pv 0)) (de_int)) (de_var (pv 1))) (de_int)))) (fun _ _ _ _ _ => de_var (pv 2)))))) hf
theorem st__law_set (T : Tops P K mg) {f__law_few : Fn} {f__law_take : Fn} (c__law_few : FnG P w K mg base CX0 3 T.a__law_few T.d__law_few ["mill", "some", "many"] (spD K 3 f__law_few)) (c__law_take : FnG P w K mg base CX0 1 T.a__law_take T.d__law_take ["mill", "many"] (spD K 2 f__law_take)) {f : Fn} (hf : ∀ as n P, as.length = 2 → f as n P → rd__law_set f__law_few f__law_take ⟨fun _ m => P .none m, P, fun _ _ => False, fun _ _ => False⟩ (startD ["mill", "signs"] as) n) : FnG P w K mg base CX0 4 T.a__law_set T.d__law_set ["mill", "signs"] (spD K 2 f) :=
  dfn T.F__law_set sc__law_set rfl (fun cdv A outer s H E hgd hr => by
    have hu5 := hu5_of hr
    have hu := hu_of5 hu5
    have nd := sc__law_set.nd
    refine dss_one ?_
    exact ds_ret (de_call (c__law_few.up (by decide)) hgd hr (by rfl) T.g__law_few T.F__law_few.kp (T.F__law_few.binds (ps := ["mill", "some", "many"]) fun _ _ _ _ _ _ us hl => match us, hl with | [_, _, _], _ => rfl) rfl (dr_rl (pv 0) (dr_cons (DL.DL.de (dl_listRg rfl (by rfl) T.z_list (dr_1 (by rfl) T.z_range (de_var (pv 1))))) (dr_cons (de_add (de_int) (de_call (c__law_take.up (by decide)) hgd hr (by rfl) T.g__law_take T.F__law_take.kp (T.F__law_take.binds (ps := ["mill", "many"]) fun _ _ _ _ _ _ us hl => match us, hl with | [_, _], _ => rfl) rfl (dr_rl (pv 0) (dr_cons (de_var (pv 1)) (dr_nil))))) (dr_nil)))))) hf
theorem st__law_drawn_detector (T : Tops P K mg) {f__law_take : Fn} {f__law_set : Fn} (c__law_take : FnG P w K mg base CX0 1 T.a__law_take T.d__law_take ["mill", "many"] (spD K 2 f__law_take)) (c__law_set : FnG P w K mg base CX0 4 T.a__law_set T.d__law_set ["mill", "signs"] (spD K 2 f__law_set)) {f : Fn} (hf : ∀ as n P, as.length = 4 → f as n P → rd__law_drawn_detector f__law_take f__law_set ⟨fun _ m => P .none m, P, fun _ _ => False, fun _ _ => False⟩ (startD ["mill", "sky", "signs", "most", "ends", "storm", "turn"] as) n) : FnG P w K mg base CX0 5 T.a__law_drawn_detector T.d__law_drawn_detector ["mill", "sky", "signs", "most"] (spD K 4 f) :=
  dfn T.F__law_drawn_detector sc__law_drawn_detector rfl (fun cdv A outer s H E hgd hr => by
    have hu5 := hu5_of hr
    have hu := hu_of5 hu5
    have nd := sc__law_drawn_detector.nd
    refine dss_cons ?_ ?_
    · exact ds_setL (i := 4) (fun _ h => ps_set (i := 4) nd rfl (.inl rfl) h) (dl_lst (da_nil))
    refine dss_cons ?_ ?_
    · refine ds_for PassesOwn.never rfl (di_seq (de_ix (de_var (pv 1)) (de_int))) (pg_name (i := 5) nd rfl (by first | exact .inl rfl | exact .inr rfl)) (gs_name) ?_
      refine dss_one ?_
      exact ds_append (i := 4) (pv 4) (de_tuple (by rfl) T.z_tuple (DL.DL.de (dl_sortSet rfl hu (by rfl) T.z_sorted (by rfl) T.z_set (DL.DL.de (dl_comp rfl nd (di_range1 (de_add (de_int) (de_call (c__law_take.up (by decide)) hgd hr (by rfl) T.g__law_take T.F__law_take.kp (T.F__law_take.binds (ps := ["mill", "many"]) fun _ _ _ _ _ _ us hl => match us, hl with | [_, _], _ => rfl) rfl (dr_rl (pv 0) (dr_cons (de_var (pv 3)) (dr_nil))))) (by rfl) T.z_range) (own := [("turn", 6)]) (blkD (N := ["mill", "sky", "signs", "most", "ends", "storm", "turn"]) (sc := defScope s__law_drawn_detector) rfl (by decide +kernel) (by decide +kernel) (by decide +kernel) (by decide +kernel)) (fun _ _ _ _ _ => pg_name (i := 6) nd rfl (by first | exact .inl rfl | exact .inr rfl)) (gs_name) (by decide) (fun _ _ _ _ _ => dts_nil) (fun _ _ _ _ _ => de_call (c__law_set.up (by decide)) hgd hr (by rfl) T.g__law_set T.F__law_set.kp (T.F__law_set.binds (ps := ["mill", "signs"]) fun _ _ _ _ _ _ us hl => match us, hl with | [_, _], _ => rfl) rfl (dr_rl (pv 0) (dr_cons (de_var (pv 2)) (dr_nil))))))))) (fun hx ha => pe_bm PySem.F.plainAttrs_list PySem.F.slot_list_append PySem.F.type_list_append mt_append hx ha)
    refine dss_one ?_
    exact ds_ret (de_tup (da_cons (de_var (pv 2)) (da_cons (de_tuple (by rfl) T.z_tuple (de_own (pv 4))) (da_nil))))) hf
theorem st__law_is_number (T : Tops P K mg) {f : Fn} (hf : ∀ as n P, as.length = 2 → f as n P → rd__law_is_number  ⟨fun _ m => P .none m, P, fun _ _ => False, fun _ _ => False⟩ (startD ["value", "many"] as) n) : FnG P w K mg base CX0 1 T.a__law_is_number T.d__law_is_number ["value", "many"] (spD K 2 f) :=
  dfn T.F__law_is_number sc__law_is_number rfl (fun cdv A outer s H E hgd hr => by
    have hu5 := hu5_of hr
    have hu := hu_of5 hu5
    have nd := sc__law_is_number.nd
    refine dss_one ?_
    exact ds_ret (de_and (de_isi (T := "int") (by rfl) T.z_isinstance (de_var (pv 0)) (pe_bltn (by rfl) T.z_int (by decide +kernel) rfl)) (de_and (de_not (de_isi (T := "bool") (by rfl) T.z_isinstance (de_var (pv 0)) (pe_bltn (by rfl) T.z_bool (by decide +kernel) rfl))) (de_one (de_chain (cd_le hu) (cd_lt hu) (de_int) (de_var (pv 0)) (de_var (pv 1))))))) hf
theorem st__law_is_set (T : Tops P K mg) {f__law_is_number : Fn} (c__law_is_number : FnG P w K mg base CX0 1 T.a__law_is_number T.d__law_is_number ["value", "many"] (spD K 2 f__law_is_number)) {f : Fn} (hf : ∀ as n P, as.length = 2 → f as n P → rd__law_is_set f__law_is_number ⟨fun _ m => P .none m, P, fun _ _ => False, fun _ _ => False⟩ (startD ["value", "signs", "own", "low", "high"] as) n) : FnG P w K mg base CX0 2 T.a__law_is_set T.d__law_is_set ["value", "signs"] (spD K 2 f) :=
  dfn T.F__law_is_set sc__law_is_set rfl (fun cdv A outer s H E hgd hr => by
    have hu5 := hu5_of hr
    have hu := hu_of5 hu5
    have nd := sc__law_is_set.nd
    refine dss_cons ?_ ?_
    · refine ds_if (DW.dt (dw_or (dt_not (dt_val (de_isi (T := "tuple") (by rfl) T.z_isinstance (de_var (pv 0)) (pe_bltn (by rfl) T.z_tuple (by decide +kernel) rfl)))) (dw_or (dt_cp (cd_eq hu) (de_var (pv 0)) (de_tup (da_nil))) (dw_or1 (dt_not (dt_val (de_all rfl (by rfl) T.z_all (DL.DL.de (dl_comp rfl nd (di_seq (de_var (pv 0))) (own := [("own", 2)]) (blkD (N := ["value", "signs", "own", "low", "high"]) (sc := defScope s__law_is_set) rfl (by decide +kernel) (by decide +kernel) (by decide +kernel) (by decide +kernel)) (fun _ _ _ _ _ => pg_name (i := 2) nd rfl (by first | exact .inl rfl | exact .inr rfl)) (gs_name) (by decide) (fun _ _ _ _ _ => dts_nil) (fun _ _ _ _ _ => de_call (c__law_is_number.up (by decide)) hgd hr (by rfl) T.g__law_is_number T.F__law_is_number.kp (T.F__law_is_number.binds (ps := ["value", "many"]) fun _ _ _ _ _ _ us hl => match us, hl with | [_, _], _ => rfl) rfl (dr_cons (de_var (pv 2)) (dr_cons (de_var (pv 1)) (dr_nil))))))))))))) ?_ ?_
      · refine dss_one ?_
        exact ds_ret (de_bl)
      · exact dss_nil
    refine dss_one ?_
    exact ds_ret (de_all rfl (by rfl) T.z_all (DL.DL.de (dl_comp rfl nd (di_zip (by rfl) T.z_zip (de_var (pv 0)) (de_slice (de_var (pv 0)) (do_some (de_int)) (do_none))) (own := [("low", 3), ("high", 4)]) (blkD (N := ["value", "signs", "own", "low", "high"]) (sc := defScope s__law_is_set) rfl (by decide +kernel) (by decide +kernel) (by decide +kernel) (by decide +kernel)) (fun _ _ _ _ _ => pg_tup rfl (pgs_cons (pg_name (i := 3) nd rfl (by first | exact .inl rfl | exact .inr rfl)) (pgs_cons (pg_name (i := 4) nd rfl (by first | exact .inl rfl | exact .inr rfl)) (pgs_nil)))) (gs_tup (gs_cons (gs_cons (gs_nil)))) (by decide) (fun _ _ _ _ _ => dts_nil) (fun _ _ _ _ _ => de_lt hu (de_var (pv 3)) (de_var (pv 4))))))) hf
theorem st__law_odd (T : Tops P K mg) {f__law_one : Fn} (c__law_one : FnG P w K mg base CX0 2 T.a__law_one T.d__law_one ["mill", "some"] (spD K 2 f__law_one)) {f : Fn} (hf : ∀ as n P, as.length = 1 → f as n P → rd__law_odd f__law_one ⟨fun _ m => P .none m, P, fun _ _ => False, fun _ _ => False⟩ (startD ["mill", "some"] as) n) : FnG P w K mg base CX0 3 T.a__law_odd T.d__law_odd ["mill"] (spD K 1 f) :=
  dfn T.F__law_odd sc__law_odd rfl (fun cdv A outer s H E hgd hr => by
    have hu5 := hu5_of hr
    have hu := hu_of5 hu5
    have nd := sc__law_odd.nd
    refine dss_cons ?_ ?_
    · exact ds_set (i := 1) (fun _ h => ps_set (i := 1) nd rfl (.inl rfl) h) (DL.DL.de (dl_lst (da_cons (de_non) (da_cons (de_bl) (da_cons (de_bl) (da_cons (de_int) (da_cons (de_int) (da_cons (de_neg (de_int)) (da_cons (de_pow (de_int) (de_int)) (da_cons (de_str) (da_cons (de_str) (da_cons (de_tup (da_nil)) (da_cons (de_tup (da_cons (de_int) (da_nil))) (da_cons (de_tup (da_cons (de_tup (da_cons (de_int) (da_nil))) (da_nil))) (da_cons (DL.DL.de (dl_lst (da_nil))) (da_cons (DL.DL.de (dl_lst (da_cons (de_int) (da_nil)))) (da_cons (de_dict0) (da_cons (de_dictC (kvs := [(.inr "a", .int 1)]) (pps_cons pe_str pe_int (pps_nil)) (.cons (.int _) (.nil))) (da_cons (de_tup (da_cons (de_non) (da_nil))) (da_cons (de_tup (da_cons (de_tup (da_nil)) (da_nil))) (da_nil)))))))))))))))))))))
    refine dss_one ?_
    exact ds_ret (de_call (c__law_one.up (by decide)) hgd hr (by rfl) T.g__law_one T.F__law_one.kp (T.F__law_one.binds (ps := ["mill", "some"]) fun _ _ _ _ _ _ us hl => match us, hl with | [_, _], _ => rfl) rfl (dr_rl (pv 0) (dr_cons (de_add (de_var (pv 1)) (DL.DL.de (dl_lst (da_cons (de_tup (da_cons (de_tup (da_cons (de_int) (da_nil))) (da_cons (de_tup (da_cons (de_int) (da_nil))) (da_nil)))) (da_cons (de_tup (da_cons (de_int) (da_cons (de_tup (da_nil)) (da_nil)))) (da_cons (de_tup (da_cons (de_int) (da_cons (de_tup (da_cons (de_int) (da_nil))) (da_nil)))) (da_cons (de_tup (da_cons (de_str) (da_nil))) (da_cons (de_tup (da_cons (de_bl) (da_cons (de_tup (da_cons (de_int) (da_nil))) (da_nil)))) (da_cons (DL.DL.de (dl_lst (da_cons (de_tup (da_cons (de_int) (da_nil))) (da_nil)))) (da_cons (de_str) (da_nil))))))))))) (dr_nil))))) hf
theorem st__law_detector_error (T : Tops P K mg) {f__law_is_number : Fn} {f__law_is_set : Fn} (c__law_is_number : FnG P w K mg base CX0 1 T.a__law_is_number T.d__law_is_number ["value", "many"] (spD K 2 f__law_is_number)) (c__law_is_set : FnG P w K mg base CX0 2 T.a__law_is_set T.d__law_is_set ["value", "signs"] (spD K 2 f__law_is_set)) {f : Fn} (hf : ∀ as n P, as.length = 2 → f as n P → rd__law_detector_error f__law_is_number f__law_is_set ⟨fun _ m => P .none m, P, fun _ _ => False, fun _ _ => False⟩ (startD ["sky", "value", "signs", "ends", "s", "some", "k", "own"] as) n) : FnG P w K mg base CX0 3 T.a__law_detector_error T.d__law_detector_error ["sky", "value"] (spD K 2 f) :=
  dfn T.F__law_detector_error sc__law_detector_error rfl (fun cdv A outer s H E hgd hr => by
    have hu5 := hu5_of hr
    have hu := hu_of5 hu5
    have nd := sc__law_detector_error.nd
    refine dss_cons ?_ ?_
    · refine ds_if (DW.dt (dw_or (dt_not (dt_val (de_isi (T := "tuple") (by rfl) T.z_isinstance (de_var (pv 1)) (pe_bltn (by rfl) T.z_tuple (by decide +kernel) rfl)))) (dw_or (dt_cp (cd_ne hu) (de_len (by rfl) T.z_len (de_var (pv 1))) (de_int)) (dw_or1 (dt_not (dt_val (de_isi (T := "tuple") (by rfl) T.z_isinstance (de_ix (de_var (pv 1)) (de_int)) (pe_bltn (by rfl) T.z_tuple (by decide +kernel) rfl)))))))) ?_ ?_
      · refine dss_one ?_
        exact ds_ret (de_str)
      · exact dss_nil
    refine dss_cons ?_ ?_
    · exact ds_asg (fun _ h => ps_asg h (pg_tup rfl (pgs_cons (pg_name (i := 2) nd rfl (by first | exact .inl rfl | exact .inr rfl)) (pgs_cons (pg_name (i := 3) nd rfl (by first | exact .inl rfl | exact .inr rfl)) (pgs_nil))))) (gs_tup (gs_cons (gs_cons (gs_nil)))) (de_var (pv 1))
    refine dss_cons ?_ ?_
    · refine ds_if (DW.dt (dw_or (dt_not (dt_truth (de_call (c__law_is_number.up (by decide)) hgd hr (by rfl) T.g__law_is_number T.F__law_is_number.kp (T.F__law_is_number.binds (ps := ["value", "many"]) fun _ _ _ _ _ _ us hl => match us, hl with | [_, _], _ => rfl) rfl (dr_cons (de_var (pv 2)) (dr_cons (de_int) (dr_nil)))))) (dw_or1 (dt_cp (cd_eq hu) (de_var (pv 2)) (de_int))))) ?_ ?_
      · refine dss_one ?_
        exact ds_ret (de_str)
      · exact dss_nil
    refine dss_cons ?_ ?_
    · refine ds_if (dt_cp (cd_ne hu) (de_len (by rfl) T.z_len (de_var (pv 3))) (de_len (by rfl) T.z_len (de_ix (de_var (pv 0)) (de_int)))) ?_ ?_
      · refine dss_one ?_
        exact ds_ret (de_str)
      · exact dss_nil
    refine dss_cons ?_ ?_
    · refine ds_for PassesOwn.never rfl (di_enum (by rfl) T.z_enumerate (de_var (pv 3))) (pg_tup rfl (pgs_cons (pg_name (i := 4) nd rfl (by first | exact .inl rfl | exact .inr rfl)) (pgs_cons (pg_name (i := 5) nd rfl (by first | exact .inl rfl | exact .inr rfl)) (pgs_nil)))) (gs_tup (gs_cons (gs_cons (gs_nil)))) ?_
      refine dss_cons ?_ ?_
      · refine ds_if (DW.dt (dw_or (dt_not (dt_val (de_isi (T := "tuple") (by rfl) T.z_isinstance (de_var (pv 5)) (pe_bltn (by rfl) T.z_tuple (by decide +kernel) rfl)))) (dw_or1 (dt_not (dt_chain (cd_le hu) (cd_le hu) (de_int) (de_len (by rfl) T.z_len (de_var (pv 5))) (de_int)))))) ?_ ?_
        · refine dss_one ?_
          exact ds_ret (de_tup (da_cons (de_str) (da_cons (de_var (pv 4)) (da_nil))))
        · exact dss_nil
      refine dss_one ?_
      refine ds_for PassesOwn.never rfl (di_enum (by rfl) T.z_enumerate (de_var (pv 5))) (pg_tup rfl (pgs_cons (pg_name (i := 6) nd rfl (by first | exact .inl rfl | exact .inr rfl)) (pgs_cons (pg_name (i := 7) nd rfl (by first | exact .inl rfl | exact .inr rfl)) (pgs_nil)))) (gs_tup (gs_cons (gs_cons (gs_nil)))) ?_
      refine dss_cons ?_ ?_
      · refine ds_if (dt_not (dt_truth (de_call (c__law_is_set.up (by decide)) hgd hr (by rfl) T.g__law_is_set T.F__law_is_set.kp (T.F__law_is_set.binds (ps := ["value", "signs"]) fun _ _ _ _ _ _ us hl => match us, hl with | [_, _], _ => rfl) rfl (dr_cons (de_var (pv 7)) (dr_cons (de_var (pv 2)) (dr_nil)))))) ?_ ?_
        · refine dss_one ?_
          exact ds_ret (de_tup (da_cons (de_str) (da_cons (de_var (pv 4)) (da_cons (de_var (pv 6)) (da_nil)))))
        · exact dss_nil
      refine dss_one ?_
      refine ds_if (DW.dt (dw_and (dt_cp (cd_gt hu) (de_var (pv 6)) (de_int)) (dw_and1 (dt_not (dt_cp (cd_lt hu) (de_ix (de_var (pv 5)) (de_sub (de_var (pv 6)) (de_int))) (de_var (pv 7))))))) ?_ ?_
      · refine dss_one ?_
        exact ds_ret (de_tup (da_cons (de_str) (da_cons (de_var (pv 4)) (da_cons (de_var (pv 6)) (da_nil)))))
      · exact dss_nil
    refine dss_one ?_
    exact ds_ret (de_non)) hf
theorem st__law_bent_detector (T : Tops P K mg) {f__law_take : Fn} {f__law_one : Fn} {f__law_mixed : Fn} (c__law_take : FnG P w K mg base CX0 1 T.a__law_take T.d__law_take ["mill", "many"] (spD K 2 f__law_take)) (c__law_one : FnG P w K mg base CX0 2 T.a__law_one T.d__law_one ["mill", "some"] (spD K 2 f__law_one)) (c__law_mixed : FnG P w K mg base CX0 2 T.a__law_mixed T.d__law_mixed ["mill", "some"] (spD K 2 f__law_mixed)) {f : Fn} (hf : ∀ as n P, as.length = 2 → f as n P → rd__law_bent_detector f__law_take f__law_one f__law_mixed ⟨fun _ m => P .none m, P, fun _ _ => False, fun _ _ => False⟩ (startD ["mill", "detector", "signs", "ends", "way", "s", "some", "k", "fresh", "own", "turned"] as) n) : FnG P w K mg base CX0 3 T.a__law_bent_detector T.d__law_bent_detector ["mill", "detector"] (spD K 2 f) :=
  dfn T.F__law_bent_detector sc__law_bent_detector rfl (fun cdv A outer s H E hgd hr => by
    have hu5 := hu5_of hr
    have hu := hu_of5 hu5
    have nd := sc__law_bent_detector.nd
    refine dss_cons ?_ ?_
    · exact ds_asg (fun _ h => ps_asg h (pg_tup rfl (pgs_cons (pg_name (i := 2) nd rfl (by first | exact .inl rfl | exact .inr rfl)) (pgs_cons (pg_name (i := 3) nd rfl (by first | exact .inl rfl | exact .inr rfl)) (pgs_nil))))) (gs_tup (gs_cons (gs_cons (gs_nil)))) (de_var (pv 1))
    refine dss_cons ?_ ?_
    · exact ds_par (i := 4) (j := 5) (fun _ h => ps_par rfl nd rfl rfl (by decide) rfl rfl h (by rfl)) (da_cons (de_call (c__law_take.up (by decide)) hgd hr (by rfl) T.g__law_take T.F__law_take.kp (T.F__law_take.binds (ps := ["mill", "many"]) fun _ _ _ _ _ _ us hl => match us, hl with | [_, _], _ => rfl) rfl (dr_rl (pv 0) (dr_cons (de_int) (dr_nil)))) (da_cons (de_call (c__law_take.up (by decide)) hgd hr (by rfl) T.g__law_take T.F__law_take.kp (T.F__law_take.binds (ps := ["mill", "many"]) fun _ _ _ _ _ _ us hl => match us, hl with | [_, _], _ => rfl) rfl (dr_rl (pv 0) (dr_cons (de_len (by rfl) T.z_len (de_var (pv 3))) (dr_nil)))) (da_nil)))
    refine dss_cons ?_ ?_
    · exact ds_set (i := 6) (fun _ h => ps_set (i := 6) nd rfl (.inl rfl) h) (de_ix (de_var (pv 3)) (de_var (pv 5)))
    refine dss_cons ?_ ?_
    · exact ds_set (i := 7) (fun _ h => ps_set (i := 7) nd rfl (.inl rfl) h) (de_call (c__law_take.up (by decide)) hgd hr (by rfl) T.g__law_take T.F__law_take.kp (T.F__law_take.binds (ps := ["mill", "many"]) fun _ _ _ _ _ _ us hl => match us, hl with | [_, _], _ => rfl) rfl (dr_rl (pv 0) (dr_cons (de_len (by rfl) T.z_len (de_var (pv 6))) (dr_nil))))
    refine dss_cons ?_ ?_
    · exact ds_set (i := 8) (fun _ h => ps_set (i := 8) nd rfl (.inl rfl) h) (DL.DL.de (dl_lst (da_cons (de_tup (da_cons (de_var (pv 2)) (da_nil))) (da_cons (de_tup (da_cons (de_neg (de_int)) (da_nil))) (da_cons (de_tup (da_nil)) (da_cons (DL.DL.de (dl_lst (da_cons (de_int) (da_nil)))) (da_cons (de_tup (da_cons (de_int) (da_cons (de_int) (da_nil)))) (da_cons (de_tup (da_cons (de_bl) (da_nil))) (da_cons (de_tup (da_cons (de_sub (de_var (pv 2)) (de_int)) (da_cons (de_int) (da_nil)))) (da_cons (de_add (de_ix (de_var (pv 6)) (de_var (pv 7))) (de_tup (da_cons (de_var (pv 2)) (da_nil)))) (da_cons (de_backT (de_ix (de_var (pv 6)) (de_var (pv 7)))) (da_cons (de_non) (da_cons (de_int) (da_nil))))))))))))))
    refine dss_cons ?_ ?_
    · exact ds_set (i := 9) (fun _ h => ps_set (i := 9) nd rfl (.inl rfl) h) (de_call (c__law_one.up (by decide)) hgd hr (by rfl) T.g__law_one T.F__law_one.kp (T.F__law_one.binds (ps := ["mill", "some"]) fun _ _ _ _ _ _ us hl => match us, hl with | [_, _], _ => rfl) rfl (dr_rl (pv 0) (dr_cons (de_add (de_var (pv 8)) (DL.DL.de (dl_lst (da_cons (DL.DL.de (dl_list (by rfl) T.z_list (de_ix (de_var (pv 6)) (de_var (pv 7))))) (da_cons (de_tup (da_cons (de_str) (da_nil))) (da_cons (de_tup (da_cons (de_int) (da_cons (de_non) (da_nil)))) (da_cons (de_add (de_ix (de_var (pv 6)) (de_var (pv 7))) (de_ix (de_var (pv 6)) (de_var (pv 7)))) (da_cons (de_tup (da_cons (de_pow (de_int) (de_int)) (da_nil))) (da_nil))))))))) (dr_nil))))
    refine dss_cons ?_ ?_
    · refine ds_if (dt_cp (cd_lt hu) (de_var (pv 4)) (de_int)) ?_ ?_
      · refine dss_one ?_
        exact ds_ret (de_tup (da_cons (de_var (pv 2)) (da_cons (de_add (de_add (de_slice (de_var (pv 3)) (do_none) (do_some (de_var (pv 5)))) (de_tup (da_cons (de_add (de_add (de_slice (de_var (pv 6)) (do_none) (do_some (de_var (pv 7)))) (de_tup (da_cons (de_var (pv 9)) (da_nil)))) (de_slice (de_var (pv 6)) (do_some (de_add (de_var (pv 7)) (de_int))) (do_none))) (da_nil)))) (de_slice (de_var (pv 3)) (do_some (de_add (de_var (pv 5)) (de_int))) (do_none))) (da_nil))))
      · exact dss_nil
    refine dss_cons ?_ ?_
    · refine ds_if (dt_cp (cd_lt hu) (de_var (pv 4)) (de_int)) ?_ ?_
      · refine dss_cons ?_ ?_
        · exact ds_set (i := 10) (fun _ h => ps_set (i := 10) nd rfl (.inl rfl) h) (DL.DL.de (dl_lst (da_cons (de_backT (de_var (pv 6))) (da_cons (de_add (de_var (pv 6)) (de_var (pv 6))) (da_cons (de_repU (de_var (pv 6)) (de_int)) (da_cons (de_tup (da_nil)) (da_cons (de_ix (de_var (pv 6)) (de_var (pv 7))) (da_cons (de_non) (da_cons (DL.DL.de (dl_list (by rfl) T.z_list (de_var (pv 6)))) (da_cons (de_add (de_slice (de_var (pv 6)) (do_none) (do_some (de_var (pv 7)))) (de_tup (da_cons (de_tup (da_cons (de_int) (da_nil))) (da_nil)))) (da_nil)))))))))))
        refine dss_one ?_
        exact ds_ret (de_tup (da_cons (de_var (pv 2)) (da_cons (de_add (de_add (de_slice (de_var (pv 3)) (do_none) (do_some (de_var (pv 5)))) (de_tup (da_cons (de_call (c__law_one.up (by decide)) hgd hr (by rfl) T.g__law_one T.F__law_one.kp (T.F__law_one.binds (ps := ["mill", "some"]) fun _ _ _ _ _ _ us hl => match us, hl with | [_, _], _ => rfl) rfl (dr_rl (pv 0) (dr_cons (de_var (pv 10)) (dr_nil)))) (da_nil)))) (de_slice (de_var (pv 3)) (do_some (de_add (de_var (pv 5)) (de_int))) (do_none))) (da_nil))))
      · exact dss_nil
    refine dss_cons ?_ ?_
    · refine ds_if (dt_cp (cd_eq hu) (de_var (pv 4)) (de_int)) ?_ ?_
      · refine dss_one ?_
        exact ds_ret (de_tup (da_cons (de_var (pv 2)) (da_cons (de_call (c__law_one.up (by decide)) hgd hr (by rfl) T.g__law_one T.F__law_one.kp (T.F__law_one.binds (ps := ["mill", "some"]) fun _ _ _ _ _ _ us hl => match us, hl with | [_, _], _ => rfl) rfl (dr_rl (pv 0) (dr_cons (DL.DL.de (dl_lst (da_cons (de_slice (de_var (pv 3)) (do_some (de_int)) (do_none)) (da_cons (de_add (de_var (pv 3)) (de_slice (de_var (pv 3)) (do_none) (do_some (de_int)))) (da_cons (de_tup (da_nil)) (da_cons (DL.DL.de (dl_list (by rfl) T.z_list (de_var (pv 3)))) (da_cons (de_ix (de_var (pv 3)) (de_int)) (da_cons (de_non) (da_nil))))))))) (dr_nil)))) (da_nil))))
      · exact dss_nil
    refine dss_cons ?_ ?_
    · refine ds_if (dt_cp (cd_eq hu) (de_var (pv 4)) (de_int)) ?_ ?_
      · refine dss_one ?_
        exact ds_ret (de_tup (da_cons (de_call (c__law_one.up (by decide)) hgd hr (by rfl) T.g__law_one T.F__law_one.kp (T.F__law_one.binds (ps := ["mill", "some"]) fun _ _ _ _ _ _ us hl => match us, hl with | [_, _], _ => rfl) rfl (dr_rl (pv 0) (dr_cons (DL.DL.de (dl_lst (da_cons (de_int) (da_cons (de_int) (da_cons (de_sub (de_var (pv 2)) (de_int)) (da_cons (de_bl) (da_cons (de_non) (da_cons (de_str) (da_cons (de_neg (de_int)) (da_cons (de_add (de_var (pv 2)) (de_int)) (da_cons (de_tup (da_cons (de_var (pv 2)) (da_nil))) (da_nil)))))))))))) (dr_nil)))) (da_cons (de_var (pv 3)) (da_nil))))
      · exact dss_nil
    refine dss_cons ?_ ?_
    · refine ds_if (dt_cp (cd_eq hu) (de_var (pv 4)) (de_int)) ?_ ?_
      · refine dss_one ?_
        exact ds_ret (de_call (c__law_one.up (by decide)) hgd hr (by rfl) T.g__law_one T.F__law_one.kp (T.F__law_one.binds (ps := ["mill", "some"]) fun _ _ _ _ _ _ us hl => match us, hl with | [_, _], _ => rfl) rfl (dr_rl (pv 0) (dr_cons (DL.DL.de (dl_lst (da_cons (DL.DL.de (dl_lst (da_cons (de_var (pv 2)) (da_cons (de_var (pv 3)) (da_nil))))) (da_cons (de_tup (da_cons (de_var (pv 2)) (da_nil))) (da_cons (de_tup (da_cons (de_var (pv 2)) (da_cons (de_var (pv 3)) (da_cons (de_tup (da_nil)) (da_nil))))) (da_cons (de_var (pv 3)) (da_cons (de_tup (da_cons (de_var (pv 3)) (da_cons (de_var (pv 2)) (da_nil)))) (da_cons (de_add (de_var (pv 1)) (de_tup (da_cons (de_int) (da_nil)))) (da_nil))))))))) (dr_nil))))
      · exact dss_nil
    refine dss_one ?_
    exact ds_ret (de_ifExp (dt_cp (cd_eq hu) (de_var (pv 4)) (de_int)) (de_tup (da_cons (de_var (pv 2)) (da_cons (de_call (c__law_mixed.up (by decide)) hgd hr (by rfl) T.g__law_mixed T.F__law_mixed.kp (T.F__law_mixed.binds (ps := ["mill", "some"]) fun _ _ _ _ _ _ us hl => match us, hl with | [_, _], _ => rfl) rfl (dr_rl (pv 0) (dr_cons (de_var (pv 3)) (dr_nil)))) (da_nil)))) (de_tup (da_cons (de_var (pv 2)) (da_cons (de_tuple (by rfl) T.z_tuple (de_call (c__law_mixed.up (by decide)) hgd hr (by rfl) T.g__law_mixed T.F__law_mixed.kp (T.F__law_mixed.binds (ps := ["mill", "some"]) fun _ _ _ _ _ _ us hl => match us, hl with | [_, _], _ => rfl) rfl (dr_rl (pv 0) (dr_cons (de_var (pv 3)) (dr_nil))))) (da_nil)))))) hf
theorem st__law_known (T : Tops P K mg) {f__law_left : Fn} (c__law_left : FnG P w K mg base CX0 1 T.a__law_left T.d__law_left ["sky", "s"] (spD K 2 f__law_left)) {f : Fn} (hf : ∀ as n P, as.length = 2 → f as n P → rd__law_known f__law_left ⟨fun _ m => P .none m, P, fun _ _ => False, fun _ _ => False⟩ (startD ["word", "sky", "many", "left_v", "s", "own", "i"] as) n) : FnG P w K mg base CX0 2 T.a__law_known T.d__law_known ["word", "sky"] (spD K 2 f) :=
  dfn T.F__law_known sc__law_known rfl (fun cdv A outer s H E hgd hr => by
    have hu5 := hu5_of hr
    have hu := hu_of5 hu5
    have nd := sc__law_known.nd
    refine dss_cons ?_ ?_
    · exact ds_set (i := 2) (fun _ h => ps_set (i := 2) nd rfl (.inl rfl) h) (de_ix (de_var (pv 1)) (de_int))
    refine dss_cons ?_ ?_
    · refine ds_if (dt_cp (cd_eq hu) (de_var (pv 0)) (de_str)) ?_ ?_
      · refine dss_one ?_
        exact ds_ret (DL.DL.de (dl_lst (da_cons (de_str) (da_cons (de_tup (da_cons (de_int) (da_cons (de_repU (de_tup (da_cons (de_tup (da_cons (de_tup (da_cons (de_int) (da_nil))) (da_nil))) (da_nil))) (de_len (by rfl) T.z_len (de_ix (de_var (pv 1)) (de_int)))) (da_nil)))) (da_nil)))))
      · exact dss_nil
    refine dss_cons ?_ ?_
    · exact ds_setLc (i := 3) rfl nd rfl rfl (by rfl) (di_range1 (de_len (by rfl) T.z_len (de_ix (de_var (pv 1)) (de_int))) (by rfl) T.z_range) (own := [("s", 4)]) (blkD (N := ["word", "sky", "many", "left_v", "s", "own", "i"]) (sc := defScope s__law_known) rfl (by decide +kernel) (by decide +kernel) (by decide +kernel) (by decide +kernel)) (fun _ _ _ _ _ => pg_name (i := 4) nd rfl (by first | exact .inl rfl | exact .inr rfl)) (gs_name) (by decide) (fun _ _ _ _ _ => dts_nil) (fun _ _ _ _ _ => de_call (c__law_left.up (by decide)) hgd hr (by rfl) T.g__law_left T.F__law_left.kp (T.F__law_left.binds (ps := ["sky", "s"]) fun _ _ _ _ _ _ us hl => match us, hl with | [_, _], _ => rfl) rfl (dr_cons (de_var (pv 1)) (dr_cons (de_var (pv 4)) (dr_nil))))
    refine dss_frz (i := 3) ?_
    refine dss_cons ?_ ?_
    · refine ds_if (DW.dt (dw_or (dt_cp (cd_notIn hu5) (de_var (pv 0)) (de_tup (da_cons (de_str) (da_cons (de_str) (da_nil))))) (dw_or1 (dt_cp (cd_in hu5) (de_tup (da_nil)) (de_var (pv 3)))))) ?_ ?_
      · refine dss_one ?_
        exact ds_ret (DL.DL.de (dl_lst (da_cons (de_str) (da_nil))))
      · exact dss_nil
    refine dss_cons ?_ ?_
    · refine ds_if (dt_cp (cd_eq hu) (de_var (pv 0)) (de_str)) ?_ ?_
      · refine dss_one ?_
        exact ds_ret (DL.DL.de (dl_lst (da_cons (de_str) (da_cons (de_tup (da_cons (de_var (pv 2)) (da_cons (de_tuple (by rfl) T.z_tuple (DL.DL.de (dl_comp rfl nd (di_seq (de_var (pv 3))) (own := [("own", 5)]) (blkD (N := ["word", "sky", "many", "left_v", "s", "own", "i"]) (sc := defScope s__law_known) rfl (by decide +kernel) (by decide +kernel) (by decide +kernel) (by decide +kernel)) (fun _ _ _ _ _ => pg_name (i := 5) nd rfl (by first | exact .inl rfl | exact .inr rfl)) (gs_name) (by decide) (fun _ _ _ _ _ => dts_nil) (fun _ _ _ _ _ => de_tup (da_cons (de_var (pv 5)) (da_nil)))))) (da_nil)))) (da_nil)))))
      · exact dss_nil
    refine dss_one ?_
    exact ds_ret (DL.DL.de (dl_lst (da_cons (de_str) (da_cons (de_tup (da_cons (de_var (pv 2)) (da_cons (de_tuple (by rfl) T.z_tuple (DL.DL.de (dl_comp rfl nd (di_seq (de_var (pv 3))) (own := [("own", 5)]) (blkD (N := ["word", "sky", "many", "left_v", "s", "own", "i"]) (sc := defScope s__law_known) rfl (by decide +kernel) (by decide +kernel) (by decide +kernel) (by decide +kernel)) (fun _ _ _ _ _ => pg_name (i := 5) nd rfl (by first | exact .inl rfl | exact .inr rfl)) (gs_name) (by decide) (fun _ _ _ _ _ => dts_nil) (fun _ _ _ _ _ => de_tuple (by rfl) T.z_tuple (DL.DL.de (dl_comp rfl nd (di_seq (de_var (pv 5))) (own := [("i", 6)]) (blkD (N := ["word", "sky", "many", "left_v", "s", "own", "i"]) (sc := relS _ (defScope s__law_known)) rfl (by decide +kernel) (by decide +kernel) (by decide +kernel) (by decide +kernel)) (fun _ _ _ _ _ => pg_name (i := 6) nd rfl (by first | exact .inl rfl | exact .inr rfl)) (gs_name) (by decide) (fun _ _ _ _ _ => dts_nil) (fun _ _ _ _ _ => de_tup (da_cons (de_var (pv 6)) (da_nil))))))))) (da_nil)))) (da_nil)))))) hf
theorem st__law_heard (T : Tops P K mg) {f_known_detector : FnX} (c_known_detector : FnG P w K mg base (L2.CX P w) 2 T.a_known_detector T.d_known_detector ["word", "sky"] (spDX K 2 (ct0 "Unfit" T.C_Unfit) f_known_detector)) {f : Fn} (hf : ∀ as n P, as.length = 3 → f as n P → rd__law_heard f_known_detector ⟨fun _ m => P .none m, P, fun _ _ => False, fun _ _ => False⟩ (startD ["word", "sky", "is_named"] as) n) : FnG P w K mg base CX0 3 T.a__law_heard T.d__law_heard ["word", "sky", "is_named"] (spD K 3 f) :=
  dfn T.F__law_heard sc__law_heard rfl (fun cdv A outer s H E hgd hr => by
    have hu5 := hu5_of hr
    have hu := hu_of5 hu5
    have nd := sc__law_heard.nd
    refine dss_one ?_
    refine dst_try0L (C := T.C_Unfit) (ct := (ct0 "Unfit" T.C_Unfit)) (nm := "Unfit") (vs := [.str "unfit"]) (ds := [.str "unfit"]) rfl rfl ct0_inv ⟨by rfl, by decide, .inl T.x_Unfit.gC⟩ T.m_Unfit (fun W pn xe tk hp => ?_) (fun _ _ _ => pa_cons pe_str (pa_nil)) (fun _ => .cons (.str _) (.nil)) (by decide)
    refine dssx_one ?_
    exact dsx_ret (dex_lst (dax_cons (dex_of (de_str)) (dax_cons (dex_if (dt_truth (de_var (pv 2))) (dex_callK0 (c_known_detector.up (by decide)) hgd hr (by rfl) T.g_known_detector T.F_known_detector.kp (kwb (ps := ["word", "sky"]) (ks := ["sky", "word"]) (na := 0) (nb := 2) (perm := [1, 0]) T.F_known_detector (by decide) fun _ _ _ _ _ _ us ws h1 h2 => match us, ws, h1, h2 with | [], [_, _], _, _ => rfl) tk (dk_cons (de_var (pv 1)) (dk_cons (de_var (pv 0)) (dk_nil))) rfl (fun _ us ws h1 h2 => match us, ws, h1, h2 with | [], [_, _], _, _ => rfl)) (dex_call (c_known_detector.up (by decide)) hgd hr (by rfl) T.g_known_detector T.F_known_detector.kp (T.F_known_detector.binds (ps := ["word", "sky"]) fun _ _ _ _ _ _ us hl => match us, hl with | [_, _], _ => rfl) tk rfl (dr_cons (de_var (pv 0)) (dr_cons (de_var (pv 1)) (dr_nil))))) (dax_nil))))) hf
theorem st_law (T : Tops P K mg) {f__law_take f__law_sky f__law_one f__law_drawn_detector f__law_bent_detector f__law_odd f__law_detector_error f_detector_error f__law_known f__law_heard : Fn} (c__law_take : FnG P w K mg base CX0 1 T.a__law_take T.d__law_take ["mill", "many"] (spD K 2 f__law_take)) (c__law_sky : FnG P w K mg base CX0 4 T.a__law_sky T.d__law_sky ["mill", "many", "most"] (spD K 3 f__law_sky)) (c__law_one : FnG P w K mg base CX0 2 T.a__law_one T.d__law_one ["mill", "some"] (spD K 2 f__law_one)) (c__law_drawn_detector : FnG P w K mg base CX0 5 T.a__law_drawn_detector T.d__law_drawn_detector ["mill", "sky", "signs", "most"] (spD K 4 f__law_drawn_detector)) (c__law_bent_detector : FnG P w K mg base CX0 3 T.a__law_bent_detector T.d__law_bent_detector ["mill", "detector"] (spD K 2 f__law_bent_detector)) (c__law_odd : FnG P w K mg base CX0 3 T.a__law_odd T.d__law_odd ["mill"] (spD K 1 f__law_odd)) (c__law_detector_error : FnG P w K mg base CX0 3 T.a__law_detector_error T.d__law_detector_error ["sky", "value"] (spD K 2 f__law_detector_error)) (c_detector_error : FnG P w K mg base CX0 5 T.a_detector_error T.d_detector_error ["sky", "value"] (spD K 2 f_detector_error)) (c__law_known : FnG P w K mg base CX0 2 T.a__law_known T.d__law_known ["word", "sky"] (spD K 2 f__law_known)) (c__law_heard : FnG P w K mg base CX0 3 T.a__law_heard T.d__law_heard ["word", "sky", "is_named"] (spD K 3 f__law_heard)) (c__law_mill : FnG P w K mg base CX0 1 T.a__law_mill T.d__law_mill ["script", "seal"] (spRl2 K)) {fa : Addr} {fd : FuncData} (F : Fun K "law" "law" s_law fa fd) (hf : rd_law f__law_take f__law_sky f__law_one f__law_drawn_detector f__law_bent_detector f__law_odd f__law_detector_error f_detector_error f__law_known f__law_heard ⟨fun _ _ => False, fun d _ => d = .bool true, fun _ _ => False, fun _ _ => False⟩ (none :: some .rl :: List.replicate 14 none) N0) : FnG P w K mg base CX0 6 fa fd ["script"] (spTrue K 63) := by
  refine fnG_of F sc_law (fun vs H Q E h => by obtain ⟨a, ns, rfl, _⟩ := h; rfl) fun cdv A outer s H vs Q E hgd hr h => ?_
  obtain ⟨a, ns, rfl, hS, hlen, kk⟩ := h
  have hu5 := hu5_of hr
  have hu := hu_of5 hu5
  have nd := sc_law.nd
  refine ⟨_, PSs.nox (pss_cons (ps_set (i := 1) nd rfl (.inl rfl) (pg_call (c__law_mill.up (by decide)) hgd hr (by rfl) T.g__law_mill T.F__law_mill.kp (T.F__law_mill.binds (ps := ["script", "seal"]) fun _ _ _ _ _ _ us hl => match us, hl with | [_, _], _ => rfl) pass0 (pa_cons (pv 0) (pa_cons pe_int pa_nil)))) (DSs.run (t := rd_law f__law_take f__law_sky f__law_one f__law_drawn_detector f__law_bent_detector f__law_odd f__law_detector_error f_detector_error f__law_known f__law_heard) ?b)), ?_⟩
  case b =>
    refine dss_cons ?_ ?_
    · refine ds_for PassesOwn.never rfl (di_range1 (de_int) (by rfl) T.z_range) (pg_name (i := 2) nd rfl (by first | exact .inl rfl | exact .inr rfl)) (gs_name) ?_
      refine dss_cons ?_ ?_
      · exact ds_set (i := 3) (fun _ h => ps_set (i := 3) nd rfl (.inl rfl) h) (de_ifExp (dt_cp (cd_eq hu) (de_call (c__law_take.up (by decide)) hgd hr (by rfl) T.g__law_take T.F__law_take.kp (T.F__law_take.binds (ps := ["mill", "many"]) fun _ _ _ _ _ _ us hl => match us, hl with | [_, _], _ => rfl) rfl (dr_rl (pv 1) (dr_cons (de_int) (dr_nil)))) (de_int)) (de_int) (de_int))
      refine dss_cons ?_ ?_
      · exact ds_set (i := 4) (fun _ h => ps_set (i := 4) nd rfl (.inl rfl) h) (de_call (c__law_sky.up (by decide)) hgd hr (by rfl) T.g__law_sky T.F__law_sky.kp (T.F__law_sky.binds (ps := ["mill", "many", "most"]) fun _ _ _ _ _ _ us hl => match us, hl with | [_, _, _], _ => rfl) rfl (dr_rl (pv 1) (dr_cons (de_call (c__law_one.up (by decide)) hgd hr (by rfl) T.g__law_one T.F__law_one.kp (T.F__law_one.binds (ps := ["mill", "some"]) fun _ _ _ _ _ _ us hl => match us, hl with | [_, _], _ => rfl) rfl (dr_rl (pv 1) (dr_cons (DL.DL.de (dl_lst (da_cons (de_int) (da_cons (de_int) (da_cons (de_int) (da_cons (de_int) (da_cons (de_int) (da_cons (de_int) (da_cons (de_int) (da_nil)))))))))) (dr_nil)))) (dr_cons (de_var (pv 3)) (dr_nil)))))
      refine dss_cons ?_ ?_
      · exact ds_par (i := 5) (j := 6) (fun _ h => ps_par rfl nd rfl rfl (by decide) rfl rfl h (by rfl)) (da_cons (de_call (c__law_drawn_detector.up (by decide)) hgd hr (by rfl) T.g__law_drawn_detector T.F__law_drawn_detector.kp (T.F__law_drawn_detector.binds (ps := ["mill", "sky", "signs", "most"]) fun _ _ _ _ _ _ us hl => match us, hl with | [_, _, _, _], _ => rfl) rfl (dr_rl (pv 1) (dr_cons (de_var (pv 4)) (dr_cons (de_add (de_int) (de_call (c__law_take.up (by decide)) hgd hr (by rfl) T.g__law_take T.F__law_take.kp (T.F__law_take.binds (ps := ["mill", "many"]) fun _ _ _ _ _ _ us hl => match us, hl with | [_, _], _ => rfl) rfl (dr_rl (pv 1) (dr_cons (de_int) (dr_nil))))) (dr_cons (de_call (c__law_one.up (by decide)) hgd hr (by rfl) T.g__law_one T.F__law_one.kp (T.F__law_one.binds (ps := ["mill", "some"]) fun _ _ _ _ _ _ us hl => match us, hl with | [_, _], _ => rfl) rfl (dr_rl (pv 1) (dr_cons (DL.DL.de (dl_lst (da_cons (de_int) (da_cons (de_int) (da_cons (de_int) (da_nil)))))) (dr_nil)))) (dr_nil)))))) (da_cons (de_repr hgd hu (by rfl) T.z_repr (de_var (pv 4))) (da_nil)))
      refine dss_cons ?_ ?_
      · exact ds_set (i := 5) (fun _ h => ps_set (i := 5) nd rfl (.inl rfl) h) (de_tup (da_cons (de_ix (de_var (pv 5)) (de_int)) (da_cons (de_tuple (by rfl) T.z_tuple (DL.DL.de (dl_comp rfl nd (di_seq (de_ix (de_var (pv 5)) (de_int))) (own := [("some", 7)]) (blkD (N := ["script", "mill", "turn", "most", "sky", "right", "kept", "some", "bent", "values", "k", "value", "before", "due", "told", "word"]) (sc := defScope s_law) rfl (by decide +kernel) (by decide +kernel) (by decide +kernel) (by decide +kernel)) (fun _ _ _ _ _ => pg_name (i := 7) nd rfl (by first | exact .inl rfl | exact .inr rfl)) (gs_name) (by decide) (fun _ _ _ _ _ => dts_nil) (fun _ _ _ _ _ => de_slice (de_var (pv 7)) (do_none) (do_some (de_int)))))) (da_nil))))
      refine dss_cons ?_ ?_
      · exact ds_set (i := 8) (fun _ h => ps_set (i := 8) nd rfl (.inl rfl) h) (de_call (c__law_bent_detector.up (by decide)) hgd hr (by rfl) T.g__law_bent_detector T.F__law_bent_detector.kp (T.F__law_bent_detector.binds (ps := ["mill", "detector"]) fun _ _ _ _ _ _ us hl => match us, hl with | [_, _], _ => rfl) rfl (dr_rl (pv 1) (dr_cons (de_var (pv 5)) (dr_nil))))
      refine dss_cons ?_ ?_
      · exact ds_setL (i := 9) (fun _ h => ps_set (i := 9) nd rfl (.inl rfl) h) (dl_lst (da_cons (de_var (pv 5)) (da_cons (de_var (pv 8)) (da_cons (de_call (c__law_odd.up (by decide)) hgd hr (by rfl) T.g__law_odd T.F__law_odd.kp (T.F__law_odd.binds (ps := ["mill"]) fun _ _ _ _ _ _ us hl => match us, hl with | [_], _ => rfl) rfl (dr_rl (pv 1) (dr_nil))) (da_cons (de_call (c__law_bent_detector.up (by decide)) hgd hr (by rfl) T.g__law_bent_detector T.F__law_bent_detector.kp (T.F__law_bent_detector.binds (ps := ["mill", "detector"]) fun _ _ _ _ _ _ us hl => match us, hl with | [_, _], _ => rfl) rfl (dr_rl (pv 1) (dr_cons (de_var (pv 5)) (dr_nil)))) (da_cons (de_tup (da_cons (de_ix (de_var (pv 5)) (de_int)) (da_cons (de_call (c__law_odd.up (by decide)) hgd hr (by rfl) T.g__law_odd T.F__law_odd.kp (T.F__law_odd.binds (ps := ["mill"]) fun _ _ _ _ _ _ us hl => match us, hl with | [_], _ => rfl) rfl (dr_rl (pv 1) (dr_nil))) (da_nil)))) (da_nil)))))))
      refine dss_cons ?_ ?_
      · refine ds_if (DW.dt (dw_and (dt_val (de_isi (T := "tuple") (by rfl) T.z_isinstance (de_var (pv 8)) (pe_bltn (by rfl) T.z_tuple (by decide +kernel) rfl))) (dw_and1 (dt_cp (cd_is) (de_call (c__law_detector_error.up (by decide)) hgd hr (by rfl) T.g__law_detector_error T.F__law_detector_error.kp (T.F__law_detector_error.binds (ps := ["sky", "value"]) fun _ _ _ _ _ _ us hl => match us, hl with | [_, _], _ => rfl) rfl (dr_cons (de_var (pv 4)) (dr_cons (de_var (pv 8)) (dr_nil)))) (de_non))))) ?_ ?_
        · refine dss_one ?_
          exact ds_append (i := 9) (pv 9) (de_call (c__law_bent_detector.up (by decide)) hgd hr (by rfl) T.g__law_bent_detector T.F__law_bent_detector.kp (T.F__law_bent_detector.binds (ps := ["mill", "detector"]) fun _ _ _ _ _ _ us hl => match us, hl with | [_, _], _ => rfl) rfl (dr_rl (pv 1) (dr_cons (de_var (pv 8)) (dr_nil)))) (fun hx ha => pe_bm PySem.F.plainAttrs_list PySem.F.slot_list_append PySem.F.type_list_append mt_append hx ha)
        · exact dss_nil
      refine dss_frz (i := 9) ?_
      refine dss_cons ?_ ?_
      · refine ds_for PassesOwn.never rfl (di_enum (by rfl) T.z_enumerate (de_var (pv 9))) (pg_tup rfl (pgs_cons (pg_name (i := 10) nd rfl (by first | exact .inl rfl | exact .inr rfl)) (pgs_cons (pg_name (i := 11) nd rfl (by first | exact .inl rfl | exact .inr rfl)) (pgs_nil)))) (gs_tup (gs_cons (gs_cons (gs_nil)))) ?_
        refine dss_cons ?_ ?_
        · exact ds_par (i := 12) (j := 13) (fun _ h => ps_par rfl nd rfl rfl (by decide) rfl rfl h (by rfl)) (da_cons (de_repr hgd hu (by rfl) T.z_repr (de_var (pv 11))) (da_cons (de_repr hgd hu (by rfl) T.z_repr (de_call (c__law_detector_error.up (by decide)) hgd hr (by rfl) T.g__law_detector_error T.F__law_detector_error.kp (T.F__law_detector_error.binds (ps := ["sky", "value"]) fun _ _ _ _ _ _ us hl => match us, hl with | [_, _], _ => rfl) rfl (dr_cons (de_var (pv 4)) (dr_cons (de_var (pv 11)) (dr_nil))))) (da_nil)))
        refine dss_cons ?_ ?_
        · exact ds_set (i := 14) (fun _ h => ps_set (i := 14) nd rfl (.inl rfl) h) (de_ifExp (dt_cp (cd_eq hu) (de_var (pv 10)) (de_var (pv 2))) (de_callK0 (c_detector_error.up (by decide)) hgd hr (by rfl) T.g_detector_error T.F_detector_error.kp (kwb (ps := ["sky", "value"]) (ks := ["value", "sky"]) (na := 0) (nb := 2) (perm := [1, 0]) T.F_detector_error (by decide) fun _ _ _ _ _ _ us ws h1 h2 => match us, ws, h1, h2 with | [], [_, _], _, _ => rfl) (dk_cons (de_var (pv 11)) (dk_cons (de_var (pv 4)) (dk_nil))) rfl (fun _ us ws h1 h2 => match us, ws, h1, h2 with | [], [_, _], _, _ => rfl)) (de_call (c_detector_error.up (by decide)) hgd hr (by rfl) T.g_detector_error T.F_detector_error.kp (T.F_detector_error.binds (ps := ["sky", "value"]) fun _ _ _ _ _ _ us hl => match us, hl with | [_, _], _ => rfl) rfl (dr_cons (de_var (pv 4)) (dr_cons (de_var (pv 11)) (dr_nil)))))
        refine dss_cons ?_ ?_
        · refine ds_if (DW.dt (dw_or (dt_cp (cd_ne hu) (de_repr hgd hu (by rfl) T.z_repr (de_var (pv 14))) (de_var (pv 13))) (dw_or (dt_cp (cd_ne hu) (de_repr hgd hu (by rfl) T.z_repr (de_var (pv 11))) (de_var (pv 12))) (dw_or1 (dt_cp (cd_ne hu) (de_repr hgd hu (by rfl) T.z_repr (de_var (pv 4))) (de_var (pv 6))))))) ?_ ?_
          · refine dss_one ?_
            exact ds_ret (de_bl)
          · exact dss_nil
        refine dss_one ?_
        refine ds_if (DW.dt (dw_and (dt_cp (cd_lt hu) (de_var (pv 10)) (de_int)) (dw_and1 (dt_cp (cd_ne hu) (de_repr hgd hu (by rfl) T.z_repr (de_call (c_detector_error.up (by decide)) hgd hr (by rfl) T.g_detector_error T.F_detector_error.kp (T.F_detector_error.binds (ps := ["sky", "value"]) fun _ _ _ _ _ _ us hl => match us, hl with | [_, _], _ => rfl) rfl (dr_cons (de_var (pv 4)) (dr_cons (de_var (pv 11)) (dr_nil))))) (de_var (pv 13)))))) ?_ ?_
        · refine dss_one ?_
          exact ds_ret (de_bl)
        · exact dss_nil
      refine dss_one ?_
      refine ds_for PassesOwn.never rfl (di_seq (de_tup (da_cons (de_str) (da_cons (de_str) (da_cons (de_str) (da_cons (de_call (c__law_one.up (by decide)) hgd hr (by rfl) T.g__law_one T.F__law_one.kp (T.F__law_one.binds (ps := ["mill", "some"]) fun _ _ _ _ _ _ us hl => match us, hl with | [_, _], _ => rfl) rfl (dr_rl (pv 1) (dr_cons (DL.DL.de (dl_lst (da_cons (de_str) (da_cons (de_str) (da_cons (de_str) (da_cons (de_str) (da_cons (de_str) (da_nil)))))))) (dr_nil)))) (da_nil))))))) (pg_name (i := 15) nd rfl (by first | exact .inl rfl | exact .inr rfl)) (gs_name) ?_
      refine dss_cons ?_ ?_
      · exact ds_set (i := 13) (fun _ h => ps_set (i := 13) nd rfl (.inl rfl) h) (de_repr hgd hu (by rfl) T.z_repr (de_call (c__law_known.up (by decide)) hgd hr (by rfl) T.g__law_known T.F__law_known.kp (T.F__law_known.binds (ps := ["word", "sky"]) fun _ _ _ _ _ _ us hl => match us, hl with | [_, _], _ => rfl) rfl (dr_cons (de_var (pv 15)) (dr_cons (de_var (pv 4)) (dr_nil)))))
      refine dss_cons ?_ ?_
      · refine ds_if (dt_cp (cd_ne hu) (de_repr hgd hu (by rfl) T.z_repr (DL.DL.de (dl_lst (da_cons (de_call (c__law_heard.up (by decide)) hgd hr (by rfl) T.g__law_heard T.F__law_heard.kp (T.F__law_heard.binds (ps := ["word", "sky", "is_named"]) fun _ _ _ _ _ _ us hl => match us, hl with | [_, _, _], _ => rfl) rfl (dr_cons (de_var (pv 15)) (dr_cons (de_var (pv 4)) (dr_cons (de_bl) (dr_nil))))) (da_cons (de_call (c__law_heard.up (by decide)) hgd hr (by rfl) T.g__law_heard T.F__law_heard.kp (T.F__law_heard.binds (ps := ["word", "sky", "is_named"]) fun _ _ _ _ _ _ us hl => match us, hl with | [_, _, _], _ => rfl) rfl (dr_cons (de_var (pv 15)) (dr_cons (de_var (pv 4)) (dr_cons (de_bl) (dr_nil))))) (da_nil)))))) (de_repr hgd hu (by rfl) T.z_repr (de_rep (DL.DL.de (dl_lst (da_cons (de_call (c__law_known.up (by decide)) hgd hr (by rfl) T.g__law_known T.F__law_known.kp (T.F__law_known.binds (ps := ["word", "sky"]) fun _ _ _ _ _ _ us hl => match us, hl with | [_, _], _ => rfl) rfl (dr_cons (de_var (pv 15)) (dr_cons (de_var (pv 4)) (dr_nil)))) (da_nil)))) (de_int)))) ?_ ?_
        · refine dss_one ?_
          exact ds_ret (de_bl)
        · exact dss_nil
      refine dss_one ?_
      refine ds_if (DW.dt (dw_or (dt_cp (cd_ne hu) (de_repr hgd hu (by rfl) T.z_repr (de_call (c__law_heard.up (by decide)) hgd hr (by rfl) T.g__law_heard T.F__law_heard.kp (T.F__law_heard.binds (ps := ["word", "sky", "is_named"]) fun _ _ _ _ _ _ us hl => match us, hl with | [_, _, _], _ => rfl) rfl (dr_cons (de_var (pv 15)) (dr_cons (de_var (pv 4)) (dr_cons (de_eq hu (de_var (pv 2)) (de_int)) (dr_nil)))))) (de_var (pv 13))) (dw_or1 (dt_cp (cd_ne hu) (de_repr hgd hu (by rfl) T.z_repr (de_var (pv 4))) (de_var (pv 6)))))) ?_ ?_
      · refine dss_one ?_
        exact ds_ret (de_bl)
      · exact dss_nil
    refine dss_one ?_
    exact ds_ret (de_bl)
  exact law_go2 (j := 14) ⟨by decide, by decide⟩ rfl hS hlen hf kk
end
end My
namespace My
open PySem PySem.Spec L2 DL
/-- a number below many, or 0 -/
def fTake : Fn := fun as n P => ∃ many : Int, as = [.rl, .d (.int many)] ∧ many < 1073741824 ∧ 1 ≤ n ∧ ∀ k : Int, 0 ≤ k → (k = 0 ∨ k < many) → P (.int k) (n - 1)
section
variable {P : Program} {w : World} {K : PySem.W.Frag} {mg : Str → Option Value} {base : Heap}
theorem ok_take {f : Addr} {fd : FuncData} (F : Fun K "_law_take" "_law_take" s__law_take f fd) (mint : mg "int" = none) : FnG P w K mg base CX0 1 f fd ["mill", "many"] (spD K 2 fTake) := by
  refine fnG_of F sc__law_take (fun vs H Q E h => spD_len vs H Q E h) fun cdv A outer s H vs Q E hgd hr h => ?_
  obtain ⟨W, n, S0, as, P', e, h1, h2, h3, h4, ⟨many, rfl, hm1, hn, hk⟩, kk⟩ := h
  cases h4 with
  | cons hr1 h4 =>
  cases h4 with
  | cons hd1 h4 =>
  cases h4
  obtain ⟨r, fa, hW, rfl⟩ := hr1
  cases (show DL.Dp K S0 _ (.int many) from hd1)
  obtain ⟨ne, far, flow, turn, er, ef, hpos, hlen, hf0, hf1, ht0, ht1⟩ := h3 r fa hW
  have er : H r = some (.dK (rdic fa flow turn)) := er
  have fin : ∀ (H' : Hp) (k : Int), 0 ≤ k → (k = 0 ∨ k < many) → (∀ b o, H b = some o → b ≠ r → b ≠ fa → H' b = some o) → RillOk H' r fa (n - 1) → Q (.int k) H' := fun H' k k0 k1 hsame hrl => by
    have hne : ∀ b o, S0 b = some o → b ≠ r ∧ b ≠ fa := fun b o e => ⟨fun z => (by rw [h2 b ⟨r, fa, hW, .inl z⟩] at e; cases e), fun z => (by rw [h2 b ⟨r, fa, hW, .inr z⟩] at e; cases e)⟩
    refine kk (.int k) (n - 1) (.int k) H' S0 (hk k k0 k1) (Same.refl _) (fun b o e => ?_) h2 (fun b o e => .inl e) (fun r' f' e => ?_) (fun b o e hw => ?_) (.int k)
    · exact hsame b o (h1 b o e) (hne b o e).1 (hne b o e).2
    · rw [hW] at e; cases e; exact hrl
    · exact hsame b o e (fun z => hw ⟨r, fa, hW, .inl z⟩) fun z => hw ⟨r, fa, hW, .inr z⟩
  have hu := hu_of hr
  have nd := sc__law_take.nd
  have b64 : ∀ x : Int, 0 ≤ x → x < 2 ^ 62 → (-(2 ^ 64) < x ∧ x < 2 ^ 64) := fun x a b => ⟨by omega, by omega⟩
  refine ⟨_, pss_cons (ps_if (pt_cmpR op_lt (pv 1) pe_int (nomark _)) (pss_one (ps_ret pe_int)) pss_nil)
    (pss_cons (ps_if (pt_cmpR (op_neD hr.units) (pe_dget hu (pv 0) pe_str (fun _ _ => rfl)) (pe_lst pa_nil) (nomark _))
      (pss_cons (ps_set (i := 2) nd rfl (.inl rfl) (pe_bm PySem.F.plainAttrs_list PySem.F.slot_list_pop PySem.F.type_list_pop mt_popAt (pe_dget hu (pv 0) pe_str (fun _ _ => rfl)) (pa_cons pe_int pa_nil)))
      (pss_cons (ps_if (pt_cmpR op_ge (pv 2) (pv 1) (nomark _)) (pss_one (ps_expr (pe_bm PySem.F.plainAttrs_list PySem.F.slot_list_insert PySem.F.type_list_insert mt_insert (pe_dget hu (pv 0) pe_str (fun _ _ => rfl)) (pa_cons pe_int (pa_cons (pe_op op_fdiv (pv 2) (pv 1)) pa_nil))))) pss_nil)
      (pss_one (ps_ret (pe_op op_mod (pe_callTy call_int1 (by rfl) mint (by decide +kernel) (pa_cons (pv 2) pa_nil)) (pv 1))))))
      pss_nil)
    (pss_cons (ps_dput hu (pv 0) pe_str (pe_op op_add (pe_dget hu (pv 0) pe_str (fun _ _ => rfl)) pe_int) rfl)
    (pss_cons (ps_set (i := 3) nd rfl (.inl rfl) (pe_op op_mod (pe_callTy call_int1 (by rfl) mint (by decide +kernel) (pa_cons (pe_op op_add (pe_op op_add (pe_op op_mul (pe_dget hu (pv 0) pe_str (fun _ _ => rfl)) pe_int) (pe_op op_mul (pe_dget hu (pv 0) pe_str (fun _ _ => rfl)) pe_int)) pe_int) pa_nil)) pe_int))
    (pss_cons (ps_set (i := 3) nd rfl (.inl rfl) (pe_op op_mod (pe_callTy call_int1 (by rfl) mint (by decide +kernel) (pa_cons (pe_op op_add (pe_op op_mul (pv 3) (pv 3)) (pe_dget hu (pv 0) pe_str (fun _ _ => rfl))) pa_nil)) pe_int))
    (pss_cons (ps_set (i := 3) nd rfl (.inl rfl) (pe_op op_mod (pe_callTy call_int1 (by rfl) mint (by decide +kernel) (pa_cons (pe_op op_add (pe_op op_mul (pv 3) pe_int) (pe_op op_mul (pe_dget hu (pv 0) pe_str (fun _ _ => rfl)) pe_int)) pa_nil)) pe_int))
    (pss_one (ps_ret (pe_op op_mod (pe_callTy call_int1 (by rfl) mint (by decide +kernel) (pa_cons (pe_op op_fdiv (pv 3) pe_int) pa_nil)) (pv 1))))))))), ?_⟩
  -- if many < 2
  refine ⟨.int many, rfl, many, 2, rfl, rfl, _, rfl, ?_⟩
  by_cases hm : many < 2
  · rw [decide_eq_true hm]
    refine iteT ?_
    exact fin _ 0 (by omega) (.inl rfl) (fun b o e _ _ => e) ⟨ne, far, flow, turn, er, ef, hpos, hlen, hf0, hf1, ht0, by omega⟩
  rw [decide_eq_false hm]
  refine iteF ?_
  have hm0 : 0 < many := by omega
  -- if mill["deep"] != []
  refine ⟨.ref r, rfl, r, .ref fa, rfl, .inl ⟨_, kFar, .inl er, rfl, (rd_far _ _ _).symm⟩, Nat.zero_le _, fun p hp => ?_⟩
  have np : ∀ b o, H b = some o → b ≠ p := fun b o e z => by rw [z, hp] at e; cases e
  have ef1 : (upd H p (.lst [])) fa = some (.lst (far.map V.int)) := by rw [upd_ne (np _ _ ef)]; exact ef
  have er1 : (upd H p (.lst [])) r = some (.dK (rdic fa flow turn)) := by rw [upd_ne (np _ _ er)]; exact er
  refine ⟨.list (far.map .int), .list [], D0 K _ _ _ ef1, .lst (SqL.of upd_same) .nil, shaped_ints, by decide, _, rfl, ?_⟩
  rw [eqv_nil]
  have sm1 : ∀ b o, H b = some o → (upd H p (.lst [])) b = some o := fun b o e => by rw [upd_ne (np b o e)]; exact e
  generalize upd H p (.lst []) = H1 at ef1 er1 sm1
  by_cases hfar : far = []
  · subst hfar
    rw [decide_eq_true rfl]
    refine iteF ?_
    refine ⟨.ref r, rfl, r, .int turn, rfl, .inl ⟨_, kTurn, .inl er1, rfl, (rd_turn _ _ _).symm⟩, turn, 1, rfl, rfl, .ref r, rfl, r, _, rfl, .inl ⟨_, kTurn, er1, rfl, rdic_len _ _ _, rfl⟩, ?_⟩
    rw [rp_turn]
    have er2 : (upd H1 r (.dK (rdic fa flow (turn + 1)))) r = some (.dK (rdic fa flow (turn + 1))) := upd_same
    have ef2 : (upd H1 r (.dK (rdic fa flow (turn + 1)))) fa = some (.lst []) := by rw [upd_ne ne.symm]; exact ef1
    have sm2 : ∀ b o, H b = some o → b ≠ r → b ≠ fa → (upd H1 r (.dK (rdic fa flow (turn + 1)))) b = some o := fun b o e n1 _ => by rw [upd_ne n1]; exact sm1 b o e
    generalize upd H1 r (.dK (rdic fa flow (turn + 1))) = H2 at er2 ef2 sm2
    have m1 : (0 : Int) < 4294967279 := by decide
    have m2 : (0 : Int) < 4294967231 := by decide
    have m3 : (0 : Int) < 4294967197 := by decide
    refine ⟨.ref r, rfl, r, .int flow, rfl, .inl ⟨_, kFlow, .inl er2, rfl, (rd_flow _ _ _).symm⟩, _, _, rfl, rfl, .inr ⟨by decide, by decide⟩, .ref r, rfl, r, .int (turn + 1), rfl, .inl ⟨_, kTurn, .inl er2, rfl, (rd_turn _ _ _).symm⟩, _, _, rfl, rfl, .inr ⟨by decide, by decide⟩, _, _, rfl, rfl, _, _, rfl, rfl, .inl ⟨_, rfl, _, _, rfl, rfl, m1, ?_⟩⟩
    have q1 := emod_lt (a := flow * 69621 + (turn + 1) * 40503 + 17) m1
    refine ⟨_, rfl, _, rfl, _, _, rfl, rfl, .inl (b64 _ q1.1 (Int.lt_trans q1.2 (by decide))), .ref r, rfl, r, .int flow, rfl, .inl ⟨_, kFlow, .inl er2, rfl, (rd_flow _ _ _).symm⟩, _, _, rfl, rfl, .inl ⟨_, rfl, _, _, rfl, rfl, m2, ?_⟩⟩
    refine ⟨_, rfl, _, _, rfl, rfl, .inr ⟨by decide, by decide⟩, .ref r, rfl, r, .int (turn + 1), rfl, .inl ⟨_, kTurn, .inl er2, rfl, (rd_turn _ _ _).symm⟩, _, _, rfl, rfl, .inr ⟨by decide, by decide⟩, _, _, rfl, rfl, .inl ⟨_, rfl, _, _, rfl, rfl, m3, ?_⟩⟩
    refine ⟨_, rfl, _, _, rfl, rfl, ⟨by decide, by decide⟩, .inl ⟨_, rfl, _, rfl, _, _, rfl, rfl, hm0, ?_⟩⟩
    exact fin _ _ (emod_lt hm0).1 (.inr (emod_lt hm0).2) sm2 ⟨ne, [], flow, turn + 1, er2, ef2, fun _ z => absurd z (by simp), by simp, hf0, hf1, by omega, by omega⟩
  · rw [decide_eq_false hfar]
    refine iteT ?_
    obtain ⟨d, rest, rfl⟩ : ∃ d rest, far = d :: rest := by
      cases far with
      | nil => exact absurd rfl hfar
      | cons d rest => exact ⟨d, rest, rfl⟩
    have hd0 : 0 ≤ d := hpos d List.mem_cons_self
    have hrest : ∀ x ∈ rest, 0 ≤ x := fun x hx => hpos x (List.mem_cons_of_mem _ hx)
    have hl2 : rest.length + 1 ≤ 64 := hlen
    have q := emod_lt (a := d) hm0
    refine ⟨.ref r, rfl, r, .ref fa, rfl, .inl ⟨_, kFar, .inl er1, rfl, (rd_far _ _ _).symm⟩, .inl ⟨rfl, _, SqL.of ef1⟩, fa, _, 0, 0, .int d, rfl, rfl, ef1, by decide, by decide, ?_, rfl, ?_⟩
    · rw [List.length_map, List.length_cons]; exact seq0 _
    have ef2 : (upd H1 fa (.lst (((d :: rest).map V.int).eraseIdx 0))) fa = some (.lst (rest.map V.int)) := upd_same
    have er2 : (upd H1 fa (.lst (((d :: rest).map V.int).eraseIdx 0))) r = some (.dK (rdic fa flow turn)) := by rw [upd_ne ne]; exact er1
    have sm2 : ∀ b o, H b = some o → b ≠ r → b ≠ fa → (upd H1 fa (.lst (((d :: rest).map V.int).eraseIdx 0))) b = some o := fun b o e _ n2 => by rw [upd_ne n2]; exact sm1 b o e
    generalize upd H1 fa (.lst (((d :: rest).map V.int).eraseIdx 0)) = H2 at ef2 er2 sm2
    refine ⟨.int d, rfl, .int many, rfl, d, many, rfl, rfl, _, rfl, ?_⟩
    by_cases hge : many ≤ d
    · rw [decide_eq_true hge]
      refine iteT ?_
      refine ⟨.ref r, rfl, r, .ref fa, rfl, .inl ⟨_, kFar, .inl er2, rfl, (rd_far _ _ _).symm⟩, .inl ⟨rfl, _, SqL.of ef2⟩, .int d, rfl, .int many, rfl, d, many, rfl, rfl, ⟨hm0, hm1⟩, fa, _, 0, .int (d / many), rfl, rfl, ef2, ?_, by decide, by decide, ?_⟩
      · rw [List.length_map]; exact Nat.lt_of_le_of_lt (Nat.le_trans (Nat.le_succ _) hl2) (by decide)
      refine ⟨.int d, rfl, .inl ⟨d, rfl, .int many, rfl, d, many, rfl, rfl, hm0, ?_⟩⟩
      refine fin _ _ q.1 (.inr q.2) (fun b o e n1 n2 => ?_) ⟨ne, (d / many) :: rest, flow, turn, ?_, upd_same, fun x hx => ?_, hl2, hf0, hf1, ht0, by omega⟩
      · rw [upd_ne n2]; exact sm2 b o e n1 n2
      · rw [upd_ne ne]; exact er2
      · rcases List.mem_cons.mp hx with rfl | hx
        · exact Int.ediv_nonneg hd0 (by omega)
        · exact hrest x hx
    · rw [decide_eq_false hge]
      refine iteF ?_
      refine ⟨.int d, rfl, .inl ⟨d, rfl, .int many, rfl, d, many, rfl, rfl, hm0, ?_⟩⟩
      exact fin _ _ q.1 (.inr q.2) sm2 ⟨ne, rest, flow, turn, er2, ef2, hrest, by omega, hf0, hf1, ht0, by omega⟩
end
end My
/-! mill: the def that makes the drawing dict -/
namespace My
open PySem PySem.Spec L2 DL
def rdA : DTS := sSetL 2 (aSz (aNil))
def rdB : DTS := sFor (iSeq (dL (aScr 0 (oNone) (oSome (dC (.int 60)))))) (gNm 3) (sSeq (sSet 4 (d2 gAdd (d2 gMul (dC (.int 2)) (d1 gAbs (dVar 3))) (d1 gInt (d2 gLt (dVar 3) (dC (.int 0))))))
      (sSeq (sSet 1 (d2 gMod (d1 gInt (d2 gAdd (d2 gAdd (d2 gMul (dVar 1) (dC (.int 48271))) (dVar 4)) (dC (.int 7)))) (dC (.int 4294967291))))
      (sIf (dB (d2 gGe (dVar 4) (d2 gPow (dC (.int 10)) (dC (.int 16))))) (sApp 2 (dVar 4)) (sNext))))
def rdC : DTE := d2 gAdd (dVar 1) (d1 gLen (dL (aScr 0 (oNone) (oSome (dC (.int 60))))))
theorem encC_pos (c : Int) : 0 ≤ 2 * (if c < 0 then -c else c) + (if decide (c < 0) = true then 1 else 0) := by
  by_cases h : c < 0
  · rw [if_pos h, if_pos (decide_eq_true h)]; omega
  · rw [if_neg h, if_neg (by simpa using h)]; omega
theorem cut_int (ns : List Int) (k : Nat) : cutD (intsD ns) none (some (k : Int)) = intsD (ns.take k) := by
  unfold cutD intsD
  rw [List.length_map, HT.sIx_none, HT.sIx_nat, List.drop_zero, Nat.sub_zero, List.map_take]
  by_cases h : k ≤ ns.length
  · rw [Nat.min_eq_left h]
  · rw [Nat.min_eq_right (by omega), List.take_of_length_le (by simp), List.take_of_length_le (by simp; omega)]
theorem mill_math {ns : List Int} (hl : ns.length ≤ 63) {s : Int} (hs : 0 ≤ s ∧ s < 4294967296) : rdA ⟨fun δ n => rdB ⟨fun δ _ => ∃ (flow : Int) (far : List Int) (z y : Option DV), δ = [some (.scr ns), some (.dat (.int flow)), some (.own (intsD far)), z, y] ∧ (0 ≤ flow ∧ flow < 4294967296) ∧ (∀ x ∈ far, 0 ≤ x) ∧ far.length ≤ 64, fun _ _ => False, fun _ _ => False, fun _ _ => False⟩ δ n, fun _ _ => False, fun _ _ => False, fun _ _ => False⟩ [some (.scr ns), some (.dat (.int s)), none, none, none] 0 := by
  simp only [rdA, rdB, x_var0, x_varS, x_own0, x_ownS, x_ixT, x_ixL, x_addI, x_addT, x_addL, x_gI, x_gIC, x_neg, x_abs, x_intI, x_intB, x_lenT, x_lenL, x_tupL, x_tupT, x_rep, x_seq, x_next, x_set, x_setL, x_par, x_asg, x_drop, x_app, x_ext, x_ret, x_retN, x_if, x_frz, x_for, x_bk, x_ct, x_d1, x_d2, x_dC, x_dL, x_tup, x_and, x_or, x_not, x_ife, x_dB, x_dTr, x_dNot, x_dAnd, x_dOr, x_yes, x_aC, x_aN, x_aSz, x_aRg, x_rg1, x_rg2, x_aList, x_aSort, x_aSl, x_dSl, x_aScr, x_scrLen, x_oN, x_oS, x_rN, x_rC, x_rRl, x_call, x_callB, x_callK, x_iSeq, x_iRg1, x_iRg2, x_iEn, x_gNm, x_gTp, x_gC, x_gN, x_gL, x_comp, startD, arD, wipeD, List.map_cons, List.map_nil, List.length_cons, List.length_nil, List.replicate_succ, List.replicate_zero, List.cons_append, List.nil_append, List.set_cons_succ, List.set_cons_zero, List.getElem?_cons_succ, List.getElem?_cons_zero, Option.some.injEq, PyData.int.injEq, PyData.bool.injEq, PyData.tuple.injEq, PyData.list.injEq, DV.dat.injEq, DV.own.injEq, exists_eq_left', exists_eq_left, exists_eq_right, exists_eq_right', exists_and_left, List.cons.injEq, and_true, true_and, atI0, atI1, atI2, atI3, atI4, atI5, Nat.sub_self, Nat.reduceSub, Nat.reduceAdd, Nat.reduceLT, if_true, if_false, Bool.false_eq_true, ↓reduceIte, Nat.zero_add, y_eqI, y_neI, y_neB, y_eqB, y_eqS, y_neS, y_ltI, y_gtI, y_leI, y_geI, y_inR, y_notInR, y_eqR, y_neR, y_lenR, y_tupR, row_tup, row_lst, tup_lst, lst_tup, false_and, and_false, exists_false, false_or, or_false, exists_const, atI_map, Option.map_some, decide_true, decide_false, Bool.not_true, Bool.not_false, eq_self, y_isB, DV.scr.injEq, x_chain, x_tRg, x_parEL, x_parLE, x_parLL, x_gLs, Nat.add_zero, x_par3, x_aSetSort, x_itL, x_itT, x_itR, x_slL, x_slT, x_lsE]
  rw [show ((60 : Int)) = ((60 : Nat) : Int) from rfl, cut_int]
  have hc : (ns.take 60).length ≤ 60 := by rw [List.length_take]; omega
  generalize ns.take 60 = cs at hc
  refine ⟨Nat.zero_le _, ?_⟩
  refine forR_inv (e := PyData.int) (fun r δ m => ∃ (flow : Int) (far : List Int) (z y : Option DV), δ = [some (.scr ns), some (.dat (.int flow)), some (.own (intsD far)), z, y] ∧ (0 ≤ flow ∧ flow < 4294967296) ∧ (∀ x ∈ far, 0 ≤ x) ∧ far.length + r.length ≤ 60) cs _ _ ⟨s, [], none, none, rfl, hs, (fun _ h => nomatch h), by simpa using hc⟩ (fun x r δ m hx hI N hN => ?_) fun δ m hI => ?_
  · obtain ⟨flow, far, z, y, rfl, hf, hp, hn⟩ := hI
    rw [List.length_cons] at hn
    simp only [x_var0, x_varS, x_own0, x_ownS, x_ixT, x_ixL, x_addI, x_addT, x_addL, x_gI, x_gIC, x_neg, x_abs, x_intI, x_intB, x_lenT, x_lenL, x_tupL, x_tupT, x_rep, x_seq, x_next, x_set, x_setL, x_par, x_asg, x_drop, x_app, x_ext, x_ret, x_retN, x_if, x_frz, x_for, x_bk, x_ct, x_d1, x_d2, x_dC, x_dL, x_tup, x_and, x_or, x_not, x_ife, x_dB, x_dTr, x_dNot, x_dAnd, x_dOr, x_yes, x_aC, x_aN, x_aSz, x_aRg, x_rg1, x_rg2, x_aList, x_aSort, x_aSl, x_dSl, x_aScr, x_scrLen, x_oN, x_oS, x_rN, x_rC, x_rRl, x_call, x_callB, x_callK, x_iSeq, x_iRg1, x_iRg2, x_iEn, x_gNm, x_gTp, x_gC, x_gN, x_gL, x_comp, startD, arD, wipeD, List.map_cons, List.map_nil, List.length_cons, List.length_nil, List.replicate_succ, List.replicate_zero, List.cons_append, List.nil_append, List.set_cons_succ, List.set_cons_zero, List.getElem?_cons_succ, List.getElem?_cons_zero, Option.some.injEq, PyData.int.injEq, PyData.bool.injEq, PyData.tuple.injEq, PyData.list.injEq, DV.dat.injEq, DV.own.injEq, exists_eq_left', exists_eq_left, exists_eq_right, exists_eq_right', exists_and_left, List.cons.injEq, and_true, true_and, atI0, atI1, atI2, atI3, atI4, atI5, Nat.sub_self, Nat.reduceSub, Nat.reduceAdd, Nat.reduceLT, if_true, if_false, Bool.false_eq_true, ↓reduceIte, Nat.zero_add, y_eqI, y_neI, y_neB, y_eqB, y_eqS, y_neS, y_ltI, y_gtI, y_leI, y_geI, y_inR, y_notInR, y_eqR, y_neR, y_lenR, y_tupR, row_tup, row_lst, tup_lst, lst_tup, false_and, and_false, exists_false, false_or, or_false, exists_const, atI_map, Option.map_some, decide_true, decide_false, Bool.not_true, Bool.not_false, eq_self, y_isB, DV.scr.injEq, x_chain, x_tRg, x_parEL, x_parLE, x_parLL, x_gLs, Nat.add_zero, x_par3, x_aSetSort, x_itL, x_itT, x_itR, x_slL, x_slT, x_lsE]
    have pos := encC_pos x
    generalize 2 * (if x < 0 then -x else x) + (if decide (x < 0) = true then 1 else 0) = c at *
    have q := emod_lt (a := flow * 48271 + c + 7) (m := 4294967291) (by decide)
    refine ⟨.inl ⟨by decide, by decide⟩, .inr ⟨by decide, by decide⟩, by decide, ⟨by decide, by decide, by decide⟩, ifc (fun _ => ?_) fun _ => ?_⟩
    · refine ⟨smallLt _ (by rw [intsD, List.length_map]; omega), hN _ _ ⟨_, far ++ [c], _, _, by rw [intsD, intsD, List.map_append]; rfl, ⟨q.1, by omega⟩, fun w hw => ?_, by simp; omega⟩⟩
      rcases List.mem_append.mp hw with hw | hw
      · exact hp w hw
      · rw [List.mem_singleton.mp hw]; exact pos
    · exact hN _ _ ⟨_, far, _, _, rfl, ⟨q.1, by omega⟩, hp, by omega⟩
  · obtain ⟨flow, far, z, y, rfl, hf, hp, hn⟩ := hI
    exact ⟨flow, far, z, y, rfl, hf, hp, by simp at hn; omega⟩
section
variable {P : Program} {w : World} {K : PySem.W.Frag} {mg : Str → Option Value} {base : Heap}
theorem ok_mill (T : Tops P K mg) : FnG P w K mg base CX0 1 T.a__law_mill T.d__law_mill ["script", "seal"] (spRl2 K) := by
  refine fnG_of T.F__law_mill sc__law_mill (fun vs H Q E h => by obtain ⟨a, ns, s, rfl, _⟩ := h; rfl) fun cdv A outer s H vs Q E hgd hr h => ?_
  obtain ⟨a, ns, s0, rfl, hs0, hS, hlen, kk⟩ := h
  have hu5 := hu5_of hr
  have hu := hu_of5 hu5
  have nd := sc__law_mill.nd
  refine ⟨_, (PSs.nox (pss_cons (DSt.run (t := rdA) ?a) (pss_cons (DSt.run (t := rdB) ?b) (pss_one (ps_ret (pe_disp (pps_cons pe_str (pv 2) (pps_cons pe_str (DE.run (b := true) (t := rdC) ?c) (pps_cons pe_str pe_int pps_nil))) rfl rfl (by decide) (by decide))))))), ?_⟩
  case a => exact ds_setL (i := 2) (fun _ h => ps_set (i := 2) nd rfl (.inl rfl) h) (dl_lst (da_nil))
  case b =>
    refine ds_for PassesOwn.never rfl (di_seq (DL.DL.de (dl_scrSl (i := 0) (pv 0) (do_none) (do_some (de_int))))) (pg_name (i := 3) nd rfl (by first | exact .inl rfl | exact .inr rfl)) (gs_name) ?_
    refine dss_cons ?_ ?_
    · exact ds_set (i := 4) (fun _ h => ps_set (i := 4) nd rfl (.inl rfl) h) (de_add (de_mul (de_int) (de_abs (by rfl) T.z_abs (de_var (pv 3)))) (de_int1 (by rfl) T.z_int (de_lt hu (de_var (pv 3)) (de_int))))
    refine dss_cons ?_ ?_
    · exact ds_set (i := 1) (fun _ h => ps_set (i := 1) nd rfl (.inl rfl) h) (de_mod (de_int1 (by rfl) T.z_int (de_add (de_add (de_mul (de_var (pv 1)) (de_int)) (de_var (pv 4))) (de_int))) (de_int))
    refine dss_one ?_
    refine ds_if (dt_cp (cd_ge hu) (de_var (pv 4)) (de_pow (de_int) (de_int))) ?_ ?_
    · refine dss_one ?_
      exact ds_append (i := 2) (pv 2) (de_var (pv 4)) (fun hx ha => pe_bm PySem.F.plainAttrs_list PySem.F.slot_list_append PySem.F.type_list_append mt_append hx ha)
    · exact dss_nil
  case c => exact de_add (de_var (pv 1)) (de_len (by rfl) T.z_len (DL.DL.de (dl_scrSl (i := 0) (pv 0) (do_none) (do_some (de_int)))))
  refine lS_two ⟨none, H, H, []⟩ 0 [some (.scr ns), some (.dat (.int s0)), none, none, none] H H (fun δ _ => ∃ (flow : Int) (far : List Int) (z y : Option DV), δ = [some (.scr ns), some (.dat (.int flow)), some (.own (intsD far)), z, y] ∧ (0 ≤ flow ∧ flow < 4294967296) ∧ (∀ x ∈ far, 0 ≤ x) ∧ far.length ≤ 64) rfl (start_scr2 (k := 3) (N := ["script", "seal", "deep", "cell", "own"]) hS rfl) (mill_math hlen hs0) fun δ' m σ' H' S' Vs' hC sr' s1 => ?_
  obtain ⟨flow, far, z, y, rfl, hf, hp, hn⟩ := hC
  refine rl_mk2 (i := 2) rfl sr' (far := far) rfl hp hn (te := rdC) ?_ kk
  simp only [rdC, x_var0, x_varS, x_own0, x_ownS, x_ixT, x_ixL, x_addI, x_addT, x_addL, x_gI, x_gIC, x_neg, x_abs, x_intI, x_intB, x_lenT, x_lenL, x_tupL, x_tupT, x_rep, x_seq, x_next, x_set, x_setL, x_par, x_asg, x_drop, x_app, x_ext, x_ret, x_retN, x_if, x_frz, x_for, x_bk, x_ct, x_d1, x_d2, x_dC, x_dL, x_tup, x_and, x_or, x_not, x_ife, x_dB, x_dTr, x_dNot, x_dAnd, x_dOr, x_yes, x_aC, x_aN, x_aSz, x_aRg, x_rg1, x_rg2, x_aList, x_aSort, x_aSl, x_dSl, x_aScr, x_scrLen, x_oN, x_oS, x_rN, x_rC, x_rRl, x_call, x_callB, x_callK, x_iSeq, x_iRg1, x_iRg2, x_iEn, x_gNm, x_gTp, x_gC, x_gN, x_gL, x_comp, startD, arD, wipeD, List.map_cons, List.map_nil, List.length_cons, List.length_nil, List.replicate_succ, List.replicate_zero, List.cons_append, List.nil_append, List.set_cons_succ, List.set_cons_zero, List.getElem?_cons_succ, List.getElem?_cons_zero, Option.some.injEq, PyData.int.injEq, PyData.bool.injEq, PyData.tuple.injEq, PyData.list.injEq, DV.dat.injEq, DV.own.injEq, exists_eq_left', exists_eq_left, exists_eq_right, exists_eq_right', exists_and_left, List.cons.injEq, and_true, true_and, atI0, atI1, atI2, atI3, atI4, atI5, Nat.sub_self, Nat.reduceSub, Nat.reduceAdd, Nat.reduceLT, if_true, if_false, Bool.false_eq_true, ↓reduceIte, Nat.zero_add, y_eqI, y_neI, y_neB, y_eqB, y_eqS, y_neS, y_ltI, y_gtI, y_leI, y_geI, y_inR, y_notInR, y_eqR, y_neR, y_lenR, y_tupR, row_tup, row_lst, tup_lst, lst_tup, false_and, and_false, exists_false, false_or, or_false, exists_const, atI_map, Option.map_some, decide_true, decide_false, Bool.not_true, Bool.not_false, eq_self, y_isB, DV.scr.injEq, x_chain, x_tRg, x_parEL, x_parLE, x_parLL, x_gLs, Nat.add_zero, x_par3, x_aSetSort, x_itL, x_itT, x_itR, x_slL, x_slT, x_lsE]
  rw [show ((60 : Int)) = ((60 : Nat) : Int) from rfl, cut_int]
  have hc : (ns.take 60).length ≤ 60 := by rw [List.length_take]; omega
  rw [intsD, List.length_map]
  constructor <;> omega
end
end My
/-! what speaks of no program: rows, storms, what can be shown and laid, loops (cut out of KRm, KRw, KRi, KRv, KRz, K8m, KWm) -/
namespace My
open PySem PySem.Spec L2 DL
abbrev Row := List Int
abbrev St := Row × Row
def stD (s : St) : D := .tuple [rowD s.1, rowD s.2]
theorem enc_st : Enc 2 stD := enc_pair enc_row enc_row
structure Sky where
  m : Int
  b : Row
  st : List St
def skyD (s : Sky) : D := .tuple [.int s.m, rowD s.b, .tuple (s.st.map stD)]
structure Ok (s : Sky) : Prop where
  m0 : 0 ≤ s.m
  m1 : s.m ≤ 1000
  b : s.b.length ≤ 1000
  st : s.st.length ≤ 1000
  r1 : ∀ x ∈ s.st, x.1.length ≤ 1000
  r2 : ∀ x ∈ s.st, x.2.length ≤ 1000
theorem atI_mem {α : Type} {xs : List α} {i : Int} {x : α} (h : L2.atI xs i = some x) : x ∈ xs := by
  unfold L2.atI at h
  cases e : L2.ixN xs.length i with
  | none => rw [e] at h; cases h
  | some j => rw [e] at h; exact List.mem_of_getElem? h
theorem tru (b : Bool) {X : Bool → Prop} (h : X b) : (∀ u : Str, PyData.bool b = PyData.str u → u.length ≤ sizeLine) ∧ ∃ k, dTru (.bool b) = some k ∧ X k := ⟨fun u h => (by cases h), b, rfl, h⟩
theorem noList_st (x : St) : noList (stD x) = true := by
  have h : ∀ r : List Int, noListAll (intsD r) = true := fun r => by
    induction r with
    | nil => rfl
    | cons x r ih => show noListAll (.int x :: intsD r) = true; simp [noListAll, noList, ih]
  simp [stD, rowD, noList, noListAll, h]
theorem rgOk6 {many : Int} (h0 : 1 ≤ many) (h1 : many ≤ 6) : RgOk 0 many := ⟨by decide, by decide, by omega, by omega, by omega⟩
theorem rangeD_rng' (n : Int) : rangeD 0 (n - 0).toNat = intsD (rng n) := by rw [Int.sub_zero]; exact rangeD_rng n
/-! ### what can be shown -/
mutual
theorem short_mono {B C : Nat} (h : B ≤ C) : ∀ d : D, PyData.leavesShort B d = true → PyData.leavesShort C d = true
  | .none, _ => by rw [PyData.leavesShort]
  | .bool _, _ => by rw [PyData.leavesShort]
  | .int i, q => by
    rw [PyData.leavesShort] at q ⊢
    exact decide_eq_true (Nat.le_trans (of_decide_eq_true q) h)
  | .str x, q => by rw [PyData.leavesShort] at q ⊢; exact q
  | .list ds, q => by rw [PyData.leavesShort] at q ⊢; exact shorts_mono h ds q
  | .tuple ds, q => by rw [PyData.leavesShort] at q ⊢; exact shorts_mono h ds q
  | .dict ds, q => by rw [PyData.leavesShort] at q ⊢; exact shortk_mono h ds q
theorem shorts_mono {B C : Nat} (h : B ≤ C) : ∀ ds : List D, PyData.leavesShortAll B ds = true → PyData.leavesShortAll C ds = true
  | [], _ => by rw [PyData.leavesShortAll]
  | d :: ds, q => by
    rw [PyData.leavesShortAll, Bool.and_eq_true] at q ⊢
    exact ⟨short_mono h d q.1, shorts_mono h ds q.2⟩
theorem shortk_mono {B C : Nat} (h : B ≤ C) : ∀ ds : List (D × D), PyData.leavesShortKv B ds = true → PyData.leavesShortKv C ds = true
  | [], _ => by rw [PyData.leavesShortKv]
  | (a, b) :: ds, q => by
    rw [PyData.leavesShortKv, Bool.and_eq_true, Bool.and_eq_true] at q ⊢
    exact ⟨⟨short_mono h a q.1.1, short_mono h b q.1.2⟩, shortk_mono h ds q.2⟩
end
structure Shw (m w : Nat) (d : D) : Prop where
  dep : d.depth ≤ m
  wt : d.weight + 1 ≤ w
  short : d.leavesShort 48 = true
  show' : d.showable = true
structure ShwAll (m w : Nat) (ds : List D) : Prop where
  dep : PyData.depthAll ds ≤ m
  wt : PyData.weightAll ds ≤ w
  short : PyData.leavesShortAll 48 ds = true
  show' : PyData.showableAll ds = true
theorem shw_sm {d : D} {m w : Nat} (h : Sm m w d) : Shw m w d := ⟨h.dep, h.wt, short_mono (by decide) d h.short, h.show'⟩
theorem Shw.mono {d : D} {m w m' w' : Nat} (h : Shw m w d) (h1 : m ≤ m') (h2 : w ≤ w') : Shw m' w' d := ⟨Nat.le_trans h.dep h1, Nat.le_trans h.wt h2, h.short, h.show'⟩
theorem ShwAll.nil {m w : Nat} : ShwAll m w [] := ⟨by simp [PyData.depthAll], by simp [PyData.weightAll], rfl, rfl⟩
theorem ShwAll.cons {d : D} {ds : List D} {m w w' : Nat} (h : Shw m w d) (t : ShwAll m w' ds) : ShwAll m (w + w') (d :: ds) := by
  have := h.dep; have := h.wt; have := t.dep; have := t.wt
  refine ⟨by rw [PyData.depthAll]; omega, by rw [PyData.weightAll]; omega, ?_, ?_⟩
  · rw [PyData.leavesShortAll, h.short, t.short]; rfl
  · rw [PyData.showableAll, h.show', t.show']; rfl
theorem ShwAll.of {m w : Nat} : ∀ {ds : List D} {L : Nat}, (∀ d ∈ ds, Shw m w d) → ds.length ≤ L → ShwAll m (L * w) ds
  | [], L, _, _ => .nil
  | d :: ds, 0, _, l => by simp at l
  | d :: ds, L + 1, h, l => by
    have q := ShwAll.cons (h d List.mem_cons_self) (ShwAll.of (L := L) (fun x hx => h x (List.mem_cons_of_mem _ hx)) (by simpa using l))
    exact ⟨q.dep, by have := q.wt; rw [Nat.add_mul]; omega, q.short, q.show'⟩
theorem ShwAll.tup {ds : List D} {m w : Nat} (h : ShwAll m w ds) : Shw (m + 1) (w + 1) (.tuple ds) := by
  have := h.dep; have := h.wt
  exact ⟨by rw [PyData.depth]; omega, by rw [PyData.weight]; omega, by rw [PyData.leavesShort]; exact h.short, by rw [PyData.showable]; exact h.show'⟩
theorem ShwAll.lst {ds : List D} {m w : Nat} (h : ShwAll m w ds) : Shw (m + 1) (w + 1) (.list ds) := by
  have := h.dep; have := h.wt
  exact ⟨by rw [PyData.depth]; omega, by rw [PyData.weight]; omega, by rw [PyData.leavesShort]; exact h.short, by rw [PyData.showable]; exact h.show'⟩
theorem repr_shw {d : D} {m w : Nat} {P : D → Prop} (h : Shw m w d) (hP : P (.str (dshow d))) (hm : m ≤ 60 := by decide) (hw : w ≤ 200000 := by decide) : gRepr d P := by
  refine ⟨h.show', Nat.le_trans h.dep hm, ?_, hP⟩
  have q := PyData.shown_le 48 (by decide) d h.short
  have := h.wt
  rw [sizeLine_eq]
  omega
/-! ### small data -/
structure Vis (d : D) : Prop where
  shw : Shw 20 100000 d
  lay : d.canLay0 = true
theorem lay_mem : ∀ {ds : List D}, PyData.canLayAll0 ds = true → ∀ d ∈ ds, d.canLay0 = true
  | [], _, d, h => by cases h
  | x :: ds, q, d, h => by
    rw [PyData.canLayAll0, Bool.and_eq_true] at q
    rcases List.mem_cons.mp h with rfl | h
    · exact q.1
    · exact lay_mem q.2 d h
theorem lay_all : ∀ {ds : List D}, (∀ d ∈ ds, d.canLay0 = true) → PyData.canLayAll0 ds = true
  | [], _ => by rw [PyData.canLayAll0]
  | x :: ds, h => by rw [PyData.canLayAll0, h x List.mem_cons_self, lay_all fun d hd => h d (List.mem_cons_of_mem _ hd)]; rfl
theorem dep_all : ∀ {ds : List D} {m : Nat}, (∀ d ∈ ds, d.depth ≤ m) → PyData.depthAll ds ≤ m
  | [], m, _ => by rw [PyData.depthAll]; exact Nat.zero_le _
  | x :: ds, m, h => by
    have h1 := h x List.mem_cons_self
    have h2 := dep_all (m := m) fun d hd => h d (List.mem_cons_of_mem _ hd)
    rw [PyData.depthAll]; omega
theorem y_neDn {es : List D} (h : ∀ d ∈ es, Vis d) (P : D → Prop) : gNe (.list es) (.list []) P = P (.bool (!es.isEmpty)) := by
  have sh : SeqAt.shaped (.list es) = true := by
    unfold SeqAt.shaped
    rw [PyData.canLay0, lay_all fun d hd => (h d hd).lay, Bool.true_and, PyData.depth]
    have := dep_all (m := 20) fun d hd => (h d hd).shw.dep
    exact decide_eq_true (by omega)
  have e : PyData.eqv (.list es) (.list []) = es.isEmpty := by
    rw [PyData.eqv]
    cases es with
    | nil => rw [PyData.eqvAll]; rfl
    | cons x r => rw [PyData.eqvAll]; rfl
  show (eqOk _ _ ∧ P (.bool (!PyData.eqv _ _))) = _
  rw [e]
  exact propext ⟨fun z => z.2, fun z => ⟨.inl ⟨sh, by decide +kernel⟩, z⟩⟩
theorem all_len : ∀ {ds : List D} {m w : Nat}, ShwAll m w ds → ds.length ≤ w
  | [], _, _, _ => Nat.zero_le _
  | d :: ds, m, w, h => by
    have q := h.wt
    rw [PyData.weightAll] at q
    have r := all_len (ds := ds) (m := m) (w := w - (d.weight + 1)) ⟨by have := h.dep; rw [PyData.depthAll] at this; omega, by omega, by have := h.short; rw [PyData.leavesShortAll, Bool.and_eq_true] at this; exact this.2, by have := h.show'; rw [PyData.showableAll, Bool.and_eq_true] at this; exact this.2⟩
    rw [List.length_cons]
    omega
theorem all_mem : ∀ {ds : List D} {m w : Nat}, ShwAll m w ds → ∀ d ∈ ds, Shw m w d
  | [], _, _, _, d, h => by cases h
  | x :: ds, m, w, h, d, hd => by
    have q1 := h.dep
    have q2 := h.wt
    have q3 := h.short
    have q4 := h.show'
    rw [PyData.depthAll] at q1
    rw [PyData.weightAll] at q2
    rw [PyData.leavesShortAll, Bool.and_eq_true] at q3
    rw [PyData.showableAll, Bool.and_eq_true] at q4
    rcases List.mem_cons.mp hd with rfl | hd
    · exact ⟨by omega, by omega, q3.1, q4.1⟩
    · exact all_mem (m := m) (w := w) ⟨by omega, by omega, q3.2, q4.2⟩ d hd
theorem shw_tup {ds : List D} {m w : Nat} (h : Shw m w (.tuple ds)) : ShwAll m w ds := by
  have q1 := h.dep
  have q2 := h.wt
  have q3 := h.short
  have q4 := h.show'
  rw [PyData.depth] at q1
  rw [PyData.weight] at q2
  rw [PyData.leavesShort] at q3
  rw [PyData.showable] at q4
  exact ⟨by omega, by omega, q3, q4⟩
theorem vis_len {ds : List D} (h : Vis (.tuple ds)) : ds.length ≤ 100000 := all_len (shw_tup h.shw)
theorem vis_mem {ds : List D} (h : Vis (.tuple ds)) {d : D} (hd : d ∈ ds) : Vis d := ⟨all_mem (shw_tup h.shw) d hd |>.mono (by decide) (Nat.le_refl _), lay_mem (by have := h.lay; rw [PyData.canLay0] at this; exact this) d hd⟩
def whole (d : D) (a b : Int) : Bool := match d with
  | .int i => decide (a ≤ i) && decide (i ≤ b)
  | _ => false
theorem isi {d : D} {T : String} {c : Bool} {P : D → Prop} (h : kitB (tyName d) T = some c) (hP : P (.bool c)) : gIsi T d P := ⟨c, h, hP⟩
def asI (d : D) : Int := match d with
  | .int i => i
  | _ => 0
theorem whole_int {d : D} {a b : Int} (h : whole d a b = true) : d = .int (asI d) ∧ a ≤ asI d ∧ asI d ≤ b := by
  cases d with
  | int i => simpa [whole, asI] using h
  | _ => simp [whole] at h
theorem ints_map : ∀ {ds : List D} {b : Int}, ds.all (fun d => whole d 0 b) = true → ds = intsD (ds.map asI) ∧ ∀ o ∈ ds.map asI, 0 ≤ o ∧ o ≤ b
  | [], _, _ => ⟨rfl, fun o h => by cases h⟩
  | d :: ds, b, h => by
    rw [List.all_cons, Bool.and_eq_true] at h
    obtain ⟨e1, e2, e3⟩ := whole_int h.1
    obtain ⟨i1, i2⟩ := ints_map h.2
    refine ⟨?_, fun o ho => ?_⟩
    · show _ = PyData.int (asI d) :: intsD (ds.map asI)
      rw [← e1, ← i1]
    · rcases List.mem_cons.mp ho with rfl | ho
      · exact ⟨e2, e3⟩
      · exact i2 o ho
theorem compR_eachD {γ : DTG} {u : DTT} {t : DTE} {δ : DS} (f : D → D) {m : Nat} {Q : List D → Nat → Prop} (l : List D) (acc : List D)
    (h : ∀ x ∈ l, ∀ (A : D → Nat → Prop) (B : Nat → Prop), A (f x) m → γ x δ fun δ1 => u δ1 m fun b k => if b = true then t δ1 k A else B k) (q : Q (acc ++ l.map f) m) : compR γ u t δ l acc m Q := by
  have z := compR_each (e := id) f l acc h q
  rw [List.map_id] at z
  exact z
/-! ### ascending -/
def adjB {α : Type} (lt : α → α → Bool) : List α → Bool
  | x :: y :: r => lt x y && adjB lt (y :: r)
  | _ => true
def adjAt {α : Type} (lt : α → α → Bool) (l : List α) (j : Nat) : Bool := match l[j]?, l[j + 1]? with
  | some a, some b => lt a b
  | _, _ => true
theorem adj_all {α : Type} (lt : α → α → Bool) : ∀ l : List α, (List.range (l.length - 1)).all (adjAt lt l) = adjB lt l
  | [] => rfl
  | [_] => rfl
  | x :: y :: r => by
    have ih := adj_all lt (y :: r)
    rw [List.length_cons, Nat.add_sub_cancel] at ih
    rw [List.length_cons, List.length_cons, Nat.add_sub_cancel, List.range_succ_eq_map, List.all_cons, List.all_map, adjB, ← ih]
    rfl
theorem y_lt {α : Type} [DecidableEq α] {e : α → D} {k : Nat} (he : Enc k e) (hk : k ≤ 64) (a b : α) (P : D → Prop) : gLt (e a) (e b) P = P (.bool (ltE e a b)) :=
  propext ⟨fun z => z.2, fun z => ⟨⟨he.al a b, he.nn a, Nat.le_trans (he.shp a).dep hk⟩, z⟩⟩
theorem y_le {α : Type} [DecidableEq α] {e : α → D} {k : Nat} (he : Enc k e) (hk : k ≤ 64) (a b : α) (P : D → Prop) : gLe (e a) (e b) P = P (.bool (!ltE e b a)) :=
  propext ⟨fun z => z.2, fun z => ⟨⟨he.al a b, he.nn a, Nat.le_trans (he.shp a).dep hk⟩, z⟩⟩
/-! ### rows -/
def rowOk (d : D) (m : Int) : Bool := match d with
  | .tuple ds => ds.all (fun d => whole d 0 (m - 1)) && adjB (ltE PyData.int) (ds.map asI)
  | _ => false
theorem rowOk_tup (ds : List D) (m : Int) : rowOk (.tuple ds) m = (ds.all (fun d => whole d 0 (m - 1)) && adjB (ltE PyData.int) (ds.map asI)) := rfl
def isIntD (d : D) : Bool := match d with
  | .int _ => true
  | _ => false
theorem compR_mapD {γ : DTG} {u : DTT} {t : DTE} {δ : DS} (p : D → Bool) (f : D → D) {m : Nat} {Q : List D → Nat → Prop} (l : List D) (acc : List D)
    (h : ∀ x ∈ l, ∀ (A : D → Nat → Prop) (B : Nat → Prop), (p x = true → A (f x) m) → (p x = false → B m) → γ x δ fun δ1 => u δ1 m fun b k => if b = true then t δ1 k A else B k) (q : Q (acc ++ (l.filter p).map f) m) : compR γ u t δ l acc m Q := by
  have z := compR_map (e := id) p f l acc h q
  rw [List.map_id] at z
  exact z
def lateI (p : Int × Int) : Bool := !decide (p.1 < p.2)
theorem adj_zip : ∀ r : Row, decide ((r.zip r.tail).filter lateI = []) = adjB (ltE PyData.int) r
  | [] => rfl
  | [_] => rfl
  | x :: y :: r => by
    have ih := adj_zip (y :: r)
    have e : ltE PyData.int x y = decide (x < y) := PySem.W.dataLt_int x y
    rw [adjB, ← ih, e]
    show decide ((((x, y) :: (y :: r).zip r).filter lateI) = []) = _
    by_cases h : x < y
    · rw [List.filter_cons_of_neg (by simp [lateI, h]), decide_eq_true h, Bool.true_and]
      rfl
    · rw [List.filter_cons_of_pos (by simp [lateI, h]), decide_eq_false h, Bool.false_and]
      simp
def prI (p : Int × Int) : D := .tuple [.int p.1, .int p.2]
theorem cut_one (ds : List D) : cutD ds (some 1) none = ds.tail := by
  cases ds with
  | nil => rfl
  | cons d r =>
    have e1 : HT.sIx (d :: r).length 0 (some 1) = 1 := by
      unfold HT.sIx
      simp only
      rw [if_neg (by decide), List.length_cons]
      omega
    have e2 : HT.sIx (d :: r).length (d :: r).length none = (d :: r).length := rfl
    unfold cutD
    rw [e1, e2, List.drop_succ_cons, List.drop_zero, List.length_cons, Nat.add_sub_cancel, List.take_length]
    rfl
theorem zip_ints (r : Row) : zipD (intsD r) (intsD r).tail = (r.zip r.tail).map prI := by
  have gen : ∀ a b : Row, zipD (intsD a) (intsD b) = (a.zip b).map prI := fun a => by
    induction a with
    | nil => intro b; rfl
    | cons x a ih =>
      intro b
      cases b with
      | nil => rfl
      | cons y b => exact congrArg (_ :: ·) (ih b)
  have e : (intsD r).tail = intsD r.tail := by cases r <;> rfl
  rw [e, gen]
/-! ### the first place of a fault -/
theorem forR_find {α : Type} {e : α → D} (p : α → Bool) (v : α → D) (J : DS → Prop) {γ : DTG} {tb : DTS} {E : DEnds} {n : Nat} : ∀ (l : List α) (δ : DS), J δ →
    (∀ x ∈ l, ∀ δ, J δ → ∀ N : DS → Nat → Prop, (p x = false → ∀ δ2, J δ2 → N δ2 n) → (p x = true → E.rt (v x) n) → γ (e x) δ fun δ1 => tb ⟨N, E.rt, E.nx, N⟩ δ1 n) →
    (∀ x, l.find? p = some x → E.rt (v x) n) → (l.find? p = none → ∀ δ, J δ → E.nx δ n) → forR γ tb E (l.map e) δ n
  | [], δ, j, _, _, miss => by
    rw [List.map_nil, forR]
    exact miss rfl δ j
  | x :: l, δ, j, step, hit, miss => by
    rw [List.map_cons, forR]
    refine step x List.mem_cons_self δ j _ (fun px δ2 j2 => ?_) fun px => hit x (by rw [List.find?_cons, px])
    refine forR_find p v J l δ2 j2 (fun y hy => step y (List.mem_cons_of_mem _ hy)) (fun y hy => hit y (by rw [List.find?_cons, px]; exact hy)) fun hm => miss (by rw [List.find?_cons, px]; exact hm)
theorem enumD_range (ds : List D) : ∀ k : Nat, enumD k ds = (List.range ds.length).map fun j => .tuple [.int ((k + j : Nat) : Int), ds.getD j .none] := by
  induction ds with
  | nil => intro k; rfl
  | cons d ds ih =>
    intro k
    rw [enumD, List.length_cons, List.range_succ_eq_map, List.map_cons, List.map_map, ih (k + 1)]
    congr 1
    refine List.map_congr_left fun j _ => ?_
    show _ = PyData.tuple [.int ((k + (j + 1) : Nat) : Int), (d :: ds).getD (j + 1) .none]
    rw [show k + 1 + j = k + (j + 1) by omega, List.getD_cons_succ]
theorem getD_mem {ds : List D} {j : Nat} (h : j < ds.length) : ds.getD j .none ∈ ds := by
  rw [List.getD_eq_getElem?_getD, List.getElem?_eq_getElem h]
  exact List.getElem_mem h
theorem find_all {p : Nat → Bool} {n j : Nat} (h : (List.range n).find? p = none) (hj : j < n) : p j = false := by
  have := List.find?_eq_none.mp h j (List.mem_range.mpr hj)
  simpa using this
structure Vw (m w : Nat) (d : D) : Prop where
  shw : Shw m w d
  lay : d.canLay0 = true
structure VwA (m w : Nat) (ds : List D) : Prop where
  shw : ShwAll m w ds
  lay : PyData.canLayAll0 ds = true
theorem Vw.mono {m w m' w' : Nat} {d : D} (h : Vw m w d) (h1 : m ≤ m') (h2 : w ≤ w') : Vw m' w' d := ⟨h.shw.mono h1 h2, h.lay⟩
theorem vw_sm {m w : Nat} {d : D} (h : Sm m w d) : Vw m w d := ⟨shw_sm h, h.lay⟩
theorem Vw.vis {m w : Nat} {d : D} (h : Vw m w d) (h1 : m ≤ 20 := by decide) (h2 : w ≤ 100000 := by decide) : Vis d := ⟨h.shw.mono h1 h2, h.lay⟩
theorem VwA.nil {m w : Nat} : VwA m w [] := ⟨ShwAll.nil, rfl⟩
theorem VwA.cons {m w w' : Nat} {d : D} {ds : List D} (h : Vw m w d) (t : VwA m w' ds) : VwA m (w + w') (d :: ds) := ⟨ShwAll.cons h.shw t.shw, by rw [PyData.canLayAll0, h.lay, t.lay]; rfl⟩
theorem VwA.of {m w L : Nat} {ds : List D} (h : ∀ d ∈ ds, Vw m w d) (l : ds.length ≤ L) : VwA m (L * w) ds := ⟨ShwAll.of (fun d hd => (h d hd).shw) l, lay_all fun d hd => (h d hd).lay⟩
theorem VwA.tup {m w : Nat} {ds : List D} (h : VwA m w ds) : Vw (m + 1) (w + 1) (.tuple ds) := ⟨h.shw.tup, by rw [PyData.canLay0]; exact h.lay⟩
theorem VwA.lst {m w : Nat} {ds : List D} (h : VwA m w ds) : Vw (m + 1) (w + 1) (.list ds) := ⟨h.shw.lst, by rw [PyData.canLay0]; exact h.lay⟩
theorem VwA.head {m w : Nat} {d : D} {ds : List D} (h : VwA m w (d :: ds)) : ∃ a b, a + b ≤ w ∧ Vw m a d ∧ VwA m b ds := by
  have q1 := h.shw.dep
  have q2 := h.shw.wt
  have q3 := h.shw.short
  have q4 := h.shw.show'
  have q5 := h.lay
  rw [PyData.depthAll] at q1
  rw [PyData.weightAll] at q2
  rw [PyData.leavesShortAll, Bool.and_eq_true] at q3
  rw [PyData.showableAll, Bool.and_eq_true] at q4
  rw [PyData.canLayAll0, Bool.and_eq_true] at q5
  exact ⟨d.weight + 1, PyData.weightAll ds, by omega, ⟨⟨by omega, Nat.le_refl _, q3.1, q4.1⟩, q5.1⟩, ⟨⟨by omega, Nat.le_refl _, q3.2, q4.2⟩, q5.2⟩⟩
def putL (ds : List D) (k : Nat) (t : D) : List D := ds.take k ++ [t] ++ ds.drop (k + 1)
theorem put_vw {m w' : Nat} {t : D} (ht : Vw m w' t) : ∀ (ds : List D) (k w : Nat), VwA m w ds → VwA m (w' + w) (putL ds k t)
  | [], k, w, h => by
    have e : putL [] k t = [t] := by simp [putL]
    rw [e]
    have q := VwA.cons ht (VwA.nil (m := m) (w := w))
    exact q
  | d :: ds, 0, w, h => by
    obtain ⟨a, b, l, h1, h2⟩ := h.head
    have e : putL (d :: ds) 0 t = t :: ds := by simp [putL]
    rw [e]
    have q := VwA.cons ht h2
    exact ⟨⟨q.shw.dep, by have := q.shw.wt; omega, q.shw.short, q.shw.show'⟩, q.lay⟩
  | d :: ds, k + 1, w, h => by
    obtain ⟨a, b, l, h1, h2⟩ := h.head
    have e : putL (d :: ds) (k + 1) t = d :: putL ds k t := by simp [putL]
    rw [e]
    have q := VwA.cons h1 (put_vw ht ds k b h2)
    exact ⟨⟨q.shw.dep, by have := q.shw.wt; omega, q.shw.short, q.shw.show'⟩, q.lay⟩
theorem vwa_tup {m w : Nat} {ds : List D} (h : Vw m w (.tuple ds)) : VwA m w ds := ⟨shw_tup h.shw, by have := h.lay; rw [PyData.canLay0] at this; exact this⟩
theorem cut_to (ds : List D) (k : Nat) : cutD ds none (some (k : Int)) = ds.take k := by
  have e1 : HT.sIx ds.length 0 none = 0 := rfl
  have e2 : HT.sIx ds.length ds.length (some (k : Int)) = min k ds.length := by
    unfold HT.sIx
    simp only
    rw [if_neg (by omega)]
    omega
  unfold cutD
  rw [e1, e2, List.drop_zero, Nat.sub_zero]
  exact List.take_eq_take_min.symm
theorem cut_from (ds : List D) (k : Nat) : cutD ds (some (k : Int)) none = ds.drop k := by
  have e1 : HT.sIx ds.length 0 (some (k : Int)) = min k ds.length := by
    unfold HT.sIx
    simp only
    rw [if_neg (by omega)]
    omega
  have e2 : HT.sIx ds.length ds.length none = ds.length := rfl
  unfold cutD
  rw [e1, e2, List.take_of_length_le (by rw [List.length_drop]; omega)]
  by_cases h : k ≤ ds.length
  · rw [Nat.min_eq_left h]
  · rw [Nat.min_eq_right (by omega), List.drop_length, List.drop_of_length_le (by omega)]
theorem cv {d : D} (h1 : d.depth ≤ 2 := by decide +kernel) (h2 : d.weight + 1 ≤ 300 := by decide +kernel) (h3 : d.leavesShort 48 = true := by decide +kernel) (h4 : d.showable = true := by decide +kernel) (h5 : d.canLay0 = true := by decide +kernel) : Vw 2 300 d := ⟨⟨h1, h2, h3, h4⟩, h5⟩
theorem cpow40 : CPow 10 40 := by
  unfold CPow
  decide
theorem cpow30 : CPow 10 30 := by
  unfold CPow
  decide
theorem cpow20 : CPow 10 20 := by
  unfold CPow
  decide
/-! ### what an expression gives, without a word about the rest -/
def Gv (t : DTE) (δ : DS) (n : Nat) (d : D) : Prop := ∀ Q : D → Nat → Prop, Q d n → t δ n Q
def Gs (t : DTA) (δ : DS) (n : Nat) (ds : List D) : Prop := ∀ Q : List D → Nat → Prop, Q ds n → t δ n Q
def Go (t : DTO) (δ : DS) (n : Nat) (o : Option Int) : Prop := ∀ Q : Option Int → Nat → Prop, Q o n → t δ n Q
section
variable {t a b : DTE} {ts : DTA} {l h : DTO} {δ : DS} {n i : Nat} {d : D} {ds xs ys : List D} {lo hi : Option Int} {k j : Int}
theorem gv_c : Gv (dC d) δ n d := fun _ q => q
theorem gv_var (e : δ[i]? = some (some (.dat d))) : Gv (dVar i) δ n d := fun _ q => ⟨d, e, q⟩
theorem gs_nil : Gs aNil δ n [] := fun _ q => q
theorem gs_cons (h1 : Gv t δ n d) (h2 : Gs ts δ n ds) : Gs (aCons t ts) δ n (d :: ds) := fun _ q => h1 _ (h2 _ q)
theorem gv_tup (h1 : Gs ts δ n ds) (z : ds.length ≤ sizeLine) : Gv (dTup ts) δ n (.tuple ds) := fun _ q => h1 _ ⟨z, q⟩
theorem gs_sz (h1 : Gs ts δ n ds) (z : ds.length ≤ sizeLine) : Gs (aSz ts) δ n ds := fun _ q => h1 _ ⟨z, q⟩
theorem gv_lst (h1 : Gs ts δ n ds) : Gv (dL ts) δ n (.list ds) := fun _ q => h1 _ q
theorem gv_neg (h1 : Gv a δ n (.int k)) : Gv (d1 gNeg a) δ n (.int (-k)) := fun _ q => h1 _ ⟨k, rfl, q⟩
theorem gv_pow (h1 : Gv a δ n (.int k)) (h2 : Gv b δ n (.int j)) (c : CPow k j) : Gv (d2 gPow a b) δ n (.int (k ^ j.toNat)) := fun _ q => h1 _ (h2 _ ⟨k, j, rfl, rfl, c, q⟩)
theorem gv_addT (h1 : Gv a δ n (.tuple xs)) (h2 : Gv b δ n (.tuple ys)) (z : xs.length + ys.length ≤ sizeLine) : Gv (d2 gAdd a b) δ n (.tuple (xs ++ ys)) := fun _ q => h1 _ (h2 _ ⟨z, q⟩)
theorem gv_addL (h1 : Gv a δ n (.list xs)) (h2 : Gv b δ n (.list ys)) (z : xs.length + ys.length ≤ sizeLine) : Gv (d2 gAdd a b) δ n (.list (xs ++ ys)) := fun _ q => h1 _ (h2 _ ⟨z, q⟩)
theorem gv_addI (h1 : Gv a δ n (.int k)) (h2 : Gv b δ n (.int j)) : Gv (d2 gAdd a b) δ n (.int (k + j)) := fun _ q => h1 _ (h2 _ q)
theorem gv_subI (h1 : Gv a δ n (.int k)) (h2 : Gv b δ n (.int j)) : Gv (d2 gSub a b) δ n (.int (k - j)) := fun _ q => h1 _ (h2 _ ⟨k, j, rfl, rfl, q⟩)
theorem gv_ix (h1 : Gv a δ n (.tuple xs)) (h2 : Gv b δ n (.int k)) (e : atI xs k = some d) : Gv (d2 gIx a b) δ n d := fun _ q => h1 _ (h2 _ ⟨d, e, q⟩)
theorem go_no : Go oNone δ n none := fun _ q => q
theorem go_so (h1 : Gv t δ n (.int k)) : Go (oSome t) δ n (some k) := fun _ q => h1 _ ⟨k, rfl, q⟩
theorem gv_sl (h1 : Gv a δ n (.tuple xs)) (h2 : Go l δ n lo) (h3 : Go h δ n hi) : Gv (dSl a l h) δ n (.tuple (cutD xs lo hi)) := fun _ q => h1 _ (h2 _ (h3 _ q))
theorem gs_list (h1 : Gv a δ n (.tuple xs)) : Gs (aList a) δ n xs := fun _ q => h1 _ ⟨xs, rfl, q⟩
theorem gv_back (h1 : Gv a δ n (.tuple xs)) : Gv (d1 gBack a) δ n (.tuple xs.reverse) := fun _ q => h1 _ q
theorem gv_len (h1 : Gv a δ n (.tuple xs)) : Gv (d1 gLen a) δ n (.int xs.length) := fun _ q => h1 _ q
theorem gv_rep (h1 : Gv a δ n (.tuple xs)) (h2 : Gv b δ n (.int k)) (c : xs ≠ [] ∧ 2 ≤ k ∧ k ≤ 1000 ∧ xs.length ≤ 1000) : Gv (d2 gRepT a b) δ n (.tuple (List.replicate k.toNat xs).flatten) := fun _ q => h1 _ (h2 _ ⟨xs, k, rfl, rfl, c.1, c.2.1, c.2.2.1, c.2.2.2, q⟩)
theorem gv_str (h1 : Gv a δ n (.int k)) (z : k.natAbs.log2 < 1920) : Gv (d1 gStrI a) δ n (.str (toString k)) := fun _ q => h1 _ ⟨k, rfl, z, q⟩
end
theorem sub_len {r : Row} {m : Int} (h : r.Sublist (rng m)) (h0 : 0 ≤ m) (h1 : m ≤ 6) : r.length ≤ 6 := Nat.le_trans h.length_le (by rw [rng_len]; omega)
theorem vw_int {k : Int} (h : k.natAbs < 10 ^ 12) : Vw 2 300 (.int k) := (vw_sm (Sm.int h)).mono (by decide) (by decide)
theorem vw_t {ds : List D} (h : ∀ d ∈ ds, Vw 2 300 d) (l : ds.length ≤ 15) : Vw 5 5000 (.tuple ds) := (VwA.of h l).tup.mono (by decide) (by decide)
theorem vw_l {ds : List D} (h : ∀ d ∈ ds, Vw 2 300 d) (l : ds.length ≤ 15) : Vw 5 5000 (.list ds) := (VwA.of h l).lst.mono (by decide) (by decide)
theorem vw_up {d : D} (h : Vw 2 300 d) : Vw 5 5000 d := h.mono (by decide) (by decide)
theorem app {a b : List D} (h1 : ∀ d ∈ a, Vw 2 300 d) (h2 : ∀ d ∈ b, Vw 2 300 d) : ∀ d ∈ a ++ b, Vw 2 300 d := fun d hd => (List.mem_append.mp hd).elim (h1 d) (h2 d)
theorem one1 {x : D} (h : Vw 2 300 x) : ∀ d ∈ [x], Vw 2 300 d := fun d hd => by rw [List.mem_singleton.mp hd]; exact h
theorem vw_row {r : Row} {m : Int} (h : r.Sublist (rng m)) (h0 : 0 ≤ m) (h1 : m ≤ 6) : Vw 1 247 (rowD r) := by
  have q : SmAll 0 (6 * 41) (intsD r) := SmAll.of' (fun d hd => by
    obtain ⟨o, ho, rfl⟩ := List.mem_map.mp hd
    have := rng_mem.mp (h.subset ho)
    exact Sm.int (by omega)) (by rw [intsD, List.length_map]; exact sub_len h h0 h1)
  exact vw_sm q.tup
theorem vw_st {x : St} {m : Int} (h1 : x.1.Sublist (rng m)) (h2 : x.2.Sublist (rng m)) (m0 : 0 ≤ m) (m1 : m ≤ 6) : VwA 1 494 [rowD x.1, rowD x.2] :=
  VwA.cons (w := 247) (w' := 247) (vw_row h1 m0 m1) (VwA.cons (w' := 0) (vw_row h2 m0 m1) VwA.nil)
theorem VwA.mono {m w m' w' : Nat} {ds : List D} (h : VwA m w ds) (h1 : m ≤ m') (h2 : w ≤ w') : VwA m' w' ds := ⟨⟨Nat.le_trans h.shw.dep h1, Nat.le_trans h.shw.wt h2, h.shw.short, h.shw.show'⟩, h.lay⟩
theorem vwi {o : Int} (h0 : 0 ≤ o) (h1 : o < 8) : Vw 0 4 (.int o) := by
  have h : o = 0 ∨ o = 1 ∨ o = 2 ∨ o = 3 ∨ o = 4 ∨ o = 5 ∨ o = 6 ∨ o = 7 := by omega
  rcases h with e | e | e | e | e | e | e | e <;> rw [e] <;> exact ⟨⟨by decide +kernel, by decide +kernel, by decide +kernel, by decide +kernel⟩, by decide +kernel⟩
theorem vwr {r : Row} {m : Int} (h : r.Sublist (rng m)) (h0 : 0 ≤ m) (h1 : m ≤ 6) : Vw 1 25 (rowD r) := by
  refine (VwA.of (m := 0) (w := 4) (L := 6) (fun d hd => ?_) ?_).tup
  · obtain ⟨o, ho, rfl⟩ := List.mem_map.mp hd
    have := rng_mem.mp (h.subset ho)
    exact vwi this.1 (by omega)
  · rw [intsD, List.length_map]; exact sub_len h h0 h1
theorem cut_mem {L : List D} {lo hi : Option Int} {d : D} (h : d ∈ cutD L lo hi) : d ∈ L := List.mem_of_mem_drop (List.mem_of_mem_take h)
theorem cut_len (L : List D) (lo hi : Option Int) : (cutD L lo hi).length ≤ L.length := by
  unfold cutD
  rw [List.length_take, List.length_drop]
  omega
theorem rep_mem {L : List D} {k : Nat} {d : D} (h : d ∈ (List.replicate k L).flatten) : d ∈ L := by
  obtain ⟨l, hl, h2⟩ := List.mem_flatten.mp h
  rw [(List.mem_replicate.mp hl).2] at h2
  exact h2
theorem rep_len (L : List D) (k : Nat) : (List.replicate k L).flatten.length = k * L.length := by rw [List.length_flatten, List.map_replicate, List.sum_replicate_nat]
theorem vw_of {L xs : List D} {m w N : Nat} (h : ∀ d ∈ L, Vw m w d) (s : ∀ d ∈ xs, d ∈ L) (l : xs.length ≤ N) : VwA m (N * w) xs := VwA.of (fun d hd => h d (s d hd)) l
theorem app_mem {L xs ys : List D} (h1 : ∀ d ∈ xs, d ∈ L) (h2 : ∀ d ∈ ys, d ∈ L) : ∀ d ∈ xs ++ ys, d ∈ L := fun d hd => (List.mem_append.mp hd).elim (h1 d) (h2 d)
theorem sz (k : Nat) (h : k ≤ 1000) : k ≤ sizeLine := small k (Nat.le_trans h (by decide))
theorem vws {x : St} {m : Int} (h1 : x.1.Sublist (rng m)) (h2 : x.2.Sublist (rng m)) (m0 : 0 ≤ m) (m1 : m ≤ 6) : Vw 2 51 (stD x) := (VwA.cons (w' := 25) (vwr h1 m0 m1) (VwA.cons (w' := 0) (vwr h2 m0 m1) VwA.nil)).tup
theorem cut_map {α : Type} (e : α → D) (l : List α) (k : Nat) : cutD (l.map e) none (some (k : Int)) = (l.take k).map e := by
  rw [cut_to, List.map_take]
theorem VwA.app {m : Nat} : ∀ {xs ys : List D} {w w' : Nat}, VwA m w xs → VwA m w' ys → VwA m (w + w') (xs ++ ys)
  | [], ys, w, w', _, h2 => h2.mono (Nat.le_refl _) (by omega)
  | x :: xs, ys, w, w', h1, h2 => by
    obtain ⟨a, b, l, c, d⟩ := h1.head
    have q := VwA.cons c (VwA.app d h2)
    exact q.mono (Nat.le_refl _) (by omega)
theorem y_neLi (l : List Int) (P : D → Prop) : gNe (.list (intsD l)) (.list []) P = P (.bool (!decide (l = []))) := y_neL enc_int l [] P
theorem y_eqLi (l : List Int) (P : D → Prop) : gEq (.list (intsD l)) (.list []) P = P (.bool (decide (l = []))) := y_eqL enc_int l [] P
theorem intsD_len (l : List Int) : (intsD l).length = l.length := by rw [intsD, List.length_map]
theorem erase_map {α β : Type} (f : α → β) : ∀ (l : List α) (k : Nat), (l.map f).eraseIdx k = (l.eraseIdx k).map f
  | [], _ => rfl
  | _ :: _, 0 => rfl
  | x :: l, k + 1 => by rw [List.map_cons, List.eraseIdx_cons_succ, List.eraseIdx_cons_succ, List.map_cons, erase_map f l k]
theorem erase_perm {α : Type} : ∀ (l : List α) (k : Nat) (h : k < l.length), (l[k] :: l.eraseIdx k).Perm l
  | [], _, h => absurd h (Nat.not_lt_zero _)
  | _ :: _, 0, _ => List.Perm.refl _
  | x :: l, k + 1, h => by
    rw [List.eraseIdx_cons_succ, List.getElem_cons_succ]
    exact (List.Perm.swap x _ _).trans ((erase_perm l k (by simpa using h)).cons x)
def ownLen (i : Nat) (δ : DS) : Nat := match δ[i]? with
  | some (some (.own ds)) => ds.length
  | _ => 0
structure GoodW (k : Nat) (s : Sky) : Prop where
  m0 : 1 ≤ s.m
  m1 : s.m ≤ 6
  b : s.b.Sublist (rng s.m)
  pos : 1 ≤ s.st.length
  le : s.st.length ≤ k
  r : ∀ x ∈ s.st, x.1.Sublist (rng s.m) ∧ x.2.Sublist (rng s.m)
  asc : s.st.Pairwise fun x y => ltE stD x y = true
theorem sub_asc {r : Row} {m : Int} (h : r.Sublist (rng m)) : r.Pairwise (· < ·) := (rng_asc m).sublist h
theorem asc_sub {r : Row} {m : Int} (h : r.Pairwise (· < ·)) (hm : ∀ o ∈ r, o ∈ rng m) : r.Sublist (rng m) := by
  have e : (rng m).filter (fun o => decide (o ∈ r)) = r := by
    refine asc_ext (R := (· < ·)) (fun x => Int.lt_irrefl x) (fun x y a b => Int.lt_asymm a b) _ _ ((rng_asc m).filter _) h fun x => ?_
    rw [List.mem_filter, decide_eq_true_iff]
    exact ⟨fun z => z.2, fun z => ⟨hm x z, z⟩⟩
  rw [← e]
  exact List.filter_sublist
theorem GoodW.ok {k : Nat} {s : Sky} (h : GoodW k s) (hk : k ≤ 1000) : Ok s := by
  have m0 := h.m0; have m1 := h.m1; have le := h.le
  refine ⟨by omega, by omega, ?_, by omega, fun x hx => ?_, fun x hx => ?_⟩
  · have := sub_len h.b (by omega) m1; omega
  · have := sub_len (h.r x hx).1 (by omega) m1; omega
  · have := sub_len (h.r x hx).2 (by omega) m1; omega
theorem noList_row (r : Row) : noList (rowD r) = true := kenc_row.nl r
theorem kenc_st : KEnc 2 stD := kenc_row.pair kenc_row (by decide)
theorem set_storms {l : List St} {Q : List D → Prop} (hl : l.length < 64) (q : Q ((onceE stD l).map stD)) :
    (DZ.KeysOk (l.map stD) ∧ ∀ es, DZ.SetSorted (l.map stD) es → Q es) ∨ ∃ ns : List Int, l.map stD = intsD ns ∧ ns.length < 64 ∧ ∀ ms : List Int, ms.Pairwise (· < ·) → (∀ k, k ∈ ms ↔ k ∈ ns) → Q (intsD ms) :=
  setSort_typed kenc_st (fun x => ⟨_, rfl⟩) (Nat.lt_trans hl (by decide)) q
theorem once_pos {α : Type} [DecidableEq α] {m : Nat} {e : α → D} (h : Enc m e) {l : List α} (hl : 1 ≤ l.length) : 1 ≤ (onceE e l).length := by
  cases l with
  | nil => exact absurd hl (by simp)
  | cons x r =>
    have : x ∈ onceE e (x :: r) := ((onceE_asc h (x :: r)).2 x).mpr List.mem_cons_self
    exact List.length_pos_iff.mpr fun z => by rw [z] at this; cases this
def leftM (s : Sky) (x : St) : Row := (rng s.m).filter fun o => !decide (o ∈ x.1)
def firmM (s : Sky) (x : St) : Row := (leftM s x).filter fun o => !decide (o ∈ x.2)
def takenM (b : Row) (x : St) : Row := x.1.filter fun o => decide (o ∈ b)
theorem left_len (s : Sky) (x : St) (h : Ok s) : (leftM s x).length ≤ 1000 := Nat.le_trans (List.length_filter_le _ _) (by rw [rng_len]; have := h.m1; omega)
theorem k_ix0 (s : Sky) (P : D → Prop) : gIx (skyD s) (.int 0) P = P (.int s.m) := by simp only [skyD, x_var0, x_varS, x_own0, x_ownS, x_ixT, x_ixL, x_addI, x_addT, x_addL, x_gI, x_gIC, x_neg, x_abs, x_intI, x_intB, x_lenT, x_lenL, x_tupL, x_tupT, x_rep, x_seq, x_next, x_set, x_setL, x_par, x_asg, x_drop, x_app, x_ext, x_ret, x_retN, x_if, x_frz, x_for, x_bk, x_ct, x_d1, x_d2, x_dC, x_dL, x_tup, x_and, x_or, x_not, x_ife, x_dB, x_dTr, x_dNot, x_dAnd, x_dOr, x_yes, x_aC, x_aN, x_aSz, x_aRg, x_rg1, x_rg2, x_aList, x_aSort, x_aSl, x_dSl, x_aScr, x_scrLen, x_oN, x_oS, x_rN, x_rC, x_rRl, x_call, x_callB, x_callK, x_iSeq, x_iRg1, x_iRg2, x_iEn, x_gNm, x_gTp, x_gC, x_gN, x_gL, x_comp, startD, arD, wipeD, List.map_cons, List.map_nil, List.length_cons, List.length_nil, List.replicate_succ, List.replicate_zero, List.cons_append, List.nil_append, List.set_cons_succ, List.set_cons_zero, List.getElem?_cons_succ, List.getElem?_cons_zero, Option.some.injEq, PyData.int.injEq, PyData.bool.injEq, PyData.tuple.injEq, PyData.list.injEq, DV.dat.injEq, DV.own.injEq, exists_eq_left', exists_eq_left, exists_eq_right, exists_eq_right', exists_and_left, List.cons.injEq, and_true, true_and, atI0, atI1, atI2, atI3, atI4, atI5, Nat.sub_self, Nat.reduceSub, Nat.reduceAdd, Nat.reduceLT, if_true, if_false, Bool.false_eq_true, ↓reduceIte, Nat.zero_add, y_eqI, y_neI, y_neB, y_eqB, y_eqS, y_neS, y_ltI, y_gtI, y_leI, y_geI, y_inR, y_notInR, y_eqR, y_neR, y_lenR, y_tupR, row_tup, row_lst, tup_lst, lst_tup, false_and, and_false, exists_false, false_or, or_false, exists_const, atI_map, Option.map_some, decide_true, decide_false, Bool.not_true, Bool.not_false, eq_self, y_isB, DV.scr.injEq, x_chain, x_tRg, x_parEL, x_parLE, x_parLL, x_gLs, Nat.add_zero, x_par3, x_aSetSort, x_itL, x_itT, x_itR, x_slL, x_slT, x_lsE]
theorem k_ix1 (s : Sky) (P : D → Prop) : gIx (skyD s) (.int 1) P = P (rowD s.b) := by simp only [skyD, x_var0, x_varS, x_own0, x_ownS, x_ixT, x_ixL, x_addI, x_addT, x_addL, x_gI, x_gIC, x_neg, x_abs, x_intI, x_intB, x_lenT, x_lenL, x_tupL, x_tupT, x_rep, x_seq, x_next, x_set, x_setL, x_par, x_asg, x_drop, x_app, x_ext, x_ret, x_retN, x_if, x_frz, x_for, x_bk, x_ct, x_d1, x_d2, x_dC, x_dL, x_tup, x_and, x_or, x_not, x_ife, x_dB, x_dTr, x_dNot, x_dAnd, x_dOr, x_yes, x_aC, x_aN, x_aSz, x_aRg, x_rg1, x_rg2, x_aList, x_aSort, x_aSl, x_dSl, x_aScr, x_scrLen, x_oN, x_oS, x_rN, x_rC, x_rRl, x_call, x_callB, x_callK, x_iSeq, x_iRg1, x_iRg2, x_iEn, x_gNm, x_gTp, x_gC, x_gN, x_gL, x_comp, startD, arD, wipeD, List.map_cons, List.map_nil, List.length_cons, List.length_nil, List.replicate_succ, List.replicate_zero, List.cons_append, List.nil_append, List.set_cons_succ, List.set_cons_zero, List.getElem?_cons_succ, List.getElem?_cons_zero, Option.some.injEq, PyData.int.injEq, PyData.bool.injEq, PyData.tuple.injEq, PyData.list.injEq, DV.dat.injEq, DV.own.injEq, exists_eq_left', exists_eq_left, exists_eq_right, exists_eq_right', exists_and_left, List.cons.injEq, and_true, true_and, atI0, atI1, atI2, atI3, atI4, atI5, Nat.sub_self, Nat.reduceSub, Nat.reduceAdd, Nat.reduceLT, if_true, if_false, Bool.false_eq_true, ↓reduceIte, Nat.zero_add, y_eqI, y_neI, y_neB, y_eqB, y_eqS, y_neS, y_ltI, y_gtI, y_leI, y_geI, y_inR, y_notInR, y_eqR, y_neR, y_lenR, y_tupR, row_tup, row_lst, tup_lst, lst_tup, false_and, and_false, exists_false, false_or, or_false, exists_const, atI_map, Option.map_some, decide_true, decide_false, Bool.not_true, Bool.not_false, eq_self, y_isB, DV.scr.injEq, x_chain, x_tRg, x_parEL, x_parLE, x_parLL, x_gLs, Nat.add_zero, x_par3, x_aSetSort, x_itL, x_itT, x_itR, x_slL, x_slT, x_lsE]
theorem k_ix2 (s : Sky) (P : D → Prop) : gIx (skyD s) (.int 2) P = P (.tuple (s.st.map stD)) := by simp only [skyD, x_var0, x_varS, x_own0, x_ownS, x_ixT, x_ixL, x_addI, x_addT, x_addL, x_gI, x_gIC, x_neg, x_abs, x_intI, x_intB, x_lenT, x_lenL, x_tupL, x_tupT, x_rep, x_seq, x_next, x_set, x_setL, x_par, x_asg, x_drop, x_app, x_ext, x_ret, x_retN, x_if, x_frz, x_for, x_bk, x_ct, x_d1, x_d2, x_dC, x_dL, x_tup, x_and, x_or, x_not, x_ife, x_dB, x_dTr, x_dNot, x_dAnd, x_dOr, x_yes, x_aC, x_aN, x_aSz, x_aRg, x_rg1, x_rg2, x_aList, x_aSort, x_aSl, x_dSl, x_aScr, x_scrLen, x_oN, x_oS, x_rN, x_rC, x_rRl, x_call, x_callB, x_callK, x_iSeq, x_iRg1, x_iRg2, x_iEn, x_gNm, x_gTp, x_gC, x_gN, x_gL, x_comp, startD, arD, wipeD, List.map_cons, List.map_nil, List.length_cons, List.length_nil, List.replicate_succ, List.replicate_zero, List.cons_append, List.nil_append, List.set_cons_succ, List.set_cons_zero, List.getElem?_cons_succ, List.getElem?_cons_zero, Option.some.injEq, PyData.int.injEq, PyData.bool.injEq, PyData.tuple.injEq, PyData.list.injEq, DV.dat.injEq, DV.own.injEq, exists_eq_left', exists_eq_left, exists_eq_right, exists_eq_right', exists_and_left, List.cons.injEq, and_true, true_and, atI0, atI1, atI2, atI3, atI4, atI5, Nat.sub_self, Nat.reduceSub, Nat.reduceAdd, Nat.reduceLT, if_true, if_false, Bool.false_eq_true, ↓reduceIte, Nat.zero_add, y_eqI, y_neI, y_neB, y_eqB, y_eqS, y_neS, y_ltI, y_gtI, y_leI, y_geI, y_inR, y_notInR, y_eqR, y_neR, y_lenR, y_tupR, row_tup, row_lst, tup_lst, lst_tup, false_and, and_false, exists_false, false_or, or_false, exists_const, atI_map, Option.map_some, decide_true, decide_false, Bool.not_true, Bool.not_false, eq_self, y_isB, DV.scr.injEq, x_chain, x_tRg, x_parEL, x_parLE, x_parLL, x_gLs, Nat.add_zero, x_par3, x_aSetSort, x_itL, x_itT, x_itR, x_slL, x_slT, x_lsE]
end My
/-! mirrors of the mill family's own small defs, drawn skies, detectors -/
namespace My
open PySem PySem.Spec L2 DL
theorem perm_map {α β : Type} (f : α → β) {a b : List β} (h : a.Perm b) : ∀ l : List α, b = l.map f → ∃ k : List α, a = k.map f ∧ k.Perm l := by
  induction h with
  | nil => intro l e; cases l with
    | nil => exact ⟨[], rfl, List.Perm.refl _⟩
    | cons x l => cases e
  | cons x _ ih => intro l e; cases l with
    | nil => cases e
    | cons y l =>
      rw [List.map_cons] at e
      injection e with e1 e2
      obtain ⟨k, q1, q2⟩ := ih l e2
      exact ⟨y :: k, by rw [List.map_cons, q1, e1], q2.cons y⟩
  | swap x y r => intro l e; match l, e with
    | a :: b :: l, e =>
      rw [List.map_cons, List.map_cons] at e
      injection e with e1 e2
      injection e2 with e2 e3
      exact ⟨b :: a :: l, by rw [List.map_cons, List.map_cons, e1, e2, e3], List.Perm.swap a b l⟩
    | [_], e => simp at e
    | [], e => simp at e
  | trans _ _ ih1 ih2 =>
    intro l e
    obtain ⟨k, q1, q2⟩ := ih2 l e
    obtain ⟨j, r1, r2⟩ := ih1 k q1
    exact ⟨j, r1, r2.trans q2⟩
def fOne : Fn := fun as n P => ∃ (x : D) (ds : List D), as = [.rl, .d x] ∧ (x = .list ds ∨ x = .tuple ds) ∧ ds ≠ [] ∧ ds.length ≤ 1000 ∧ 1 ≤ n ∧ ∀ d ∈ ds, P d (n - 1)
theorem hf_one (as : List Ar) (n : Nat) (P : D → Nat → Prop) (hl : as.length = 2) (h : fOne as n P) : rd__law_one fTake ⟨fun _ m => P .none m, P, fun _ _ => False, fun _ _ => False⟩ (startD ["mill", "some"] as) n := by
  obtain ⟨x, ds, rfl, hx, h1, h2, h3, hP⟩ := h
  have hp : 0 < ds.length := List.length_pos_iff.mpr h1
  have fin : ∀ k : Int, 0 ≤ k → (k = 0 ∨ k < ds.length) → ∃ d, L2.atI ds k = some d ∧ P d (n - 1) := fun k k0 k1 => by
    obtain ⟨j, rfl⟩ : ∃ j : Nat, k = (j : Int) := ⟨k.toNat, by omega⟩
    have hj : j < ds.length := by omega
    exact ⟨ds[j], by rw [atI_nat']; exact List.getElem?_eq_getElem hj, hP _ (List.getElem_mem hj)⟩
  rcases hx with rfl | rfl
  · simp only [rd__law_one, x_var0, x_varS, x_own0, x_ownS, x_ixT, x_ixL, x_addI, x_addT, x_addL, x_gI, x_gIC, x_neg, x_abs, x_intI, x_intB, x_lenT, x_lenL, x_tupL, x_tupT, x_rep, x_seq, x_next, x_set, x_setL, x_par, x_asg, x_drop, x_app, x_ext, x_ret, x_retN, x_if, x_frz, x_for, x_bk, x_ct, x_d1, x_d2, x_dC, x_dL, x_tup, x_and, x_or, x_not, x_ife, x_dB, x_dTr, x_dNot, x_dAnd, x_dOr, x_yes, x_aC, x_aN, x_aSz, x_aRg, x_rg1, x_rg2, x_aList, x_aSort, x_aSl, x_dSl, x_aScr, x_scrLen, x_oN, x_oS, x_rN, x_rC, x_rRl, x_call, x_callB, x_callK, x_iSeq, x_iRg1, x_iRg2, x_iEn, x_gNm, x_gTp, x_gC, x_gN, x_gL, x_comp, startD, arD, wipeD, List.map_cons, List.map_nil, List.length_cons, List.length_nil, List.replicate_succ, List.replicate_zero, List.cons_append, List.nil_append, List.set_cons_succ, List.set_cons_zero, List.getElem?_cons_succ, List.getElem?_cons_zero, Option.some.injEq, PyData.int.injEq, PyData.bool.injEq, PyData.tuple.injEq, PyData.list.injEq, DV.dat.injEq, DV.own.injEq, exists_eq_left', exists_eq_left, exists_eq_right, exists_eq_right', exists_and_left, List.cons.injEq, and_true, true_and, atI0, atI1, atI2, atI3, atI4, atI5, Nat.sub_self, Nat.reduceSub, Nat.reduceAdd, Nat.reduceLT, if_true, if_false, Bool.false_eq_true, ↓reduceIte, Nat.zero_add, y_eqI, y_neI, y_neB, y_eqB, y_eqS, y_neS, y_ltI, y_gtI, y_leI, y_geI, y_inR, y_notInR, y_eqR, y_neR, y_lenR, y_tupR, row_tup, row_lst, tup_lst, lst_tup, false_and, and_false, exists_false, false_or, or_false, exists_const, atI_map, Option.map_some, decide_true, decide_false, Bool.not_true, Bool.not_false, eq_self, y_isB, DV.scr.injEq, x_chain, x_tRg, x_parEL, x_parLE, x_parLL, x_gLs, Nat.add_zero, x_par3, x_aSetSort, x_itL, x_itT, x_itR, x_slL, x_slT, x_lsE]
    exact ⟨ds.length, rfl, by omega, h3, fun k k0 k1 => fin k k0 k1⟩
  · simp only [rd__law_one, x_var0, x_varS, x_own0, x_ownS, x_ixT, x_ixL, x_addI, x_addT, x_addL, x_gI, x_gIC, x_neg, x_abs, x_intI, x_intB, x_lenT, x_lenL, x_tupL, x_tupT, x_rep, x_seq, x_next, x_set, x_setL, x_par, x_asg, x_drop, x_app, x_ext, x_ret, x_retN, x_if, x_frz, x_for, x_bk, x_ct, x_d1, x_d2, x_dC, x_dL, x_tup, x_and, x_or, x_not, x_ife, x_dB, x_dTr, x_dNot, x_dAnd, x_dOr, x_yes, x_aC, x_aN, x_aSz, x_aRg, x_rg1, x_rg2, x_aList, x_aSort, x_aSl, x_dSl, x_aScr, x_scrLen, x_oN, x_oS, x_rN, x_rC, x_rRl, x_call, x_callB, x_callK, x_iSeq, x_iRg1, x_iRg2, x_iEn, x_gNm, x_gTp, x_gC, x_gN, x_gL, x_comp, startD, arD, wipeD, List.map_cons, List.map_nil, List.length_cons, List.length_nil, List.replicate_succ, List.replicate_zero, List.cons_append, List.nil_append, List.set_cons_succ, List.set_cons_zero, List.getElem?_cons_succ, List.getElem?_cons_zero, Option.some.injEq, PyData.int.injEq, PyData.bool.injEq, PyData.tuple.injEq, PyData.list.injEq, DV.dat.injEq, DV.own.injEq, exists_eq_left', exists_eq_left, exists_eq_right, exists_eq_right', exists_and_left, List.cons.injEq, and_true, true_and, atI0, atI1, atI2, atI3, atI4, atI5, Nat.sub_self, Nat.reduceSub, Nat.reduceAdd, Nat.reduceLT, if_true, if_false, Bool.false_eq_true, ↓reduceIte, Nat.zero_add, y_eqI, y_neI, y_neB, y_eqB, y_eqS, y_neS, y_ltI, y_gtI, y_leI, y_geI, y_inR, y_notInR, y_eqR, y_neR, y_lenR, y_tupR, row_tup, row_lst, tup_lst, lst_tup, false_and, and_false, exists_false, false_or, or_false, exists_const, atI_map, Option.map_some, decide_true, decide_false, Bool.not_true, Bool.not_false, eq_self, y_isB, DV.scr.injEq, x_chain, x_tRg, x_parEL, x_parLE, x_parLL, x_gLs, Nat.add_zero, x_par3, x_aSetSort, x_itL, x_itT, x_itR, x_slL, x_slT, x_lsE]
    exact ⟨ds.length, rfl, by omega, h3, fun k k0 k1 => fin k k0 k1⟩
def fMix : Fn := fun as n P => ∃ (ds : List D) (c : D), as = [.rl, .d c] ∧ (c = .list ds ∨ c = .tuple ds) ∧ (∀ d ∈ ds, Vis d) ∧ ds.length ≤ 1000 ∧ ds.length ≤ n ∧ ∀ out : List D, out.Perm ds → P (.list out) (n - ds.length)
theorem hf_mixed (as : List Ar) (n : Nat) (P : D → Nat → Prop) (hl : as.length = 2) (h : fMix as n P) : rd__law_mixed fTake ⟨fun _ m => P .none m, P, fun _ _ => False, fun _ _ => False⟩ (startD ["mill", "some", "rest", "found"] as) n := by
  obtain ⟨ds, x, rfl, hx, hv, h1, h2, hP⟩ := h
  have main : ∃ fuel, whR (dB (d2 gNe (dOwn 2) (dL (aSz (aNil))))) (sAppPop 3 2 (dCall fTake (rRl 0 (rCons (d1 gLen (dOwn 2)) (rNil))))) ⟨fun δ m => (sFrz 3 (sRet (dVar 3))) ⟨fun _ m => P .none m, P, fun _ _ => False, fun _ _ => False⟩ δ m, P, fun _ _ => False, fun _ _ => False⟩ fuel [some .rl, some (.dat x), some (.own ds), some (.own [])] n := by
    refine ⟨ds.length + 1, whR_inv (fun δ m => ∃ l f : List D, δ = [some .rl, some (.dat x), some (.own l), some (.own f)] ∧ (∀ d ∈ l, Vis d) ∧ (f ++ l).Perm ds ∧ n = m + f.length) (ownLen 2) (fun δ m hI N hN => ?_) _ _ _ ?_ ⟨ds, [], rfl, hv, List.Perm.refl _, rfl⟩⟩
    · obtain ⟨l, f, rfl, hl, hp, hn⟩ := hI
      have hlen := hp.length_eq
      rw [List.length_append] at hlen
      simp only [x_var0, x_varS, x_own0, x_ownS, x_ixT, x_ixL, x_addI, x_addT, x_addL, x_gI, x_gIC, x_neg, x_abs, x_intI, x_intB, x_lenT, x_lenL, x_tupL, x_tupT, x_rep, x_seq, x_next, x_set, x_setL, x_par, x_asg, x_drop, x_app, x_ext, x_ret, x_retN, x_if, x_frz, x_for, x_bk, x_ct, x_d1, x_d2, x_dC, x_dL, x_tup, x_and, x_or, x_not, x_ife, x_dB, x_dTr, x_dNot, x_dAnd, x_dOr, x_yes, x_aC, x_aN, x_aSz, x_aRg, x_rg1, x_rg2, x_aList, x_aSort, x_aSl, x_dSl, x_aScr, x_scrLen, x_oN, x_oS, x_rN, x_rC, x_rRl, x_call, x_callB, x_callK, x_iSeq, x_iRg1, x_iRg2, x_iEn, x_gNm, x_gTp, x_gC, x_gN, x_gL, x_comp, startD, arD, wipeD, List.map_cons, List.map_nil, List.length_cons, List.length_nil, List.replicate_succ, List.replicate_zero, List.cons_append, List.nil_append, List.set_cons_succ, List.set_cons_zero, List.getElem?_cons_succ, List.getElem?_cons_zero, Option.some.injEq, PyData.int.injEq, PyData.bool.injEq, PyData.tuple.injEq, PyData.list.injEq, DV.dat.injEq, DV.own.injEq, exists_eq_left', exists_eq_left, exists_eq_right, exists_eq_right', exists_and_left, List.cons.injEq, and_true, true_and, atI0, atI1, atI2, atI3, atI4, atI5, Nat.sub_self, Nat.reduceSub, Nat.reduceAdd, Nat.reduceLT, if_true, if_false, Bool.false_eq_true, ↓reduceIte, Nat.zero_add, y_eqI, y_neI, y_neB, y_eqB, y_eqS, y_neS, y_ltI, y_gtI, y_leI, y_geI, y_inR, y_notInR, y_eqR, y_neR, y_lenR, y_tupR, row_tup, row_lst, tup_lst, lst_tup, false_and, and_false, exists_false, false_or, or_false, exists_const, atI_map, Option.map_some, decide_true, decide_false, Bool.not_true, Bool.not_false, eq_self, y_isB, DV.scr.injEq, x_chain, x_tRg, x_parEL, x_parLE, x_parLL, x_gLs, Nat.add_zero, x_par3, x_aSetSort, x_itL, x_itT, x_itR, x_slL, x_slT, x_lsE, y_neDn hl]
      refine ⟨Nat.zero_le _, ifc (fun c => ?_) fun c => ?_⟩
      · have c' : l ≠ [] := fun z => by rw [z] at c; cases c
        have hp0 : 0 < l.length := List.length_pos_iff.mpr c'
        refine ⟨f, l, rfl, rfl, by decide, smallLt _ (by omega), ?_⟩
        simp only [x_var0, x_varS, x_own0, x_ownS, x_ixT, x_ixL, x_addI, x_addT, x_addL, x_gI, x_gIC, x_neg, x_abs, x_intI, x_intB, x_lenT, x_lenL, x_tupL, x_tupT, x_rep, x_seq, x_next, x_set, x_setL, x_par, x_asg, x_drop, x_app, x_ext, x_ret, x_retN, x_if, x_frz, x_for, x_bk, x_ct, x_d1, x_d2, x_dC, x_dL, x_tup, x_and, x_or, x_not, x_ife, x_dB, x_dTr, x_dNot, x_dAnd, x_dOr, x_yes, x_aC, x_aN, x_aSz, x_aRg, x_rg1, x_rg2, x_aList, x_aSort, x_aSl, x_dSl, x_aScr, x_scrLen, x_oN, x_oS, x_rN, x_rC, x_rRl, x_call, x_callB, x_callK, x_iSeq, x_iRg1, x_iRg2, x_iEn, x_gNm, x_gTp, x_gC, x_gN, x_gL, x_comp, startD, arD, wipeD, List.map_cons, List.map_nil, List.length_cons, List.length_nil, List.replicate_succ, List.replicate_zero, List.cons_append, List.nil_append, List.set_cons_succ, List.set_cons_zero, List.getElem?_cons_succ, List.getElem?_cons_zero, Option.some.injEq, PyData.int.injEq, PyData.bool.injEq, PyData.tuple.injEq, PyData.list.injEq, DV.dat.injEq, DV.own.injEq, exists_eq_left', exists_eq_left, exists_eq_right, exists_eq_right', exists_and_left, List.cons.injEq, and_true, true_and, atI0, atI1, atI2, atI3, atI4, atI5, Nat.sub_self, Nat.reduceSub, Nat.reduceAdd, Nat.reduceLT, if_true, if_false, Bool.false_eq_true, ↓reduceIte, Nat.zero_add, y_eqI, y_neI, y_neB, y_eqB, y_eqS, y_neS, y_ltI, y_gtI, y_leI, y_geI, y_inR, y_notInR, y_eqR, y_neR, y_lenR, y_tupR, row_tup, row_lst, tup_lst, lst_tup, false_and, and_false, exists_false, false_or, or_false, exists_const, atI_map, Option.map_some, decide_true, decide_false, Bool.not_true, Bool.not_false, eq_self, y_isB, DV.scr.injEq, x_chain, x_tRg, x_parEL, x_parLE, x_parLL, x_gLs, Nat.add_zero, x_par3, x_aSetSort, x_itL, x_itT, x_itR, x_slL, x_slT, x_lsE]
        refine ⟨l.length, rfl, by omega, by omega, fun k k0 k1 => ?_⟩
        obtain ⟨j, rfl⟩ : ∃ j : Nat, k = (j : Int) := ⟨k.toNat, by omega⟩
        have hj : j < l.length := by omega
        refine ⟨j, rfl, by omega, l[j], List.getElem?_eq_getElem hj, hN _ _ ⟨l.eraseIdx j, f ++ [l[j]], rfl, fun d hd => hl d (List.mem_of_mem_eraseIdx hd), ?_, ?_⟩ ?_⟩
        · refine List.Perm.trans ?_ hp
          rw [List.append_assoc]
          exact List.Perm.append_left f (erase_perm l j hj)
        · rw [List.length_append, List.length_singleton]; omega
        · show (l.eraseIdx j).length < l.length
          rw [List.length_eraseIdx, if_pos hj]; omega
      · have c' : l = [] := by
          cases l with
          | nil => rfl
          | cons y l => cases c
        subst c'
        rw [List.append_nil] at hp
        rw [List.length_nil] at hlen
        have e : n - ds.length = m := by omega
        rw [e] at hP
        exact hP f hp
    · show ds.length < ds.length + 1
      omega
  rcases hx with rfl | rfl
  · simp only [rd__law_mixed, x_var0, x_varS, x_own0, x_ownS, x_ixT, x_ixL, x_addI, x_addT, x_addL, x_gI, x_gIC, x_neg, x_abs, x_intI, x_intB, x_lenT, x_lenL, x_tupL, x_tupT, x_rep, x_seq, x_next, x_set, x_setL, x_par, x_asg, x_drop, x_app, x_ext, x_ret, x_retN, x_if, x_frz, x_for, x_bk, x_ct, x_d1, x_d2, x_dC, x_dL, x_tup, x_and, x_or, x_not, x_ife, x_dB, x_dTr, x_dNot, x_dAnd, x_dOr, x_yes, x_aC, x_aN, x_aSz, x_aRg, x_rg1, x_rg2, x_aList, x_aSort, x_aSl, x_dSl, x_aScr, x_scrLen, x_oN, x_oS, x_rN, x_rC, x_rRl, x_call, x_callB, x_callK, x_iSeq, x_iRg1, x_iRg2, x_iEn, x_gNm, x_gTp, x_gC, x_gN, x_gL, x_comp, startD, arD, wipeD, List.map_cons, List.map_nil, List.length_cons, List.length_nil, List.replicate_succ, List.replicate_zero, List.cons_append, List.nil_append, List.set_cons_succ, List.set_cons_zero, List.getElem?_cons_succ, List.getElem?_cons_zero, Option.some.injEq, PyData.int.injEq, PyData.bool.injEq, PyData.tuple.injEq, PyData.list.injEq, DV.dat.injEq, DV.own.injEq, exists_eq_left', exists_eq_left, exists_eq_right, exists_eq_right', exists_and_left, List.cons.injEq, and_true, true_and, atI0, atI1, atI2, atI3, atI4, atI5, Nat.sub_self, Nat.reduceSub, Nat.reduceAdd, Nat.reduceLT, if_true, if_false, Bool.false_eq_true, ↓reduceIte, Nat.zero_add, y_eqI, y_neI, y_neB, y_eqB, y_eqS, y_neS, y_ltI, y_gtI, y_leI, y_geI, y_inR, y_notInR, y_eqR, y_neR, y_lenR, y_tupR, row_tup, row_lst, tup_lst, lst_tup, false_and, and_false, exists_false, false_or, or_false, exists_const, atI_map, Option.map_some, decide_true, decide_false, Bool.not_true, Bool.not_false, eq_self, y_isB, DV.scr.injEq, x_chain, x_tRg, x_parEL, x_parLE, x_parLL, x_gLs, Nat.add_zero, x_par3, x_aSetSort, x_itL, x_itT, x_itR, x_slL, x_slT, x_lsE]
    simp only [x_var0, x_varS, x_own0, x_ownS, x_ixT, x_ixL, x_addI, x_addT, x_addL, x_gI, x_gIC, x_neg, x_abs, x_intI, x_intB, x_lenT, x_lenL, x_tupL, x_tupT, x_rep, x_seq, x_next, x_set, x_setL, x_par, x_asg, x_drop, x_app, x_ext, x_ret, x_retN, x_if, x_frz, x_for, x_bk, x_ct, x_d1, x_d2, x_dC, x_dL, x_tup, x_and, x_or, x_not, x_ife, x_dB, x_dTr, x_dNot, x_dAnd, x_dOr, x_yes, x_aC, x_aN, x_aSz, x_aRg, x_rg1, x_rg2, x_aList, x_aSort, x_aSl, x_dSl, x_aScr, x_scrLen, x_oN, x_oS, x_rN, x_rC, x_rRl, x_call, x_callB, x_callK, x_iSeq, x_iRg1, x_iRg2, x_iEn, x_gNm, x_gTp, x_gC, x_gN, x_gL, x_comp, startD, arD, wipeD, List.map_cons, List.map_nil, List.length_cons, List.length_nil, List.replicate_succ, List.replicate_zero, List.cons_append, List.nil_append, List.set_cons_succ, List.set_cons_zero, List.getElem?_cons_succ, List.getElem?_cons_zero, Option.some.injEq, PyData.int.injEq, PyData.bool.injEq, PyData.tuple.injEq, PyData.list.injEq, DV.dat.injEq, DV.own.injEq, exists_eq_left', exists_eq_left, exists_eq_right, exists_eq_right', exists_and_left, List.cons.injEq, and_true, true_and, atI0, atI1, atI2, atI3, atI4, atI5, Nat.sub_self, Nat.reduceSub, Nat.reduceAdd, Nat.reduceLT, if_true, if_false, Bool.false_eq_true, ↓reduceIte, Nat.zero_add, y_eqI, y_neI, y_neB, y_eqB, y_eqS, y_neS, y_ltI, y_gtI, y_leI, y_geI, y_inR, y_notInR, y_eqR, y_neR, y_lenR, y_tupR, row_tup, row_lst, tup_lst, lst_tup, false_and, and_false, exists_false, false_or, or_false, exists_const, atI_map, Option.map_some, decide_true, decide_false, Bool.not_true, Bool.not_false, eq_self, y_isB, DV.scr.injEq, x_chain, x_tRg, x_parEL, x_parLE, x_parLL, x_gLs, Nat.add_zero, x_par3, x_aSetSort, x_itL, x_itT, x_itR, x_slL, x_slT, x_lsE] at main
    exact ⟨Nat.zero_le _, main⟩
  · simp only [rd__law_mixed, x_var0, x_varS, x_own0, x_ownS, x_ixT, x_ixL, x_addI, x_addT, x_addL, x_gI, x_gIC, x_neg, x_abs, x_intI, x_intB, x_lenT, x_lenL, x_tupL, x_tupT, x_rep, x_seq, x_next, x_set, x_setL, x_par, x_asg, x_drop, x_app, x_ext, x_ret, x_retN, x_if, x_frz, x_for, x_bk, x_ct, x_d1, x_d2, x_dC, x_dL, x_tup, x_and, x_or, x_not, x_ife, x_dB, x_dTr, x_dNot, x_dAnd, x_dOr, x_yes, x_aC, x_aN, x_aSz, x_aRg, x_rg1, x_rg2, x_aList, x_aSort, x_aSl, x_dSl, x_aScr, x_scrLen, x_oN, x_oS, x_rN, x_rC, x_rRl, x_call, x_callB, x_callK, x_iSeq, x_iRg1, x_iRg2, x_iEn, x_gNm, x_gTp, x_gC, x_gN, x_gL, x_comp, startD, arD, wipeD, List.map_cons, List.map_nil, List.length_cons, List.length_nil, List.replicate_succ, List.replicate_zero, List.cons_append, List.nil_append, List.set_cons_succ, List.set_cons_zero, List.getElem?_cons_succ, List.getElem?_cons_zero, Option.some.injEq, PyData.int.injEq, PyData.bool.injEq, PyData.tuple.injEq, PyData.list.injEq, DV.dat.injEq, DV.own.injEq, exists_eq_left', exists_eq_left, exists_eq_right, exists_eq_right', exists_and_left, List.cons.injEq, and_true, true_and, atI0, atI1, atI2, atI3, atI4, atI5, Nat.sub_self, Nat.reduceSub, Nat.reduceAdd, Nat.reduceLT, if_true, if_false, Bool.false_eq_true, ↓reduceIte, Nat.zero_add, y_eqI, y_neI, y_neB, y_eqB, y_eqS, y_neS, y_ltI, y_gtI, y_leI, y_geI, y_inR, y_notInR, y_eqR, y_neR, y_lenR, y_tupR, row_tup, row_lst, tup_lst, lst_tup, false_and, and_false, exists_false, false_or, or_false, exists_const, atI_map, Option.map_some, decide_true, decide_false, Bool.not_true, Bool.not_false, eq_self, y_isB, DV.scr.injEq, x_chain, x_tRg, x_parEL, x_parLE, x_parLL, x_gLs, Nat.add_zero, x_par3, x_aSetSort, x_itL, x_itT, x_itR, x_slL, x_slT, x_lsE]
    simp only [x_var0, x_varS, x_own0, x_ownS, x_ixT, x_ixL, x_addI, x_addT, x_addL, x_gI, x_gIC, x_neg, x_abs, x_intI, x_intB, x_lenT, x_lenL, x_tupL, x_tupT, x_rep, x_seq, x_next, x_set, x_setL, x_par, x_asg, x_drop, x_app, x_ext, x_ret, x_retN, x_if, x_frz, x_for, x_bk, x_ct, x_d1, x_d2, x_dC, x_dL, x_tup, x_and, x_or, x_not, x_ife, x_dB, x_dTr, x_dNot, x_dAnd, x_dOr, x_yes, x_aC, x_aN, x_aSz, x_aRg, x_rg1, x_rg2, x_aList, x_aSort, x_aSl, x_dSl, x_aScr, x_scrLen, x_oN, x_oS, x_rN, x_rC, x_rRl, x_call, x_callB, x_callK, x_iSeq, x_iRg1, x_iRg2, x_iEn, x_gNm, x_gTp, x_gC, x_gN, x_gL, x_comp, startD, arD, wipeD, List.map_cons, List.map_nil, List.length_cons, List.length_nil, List.replicate_succ, List.replicate_zero, List.cons_append, List.nil_append, List.set_cons_succ, List.set_cons_zero, List.getElem?_cons_succ, List.getElem?_cons_zero, Option.some.injEq, PyData.int.injEq, PyData.bool.injEq, PyData.tuple.injEq, PyData.list.injEq, DV.dat.injEq, DV.own.injEq, exists_eq_left', exists_eq_left, exists_eq_right, exists_eq_right', exists_and_left, List.cons.injEq, and_true, true_and, atI0, atI1, atI2, atI3, atI4, atI5, Nat.sub_self, Nat.reduceSub, Nat.reduceAdd, Nat.reduceLT, if_true, if_false, Bool.false_eq_true, ↓reduceIte, Nat.zero_add, y_eqI, y_neI, y_neB, y_eqB, y_eqS, y_neS, y_ltI, y_gtI, y_leI, y_geI, y_inR, y_notInR, y_eqR, y_neR, y_lenR, y_tupR, row_tup, row_lst, tup_lst, lst_tup, false_and, and_false, exists_false, false_or, or_false, exists_const, atI_map, Option.map_some, decide_true, decide_false, Bool.not_true, Bool.not_false, eq_self, y_isB, DV.scr.injEq, x_chain, x_tRg, x_parEL, x_parLE, x_parLL, x_gLs, Nat.add_zero, x_par3, x_aSetSort, x_itL, x_itT, x_itR, x_slL, x_slT, x_lsE] at main
    exact ⟨Nat.zero_le _, main⟩
theorem sortOk_ints (l : List Int) : SortOk (intsD l) := .inl <| .inr fun d hd => by
  obtain ⟨o, _, rfl⟩ := List.mem_map.mp hd
  exact ⟨by simp, by simp⟩
/-- so many of an ascending row -/
def fFew : Fn := fun as n P => ∃ (r : Row) (c : D) (k : Int), as = [.rl, .d c, .d (.int k)] ∧ (c = .list (intsD r) ∨ c = .tuple (intsD r)) ∧ 0 ≤ k ∧ r.Pairwise (· < ·) ∧ (∀ o ∈ r, o.natAbs < 10 ^ 12) ∧ r.length ≤ 1000 ∧ r.length ≤ n ∧ ∀ q : Row, q.Sublist r → q.length = min k.toNat r.length → P (rowD q) (n - r.length)
theorem few_row {r p : Row} (hr : r.Pairwise (· < ·)) (hp : p.Perm r) (k : Nat) : (sortE PyData.int (p.take k)).Sublist r ∧ (sortE PyData.int (p.take k)).length = min k r.length := by
  have nd : (p.take k).Nodup := ((hp.nodup_iff.mpr (hr.imp fun h => Int.ne_of_lt h)).sublist (List.take_sublist _ _))
  have as := sortE_lt enc_int nd
  have as2 : (sortE PyData.int (p.take k)).Pairwise (· < ·) := as.imp fun {a b} h => of_decide_eq_true ((PySem.W.dataLt_int a b).symm.trans h)
  refine ⟨?_, ?_⟩
  · have e : r.filter (fun o => decide (o ∈ sortE PyData.int (p.take k))) = sortE PyData.int (p.take k) := by
      refine asc_ext (R := (· < ·)) (fun x => Int.lt_irrefl x) (fun x y a b => Int.lt_asymm a b) _ _ (hr.filter _) as2 fun x => ?_
      rw [List.mem_filter, decide_eq_true_iff]
      exact ⟨fun z => z.2, fun z => ⟨hp.mem_iff.mp (List.mem_of_mem_take (sortE_mem.mp z)), z⟩⟩
    rw [← e]
    exact List.filter_sublist
  · rw [(sortE_perm (e := PyData.int) _).length_eq, List.length_take, hp.length_eq]
theorem hf_few (as : List Ar) (n : Nat) (P : D → Nat → Prop) (hl : as.length = 3) (h : fFew as n P) : rd__law_few fMix ⟨fun _ m => P .none m, P, fun _ _ => False, fun _ _ => False⟩ (startD ["mill", "some", "many"] as) n := by
  obtain ⟨r, c, k, rfl, hc, k0, hr, hb, h1, h2, hP⟩ := h
  have hlr := intsD_len r
  simp only [rd__law_few, x_var0, x_varS, x_own0, x_ownS, x_ixT, x_ixL, x_addI, x_addT, x_addL, x_gI, x_gIC, x_neg, x_abs, x_intI, x_intB, x_lenT, x_lenL, x_tupL, x_tupT, x_rep, x_seq, x_next, x_set, x_setL, x_par, x_asg, x_drop, x_app, x_ext, x_ret, x_retN, x_if, x_frz, x_for, x_bk, x_ct, x_d1, x_d2, x_dC, x_dL, x_tup, x_and, x_or, x_not, x_ife, x_dB, x_dTr, x_dNot, x_dAnd, x_dOr, x_yes, x_aC, x_aN, x_aSz, x_aRg, x_rg1, x_rg2, x_aList, x_aSort, x_aSl, x_dSl, x_aScr, x_scrLen, x_oN, x_oS, x_rN, x_rC, x_rRl, x_call, x_callB, x_callK, x_iSeq, x_iRg1, x_iRg2, x_iEn, x_gNm, x_gTp, x_gC, x_gN, x_gL, x_comp, startD, arD, wipeD, List.map_cons, List.map_nil, List.length_cons, List.length_nil, List.replicate_succ, List.replicate_zero, List.cons_append, List.nil_append, List.set_cons_succ, List.set_cons_zero, List.getElem?_cons_succ, List.getElem?_cons_zero, Option.some.injEq, PyData.int.injEq, PyData.bool.injEq, PyData.tuple.injEq, PyData.list.injEq, DV.dat.injEq, DV.own.injEq, exists_eq_left', exists_eq_left, exists_eq_right, exists_eq_right', exists_and_left, List.cons.injEq, and_true, true_and, atI0, atI1, atI2, atI3, atI4, atI5, Nat.sub_self, Nat.reduceSub, Nat.reduceAdd, Nat.reduceLT, if_true, if_false, Bool.false_eq_true, ↓reduceIte, Nat.zero_add, y_eqI, y_neI, y_neB, y_eqB, y_eqS, y_neS, y_ltI, y_gtI, y_leI, y_geI, y_inR, y_notInR, y_eqR, y_neR, y_lenR, y_tupR, row_tup, row_lst, tup_lst, lst_tup, false_and, and_false, exists_false, false_or, or_false, exists_const, atI_map, Option.map_some, decide_true, decide_false, Bool.not_true, Bool.not_false, eq_self, y_isB, DV.scr.injEq, x_chain, x_tRg, x_parEL, x_parLE, x_parLL, x_gLs, Nat.add_zero, x_par3, x_aSetSort, x_itL, x_itT, x_itR, x_slL, x_slT, x_lsE]
  refine ⟨intsD r, c, rfl, hc, fun d hd => ?_, by omega, by omega, fun out ho => ?_⟩
  · obtain ⟨o, ho, rfl⟩ := List.mem_map.mp hd
    exact (vw_int (hb o ho)).vis
  obtain ⟨p, rfl, hp⟩ := perm_map PyData.int ho r rfl
  obtain ⟨j, rfl⟩ : ∃ j : Nat, k = (j : Int) := ⟨k.toNat, by omega⟩
  have e : cutD (p.map PyData.int) none (some (j : Int)) = intsD (p.take j) := by rw [cut_map]; rfl
  show gSl (.list _) none (some (j : Int)) _
  rw [x_slL, e]
  refine ⟨_, rfl, allAlike_map enc_int _, sortOk_ints _, dep_map enc_int (by decide) _, ?_⟩
  rw [show intsD (p.take j) = (p.take j).map PyData.int from rfl, sortD_map, hlr]
  obtain ⟨q1, q2⟩ := few_row hr hp j
  exact hP _ q1 q2
theorem rng_lt {m : Int} (m1 : m ≤ 100) : ∀ o ∈ rng m, o.natAbs < 10 ^ 12 := fun o ho => by
  have := rng_mem.mp ho
  omega
/-! ### drawn skies -/
theorem few_lst {m k : Int} {n : Nat} {P : D → Nat → Prop} (m0 : 0 ≤ m) (m1 : m ≤ 100) (k0 : 0 ≤ k) (hn : m.toNat ≤ n) (hP : ∀ q : Row, q.Sublist (rng m) → q.length = min k.toNat m.toNat → P (rowD q) (n - m.toNat)) : fFew [.rl, .d (.list (intsD (rng m))), .d (.int k)] n P :=
  ⟨rng m, _, k, rfl, .inl rfl, k0, rng_asc m, rng_lt m1, by rw [rng_len]; omega, by rw [rng_len]; omega, by rw [rng_len]; exact hP⟩
def fSky : Fn := fun as n P => ∃ (many : Int) (k : Nat), as = [.rl, .d (.int many), .d (.int k)] ∧ 1 ≤ many ∧ many ≤ 6 ∧ 1 ≤ k ∧ k ≤ 10 ∧ 1000 ≤ n ∧ ∀ s m, s.m = many → GoodW k s → n ≤ m + 1000 → P (skyD s) m
theorem hf_sky (as : List Ar) (n : Nat) (P : D → Nat → Prop) (hl : as.length = 3) (h : fSky as n P) : rd__law_sky fTake fFew fOne ⟨fun _ m => P .none m, P, fun _ _ => False, fun _ _ => False⟩ (startD ["mill", "many", "most", "machines", "storms", "turn", "gone", "bells"] as) n := by
  obtain ⟨many, k, rfl, m0, m1, k0, k1, hn, hP⟩ := h
  have hr : RgOk 0 many := rgOk6 m0 m1
  have mt : many.toNat ≤ 6 := by omega
  have one : ∀ (ds : List D) (n : Nat) (P : D → Nat → Prop), ds ≠ [] → ds.length ≤ 5 → (∀ d ∈ ds, ∃ j : Nat, d = .int j ∧ j ≤ 2) → 1 ≤ n → (∀ j : Nat, j ≤ 2 → P (.int j) (n - 1)) → fOne [.rl, .d (.list ds)] n P := fun ds n P h1 h2 h3 hn hP => ⟨_, ds, rfl, .inl rfl, h1, by omega, hn, fun d hd => by
    obtain ⟨j, rfl, hj⟩ := h3 d hd
    exact hP j hj⟩
  have c5 : ∀ d ∈ ([.int 0, .int 1, .int 1, .int 1, .int 2] : List D), ∃ j : Nat, d = .int j ∧ j ≤ 2 := fun d hd => by
    simp only [List.mem_cons, List.not_mem_nil, or_false] at hd
    rcases hd with rfl | rfl | rfl | rfl | rfl
    · exact ⟨0, rfl, by decide⟩
    · exact ⟨1, rfl, by decide⟩
    · exact ⟨1, rfl, by decide⟩
    · exact ⟨1, rfl, by decide⟩
    · exact ⟨2, rfl, by decide⟩
  have c4 : ∀ d ∈ ([.int 0, .int 0, .int 1, .int 2] : List D), ∃ j : Nat, d = .int j ∧ j ≤ 2 := fun d hd => by
    simp only [List.mem_cons, List.not_mem_nil, or_false] at hd
    rcases hd with rfl | rfl | rfl | rfl
    · exact ⟨0, rfl, by decide⟩
    · exact ⟨0, rfl, by decide⟩
    · exact ⟨1, rfl, by decide⟩
    · exact ⟨2, rfl, by decide⟩
  have c3 : ∀ d ∈ ([.int 0, .int 0, .int 0, .int 1, .int 2] : List D), ∃ j : Nat, d = .int j ∧ j ≤ 2 := fun d hd => by
    simp only [List.mem_cons, List.not_mem_nil, or_false] at hd
    rcases hd with rfl | rfl | rfl | rfl | rfl
    · exact ⟨0, rfl, by decide⟩
    · exact ⟨0, rfl, by decide⟩
    · exact ⟨0, rfl, by decide⟩
    · exact ⟨1, rfl, by decide⟩
    · exact ⟨2, rfl, by decide⟩
  simp only [rd__law_sky, x_var0, x_varS, x_own0, x_ownS, x_ixT, x_ixL, x_addI, x_addT, x_addL, x_gI, x_gIC, x_neg, x_abs, x_intI, x_intB, x_lenT, x_lenL, x_tupL, x_tupT, x_rep, x_seq, x_next, x_set, x_setL, x_par, x_asg, x_drop, x_app, x_ext, x_ret, x_retN, x_if, x_frz, x_for, x_bk, x_ct, x_d1, x_d2, x_dC, x_dL, x_tup, x_and, x_or, x_not, x_ife, x_dB, x_dTr, x_dNot, x_dAnd, x_dOr, x_yes, x_aC, x_aN, x_aSz, x_aRg, x_rg1, x_rg2, x_aList, x_aSort, x_aSl, x_dSl, x_aScr, x_scrLen, x_oN, x_oS, x_rN, x_rC, x_rRl, x_call, x_callB, x_callK, x_iSeq, x_iRg1, x_iRg2, x_iEn, x_gNm, x_gTp, x_gC, x_gN, x_gL, x_comp, startD, arD, wipeD, List.map_cons, List.map_nil, List.length_cons, List.length_nil, List.replicate_succ, List.replicate_zero, List.cons_append, List.nil_append, List.set_cons_succ, List.set_cons_zero, List.getElem?_cons_succ, List.getElem?_cons_zero, Option.some.injEq, PyData.int.injEq, PyData.bool.injEq, PyData.tuple.injEq, PyData.list.injEq, DV.dat.injEq, DV.own.injEq, exists_eq_left', exists_eq_left, exists_eq_right, exists_eq_right', exists_and_left, List.cons.injEq, and_true, true_and, atI0, atI1, atI2, atI3, atI4, atI5, Nat.sub_self, Nat.reduceSub, Nat.reduceAdd, Nat.reduceLT, if_true, if_false, Bool.false_eq_true, ↓reduceIte, Nat.zero_add, y_eqI, y_neI, y_neB, y_eqB, y_eqS, y_neS, y_ltI, y_gtI, y_leI, y_geI, y_inR, y_notInR, y_eqR, y_neR, y_lenR, y_tupR, row_tup, row_lst, tup_lst, lst_tup, false_and, and_false, exists_false, false_or, or_false, exists_const, atI_map, Option.map_some, decide_true, decide_false, Bool.not_true, Bool.not_false, eq_self, y_isB, DV.scr.injEq, x_chain, x_tRg, x_parEL, x_parLE, x_parLL, x_gLs, Nat.add_zero, x_par3, x_aSetSort, x_itL, x_itT, x_itR, x_slL, x_slT, x_lsE, Int.sub_zero]
  rw [rangeD_rng]
  refine ⟨hr, Nat.zero_le _, k, rfl, by omega, by omega, fun t t0 t1 => ?_⟩
  obtain ⟨j, rfl⟩ : ∃ j : Nat, t = (j : Int) := ⟨t.toNat, by omega⟩
  have hjk : 1 + j ≤ k := by omega
  simp only [x_var0, x_varS, x_own0, x_ownS, x_ixT, x_ixL, x_addI, x_addT, x_addL, x_gI, x_gIC, x_neg, x_abs, x_intI, x_intB, x_lenT, x_lenL, x_tupL, x_tupT, x_rep, x_seq, x_next, x_set, x_setL, x_par, x_asg, x_drop, x_app, x_ext, x_ret, x_retN, x_if, x_frz, x_for, x_bk, x_ct, x_d1, x_d2, x_dC, x_dL, x_tup, x_and, x_or, x_not, x_ife, x_dB, x_dTr, x_dNot, x_dAnd, x_dOr, x_yes, x_aC, x_aN, x_aSz, x_aRg, x_rg1, x_rg2, x_aList, x_aSort, x_aSl, x_dSl, x_aScr, x_scrLen, x_oN, x_oS, x_rN, x_rC, x_rRl, x_call, x_callB, x_callK, x_iSeq, x_iRg1, x_iRg2, x_iEn, x_gNm, x_gTp, x_gC, x_gN, x_gL, x_comp, startD, arD, wipeD, List.map_cons, List.map_nil, List.length_cons, List.length_nil, List.replicate_succ, List.replicate_zero, List.cons_append, List.nil_append, List.set_cons_succ, List.set_cons_zero, List.getElem?_cons_succ, List.getElem?_cons_zero, Option.some.injEq, PyData.int.injEq, PyData.bool.injEq, PyData.tuple.injEq, PyData.list.injEq, DV.dat.injEq, DV.own.injEq, exists_eq_left', exists_eq_left, exists_eq_right, exists_eq_right', exists_and_left, List.cons.injEq, and_true, true_and, atI0, atI1, atI2, atI3, atI4, atI5, Nat.sub_self, Nat.reduceSub, Nat.reduceAdd, Nat.reduceLT, if_true, if_false, Bool.false_eq_true, ↓reduceIte, Nat.zero_add, y_eqI, y_neI, y_neB, y_eqB, y_eqS, y_neS, y_ltI, y_gtI, y_leI, y_geI, y_inR, y_notInR, y_eqR, y_neR, y_lenR, y_tupR, row_tup, row_lst, tup_lst, lst_tup, false_and, and_false, exists_false, false_or, or_false, exists_const, atI_map, Option.map_some, decide_true, decide_false, Bool.not_true, Bool.not_false, eq_self, y_isB, DV.scr.injEq, x_chain, x_tRg, x_parEL, x_parLE, x_parLL, x_gLs, Nat.add_zero, x_par3, x_aSetSort, x_itL, x_itT, x_itR, x_slL, x_slT, x_lsE]
  refine ⟨by omega, by omega, ?_⟩
  rw [show ((1 : Int) + (j : Int)).toNat = (rng ((1 + j : Nat) : Int)).length by rw [rng_len]; omega, ← show rangeD 0 ((1 + j : Nat) : Int).toNat = rangeD 0 (rng ((1 + j : Nat) : Int)).length by rw [rng_len], rangeD_rng]
  have rl : (rng ((1 + j : Nat) : Int)).length = 1 + j := by rw [rng_len]; omega
  refine forR_inv (e := PyData.int) (fun r δ m => ∃ (st : List St) (z5 z6 : Option DV), δ = [some .rl, some (.dat (.int many)), some (.dat (.int k)), some (.dat (.list (intsD (rng many)))), some (.own (st.map stD)), z5, z6, none] ∧ (∀ x ∈ st, x.1.Sublist (rng many) ∧ x.2.Sublist (rng many)) ∧ st.length + r.length = 1 + j ∧ n + 20 * r.length ≤ m + 20 * (1 + j) + 1) _ _ (n - 1) ⟨[], none, none, rfl, (fun x h => nomatch h), by rw [rl]; simp, by rw [rl]; omega⟩ (fun t r δ m ht hI N hN => ?_) fun δ m hI => ?_
  · obtain ⟨st, z5, z6, rfl, hst, hl, hm⟩ := hI
    rw [List.length_cons] at hl hm
    simp only [x_var0, x_varS, x_own0, x_ownS, x_ixT, x_ixL, x_addI, x_addT, x_addL, x_gI, x_gIC, x_neg, x_abs, x_intI, x_intB, x_lenT, x_lenL, x_tupL, x_tupT, x_rep, x_seq, x_next, x_set, x_setL, x_par, x_asg, x_drop, x_app, x_ext, x_ret, x_retN, x_if, x_frz, x_for, x_bk, x_ct, x_d1, x_d2, x_dC, x_dL, x_tup, x_and, x_or, x_not, x_ife, x_dB, x_dTr, x_dNot, x_dAnd, x_dOr, x_yes, x_aC, x_aN, x_aSz, x_aRg, x_rg1, x_rg2, x_aList, x_aSort, x_aSl, x_dSl, x_aScr, x_scrLen, x_oN, x_oS, x_rN, x_rC, x_rRl, x_call, x_callB, x_callK, x_iSeq, x_iRg1, x_iRg2, x_iEn, x_gNm, x_gTp, x_gC, x_gN, x_gL, x_comp, startD, arD, wipeD, List.map_cons, List.map_nil, List.length_cons, List.length_nil, List.replicate_succ, List.replicate_zero, List.cons_append, List.nil_append, List.set_cons_succ, List.set_cons_zero, List.getElem?_cons_succ, List.getElem?_cons_zero, Option.some.injEq, PyData.int.injEq, PyData.bool.injEq, PyData.tuple.injEq, PyData.list.injEq, DV.dat.injEq, DV.own.injEq, exists_eq_left', exists_eq_left, exists_eq_right, exists_eq_right', exists_and_left, List.cons.injEq, and_true, true_and, atI0, atI1, atI2, atI3, atI4, atI5, Nat.sub_self, Nat.reduceSub, Nat.reduceAdd, Nat.reduceLT, if_true, if_false, Bool.false_eq_true, ↓reduceIte, Nat.zero_add, y_eqI, y_neI, y_neB, y_eqB, y_eqS, y_neS, y_ltI, y_gtI, y_leI, y_geI, y_inR, y_notInR, y_eqR, y_neR, y_lenR, y_tupR, row_tup, row_lst, tup_lst, lst_tup, false_and, and_false, exists_false, false_or, or_false, exists_const, atI_map, Option.map_some, decide_true, decide_false, Bool.not_true, Bool.not_false, eq_self, y_isB, DV.scr.injEq, x_chain, x_tRg, x_parEL, x_parLE, x_parLL, x_gLs, Nat.add_zero, x_par3, x_aSetSort, x_itL, x_itT, x_itR, x_slL, x_slT, x_lsE]
    refine ⟨by decide, one _ _ _ (by simp) (by simp) c5 (by omega) fun a ha => few_lst (by omega) (by omega) (by omega) (by omega) fun q1 h1 _ => ⟨smallLt _ (by rw [List.length_map]; omega), by decide, one _ _ _ (by simp) (by simp) c4 (by omega) fun b hb => few_lst (by omega) (by omega) (by omega) (by omega) fun q2 h2 _ => ⟨by decide, hN _ _ ⟨st ++ [(q1, q2)], _, _, by rw [List.map_append]; rfl, fun x hx => ?_, by rw [List.length_append, List.length_singleton]; omega, by omega⟩⟩⟩⟩
    rcases List.mem_append.mp hx with hx | hx
    · exact hst x hx
    · rw [List.mem_singleton.mp hx]; exact ⟨h1, h2⟩
  · obtain ⟨st, z5, z6, rfl, hst, hl, hm⟩ := hI
    rw [List.length_nil] at hl hm
    simp only [x_var0, x_varS, x_own0, x_ownS, x_ixT, x_ixL, x_addI, x_addT, x_addL, x_gI, x_gIC, x_neg, x_abs, x_intI, x_intB, x_lenT, x_lenL, x_tupL, x_tupT, x_rep, x_seq, x_next, x_set, x_setL, x_par, x_asg, x_drop, x_app, x_ext, x_ret, x_retN, x_if, x_frz, x_for, x_bk, x_ct, x_d1, x_d2, x_dC, x_dL, x_tup, x_and, x_or, x_not, x_ife, x_dB, x_dTr, x_dNot, x_dAnd, x_dOr, x_yes, x_aC, x_aN, x_aSz, x_aRg, x_rg1, x_rg2, x_aList, x_aSort, x_aSl, x_dSl, x_aScr, x_scrLen, x_oN, x_oS, x_rN, x_rC, x_rRl, x_call, x_callB, x_callK, x_iSeq, x_iRg1, x_iRg2, x_iEn, x_gNm, x_gTp, x_gC, x_gN, x_gL, x_comp, startD, arD, wipeD, List.map_cons, List.map_nil, List.length_cons, List.length_nil, List.replicate_succ, List.replicate_zero, List.cons_append, List.nil_append, List.set_cons_succ, List.set_cons_zero, List.getElem?_cons_succ, List.getElem?_cons_zero, Option.some.injEq, PyData.int.injEq, PyData.bool.injEq, PyData.tuple.injEq, PyData.list.injEq, DV.dat.injEq, DV.own.injEq, exists_eq_left', exists_eq_left, exists_eq_right, exists_eq_right', exists_and_left, List.cons.injEq, and_true, true_and, atI0, atI1, atI2, atI3, atI4, atI5, Nat.sub_self, Nat.reduceSub, Nat.reduceAdd, Nat.reduceLT, if_true, if_false, Bool.false_eq_true, ↓reduceIte, Nat.zero_add, y_eqI, y_neI, y_neB, y_eqB, y_eqS, y_neS, y_ltI, y_gtI, y_leI, y_geI, y_inR, y_notInR, y_eqR, y_neR, y_lenR, y_tupR, row_tup, row_lst, tup_lst, lst_tup, false_and, and_false, exists_false, false_or, or_false, exists_const, atI_map, Option.map_some, decide_true, decide_false, Bool.not_true, Bool.not_false, eq_self, y_isB, DV.scr.injEq, x_chain, x_tRg, x_parEL, x_parLE, x_parLL, x_gLs, Nat.add_zero, x_par3, x_aSetSort, x_itL, x_itT, x_itR, x_slL, x_slT, x_lsE]
    refine ⟨by decide, one _ _ _ (by simp) (by simp) c3 (by omega) fun a ha => few_lst (by omega) (by omega) (by omega) (by omega) fun q1 h1 _ => ?_⟩
    refine set_storms (by omega) ⟨by decide, ?_⟩
    have q := onceE_asc enc_st st
    have le := onceE_len (e := stD) st
    exact hP ⟨many, q1, onceE stD st⟩ _ rfl ⟨m0, m1, h1, once_pos enc_st (by omega), by show (onceE stD st).length ≤ k; omega, fun x hx => hst x ((q.2 x).mp hx), q.1⟩ (by omega)
end My
/-! mill: whole numbers, detectors, odd values -/
namespace My
open PySem PySem.Spec L2 DL
def fWhole : Fn := fun as n P => ∃ (d : D) (a b : Int), as = [.d d, .d (.int a), .d (.int b)] ∧ P (.bool (whole d a b)) n
theorem hf_whole (as : List Ar) (n : Nat) (P : D → Nat → Prop) (hl : as.length = 3) (h : fWhole as n P) : rd_is_whole ⟨fun _ m => P .none m, P, fun _ _ => False, fun _ _ => False⟩ (startD ["value", "low", "high"] as) n := by
  obtain ⟨d, a, b, rfl, hP⟩ := h
  cases d with
  | int i =>
    simp only [rd_is_whole, x_var0, x_varS, x_own0, x_ownS, x_ixT, x_ixL, x_addI, x_addT, x_addL, x_gI, x_gIC, x_neg, x_abs, x_intI, x_intB, x_lenT, x_lenL, x_tupL, x_tupT, x_rep, x_seq, x_next, x_set, x_setL, x_par, x_asg, x_drop, x_app, x_ext, x_ret, x_retN, x_if, x_frz, x_for, x_bk, x_ct, x_d1, x_d2, x_dC, x_dL, x_tup, x_and, x_or, x_not, x_ife, x_dB, x_dTr, x_dNot, x_dAnd, x_dOr, x_yes, x_aC, x_aN, x_aSz, x_aRg, x_rg1, x_rg2, x_aList, x_aSort, x_aSl, x_dSl, x_aScr, x_scrLen, x_oN, x_oS, x_rN, x_rC, x_rRl, x_call, x_callB, x_callK, x_iSeq, x_iRg1, x_iRg2, x_iEn, x_gNm, x_gTp, x_gC, x_gN, x_gL, x_comp, startD, arD, wipeD, List.map_cons, List.map_nil, List.length_cons, List.length_nil, List.replicate_succ, List.replicate_zero, List.cons_append, List.nil_append, List.set_cons_succ, List.set_cons_zero, List.getElem?_cons_succ, List.getElem?_cons_zero, Option.some.injEq, PyData.int.injEq, PyData.bool.injEq, PyData.tuple.injEq, PyData.list.injEq, DV.dat.injEq, DV.own.injEq, exists_eq_left', exists_eq_left, exists_eq_right, exists_eq_right', exists_and_left, List.cons.injEq, and_true, true_and, atI0, atI1, atI2, atI3, atI4, atI5, Nat.sub_self, Nat.reduceSub, Nat.reduceAdd, Nat.reduceLT, if_true, if_false, Bool.false_eq_true, ↓reduceIte, Nat.zero_add, y_eqI, y_neI, y_neB, y_eqB, y_eqS, y_neS, y_ltI, y_gtI, y_leI, y_geI, y_inR, y_notInR, y_eqR, y_neR, y_lenR, y_tupR, row_tup, row_lst, tup_lst, lst_tup, false_and, and_false, exists_false, false_or, or_false, exists_const, atI_map, Option.map_some, decide_true, decide_false, Bool.not_true, Bool.not_false, eq_self, y_isB, DV.scr.injEq, x_chain, x_tRg, x_parEL, x_parLE, x_parLL, x_gLs, Nat.add_zero, x_par3, x_aSetSort, x_itL, x_itT, x_itR, x_slL, x_slT, x_lsE]
    refine isi (c := true) (by simp only [tyName]; decide) ⟨true, rfl, ?_⟩
    rw [if_pos rfl]
    refine isi (c := false) (by simp only [tyName]; decide) ⟨false, rfl, ?_⟩
    rw [if_pos (by decide)]
    have e : whole (.int i) a b = if decide (i < a) = true then false else !decide (b < i) := by
      rw [show whole (.int i) a b = (decide (a ≤ i) && decide (i ≤ b)) from rfl]
      by_cases h1 : i < a
      · rw [if_pos (decide_eq_true h1), decide_eq_false (by omega : ¬ a ≤ i), Bool.false_and]
      · rw [if_neg (by simpa using h1), decide_eq_true (by omega : a ≤ i), Bool.true_and]
        by_cases h2 : b < i
        · rw [decide_eq_false (by omega : ¬ i ≤ b), decide_eq_true h2]; rfl
        · rw [decide_eq_true (by omega : i ≤ b), decide_eq_false h2]; rfl
    rw [e] at hP
    refine ifc (fun c => ?_) fun c => ?_
    · have c' : decide (i < a) = false := by simpa using c
      rw [if_neg (by rw [c']; decide)] at hP
      exact hP
    · have c' : decide (i < a) = true := by simpa using c
      rw [if_pos c'] at hP
      exact hP
  | bool i =>
    simp only [rd_is_whole, x_var0, x_varS, x_own0, x_ownS, x_ixT, x_ixL, x_addI, x_addT, x_addL, x_gI, x_gIC, x_neg, x_abs, x_intI, x_intB, x_lenT, x_lenL, x_tupL, x_tupT, x_rep, x_seq, x_next, x_set, x_setL, x_par, x_asg, x_drop, x_app, x_ext, x_ret, x_retN, x_if, x_frz, x_for, x_bk, x_ct, x_d1, x_d2, x_dC, x_dL, x_tup, x_and, x_or, x_not, x_ife, x_dB, x_dTr, x_dNot, x_dAnd, x_dOr, x_yes, x_aC, x_aN, x_aSz, x_aRg, x_rg1, x_rg2, x_aList, x_aSort, x_aSl, x_dSl, x_aScr, x_scrLen, x_oN, x_oS, x_rN, x_rC, x_rRl, x_call, x_callB, x_callK, x_iSeq, x_iRg1, x_iRg2, x_iEn, x_gNm, x_gTp, x_gC, x_gN, x_gL, x_comp, startD, arD, wipeD, List.map_cons, List.map_nil, List.length_cons, List.length_nil, List.replicate_succ, List.replicate_zero, List.cons_append, List.nil_append, List.set_cons_succ, List.set_cons_zero, List.getElem?_cons_succ, List.getElem?_cons_zero, Option.some.injEq, PyData.int.injEq, PyData.bool.injEq, PyData.tuple.injEq, PyData.list.injEq, DV.dat.injEq, DV.own.injEq, exists_eq_left', exists_eq_left, exists_eq_right, exists_eq_right', exists_and_left, List.cons.injEq, and_true, true_and, atI0, atI1, atI2, atI3, atI4, atI5, Nat.sub_self, Nat.reduceSub, Nat.reduceAdd, Nat.reduceLT, if_true, if_false, Bool.false_eq_true, ↓reduceIte, Nat.zero_add, y_eqI, y_neI, y_neB, y_eqB, y_eqS, y_neS, y_ltI, y_gtI, y_leI, y_geI, y_inR, y_notInR, y_eqR, y_neR, y_lenR, y_tupR, row_tup, row_lst, tup_lst, lst_tup, false_and, and_false, exists_false, false_or, or_false, exists_const, atI_map, Option.map_some, decide_true, decide_false, Bool.not_true, Bool.not_false, eq_self, y_isB, DV.scr.injEq, x_chain, x_tRg, x_parEL, x_parLE, x_parLL, x_gLs, Nat.add_zero, x_par3, x_aSetSort, x_itL, x_itT, x_itR, x_slL, x_slT, x_lsE]
    refine isi (c := true) (by simp only [tyName]; decide) ⟨true, rfl, ?_⟩
    rw [if_pos rfl]
    refine isi (c := true) (by simp only [tyName]; decide) ⟨true, rfl, ?_⟩
    rw [if_neg (by decide)]
    exact hP
  | _ =>
    simp only [rd_is_whole, x_var0, x_varS, x_own0, x_ownS, x_ixT, x_ixL, x_addI, x_addT, x_addL, x_gI, x_gIC, x_neg, x_abs, x_intI, x_intB, x_lenT, x_lenL, x_tupL, x_tupT, x_rep, x_seq, x_next, x_set, x_setL, x_par, x_asg, x_drop, x_app, x_ext, x_ret, x_retN, x_if, x_frz, x_for, x_bk, x_ct, x_d1, x_d2, x_dC, x_dL, x_tup, x_and, x_or, x_not, x_ife, x_dB, x_dTr, x_dNot, x_dAnd, x_dOr, x_yes, x_aC, x_aN, x_aSz, x_aRg, x_rg1, x_rg2, x_aList, x_aSort, x_aSl, x_dSl, x_aScr, x_scrLen, x_oN, x_oS, x_rN, x_rC, x_rRl, x_call, x_callB, x_callK, x_iSeq, x_iRg1, x_iRg2, x_iEn, x_gNm, x_gTp, x_gC, x_gN, x_gL, x_comp, startD, arD, wipeD, List.map_cons, List.map_nil, List.length_cons, List.length_nil, List.replicate_succ, List.replicate_zero, List.cons_append, List.nil_append, List.set_cons_succ, List.set_cons_zero, List.getElem?_cons_succ, List.getElem?_cons_zero, Option.some.injEq, PyData.int.injEq, PyData.bool.injEq, PyData.tuple.injEq, PyData.list.injEq, DV.dat.injEq, DV.own.injEq, exists_eq_left', exists_eq_left, exists_eq_right, exists_eq_right', exists_and_left, List.cons.injEq, and_true, true_and, atI0, atI1, atI2, atI3, atI4, atI5, Nat.sub_self, Nat.reduceSub, Nat.reduceAdd, Nat.reduceLT, if_true, if_false, Bool.false_eq_true, ↓reduceIte, Nat.zero_add, y_eqI, y_neI, y_neB, y_eqB, y_eqS, y_neS, y_ltI, y_gtI, y_leI, y_geI, y_inR, y_notInR, y_eqR, y_neR, y_lenR, y_tupR, row_tup, row_lst, tup_lst, lst_tup, false_and, and_false, exists_false, false_or, or_false, exists_const, atI_map, Option.map_some, decide_true, decide_false, Bool.not_true, Bool.not_false, eq_self, y_isB, DV.scr.injEq, x_chain, x_tRg, x_parEL, x_parLE, x_parLL, x_gLs, Nat.add_zero, x_par3, x_aSetSort, x_itL, x_itT, x_itR, x_slL, x_slT, x_lsE]
    exact isi (c := false) (by simp only [tyName]; decide) ⟨false, rfl, hP⟩
def fNum : Fn := fun as n P => ∃ (d : D) (k : Int), as = [.d d, .d (.int k)] ∧ P (.bool (whole d 0 (k - 1))) n
theorem hf_num (as : List Ar) (n : Nat) (P : D → Nat → Prop) (hl : as.length = 2) (h : fNum as n P) : rd__law_is_number ⟨fun _ m => P .none m, P, fun _ _ => False, fun _ _ => False⟩ (startD ["value", "many"] as) n := by
  obtain ⟨d, b, rfl, hP⟩ := h
  cases d with
  | int i =>
    simp only [rd__law_is_number, x_var0, x_varS, x_own0, x_ownS, x_ixT, x_ixL, x_addI, x_addT, x_addL, x_gI, x_gIC, x_neg, x_abs, x_intI, x_intB, x_lenT, x_lenL, x_tupL, x_tupT, x_rep, x_seq, x_next, x_set, x_setL, x_par, x_asg, x_drop, x_app, x_ext, x_ret, x_retN, x_if, x_frz, x_for, x_bk, x_ct, x_d1, x_d2, x_dC, x_dL, x_tup, x_and, x_or, x_not, x_ife, x_dB, x_dTr, x_dNot, x_dAnd, x_dOr, x_yes, x_aC, x_aN, x_aSz, x_aRg, x_rg1, x_rg2, x_aList, x_aSort, x_aSl, x_dSl, x_aScr, x_scrLen, x_oN, x_oS, x_rN, x_rC, x_rRl, x_call, x_callB, x_callK, x_iSeq, x_iRg1, x_iRg2, x_iEn, x_gNm, x_gTp, x_gC, x_gN, x_gL, x_comp, startD, arD, wipeD, List.map_cons, List.map_nil, List.length_cons, List.length_nil, List.replicate_succ, List.replicate_zero, List.cons_append, List.nil_append, List.set_cons_succ, List.set_cons_zero, List.getElem?_cons_succ, List.getElem?_cons_zero, Option.some.injEq, PyData.int.injEq, PyData.bool.injEq, PyData.tuple.injEq, PyData.list.injEq, DV.dat.injEq, DV.own.injEq, exists_eq_left', exists_eq_left, exists_eq_right, exists_eq_right', exists_and_left, List.cons.injEq, and_true, true_and, atI0, atI1, atI2, atI3, atI4, atI5, Nat.sub_self, Nat.reduceSub, Nat.reduceAdd, Nat.reduceLT, if_true, if_false, Bool.false_eq_true, ↓reduceIte, Nat.zero_add, y_eqI, y_neI, y_neB, y_eqB, y_eqS, y_neS, y_ltI, y_gtI, y_leI, y_geI, y_inR, y_notInR, y_eqR, y_neR, y_lenR, y_tupR, row_tup, row_lst, tup_lst, lst_tup, false_and, and_false, exists_false, false_or, or_false, exists_const, atI_map, Option.map_some, decide_true, decide_false, Bool.not_true, Bool.not_false, eq_self, y_isB, DV.scr.injEq, x_chain, x_tRg, x_parEL, x_parLE, x_parLL, x_gLs, Nat.add_zero, x_par3, x_aSetSort, x_itL, x_itT, x_itR, x_slL, x_slT, x_lsE]
    refine isi (c := true) (by simp only [tyName]; decide) ⟨true, rfl, ?_⟩
    rw [if_pos rfl]
    refine isi (c := false) (by simp only [tyName]; decide) ⟨false, rfl, ?_⟩
    rw [if_pos (by decide)]
    have e : whole (.int i) 0 (b - 1) = if decide (i < 0) = true then false else decide (i < b) := by
      rw [show whole (.int i) 0 (b - 1) = (decide (0 ≤ i) && decide (i ≤ b - 1)) from rfl]
      by_cases h1 : i < 0
      · rw [if_pos (decide_eq_true h1), decide_eq_false (by omega : ¬ 0 ≤ i), Bool.false_and]
      · rw [if_neg (by simpa using h1), decide_eq_true (by omega : 0 ≤ i), Bool.true_and, decide_eq_decide]
        omega
    rw [e] at hP
    refine ifc (fun c => ?_) fun c => ?_
    · have c' : decide (i < 0) = false := by simpa using c
      rw [if_neg (by rw [c']; decide)] at hP
      exact hP
    · have c' : decide (i < 0) = true := by simpa using c
      rw [if_pos c'] at hP
      exact hP
  | bool i =>
    simp only [rd__law_is_number, x_var0, x_varS, x_own0, x_ownS, x_ixT, x_ixL, x_addI, x_addT, x_addL, x_gI, x_gIC, x_neg, x_abs, x_intI, x_intB, x_lenT, x_lenL, x_tupL, x_tupT, x_rep, x_seq, x_next, x_set, x_setL, x_par, x_asg, x_drop, x_app, x_ext, x_ret, x_retN, x_if, x_frz, x_for, x_bk, x_ct, x_d1, x_d2, x_dC, x_dL, x_tup, x_and, x_or, x_not, x_ife, x_dB, x_dTr, x_dNot, x_dAnd, x_dOr, x_yes, x_aC, x_aN, x_aSz, x_aRg, x_rg1, x_rg2, x_aList, x_aSort, x_aSl, x_dSl, x_aScr, x_scrLen, x_oN, x_oS, x_rN, x_rC, x_rRl, x_call, x_callB, x_callK, x_iSeq, x_iRg1, x_iRg2, x_iEn, x_gNm, x_gTp, x_gC, x_gN, x_gL, x_comp, startD, arD, wipeD, List.map_cons, List.map_nil, List.length_cons, List.length_nil, List.replicate_succ, List.replicate_zero, List.cons_append, List.nil_append, List.set_cons_succ, List.set_cons_zero, List.getElem?_cons_succ, List.getElem?_cons_zero, Option.some.injEq, PyData.int.injEq, PyData.bool.injEq, PyData.tuple.injEq, PyData.list.injEq, DV.dat.injEq, DV.own.injEq, exists_eq_left', exists_eq_left, exists_eq_right, exists_eq_right', exists_and_left, List.cons.injEq, and_true, true_and, atI0, atI1, atI2, atI3, atI4, atI5, Nat.sub_self, Nat.reduceSub, Nat.reduceAdd, Nat.reduceLT, if_true, if_false, Bool.false_eq_true, ↓reduceIte, Nat.zero_add, y_eqI, y_neI, y_neB, y_eqB, y_eqS, y_neS, y_ltI, y_gtI, y_leI, y_geI, y_inR, y_notInR, y_eqR, y_neR, y_lenR, y_tupR, row_tup, row_lst, tup_lst, lst_tup, false_and, and_false, exists_false, false_or, or_false, exists_const, atI_map, Option.map_some, decide_true, decide_false, Bool.not_true, Bool.not_false, eq_self, y_isB, DV.scr.injEq, x_chain, x_tRg, x_parEL, x_parLE, x_parLL, x_gLs, Nat.add_zero, x_par3, x_aSetSort, x_itL, x_itT, x_itR, x_slL, x_slT, x_lsE]
    refine isi (c := true) (by simp only [tyName]; decide) ⟨true, rfl, ?_⟩
    rw [if_pos rfl]
    refine isi (c := true) (by simp only [tyName]; decide) ⟨true, rfl, ?_⟩
    rw [if_neg (by decide)]
    exact hP
  | _ =>
    simp only [rd__law_is_number, x_var0, x_varS, x_own0, x_ownS, x_ixT, x_ixL, x_addI, x_addT, x_addL, x_gI, x_gIC, x_neg, x_abs, x_intI, x_intB, x_lenT, x_lenL, x_tupL, x_tupT, x_rep, x_seq, x_next, x_set, x_setL, x_par, x_asg, x_drop, x_app, x_ext, x_ret, x_retN, x_if, x_frz, x_for, x_bk, x_ct, x_d1, x_d2, x_dC, x_dL, x_tup, x_and, x_or, x_not, x_ife, x_dB, x_dTr, x_dNot, x_dAnd, x_dOr, x_yes, x_aC, x_aN, x_aSz, x_aRg, x_rg1, x_rg2, x_aList, x_aSort, x_aSl, x_dSl, x_aScr, x_scrLen, x_oN, x_oS, x_rN, x_rC, x_rRl, x_call, x_callB, x_callK, x_iSeq, x_iRg1, x_iRg2, x_iEn, x_gNm, x_gTp, x_gC, x_gN, x_gL, x_comp, startD, arD, wipeD, List.map_cons, List.map_nil, List.length_cons, List.length_nil, List.replicate_succ, List.replicate_zero, List.cons_append, List.nil_append, List.set_cons_succ, List.set_cons_zero, List.getElem?_cons_succ, List.getElem?_cons_zero, Option.some.injEq, PyData.int.injEq, PyData.bool.injEq, PyData.tuple.injEq, PyData.list.injEq, DV.dat.injEq, DV.own.injEq, exists_eq_left', exists_eq_left, exists_eq_right, exists_eq_right', exists_and_left, List.cons.injEq, and_true, true_and, atI0, atI1, atI2, atI3, atI4, atI5, Nat.sub_self, Nat.reduceSub, Nat.reduceAdd, Nat.reduceLT, if_true, if_false, Bool.false_eq_true, ↓reduceIte, Nat.zero_add, y_eqI, y_neI, y_neB, y_eqB, y_eqS, y_neS, y_ltI, y_gtI, y_leI, y_geI, y_inR, y_notInR, y_eqR, y_neR, y_lenR, y_tupR, row_tup, row_lst, tup_lst, lst_tup, false_and, and_false, exists_false, false_or, or_false, exists_const, atI_map, Option.map_some, decide_true, decide_false, Bool.not_true, Bool.not_false, eq_self, y_isB, DV.scr.injEq, x_chain, x_tRg, x_parEL, x_parLE, x_parLL, x_gLs, Nat.add_zero, x_par3, x_aSetSort, x_itL, x_itT, x_itR, x_slL, x_slT, x_lsE]
    exact isi (c := false) (by simp only [tyName]; decide) ⟨false, rfl, hP⟩
/-! ### detectors -/
def famD (f : List Row) : D := .tuple (f.map rowD)
def detD (sg : Int) (ends : List (List Row)) : D := .tuple [.int sg, .tuple (ends.map famD)]
structure FamOk (sg : Int) (k : Nat) (f : List Row) : Prop where
  pos : 1 ≤ f.length
  le : f.length ≤ k
  asc : f.Pairwise fun x y => ltE rowD x y = true
  mem : ∀ x ∈ f, x ≠ [] ∧ x.Sublist (rng sg)
structure GoodDet (N : Nat) (sg : Int) (k : Nat) (ends : List (List Row)) : Prop where
  len : ends.length = N
  mem : ∀ f ∈ ends, FamOk sg k f
def fSet : Fn := fun as n P => ∃ sg : Int, as = [.rl, .d (.int sg)] ∧ 1 ≤ sg ∧ sg ≤ 6 ∧ 10 ≤ n ∧ ∀ q m, q ≠ [] → q.Sublist (rng sg) → n ≤ m + 10 → P (rowD q) m
theorem hf_set (as : List Ar) (n : Nat) (P : D → Nat → Prop) (hl : as.length = 2) (h : fSet as n P) : rd__law_set fFew fTake ⟨fun _ m => P .none m, P, fun _ _ => False, fun _ _ => False⟩ (startD ["mill", "signs"] as) n := by
  obtain ⟨sg, rfl, s0, s1, hn, hP⟩ := h
  simp only [rd__law_set, x_var0, x_varS, x_own0, x_ownS, x_ixT, x_ixL, x_addI, x_addT, x_addL, x_gI, x_gIC, x_neg, x_abs, x_intI, x_intB, x_lenT, x_lenL, x_tupL, x_tupT, x_rep, x_seq, x_next, x_set, x_setL, x_par, x_asg, x_drop, x_app, x_ext, x_ret, x_retN, x_if, x_frz, x_for, x_bk, x_ct, x_d1, x_d2, x_dC, x_dL, x_tup, x_and, x_or, x_not, x_ife, x_dB, x_dTr, x_dNot, x_dAnd, x_dOr, x_yes, x_aC, x_aN, x_aSz, x_aRg, x_rg1, x_rg2, x_aList, x_aSort, x_aSl, x_dSl, x_aScr, x_scrLen, x_oN, x_oS, x_rN, x_rC, x_rRl, x_call, x_callB, x_callK, x_iSeq, x_iRg1, x_iRg2, x_iEn, x_gNm, x_gTp, x_gC, x_gN, x_gL, x_comp, startD, arD, wipeD, List.map_cons, List.map_nil, List.length_cons, List.length_nil, List.replicate_succ, List.replicate_zero, List.cons_append, List.nil_append, List.set_cons_succ, List.set_cons_zero, List.getElem?_cons_succ, List.getElem?_cons_zero, Option.some.injEq, PyData.int.injEq, PyData.bool.injEq, PyData.tuple.injEq, PyData.list.injEq, DV.dat.injEq, DV.own.injEq, exists_eq_left', exists_eq_left, exists_eq_right, exists_eq_right', exists_and_left, List.cons.injEq, and_true, true_and, atI0, atI1, atI2, atI3, atI4, atI5, Nat.sub_self, Nat.reduceSub, Nat.reduceAdd, Nat.reduceLT, if_true, if_false, Bool.false_eq_true, ↓reduceIte, Nat.zero_add, y_eqI, y_neI, y_neB, y_eqB, y_eqS, y_neS, y_ltI, y_gtI, y_leI, y_geI, y_inR, y_notInR, y_eqR, y_neR, y_lenR, y_tupR, row_tup, row_lst, tup_lst, lst_tup, false_and, and_false, exists_false, false_or, or_false, exists_const, atI_map, Option.map_some, decide_true, decide_false, Bool.not_true, Bool.not_false, eq_self, y_isB, DV.scr.injEq, x_chain, x_tRg, x_parEL, x_parLE, x_parLL, x_gLs, Nat.add_zero, x_par3, x_aSetSort, x_itL, x_itT, x_itR, x_slL, x_slT, x_lsE, Int.sub_zero]
  rw [rangeD_rng]
  refine ⟨rgOk6 s0 s1, sg, rfl, by omega, by omega, fun k k0 k1 => ?_⟩
  simp only [x_var0, x_varS, x_own0, x_ownS, x_ixT, x_ixL, x_addI, x_addT, x_addL, x_gI, x_gIC, x_neg, x_abs, x_intI, x_intB, x_lenT, x_lenL, x_tupL, x_tupT, x_rep, x_seq, x_next, x_set, x_setL, x_par, x_asg, x_drop, x_app, x_ext, x_ret, x_retN, x_if, x_frz, x_for, x_bk, x_ct, x_d1, x_d2, x_dC, x_dL, x_tup, x_and, x_or, x_not, x_ife, x_dB, x_dTr, x_dNot, x_dAnd, x_dOr, x_yes, x_aC, x_aN, x_aSz, x_aRg, x_rg1, x_rg2, x_aList, x_aSort, x_aSl, x_dSl, x_aScr, x_scrLen, x_oN, x_oS, x_rN, x_rC, x_rRl, x_call, x_callB, x_callK, x_iSeq, x_iRg1, x_iRg2, x_iEn, x_gNm, x_gTp, x_gC, x_gN, x_gL, x_comp, startD, arD, wipeD, List.map_cons, List.map_nil, List.length_cons, List.length_nil, List.replicate_succ, List.replicate_zero, List.cons_append, List.nil_append, List.set_cons_succ, List.set_cons_zero, List.getElem?_cons_succ, List.getElem?_cons_zero, Option.some.injEq, PyData.int.injEq, PyData.bool.injEq, PyData.tuple.injEq, PyData.list.injEq, DV.dat.injEq, DV.own.injEq, exists_eq_left', exists_eq_left, exists_eq_right, exists_eq_right', exists_and_left, List.cons.injEq, and_true, true_and, atI0, atI1, atI2, atI3, atI4, atI5, Nat.sub_self, Nat.reduceSub, Nat.reduceAdd, Nat.reduceLT, if_true, if_false, Bool.false_eq_true, ↓reduceIte, Nat.zero_add, y_eqI, y_neI, y_neB, y_eqB, y_eqS, y_neS, y_ltI, y_gtI, y_leI, y_geI, y_inR, y_notInR, y_eqR, y_neR, y_lenR, y_tupR, row_tup, row_lst, tup_lst, lst_tup, false_and, and_false, exists_false, false_or, or_false, exists_const, atI_map, Option.map_some, decide_true, decide_false, Bool.not_true, Bool.not_false, eq_self, y_isB, DV.scr.injEq, x_chain, x_tRg, x_parEL, x_parLE, x_parLL, x_gLs, Nat.add_zero, x_par3, x_aSetSort, x_itL, x_itT, x_itR, x_slL, x_slT, x_lsE]
  refine few_lst (by omega) (by omega) (by omega) (by omega) fun q h1 h2 => hP q _ (fun z => ?_) h1 (by omega)
  rw [z, List.length_nil] at h2
  omega
theorem set_rows {l : List Row} {Q : List D → Prop} (hl : l.length < 64) (q : Q ((onceE rowD l).map rowD)) :
    (DZ.KeysOk (l.map rowD) ∧ ∀ es, DZ.SetSorted (l.map rowD) es → Q es) ∨ ∃ ns : List Int, l.map rowD = intsD ns ∧ ns.length < 64 ∧ ∀ ms : List Int, ms.Pairwise (· < ·) → (∀ k, k ∈ ms ↔ k ∈ ns) → Q (intsD ms) :=
  setSort_typed kenc_row (fun x => ⟨_, rfl⟩) (Nat.lt_trans hl (by decide)) q
def fDet : Fn := fun as n P => ∃ (s : Sky) (sg : Int) (k : Nat), as = [.rl, .d (skyD s), .d (.int sg), .d (.int k)] ∧ s.st.length ≤ 10 ∧ 1 ≤ sg ∧ sg ≤ 6 ∧ 1 ≤ k ∧ k ≤ 9 ∧ 2000 ≤ n ∧ ∀ ends m, GoodDet s.st.length sg k ends → n ≤ m + 2000 → P (detD sg ends) m
theorem hf_det (as : List Ar) (n : Nat) (P : D → Nat → Prop) (hl : as.length = 4) (h : fDet as n P) : rd__law_drawn_detector fTake fSet ⟨fun _ m => P .none m, P, fun _ _ => False, fun _ _ => False⟩ (startD ["mill", "sky", "signs", "most", "ends", "storm", "turn"] as) n := by
  obtain ⟨s, sg, k, rfl, sl, s0, s1, k0, k1, hn, hP⟩ := h
  simp only [rd__law_drawn_detector, k_ix2, x_var0, x_varS, x_own0, x_ownS, x_ixT, x_ixL, x_addI, x_addT, x_addL, x_gI, x_gIC, x_neg, x_abs, x_intI, x_intB, x_lenT, x_lenL, x_tupL, x_tupT, x_rep, x_seq, x_next, x_set, x_setL, x_par, x_asg, x_drop, x_app, x_ext, x_ret, x_retN, x_if, x_frz, x_for, x_bk, x_ct, x_d1, x_d2, x_dC, x_dL, x_tup, x_and, x_or, x_not, x_ife, x_dB, x_dTr, x_dNot, x_dAnd, x_dOr, x_yes, x_aC, x_aN, x_aSz, x_aRg, x_rg1, x_rg2, x_aList, x_aSort, x_aSl, x_dSl, x_aScr, x_scrLen, x_oN, x_oS, x_rN, x_rC, x_rRl, x_call, x_callB, x_callK, x_iSeq, x_iRg1, x_iRg2, x_iEn, x_gNm, x_gTp, x_gC, x_gN, x_gL, x_comp, startD, arD, wipeD, List.map_cons, List.map_nil, List.length_cons, List.length_nil, List.replicate_succ, List.replicate_zero, List.cons_append, List.nil_append, List.set_cons_succ, List.set_cons_zero, List.getElem?_cons_succ, List.getElem?_cons_zero, Option.some.injEq, PyData.int.injEq, PyData.bool.injEq, PyData.tuple.injEq, PyData.list.injEq, DV.dat.injEq, DV.own.injEq, exists_eq_left', exists_eq_left, exists_eq_right, exists_eq_right', exists_and_left, List.cons.injEq, and_true, true_and, atI0, atI1, atI2, atI3, atI4, atI5, Nat.sub_self, Nat.reduceSub, Nat.reduceAdd, Nat.reduceLT, if_true, if_false, Bool.false_eq_true, ↓reduceIte, Nat.zero_add, y_eqI, y_neI, y_neB, y_eqB, y_eqS, y_neS, y_ltI, y_gtI, y_leI, y_geI, y_inR, y_notInR, y_eqR, y_neR, y_lenR, y_tupR, row_tup, row_lst, tup_lst, lst_tup, false_and, and_false, exists_false, false_or, or_false, exists_const, atI_map, Option.map_some, decide_true, decide_false, Bool.not_true, Bool.not_false, eq_self, y_isB, DV.scr.injEq, x_chain, x_tRg, x_parEL, x_parLE, x_parLL, x_gLs, Nat.add_zero, x_par3, x_aSetSort, x_itL, x_itT, x_itR, x_slL, x_slT, x_lsE]
  refine ⟨Nat.zero_le _, ?_⟩
  refine forR_inv (e := stD) (fun r δ m => ∃ (ends : List (List Row)) (z5 : Option DV) (z6 : Option D), δ = [some .rl, some (.dat (skyD s)), some (.dat (.int sg)), some (.dat (.int k)), some (.own (ends.map famD)), z5, Option.map .dat z6] ∧ ends.length + r.length = s.st.length ∧ (∀ f ∈ ends, FamOk sg k f) ∧ n + 150 * r.length ≤ m + 1500) s.st _ n ⟨[], none, none, rfl, by simp, (fun f h => nomatch h), by omega⟩ (fun x r δ m hx hI N hN => ?_) fun δ m hI => ?_
  · obtain ⟨ends, z5, z6, rfl, hl, hf, hm⟩ := hI
    rw [List.length_cons] at hl hm
    simp only [x_var0, x_varS, x_own0, x_ownS, x_ixT, x_ixL, x_addI, x_addT, x_addL, x_gI, x_gIC, x_neg, x_abs, x_intI, x_intB, x_lenT, x_lenL, x_tupL, x_tupT, x_rep, x_seq, x_next, x_set, x_setL, x_par, x_asg, x_drop, x_app, x_ext, x_ret, x_retN, x_if, x_frz, x_for, x_bk, x_ct, x_d1, x_d2, x_dC, x_dL, x_tup, x_and, x_or, x_not, x_ife, x_dB, x_dTr, x_dNot, x_dAnd, x_dOr, x_yes, x_aC, x_aN, x_aSz, x_aRg, x_rg1, x_rg2, x_aList, x_aSort, x_aSl, x_dSl, x_aScr, x_scrLen, x_oN, x_oS, x_rN, x_rC, x_rRl, x_call, x_callB, x_callK, x_iSeq, x_iRg1, x_iRg2, x_iEn, x_gNm, x_gTp, x_gC, x_gN, x_gL, x_comp, startD, arD, wipeD, List.map_cons, List.map_nil, List.length_cons, List.length_nil, List.replicate_succ, List.replicate_zero, List.cons_append, List.nil_append, List.set_cons_succ, List.set_cons_zero, List.getElem?_cons_succ, List.getElem?_cons_zero, Option.some.injEq, PyData.int.injEq, PyData.bool.injEq, PyData.tuple.injEq, PyData.list.injEq, DV.dat.injEq, DV.own.injEq, exists_eq_left', exists_eq_left, exists_eq_right, exists_eq_right', exists_and_left, List.cons.injEq, and_true, true_and, atI0, atI1, atI2, atI3, atI4, atI5, Nat.sub_self, Nat.reduceSub, Nat.reduceAdd, Nat.reduceLT, if_true, if_false, Bool.false_eq_true, ↓reduceIte, Nat.zero_add, y_eqI, y_neI, y_neB, y_eqB, y_eqS, y_neS, y_ltI, y_gtI, y_leI, y_geI, y_inR, y_notInR, y_eqR, y_neR, y_lenR, y_tupR, row_tup, row_lst, tup_lst, lst_tup, false_and, and_false, exists_false, false_or, or_false, exists_const, atI_map, Option.map_some, decide_true, decide_false, Bool.not_true, Bool.not_false, eq_self, y_isB, DV.scr.injEq, x_chain, x_tRg, x_parEL, x_parLE, x_parLL, x_gLs, Nat.add_zero, x_par3, x_aSetSort, x_itL, x_itT, x_itR, x_slL, x_slT, x_lsE]
    have no6 : ∀ x, noOwn [6] [some .rl, some (.dat (skyD s)), some (.dat (.int sg)), some (.dat (.int k)), some (.own (ends.map famD)), some (.dat x), Option.map DV.dat z6] = true := fun _ => by cases z6 <;> rfl
    refine ⟨smallLt _ (by rw [List.length_map]; omega), no6 _, k, rfl, by omega, by omega, fun t t0 t1 => ?_⟩
    obtain ⟨j, rfl⟩ : ∃ j : Nat, t = (j : Int) := ⟨t.toNat, by omega⟩
    have hjk : 1 + j ≤ k := by omega
    simp only [x_var0, x_varS, x_own0, x_ownS, x_ixT, x_ixL, x_addI, x_addT, x_addL, x_gI, x_gIC, x_neg, x_abs, x_intI, x_intB, x_lenT, x_lenL, x_tupL, x_tupT, x_rep, x_seq, x_next, x_set, x_setL, x_par, x_asg, x_drop, x_app, x_ext, x_ret, x_retN, x_if, x_frz, x_for, x_bk, x_ct, x_d1, x_d2, x_dC, x_dL, x_tup, x_and, x_or, x_not, x_ife, x_dB, x_dTr, x_dNot, x_dAnd, x_dOr, x_yes, x_aC, x_aN, x_aSz, x_aRg, x_rg1, x_rg2, x_aList, x_aSort, x_aSl, x_dSl, x_aScr, x_scrLen, x_oN, x_oS, x_rN, x_rC, x_rRl, x_call, x_callB, x_callK, x_iSeq, x_iRg1, x_iRg2, x_iEn, x_gNm, x_gTp, x_gC, x_gN, x_gL, x_comp, startD, arD, wipeD, List.map_cons, List.map_nil, List.length_cons, List.length_nil, List.replicate_succ, List.replicate_zero, List.cons_append, List.nil_append, List.set_cons_succ, List.set_cons_zero, List.getElem?_cons_succ, List.getElem?_cons_zero, Option.some.injEq, PyData.int.injEq, PyData.bool.injEq, PyData.tuple.injEq, PyData.list.injEq, DV.dat.injEq, DV.own.injEq, exists_eq_left', exists_eq_left, exists_eq_right, exists_eq_right', exists_and_left, List.cons.injEq, and_true, true_and, atI0, atI1, atI2, atI3, atI4, atI5, Nat.sub_self, Nat.reduceSub, Nat.reduceAdd, Nat.reduceLT, if_true, if_false, Bool.false_eq_true, ↓reduceIte, Nat.zero_add, y_eqI, y_neI, y_neB, y_eqB, y_eqS, y_neS, y_ltI, y_gtI, y_leI, y_geI, y_inR, y_notInR, y_eqR, y_neR, y_lenR, y_tupR, row_tup, row_lst, tup_lst, lst_tup, false_and, and_false, exists_false, false_or, or_false, exists_const, atI_map, Option.map_some, decide_true, decide_false, Bool.not_true, Bool.not_false, eq_self, y_isB, DV.scr.injEq, x_chain, x_tRg, x_parEL, x_parLE, x_parLL, x_gLs, Nat.add_zero, x_par3, x_aSetSort, x_itL, x_itT, x_itR, x_slL, x_slT, x_lsE]
    refine ⟨by omega, by omega, ?_⟩
    rw [show ((1 : Int) + (j : Int)).toNat = (rng ((1 + j : Nat) : Int)).length by rw [rng_len]; omega, ← show rangeD 0 ((1 + j : Nat) : Int).toNat = rangeD 0 (rng ((1 + j : Nat) : Int)).length by rw [rng_len], rangeD_rng]
    have rl : (rng ((1 + j : Nat) : Int)).length = 1 + j := by rw [rng_len]; omega
    refine ⟨small _ (by rw [intsD_len, rl]; omega), ?_⟩
    refine compR_inv (e := PyData.int) (fun r acc m' => ∃ f : List Row, acc = f.map rowD ∧ (∀ x ∈ f, x ≠ [] ∧ x.Sublist (rng sg)) ∧ f.length + r.length = 1 + j ∧ m + 10 * r.length ≤ m' + 100) _ [] (m - 1) ⟨[], rfl, (fun x h => nomatch h), by rw [rl]; simp, by rw [rl]; omega⟩ (fun x r acc m' hx hI A B ha hb => ?_) fun acc m' hI => ?_
    · obtain ⟨f, rfl, h1, h2, h3⟩ := hI
      rw [List.length_cons] at h2 h3
      simp only [x_var0, x_varS, x_own0, x_ownS, x_ixT, x_ixL, x_addI, x_addT, x_addL, x_gI, x_gIC, x_neg, x_abs, x_intI, x_intB, x_lenT, x_lenL, x_tupL, x_tupT, x_rep, x_seq, x_next, x_set, x_setL, x_par, x_asg, x_drop, x_app, x_ext, x_ret, x_retN, x_if, x_frz, x_for, x_bk, x_ct, x_d1, x_d2, x_dC, x_dL, x_tup, x_and, x_or, x_not, x_ife, x_dB, x_dTr, x_dNot, x_dAnd, x_dOr, x_yes, x_aC, x_aN, x_aSz, x_aRg, x_rg1, x_rg2, x_aList, x_aSort, x_aSl, x_dSl, x_aScr, x_scrLen, x_oN, x_oS, x_rN, x_rC, x_rRl, x_call, x_callB, x_callK, x_iSeq, x_iRg1, x_iRg2, x_iEn, x_gNm, x_gTp, x_gC, x_gN, x_gL, x_comp, startD, arD, wipeD, List.map_cons, List.map_nil, List.length_cons, List.length_nil, List.replicate_succ, List.replicate_zero, List.cons_append, List.nil_append, List.set_cons_succ, List.set_cons_zero, List.getElem?_cons_succ, List.getElem?_cons_zero, Option.some.injEq, PyData.int.injEq, PyData.bool.injEq, PyData.tuple.injEq, PyData.list.injEq, DV.dat.injEq, DV.own.injEq, exists_eq_left', exists_eq_left, exists_eq_right, exists_eq_right', exists_and_left, List.cons.injEq, and_true, true_and, atI0, atI1, atI2, atI3, atI4, atI5, Nat.sub_self, Nat.reduceSub, Nat.reduceAdd, Nat.reduceLT, if_true, if_false, Bool.false_eq_true, ↓reduceIte, Nat.zero_add, y_eqI, y_neI, y_neB, y_eqB, y_eqS, y_neS, y_ltI, y_gtI, y_leI, y_geI, y_inR, y_notInR, y_eqR, y_neR, y_lenR, y_tupR, row_tup, row_lst, tup_lst, lst_tup, false_and, and_false, exists_false, false_or, or_false, exists_const, atI_map, Option.map_some, decide_true, decide_false, Bool.not_true, Bool.not_false, eq_self, y_isB, DV.scr.injEq, x_chain, x_tRg, x_parEL, x_parLE, x_parLL, x_gLs, Nat.add_zero, x_par3, x_aSetSort, x_itL, x_itT, x_itR, x_slL, x_slT, x_lsE]
      refine ⟨sg, rfl, s0, s1, by omega, fun q m2 q1 q2 hm2 => ha _ _ ⟨f ++ [q], by rw [List.map_append]; rfl, fun y hy => ?_, by rw [List.length_append, List.length_singleton]; omega, by omega⟩⟩
      rcases List.mem_append.mp hy with hy | hy
      · exact h1 y hy
      · rw [List.mem_singleton.mp hy]; exact ⟨q1, q2⟩
    · obtain ⟨f, rfl, h1, h2, h3⟩ := hI
      rw [List.length_nil] at h2 h3
      refine set_rows (by omega) ?_
      have q := onceE_asc enc_row f
      have le := onceE_len (e := rowD) f
      refine hN _ _ ⟨ends ++ [onceE rowD f], _, z6, by rw [List.map_append]; rfl, by rw [List.length_append, List.length_singleton]; omega, fun g hg => ?_, by omega⟩
      rcases List.mem_append.mp hg with hg | hg
      · exact hf g hg
      · rw [List.mem_singleton.mp hg]
        exact ⟨once_pos enc_row (by omega), by omega, q.1, fun x hx => h1 x ((q.2 x).mp hx)⟩
  · obtain ⟨ends, z5, z6, rfl, hl, hf, hm⟩ := hI
    rw [List.length_nil] at hl hm
    simp only [x_var0, x_varS, x_own0, x_ownS, x_ixT, x_ixL, x_addI, x_addT, x_addL, x_gI, x_gIC, x_neg, x_abs, x_intI, x_intB, x_lenT, x_lenL, x_tupL, x_tupT, x_rep, x_seq, x_next, x_set, x_setL, x_par, x_asg, x_drop, x_app, x_ext, x_ret, x_retN, x_if, x_frz, x_for, x_bk, x_ct, x_d1, x_d2, x_dC, x_dL, x_tup, x_and, x_or, x_not, x_ife, x_dB, x_dTr, x_dNot, x_dAnd, x_dOr, x_yes, x_aC, x_aN, x_aSz, x_aRg, x_rg1, x_rg2, x_aList, x_aSort, x_aSl, x_dSl, x_aScr, x_scrLen, x_oN, x_oS, x_rN, x_rC, x_rRl, x_call, x_callB, x_callK, x_iSeq, x_iRg1, x_iRg2, x_iEn, x_gNm, x_gTp, x_gC, x_gN, x_gL, x_comp, startD, arD, wipeD, List.map_cons, List.map_nil, List.length_cons, List.length_nil, List.replicate_succ, List.replicate_zero, List.cons_append, List.nil_append, List.set_cons_succ, List.set_cons_zero, List.getElem?_cons_succ, List.getElem?_cons_zero, Option.some.injEq, PyData.int.injEq, PyData.bool.injEq, PyData.tuple.injEq, PyData.list.injEq, DV.dat.injEq, DV.own.injEq, exists_eq_left', exists_eq_left, exists_eq_right, exists_eq_right', exists_and_left, List.cons.injEq, and_true, true_and, atI0, atI1, atI2, atI3, atI4, atI5, Nat.sub_self, Nat.reduceSub, Nat.reduceAdd, Nat.reduceLT, if_true, if_false, Bool.false_eq_true, ↓reduceIte, Nat.zero_add, y_eqI, y_neI, y_neB, y_eqB, y_eqS, y_neS, y_ltI, y_gtI, y_leI, y_geI, y_inR, y_notInR, y_eqR, y_neR, y_lenR, y_tupR, row_tup, row_lst, tup_lst, lst_tup, false_and, and_false, exists_false, false_or, or_false, exists_const, atI_map, Option.map_some, decide_true, decide_false, Bool.not_true, Bool.not_false, eq_self, y_isB, DV.scr.injEq, x_chain, x_tRg, x_parEL, x_parLE, x_parLL, x_gLs, Nat.add_zero, x_par3, x_aSetSort, x_itL, x_itT, x_itR, x_slL, x_slT, x_lsE]
    exact ⟨by decide, hP ends _ ⟨by omega, hf⟩ (by omega)⟩
/-! ### odd values -/
def fOdd : Fn := fun as n P => as = [.rl] ∧ 1 ≤ n ∧ ∀ d, Shw 6 5000 d → (∀ ds, d = .tuple ds → Vw 6 5000 d) → P d (n - 1)
theorem hf_odd (as : List Ar) (n : Nat) (P : D → Nat → Prop) (hl : as.length = 1) (h : fOdd as n P) : rd__law_odd fOne ⟨fun _ m => P .none m, P, fun _ _ => False, fun _ _ => False⟩ (startD ["mill", "some"] as) n := by
  obtain ⟨rfl, hn, hP⟩ := h
  have go : ∀ d, Vw 2 300 d → P d (n - 1) := fun d h => by
    have h' : Vw 6 5000 d := h.mono (by decide) (by decide)
    exact hP d h'.shw fun _ _ => h'
  simp only [rd__law_odd, x_var0, x_varS, x_own0, x_ownS, x_ixT, x_ixL, x_addI, x_addT, x_addL, x_gI, x_gIC, x_neg, x_abs, x_intI, x_intB, x_lenT, x_lenL, x_tupL, x_tupT, x_rep, x_seq, x_next, x_set, x_setL, x_par, x_asg, x_drop, x_app, x_ext, x_ret, x_retN, x_if, x_frz, x_for, x_bk, x_ct, x_d1, x_d2, x_dC, x_dL, x_tup, x_and, x_or, x_not, x_ife, x_dB, x_dTr, x_dNot, x_dAnd, x_dOr, x_yes, x_aC, x_aN, x_aSz, x_aRg, x_rg1, x_rg2, x_aList, x_aSort, x_aSl, x_dSl, x_aScr, x_scrLen, x_oN, x_oS, x_rN, x_rC, x_rRl, x_call, x_callB, x_callK, x_iSeq, x_iRg1, x_iRg2, x_iEn, x_gNm, x_gTp, x_gC, x_gN, x_gL, x_comp, startD, arD, wipeD, List.map_cons, List.map_nil, List.length_cons, List.length_nil, List.replicate_succ, List.replicate_zero, List.cons_append, List.nil_append, List.set_cons_succ, List.set_cons_zero, List.getElem?_cons_succ, List.getElem?_cons_zero, Option.some.injEq, PyData.int.injEq, PyData.bool.injEq, PyData.tuple.injEq, PyData.list.injEq, DV.dat.injEq, DV.own.injEq, exists_eq_left', exists_eq_left, exists_eq_right, exists_eq_right', exists_and_left, List.cons.injEq, and_true, true_and, atI0, atI1, atI2, atI3, atI4, atI5, Nat.sub_self, Nat.reduceSub, Nat.reduceAdd, Nat.reduceLT, if_true, if_false, Bool.false_eq_true, ↓reduceIte, Nat.zero_add, y_eqI, y_neI, y_neB, y_eqB, y_eqS, y_neS, y_ltI, y_gtI, y_leI, y_geI, y_inR, y_notInR, y_eqR, y_neR, y_lenR, y_tupR, row_tup, row_lst, tup_lst, lst_tup, false_and, and_false, exists_false, false_or, or_false, exists_const, atI_map, Option.map_some, decide_true, decide_false, Bool.not_true, Bool.not_false, eq_self, y_isB, DV.scr.injEq, x_chain, x_tRg, x_parEL, x_parLE, x_parLL, x_gLs, Nat.add_zero, x_par3, x_aSetSort, x_itL, x_itT, x_itR, x_slL, x_slT, x_lsE]
  refine ⟨cpow30, by decide, by decide, by decide, by decide, by decide, by decide, by decide, by decide, by decide, by decide, by decide, by decide, by decide, by decide, by decide, by decide, by decide, by decide, by decide, by decide, by decide, by decide, by decide, ?_⟩
  refine ⟨by decide, _, _, rfl, .inl rfl, by simp, by simp, hn, fun d hd => ?_⟩
  simp only [List.mem_cons, List.not_mem_nil, or_false] at hd
  rcases hd with rfl | rfl | rfl | rfl | rfl | rfl | rfl | rfl | rfl | rfl | rfl | rfl | rfl | rfl | rfl | rfl | rfl | rfl | rfl | rfl | rfl | rfl | rfl | rfl | rfl <;> first | exact go _ cv | exact hP _ ⟨by decide +kernel, by decide +kernel, by decide +kernel, by decide +kernel⟩ fun ds e => by cases e
end My
/-! mill: is_ascending, is_row, is_lot (cut out of KRw, KRq, KRp, KRf) -/
namespace My
open PySem PySem.Spec L2 DL
theorem asc_ok {α : Type} [DecidableEq α] {e : α → D} {k : Nat} (he : Enc k e) (hk : k ≤ 64) {l : List α} (hl : l.length ≤ 100000) {n : Nat} {P : D → Nat → Prop} (hP : P (.bool (adjB (ltE e) l)) n) :
    rd_is_ascending ⟨fun _ m => P .none m, P, fun _ _ => False, fun _ _ => False⟩ (startD ["items", "place"] [.d (.tuple (l.map e))]) n := by
  simp only [rd_is_ascending, x_var0, x_varS, x_own0, x_ownS, x_ixT, x_ixL, x_addI, x_addT, x_addL, x_gI, x_gIC, x_neg, x_abs, x_intI, x_intB, x_lenT, x_lenL, x_tupL, x_tupT, x_rep, x_seq, x_next, x_set, x_setL, x_par, x_asg, x_drop, x_app, x_ext, x_ret, x_retN, x_if, x_frz, x_for, x_bk, x_ct, x_d1, x_d2, x_dC, x_dL, x_tup, x_and, x_or, x_not, x_ife, x_dB, x_dTr, x_dNot, x_dAnd, x_dOr, x_yes, x_aC, x_aN, x_aSz, x_aRg, x_rg1, x_rg2, x_aList, x_aSort, x_aSl, x_dSl, x_aScr, x_scrLen, x_oN, x_oS, x_rN, x_rC, x_rRl, x_call, x_callB, x_callK, x_iSeq, x_iRg1, x_iRg2, x_iEn, x_gNm, x_gTp, x_gC, x_gN, x_gL, x_comp, startD, arD, wipeD, List.map_cons, List.map_nil, List.length_cons, List.length_nil, List.replicate_succ, List.replicate_zero, List.cons_append, List.nil_append, List.set_cons_succ, List.set_cons_zero, List.getElem?_cons_succ, List.getElem?_cons_zero, Option.some.injEq, PyData.int.injEq, PyData.bool.injEq, PyData.tuple.injEq, PyData.list.injEq, DV.dat.injEq, DV.own.injEq, exists_eq_left', exists_eq_left, exists_eq_right, exists_eq_right', exists_and_left, List.cons.injEq, and_true, true_and, atI0, atI1, atI2, atI3, atI4, atI5, Nat.sub_self, Nat.reduceSub, Nat.reduceAdd, Nat.reduceLT, if_true, if_false, Bool.false_eq_true, ↓reduceIte, Nat.zero_add, y_eqI, y_neI, y_neB, y_eqB, y_eqS, y_neS, y_ltI, y_gtI, y_leI, y_geI, y_inR, y_notInR, y_eqR, y_neR, y_lenR, y_tupR, row_tup, row_lst, tup_lst, lst_tup, false_and, and_false, exists_false, false_or, or_false, exists_const, atI_map, Option.map_some, decide_true, decide_false, Bool.not_true, Bool.not_false, eq_self, y_isB, DV.scr.injEq, x_chain, x_tRg, x_parEL, x_parLE, x_parLL, x_gLs, Nat.add_zero, x_par3, x_aSetSort, x_itL, x_itT, x_itR, x_slL, x_slT, x_lsE, List.length_map]
  refine ⟨rfl, by omega, by omega, small _ (by rw [rangeD, List.length_map, List.length_range]; omega), ?_⟩
  have er : rangeD 0 ((l.length : Int) - 1).toNat = (List.range (l.length - 1)).map fun j : Nat => PyData.int (0 + (j : Int)) := by
    rw [rangeD, show ((l.length : Int) - 1).toNat = l.length - 1 by omega]
  rw [er]
  refine compR_each (e := fun j : Nat => PyData.int (0 + (j : Int))) (fun j => .bool (adjAt (ltE e) l j)) (List.range (l.length - 1)) _ (fun j hj A B ha => ?_) ?_
  · have hj' := List.mem_range.mp hj
    simp only [x_var0, x_varS, x_own0, x_ownS, x_ixT, x_ixL, x_addI, x_addT, x_addL, x_gI, x_gIC, x_neg, x_abs, x_intI, x_intB, x_lenT, x_lenL, x_tupL, x_tupT, x_rep, x_seq, x_next, x_set, x_setL, x_par, x_asg, x_drop, x_app, x_ext, x_ret, x_retN, x_if, x_frz, x_for, x_bk, x_ct, x_d1, x_d2, x_dC, x_dL, x_tup, x_and, x_or, x_not, x_ife, x_dB, x_dTr, x_dNot, x_dAnd, x_dOr, x_yes, x_aC, x_aN, x_aSz, x_aRg, x_rg1, x_rg2, x_aList, x_aSort, x_aSl, x_dSl, x_aScr, x_scrLen, x_oN, x_oS, x_rN, x_rC, x_rRl, x_call, x_callB, x_callK, x_iSeq, x_iRg1, x_iRg2, x_iEn, x_gNm, x_gTp, x_gC, x_gN, x_gL, x_comp, startD, arD, wipeD, List.map_cons, List.map_nil, List.length_cons, List.length_nil, List.replicate_succ, List.replicate_zero, List.cons_append, List.nil_append, List.set_cons_succ, List.set_cons_zero, List.getElem?_cons_succ, List.getElem?_cons_zero, Option.some.injEq, PyData.int.injEq, PyData.bool.injEq, PyData.tuple.injEq, PyData.list.injEq, DV.dat.injEq, DV.own.injEq, exists_eq_left', exists_eq_left, exists_eq_right, exists_eq_right', exists_and_left, List.cons.injEq, and_true, true_and, atI0, atI1, atI2, atI3, atI4, atI5, Nat.sub_self, Nat.reduceSub, Nat.reduceAdd, Nat.reduceLT, if_true, if_false, Bool.false_eq_true, ↓reduceIte, Nat.zero_add, y_eqI, y_neI, y_neB, y_eqB, y_eqS, y_neS, y_ltI, y_gtI, y_leI, y_geI, y_inR, y_notInR, y_eqR, y_neR, y_lenR, y_tupR, row_tup, row_lst, tup_lst, lst_tup, false_and, and_false, exists_false, false_or, or_false, exists_const, atI_map, Option.map_some, decide_true, decide_false, Bool.not_true, Bool.not_false, eq_self, y_isB, DV.scr.injEq, x_chain, x_tRg, x_parEL, x_parLE, x_parLL, x_gLs, Nat.add_zero, x_par3, x_aSetSort, x_itL, x_itT, x_itR, x_slL, x_slT, x_lsE, Int.zero_add]
    have l1 : j < l.length := by omega
    have l2 : j + 1 < l.length := by omega
    have ea : adjAt (ltE e) l j = ltE e l[j] l[j + 1] := by
      unfold adjAt
      rw [List.getElem?_eq_getElem l1, List.getElem?_eq_getElem l2]
    rw [ea] at ha
    refine ⟨e l[j], by rw [atI_nat', List.getElem?_eq_getElem l1]; rfl, e l[j + 1], by rw [show (j : Int) + 1 = ((j + 1 : Nat) : Int) by omega, atI_nat', List.getElem?_eq_getElem l2]; rfl, ?_⟩
    rw [y_lt he hk]
    exact ha
  · rw [List.nil_append]
    have e2 : (List.range (l.length - 1)).map (fun j => PyData.bool (adjAt (ltE e) l j)) = ((List.range (l.length - 1)).map (adjAt (ltE e) l)).map PyData.bool := by rw [List.map_map]; rfl
    rw [e2, x_all, List.all_map]
    have e3 : (List.range (l.length - 1)).all (id ∘ adjAt (ltE e) l) = adjB (ltE e) l := adj_all _ l
    rw [e3]
    exact hP
def fAsc : Fn := fun as n P => (∃ r : Row, as = [.d (rowD r)] ∧ r.length ≤ 100000 ∧ P (.bool (adjB (ltE PyData.int) r)) n) ∨ (∃ l : List St, as = [.d (.tuple (l.map stD))] ∧ l.length ≤ 100000 ∧ P (.bool (adjB (ltE stD) l)) n) ∨ ∃ l : List Row, as = [.d (.tuple (l.map rowD))] ∧ l.length ≤ 100000 ∧ P (.bool (adjB (ltE rowD) l)) n
theorem hf_asc (as : List Ar) (n : Nat) (P : D → Nat → Prop) (hl : as.length = 1) (h : fAsc as n P) : rd_is_ascending ⟨fun _ m => P .none m, P, fun _ _ => False, fun _ _ => False⟩ (startD ["items", "place"] as) n := by
  rcases h with ⟨r, rfl, h1, hP⟩ | ⟨l, rfl, h1, hP⟩ | ⟨l, rfl, h1, hP⟩
  · exact asc_ok enc_int (by decide) h1 hP
  · exact asc_ok enc_st (by decide) h1 hP
  · exact asc_ok enc_row (by decide) h1 hP
def fRowP : Fn := fun as n P => ∃ (d : D) (m : Int), as = [.d d, .d (.int m)] ∧ Vis d ∧ P (.bool (rowOk d m)) n
theorem hf_row (as : List Ar) (n : Nat) (P : D → Nat → Prop) (hl : as.length = 2) (h : fRowP as n P) : rd_is_row fWhole fAsc ⟨fun _ m => P .none m, P, fun _ _ => False, fun _ _ => False⟩ (startD ["value", "many", "item"] as) n := by
  obtain ⟨d, m, rfl, hv, hP⟩ := h
  cases d with
  | tuple ds =>
    have hd := vis_len hv
    simp only [rd_is_row, x_var0, x_varS, x_own0, x_ownS, x_ixT, x_ixL, x_addI, x_addT, x_addL, x_gI, x_gIC, x_neg, x_abs, x_intI, x_intB, x_lenT, x_lenL, x_tupL, x_tupT, x_rep, x_seq, x_next, x_set, x_setL, x_par, x_asg, x_drop, x_app, x_ext, x_ret, x_retN, x_if, x_frz, x_for, x_bk, x_ct, x_d1, x_d2, x_dC, x_dL, x_tup, x_and, x_or, x_not, x_ife, x_dB, x_dTr, x_dNot, x_dAnd, x_dOr, x_yes, x_aC, x_aN, x_aSz, x_aRg, x_rg1, x_rg2, x_aList, x_aSort, x_aSl, x_dSl, x_aScr, x_scrLen, x_oN, x_oS, x_rN, x_rC, x_rRl, x_call, x_callB, x_callK, x_iSeq, x_iRg1, x_iRg2, x_iEn, x_gNm, x_gTp, x_gC, x_gN, x_gL, x_comp, startD, arD, wipeD, List.map_cons, List.map_nil, List.length_cons, List.length_nil, List.replicate_succ, List.replicate_zero, List.cons_append, List.nil_append, List.set_cons_succ, List.set_cons_zero, List.getElem?_cons_succ, List.getElem?_cons_zero, Option.some.injEq, PyData.int.injEq, PyData.bool.injEq, PyData.tuple.injEq, PyData.list.injEq, DV.dat.injEq, DV.own.injEq, exists_eq_left', exists_eq_left, exists_eq_right, exists_eq_right', exists_and_left, List.cons.injEq, and_true, true_and, atI0, atI1, atI2, atI3, atI4, atI5, Nat.sub_self, Nat.reduceSub, Nat.reduceAdd, Nat.reduceLT, if_true, if_false, Bool.false_eq_true, ↓reduceIte, Nat.zero_add, y_eqI, y_neI, y_neB, y_eqB, y_eqS, y_neS, y_ltI, y_gtI, y_leI, y_geI, y_inR, y_notInR, y_eqR, y_neR, y_lenR, y_tupR, row_tup, row_lst, tup_lst, lst_tup, false_and, and_false, exists_false, false_or, or_false, exists_const, atI_map, Option.map_some, decide_true, decide_false, Bool.not_true, Bool.not_false, eq_self, y_isB, DV.scr.injEq, x_chain, x_tRg, x_parEL, x_parLE, x_parLL, x_gLs, Nat.add_zero, x_par3, x_aSetSort, x_itL, x_itT, x_itR, x_slL, x_slT, x_lsE]
    refine isi (c := true) (by simp only [tyName]; decide) ⟨true, rfl, ?_⟩
    rw [if_neg (by decide)]
    refine ⟨rfl, small _ (by omega), ?_⟩
    refine compR_eachD (fun d => .bool (whole d 0 (m - 1))) ds _ (fun d hd A B ha => ?_) ?_
    · simp only [x_var0, x_varS, x_own0, x_ownS, x_ixT, x_ixL, x_addI, x_addT, x_addL, x_gI, x_gIC, x_neg, x_abs, x_intI, x_intB, x_lenT, x_lenL, x_tupL, x_tupT, x_rep, x_seq, x_next, x_set, x_setL, x_par, x_asg, x_drop, x_app, x_ext, x_ret, x_retN, x_if, x_frz, x_for, x_bk, x_ct, x_d1, x_d2, x_dC, x_dL, x_tup, x_and, x_or, x_not, x_ife, x_dB, x_dTr, x_dNot, x_dAnd, x_dOr, x_yes, x_aC, x_aN, x_aSz, x_aRg, x_rg1, x_rg2, x_aList, x_aSort, x_aSl, x_dSl, x_aScr, x_scrLen, x_oN, x_oS, x_rN, x_rC, x_rRl, x_call, x_callB, x_callK, x_iSeq, x_iRg1, x_iRg2, x_iEn, x_gNm, x_gTp, x_gC, x_gN, x_gL, x_comp, startD, arD, wipeD, List.map_cons, List.map_nil, List.length_cons, List.length_nil, List.replicate_succ, List.replicate_zero, List.cons_append, List.nil_append, List.set_cons_succ, List.set_cons_zero, List.getElem?_cons_succ, List.getElem?_cons_zero, Option.some.injEq, PyData.int.injEq, PyData.bool.injEq, PyData.tuple.injEq, PyData.list.injEq, DV.dat.injEq, DV.own.injEq, exists_eq_left', exists_eq_left, exists_eq_right, exists_eq_right', exists_and_left, List.cons.injEq, and_true, true_and, atI0, atI1, atI2, atI3, atI4, atI5, Nat.sub_self, Nat.reduceSub, Nat.reduceAdd, Nat.reduceLT, if_true, if_false, Bool.false_eq_true, ↓reduceIte, Nat.zero_add, y_eqI, y_neI, y_neB, y_eqB, y_eqS, y_neS, y_ltI, y_gtI, y_leI, y_geI, y_inR, y_notInR, y_eqR, y_neR, y_lenR, y_tupR, row_tup, row_lst, tup_lst, lst_tup, false_and, and_false, exists_false, false_or, or_false, exists_const, atI_map, Option.map_some, decide_true, decide_false, Bool.not_true, Bool.not_false, eq_self, y_isB, DV.scr.injEq, x_chain, x_tRg, x_parEL, x_parLE, x_parLL, x_gLs, Nat.add_zero, x_par3, x_aSetSort, x_itL, x_itT, x_itR, x_slL, x_slT, x_lsE]
      exact ⟨_, _, _, rfl, ha⟩
    rw [List.nil_append]
    have e : ds.map (fun d => PyData.bool (whole d 0 (m - 1))) = (ds.map fun d => whole d 0 (m - 1)).map PyData.bool := by simp
    rw [e, x_all]
    have e2 : (ds.map fun d => whole d 0 (m - 1)).all id = ds.all fun d => whole d 0 (m - 1) := by rw [List.all_map]; rfl
    rw [e2]
    rw [rowOk_tup] at hP
    refine ⟨_, rfl, ifc (fun c => ?_) fun c => ?_⟩
    · rw [show (ds.all fun d => whole d 0 (m - 1)) = false by simpa using c, Bool.false_and] at hP
      exact hP
    have c' : (ds.all fun d => whole d 0 (m - 1)) = true := by simpa using c
    rw [c', Bool.true_and] at hP
    obtain ⟨e3, _⟩ := ints_map c'
    have l2 : (ds.map asI).length ≤ 100000 := by rw [List.length_map]; exact hd
    generalize ds.map asI = r at e3 hP l2
    subst e3
    exact .inl ⟨r, rfl, l2, hP⟩
  | _ =>
    simp only [rd_is_row, x_var0, x_varS, x_own0, x_ownS, x_ixT, x_ixL, x_addI, x_addT, x_addL, x_gI, x_gIC, x_neg, x_abs, x_intI, x_intB, x_lenT, x_lenL, x_tupL, x_tupT, x_rep, x_seq, x_next, x_set, x_setL, x_par, x_asg, x_drop, x_app, x_ext, x_ret, x_retN, x_if, x_frz, x_for, x_bk, x_ct, x_d1, x_d2, x_dC, x_dL, x_tup, x_and, x_or, x_not, x_ife, x_dB, x_dTr, x_dNot, x_dAnd, x_dOr, x_yes, x_aC, x_aN, x_aSz, x_aRg, x_rg1, x_rg2, x_aList, x_aSort, x_aSl, x_dSl, x_aScr, x_scrLen, x_oN, x_oS, x_rN, x_rC, x_rRl, x_call, x_callB, x_callK, x_iSeq, x_iRg1, x_iRg2, x_iEn, x_gNm, x_gTp, x_gC, x_gN, x_gL, x_comp, startD, arD, wipeD, List.map_cons, List.map_nil, List.length_cons, List.length_nil, List.replicate_succ, List.replicate_zero, List.cons_append, List.nil_append, List.set_cons_succ, List.set_cons_zero, List.getElem?_cons_succ, List.getElem?_cons_zero, Option.some.injEq, PyData.int.injEq, PyData.bool.injEq, PyData.tuple.injEq, PyData.list.injEq, DV.dat.injEq, DV.own.injEq, exists_eq_left', exists_eq_left, exists_eq_right, exists_eq_right', exists_and_left, List.cons.injEq, and_true, true_and, atI0, atI1, atI2, atI3, atI4, atI5, Nat.sub_self, Nat.reduceSub, Nat.reduceAdd, Nat.reduceLT, if_true, if_false, Bool.false_eq_true, ↓reduceIte, Nat.zero_add, y_eqI, y_neI, y_neB, y_eqB, y_eqS, y_neS, y_ltI, y_gtI, y_leI, y_geI, y_inR, y_notInR, y_eqR, y_neR, y_lenR, y_tupR, row_tup, row_lst, tup_lst, lst_tup, false_and, and_false, exists_false, false_or, or_false, exists_const, atI_map, Option.map_some, decide_true, decide_false, Bool.not_true, Bool.not_false, eq_self, y_isB, DV.scr.injEq, x_chain, x_tRg, x_parEL, x_parLE, x_parLL, x_gLs, Nat.add_zero, x_par3, x_aSetSort, x_itL, x_itT, x_itR, x_slL, x_slT, x_lsE]
    exact isi (c := false) (by simp only [tyName]; decide) ⟨false, rfl, hP⟩
def asR (d : D) : Row := match d with
  | .tuple ds => ds.map asI
  | _ => []
def emptyT (d : D) : Bool := match d with
  | .tuple [] => true
  | _ => false
def Asc (q : Row) : Prop := adjB (ltE PyData.int) q = true
theorem asI_ints (q : Row) : (intsD q).map asI = q := by
  rw [intsD, List.map_map]
  exact List.map_id _
theorem asR_row (q : Row) : asR (rowD q) = q := asI_ints q
theorem rowD_inj {a b : Row} (h : rowD a = rowD b) : a = b := by rw [← asR_row a, h, asR_row]
theorem isInt_eq {d : D} (h : isIntD d = true) : d = .int (asI d) := by
  cases d with
  | int i => rfl
  | _ => cases h
theorem ints_of : ∀ {ds : List D}, (∀ d ∈ ds, isIntD d = true) → ds = intsD (ds.map asI)
  | [], _ => rfl
  | d :: ds, h => by
    show _ = PyData.int (asI d) :: intsD (ds.map asI)
    rw [← isInt_eq (h d List.mem_cons_self), ← ints_of fun x hx => h x (List.mem_cons_of_mem _ hx)]
theorem row_iff (d : D) (m : Int) : rowOk d m = true ↔ ∃ q, d = rowD q ∧ (∀ o ∈ q, 0 ≤ o ∧ o ≤ m - 1) ∧ Asc q := by
  constructor
  · intro h
    cases d with
    | tuple ds =>
      rw [rowOk_tup, Bool.and_eq_true] at h
      obtain ⟨e, h2⟩ := ints_map h.1
      exact ⟨ds.map asI, congrArg _ e, h2, h.2⟩
    | _ => cases h
  · rintro ⟨q, rfl, h2, h3⟩
    show rowOk (.tuple (intsD q)) m = true
    rw [rowOk_tup, asI_ints, h3, Bool.and_true]
    refine List.all_eq_true.mpr fun d hd => ?_
    obtain ⟨o, ho, rfl⟩ := List.mem_map.mp hd
    have := h2 o ho
    show (decide (0 ≤ o) && decide (o ≤ m - 1)) = true
    rw [decide_eq_true this.1, decide_eq_true this.2]
    rfl
theorem neT (q : Row) (P : D → Prop) : gNe (rowD q) (.tuple []) P = P (.bool (!decide (q = []))) := y_neR q [] P
theorem eqT (q : Row) (P : D → Prop) : gEq (rowD q) (.tuple []) P = P (.bool (decide (q = []))) := y_eqR q [] P
theorem row_vis {q : Row} (h : Vis (rowD q)) : q.length ≤ 100000 := by
  have := vis_len (ds := intsD q) h
  rwa [intsD, List.length_map] at this
def fLotP : Fn := fun as n P => ∃ (d : D) (m : Int), as = [.d d, .d (.int m)] ∧ Vis d ∧ P (.bool (rowOk d m && !decide (asR d = []))) n
theorem hf_lotp (as : List Ar) (n : Nat) (P : D → Nat → Prop) (hl : as.length = 2) (h : fLotP as n P) : rd_is_lot fRowP ⟨fun _ m => P .none m, P, fun _ _ => False, fun _ _ => False⟩ (startD ["value", "many"] as) n := by
  obtain ⟨d, m, rfl, hv, hP⟩ := h
  simp only [rd_is_lot, x_var0, x_varS, x_own0, x_ownS, x_ixT, x_ixL, x_addI, x_addT, x_addL, x_gI, x_gIC, x_neg, x_abs, x_intI, x_intB, x_lenT, x_lenL, x_tupL, x_tupT, x_rep, x_seq, x_next, x_set, x_setL, x_par, x_asg, x_drop, x_app, x_ext, x_ret, x_retN, x_if, x_frz, x_for, x_bk, x_ct, x_d1, x_d2, x_dC, x_dL, x_tup, x_and, x_or, x_not, x_ife, x_dB, x_dTr, x_dNot, x_dAnd, x_dOr, x_yes, x_aC, x_aN, x_aSz, x_aRg, x_rg1, x_rg2, x_aList, x_aSort, x_aSl, x_dSl, x_aScr, x_scrLen, x_oN, x_oS, x_rN, x_rC, x_rRl, x_call, x_callB, x_callK, x_iSeq, x_iRg1, x_iRg2, x_iEn, x_gNm, x_gTp, x_gC, x_gN, x_gL, x_comp, startD, arD, wipeD, List.map_cons, List.map_nil, List.length_cons, List.length_nil, List.replicate_succ, List.replicate_zero, List.cons_append, List.nil_append, List.set_cons_succ, List.set_cons_zero, List.getElem?_cons_succ, List.getElem?_cons_zero, Option.some.injEq, PyData.int.injEq, PyData.bool.injEq, PyData.tuple.injEq, PyData.list.injEq, DV.dat.injEq, DV.own.injEq, exists_eq_left', exists_eq_left, exists_eq_right, exists_eq_right', exists_and_left, List.cons.injEq, and_true, true_and, atI0, atI1, atI2, atI3, atI4, atI5, Nat.sub_self, Nat.reduceSub, Nat.reduceAdd, Nat.reduceLT, if_true, if_false, Bool.false_eq_true, ↓reduceIte, Nat.zero_add, y_eqI, y_neI, y_neB, y_eqB, y_eqS, y_neS, y_ltI, y_gtI, y_leI, y_geI, y_inR, y_notInR, y_eqR, y_neR, y_lenR, y_tupR, row_tup, row_lst, tup_lst, lst_tup, false_and, and_false, exists_false, false_or, or_false, exists_const, atI_map, Option.map_some, decide_true, decide_false, Bool.not_true, Bool.not_false, eq_self, y_isB, DV.scr.injEq, x_chain, x_tRg, x_parEL, x_parLE, x_parLL, x_gLs, Nat.add_zero, x_par3, x_aSetSort, x_itL, x_itT, x_itR, x_slL, x_slT, x_lsE]
  refine ⟨d, m, rfl, hv, _, rfl, ifc (fun c => ?_) fun c => ?_⟩
  · obtain ⟨q, rfl, _⟩ := (row_iff d m).mp c
    rw [c, Bool.true_and, asR_row] at hP
    rw [neT]
    exact ⟨Nat.zero_le _, hP⟩
  · rw [c, Bool.false_and] at hP
    exact hP
theorem vis_shaped {d : D} (h : Vis d) : SeqAt.shaped d = true := by
  unfold SeqAt.shaped
  rw [h.lay, Bool.true_and]
  have := h.shw.dep
  exact decide_eq_true (by omega)
theorem eq_empty {d : D} (h : Vis d) (Q : D → Prop) : gEq d (.tuple []) Q = Q (.bool (emptyT d)) := by
  have e : PyData.eqv d (.tuple []) = emptyT d := by
    cases d with
    | tuple ds =>
      rw [PyData.eqv]
      cases ds with
      | nil => rw [PyData.eqvAll]; rfl
      | cons x r => rw [PyData.eqvAll]; rfl
    | _ => simp [PyData.eqv, emptyT]
  show (eqOk _ _ ∧ Q (.bool (PyData.eqv _ _))) = _
  rw [e]
  exact propext ⟨fun z => z.2, fun z => ⟨.inl ⟨vis_shaped h, by decide +kernel⟩, z⟩⟩
end My
/-! k51: what is wrong with a detector -/
namespace My
open PySem PySem.Spec L2 DL
theorem find_at {p : Nat → Bool} {n k : Nat} (hk : k < n) (h : p k = true) (hb : ∀ j < k, p j = false) : (List.range n).find? p = some k := by
  rw [List.find?_eq_some_iff_getElem]
  refine ⟨h, k, by rw [List.length_range]; exact hk, by simp, fun j hj => ?_⟩
  simp [hb j hj]
/-- the first place of a fault; what went ahead is known -/
theorem forR_findN {e : Nat → D} (p : Nat → Bool) (v : Nat → D) (J : DS → Prop) {γ : DTG} {tb : DTS} {E : DEnds} {n len : Nat} {δ : DS} (hJ : J δ)
    (step : ∀ k < len, (∀ j < k, p j = false) → ∀ δ, J δ → ∀ N : DS → Nat → Prop, (p k = false → ∀ δ2, J δ2 → N δ2 n) → (p k = true → E.rt (v k) n) → γ (e k) δ fun δ1 => tb ⟨N, E.rt, E.nx, N⟩ δ1 n)
    (hit : ∀ k, (List.range len).find? p = some k → E.rt (v k) n) (miss : (List.range len).find? p = none → ∀ δ, J δ → E.nx δ n) : forR γ tb E ((List.range len).map e) δ n := by
  refine forR_inv (fun r δ m => m = n ∧ J δ ∧ ∃ k, k ≤ len ∧ r = (List.range len).drop k ∧ ∀ j < k, p j = false) (List.range len) δ n ⟨rfl, hJ, 0, Nat.zero_le _, rfl, fun j h => absurd h (Nat.not_lt_zero _)⟩ (fun x r δ m hx hI N hN => ?_) fun δ m hI => ?_
  · obtain ⟨rfl, hj, k, hk, hr, hb⟩ := hI
    have hlt : k < len := by
      have := congrArg List.length hr
      rw [List.length_cons, List.length_drop, List.length_range] at this
      omega
    rw [List.drop_eq_getElem_cons (by rw [List.length_range]; exact hlt)] at hr
    injection hr with e1 e2
    rw [List.getElem_range] at e1
    subst e1
    refine step x hlt hb δ hj N (fun h δ2 hj2 => hN δ2 _ ⟨rfl, hj2, x + 1, hlt, e2, fun j hj => ?_⟩) fun h => hit x (find_at hlt h hb)
    by_cases z : j = x
    · rw [z]; exact h
    · exact hb j (by omega)
  · obtain ⟨rfl, hj, k, hk, hr, hb⟩ := hI
    have hge : len ≤ k := by
      have := congrArg List.length hr
      rw [List.length_nil, List.length_drop, List.length_range] at this
      omega
    refine miss ?_ δ hj
    rw [List.find?_eq_none]
    intro j hj
    rw [hb j (by have := List.mem_range.mp hj; omega)]
    decide
def setOk (sg : Int) (d : D) : Bool := rowOk d sg && !decide (asR d = [])
theorem set_typed {sg : Int} {d : D} (h : setOk sg d = true) : ∃ q, d = rowD q ∧ q ≠ [] ∧ (∀ o ∈ q, 0 ≤ o ∧ o ≤ sg - 1) ∧ Asc q := by
  rw [setOk, Bool.and_eq_true] at h
  obtain ⟨q, rfl, h1, h2⟩ := (row_iff d sg).mp h.1
  refine ⟨q, rfl, fun z => ?_, h1, h2⟩
  rw [asR_row, z] at h
  exact absurd h.2 (by decide)
def late (es : List D) (k : Nat) : Bool := decide (0 < k) && !ltE rowD (asR (es.getD (k - 1) .none)) (asR (es.getD k .none))
def badSet (sg : Int) (es : List D) (k : Nat) : Bool := !setOk sg (es.getD k .none) || late es k
def setW (sg : Int) (s : D) (es : List D) (k : Nat) : D := if setOk sg (es.getD k .none) = true then .tuple [.str "order", s, .int k] else .tuple [.str "set", s, .int k]
def setsFault (sg : Int) (s : D) (es : List D) : D := match (List.range es.length).find? (badSet sg es) with
  | some k => setW sg s es k
  | none => .none
def stormFault (sg : Int) (s v : D) : D := match v with
  | .tuple es => if 1 ≤ es.length ∧ es.length ≤ 6 then setsFault sg s es else .tuple [.str "storm", s]
  | _ => .tuple [.str "storm", s]
def someFault (d : D) : Bool := match d with
  | .none => false
  | _ => true
def endsFault (sg : Int) (es : List D) : D := match (List.range es.length).find? (fun s : Nat => someFault (stormFault sg (.int (s : Nat)) (es.getD s .none))) with
  | some s => stormFault sg (.int (s : Nat)) (es.getD s .none)
  | none => .none
def detFault (N : Nat) (v : D) : D := match v with
  | .tuple [a, .tuple es] => if whole a 1 6 = true then (if es.length = N then endsFault (asI a) es else .str "ends") else .str "form"
  | _ => .str "form"
/-- values whose sets can be looked at -/
def DetV (v : D) : Prop := ∀ a es, v = .tuple [a, .tuple es] → Vis (.tuple es)
theorem setW_ne (sg : Int) (s : D) (es : List D) (k : Nat) : someFault (setW sg s es k) = true := by
  unfold setW
  split <;> rfl
/-- the loop over the sets of one storm: the tests as told -/
def loopSets (i3 i4 i2 i1 : Nat) (u1 u2 : DTT) : DTS := sFor (iEn (dVar i2)) (gTp (gCons' (gNm i3) (gCons' (gNm i4) (gNil')))) (sSeq (sIf u1 (sRet (dTup (aCons (dC (.str "set")) (aCons (dVar i1) (aCons (dVar i3) (aNil)))))) (sNext))
      (sIf u2 (sRet (dTup (aCons (dC (.str "order")) (aCons (dVar i1) (aCons (dVar i3) (aNil)))))) (sNext)))
theorem at_prev {es : List D} {k : Nat} (h0 : 0 < k) (hk : k ≤ es.length) : L2.atI es ((k : Int) - 1) = some (es.getD (k - 1) .none) := by
  rw [show ((k : Int) - 1) = ((k - 1 : Nat) : Int) by omega, atI_nat', List.getElem?_eq_getElem (by omega), List.getD_eq_getElem?_getD, List.getElem?_eq_getElem (by omega)]
  rfl
/-! ### the program -/
def fStErr : Fn := fun as n P => ∃ (sg : Int) (s v : D), as = [.d (.int sg), .d s, .d v] ∧ (∀ es, v = .tuple es → Vis (.tuple es)) ∧ P (stormFault sg s v) n
theorem hf_sterr (as : List Ar) (n : Nat) (P : D → Nat → Prop) (hl : as.length = 3) (h : fStErr as n P) : rd_storm_error fLotP ⟨fun _ m => P .none m, P, fun _ _ => False, fun _ _ => False⟩ (startD ["many", "s", "value", "place", "some"] as) n := by
  obtain ⟨sg, s, v, rfl, hv, hP⟩ := h
  cases v with
  | tuple es =>
    have hv := hv es rfl
    simp only [rd_storm_error, x_var0, x_varS, x_own0, x_ownS, x_ixT, x_ixL, x_addI, x_addT, x_addL, x_gI, x_gIC, x_neg, x_abs, x_intI, x_intB, x_lenT, x_lenL, x_tupL, x_tupT, x_rep, x_seq, x_next, x_set, x_setL, x_par, x_asg, x_drop, x_app, x_ext, x_ret, x_retN, x_if, x_frz, x_for, x_bk, x_ct, x_d1, x_d2, x_dC, x_dL, x_tup, x_and, x_or, x_not, x_ife, x_dB, x_dTr, x_dNot, x_dAnd, x_dOr, x_yes, x_aC, x_aN, x_aSz, x_aRg, x_rg1, x_rg2, x_aList, x_aSort, x_aSl, x_dSl, x_aScr, x_scrLen, x_oN, x_oS, x_rN, x_rC, x_rRl, x_call, x_callB, x_callK, x_iSeq, x_iRg1, x_iRg2, x_iEn, x_gNm, x_gTp, x_gC, x_gN, x_gL, x_comp, startD, arD, wipeD, List.map_cons, List.map_nil, List.length_cons, List.length_nil, List.replicate_succ, List.replicate_zero, List.cons_append, List.nil_append, List.set_cons_succ, List.set_cons_zero, List.getElem?_cons_succ, List.getElem?_cons_zero, Option.some.injEq, PyData.int.injEq, PyData.bool.injEq, PyData.tuple.injEq, PyData.list.injEq, DV.dat.injEq, DV.own.injEq, exists_eq_left', exists_eq_left, exists_eq_right, exists_eq_right', exists_and_left, List.cons.injEq, and_true, true_and, atI0, atI1, atI2, atI3, atI4, atI5, Nat.sub_self, Nat.reduceSub, Nat.reduceAdd, Nat.reduceLT, if_true, if_false, Bool.false_eq_true, ↓reduceIte, Nat.zero_add, y_eqI, y_neI, y_neB, y_eqB, y_eqS, y_neS, y_ltI, y_gtI, y_leI, y_geI, y_inR, y_notInR, y_eqR, y_neR, y_lenR, y_tupR, row_tup, row_lst, tup_lst, lst_tup, false_and, and_false, exists_false, false_or, or_false, exists_const, atI_map, Option.map_some, decide_true, decide_false, Bool.not_true, Bool.not_false, eq_self, y_isB, DV.scr.injEq, x_chain, x_tRg, x_parEL, x_parLE, x_parLL, x_gLs, Nat.add_zero, x_par3, x_aSetSort, x_itL, x_itT, x_itR, x_slL, x_slT, x_lsE, x_parM, x_mN, x_mE, x_mL, x_sm0, x_smD, x_smO, x_iB0, x_iBS, x_idx, x_aSetSortI, x_setRg, x_iRgV, x_qSeq, x_qIf, x_qRet, x_qSet, x_qIfE, x_qRaise, x_qNil, x_qCons, x_qLst, x_qTup, x_callX, x_callKX, x_try, x_qRaise0, x_try0, x_qFor]
    refine isi (c := true) (by simp only [tyName]; decide) ⟨true, rfl, ?_⟩
    rw [if_neg (by decide)]
    rw [stormFault] at hP
    refine ifc (fun c => ifc (fun c2 => ?_) fun c2 => ?_) fun c => ?_
    · rw [if_neg (by simp at c c2; omega)] at hP
      exact ⟨by decide, hP⟩
    · rw [if_pos (by simp at c c2; omega)] at hP
      rw [enumD_range]
      refine forR_findN (badSet sg es) (setW sg s es) (fun δ => ∃ z3 z4 : Option DV, δ = [some (.dat (.int sg)), some (.dat s), some (.dat (.tuple es)), z3, z4]) ⟨none, none, rfl⟩ (fun k hk hb δ hJ N hN hE => ?_) (fun k hf => ?_) fun hf δ hJ => ?_
      · obtain ⟨z3, z4, rfl⟩ := hJ
        simp only [x_var0, x_varS, x_own0, x_ownS, x_ixT, x_ixL, x_addI, x_addT, x_addL, x_gI, x_gIC, x_neg, x_abs, x_intI, x_intB, x_lenT, x_lenL, x_tupL, x_tupT, x_rep, x_seq, x_next, x_set, x_setL, x_par, x_asg, x_drop, x_app, x_ext, x_ret, x_retN, x_if, x_frz, x_for, x_bk, x_ct, x_d1, x_d2, x_dC, x_dL, x_tup, x_and, x_or, x_not, x_ife, x_dB, x_dTr, x_dNot, x_dAnd, x_dOr, x_yes, x_aC, x_aN, x_aSz, x_aRg, x_rg1, x_rg2, x_aList, x_aSort, x_aSl, x_dSl, x_aScr, x_scrLen, x_oN, x_oS, x_rN, x_rC, x_rRl, x_call, x_callB, x_callK, x_iSeq, x_iRg1, x_iRg2, x_iEn, x_gNm, x_gTp, x_gC, x_gN, x_gL, x_comp, startD, arD, wipeD, List.map_cons, List.map_nil, List.length_cons, List.length_nil, List.replicate_succ, List.replicate_zero, List.cons_append, List.nil_append, List.set_cons_succ, List.set_cons_zero, List.getElem?_cons_succ, List.getElem?_cons_zero, Option.some.injEq, PyData.int.injEq, PyData.bool.injEq, PyData.tuple.injEq, PyData.list.injEq, DV.dat.injEq, DV.own.injEq, exists_eq_left', exists_eq_left, exists_eq_right, exists_eq_right', exists_and_left, List.cons.injEq, and_true, true_and, atI0, atI1, atI2, atI3, atI4, atI5, Nat.sub_self, Nat.reduceSub, Nat.reduceAdd, Nat.reduceLT, if_true, if_false, Bool.false_eq_true, ↓reduceIte, Nat.zero_add, y_eqI, y_neI, y_neB, y_eqB, y_eqS, y_neS, y_ltI, y_gtI, y_leI, y_geI, y_inR, y_notInR, y_eqR, y_neR, y_lenR, y_tupR, row_tup, row_lst, tup_lst, lst_tup, false_and, and_false, exists_false, false_or, or_false, exists_const, atI_map, Option.map_some, decide_true, decide_false, Bool.not_true, Bool.not_false, eq_self, y_isB, DV.scr.injEq, x_chain, x_tRg, x_parEL, x_parLE, x_parLL, x_gLs, Nat.add_zero, x_par3, x_aSetSort, x_itL, x_itT, x_itR, x_slL, x_slT, x_lsE, x_parM, x_mN, x_mE, x_mL, x_sm0, x_smD, x_smO, x_iB0, x_iBS, x_idx, x_aSetSortI, x_setRg, x_iRgV, x_qSeq, x_qIf, x_qRet, x_qSet, x_qIfE, x_qRaise, x_qNil, x_qCons, x_qLst, x_qTup, x_callX, x_callKX, x_try, x_qRaise0, x_try0, x_qFor]
        have vd := vis_mem hv (getD_mem hk)
        refine ⟨es.getD k .none, sg, rfl, vd, tru _ ?_⟩
        have e : (rowOk (es.getD k .none) sg && !decide (asR (es.getD k .none) = [])) = setOk sg (es.getD k .none) := rfl
        rw [e]
        refine ifc (fun c3 => ⟨by decide, ?_⟩) fun c3 => ?_
        · have c4 : setOk sg (es.getD k .none) = false := by simpa using c3
          have q := hE (by rw [badSet, c4]; rfl)
          rw [setW, c4] at q
          exact q
        · have c4 : setOk sg (es.getD k .none) = true := by simpa using c3
          obtain ⟨q, eq, _⟩ := set_typed c4
          by_cases h0 : 0 < k
          · have pk : setOk sg (es.getD (k - 1) .none) = true := by
              have := hb (k - 1) (by omega)
              rw [badSet, Bool.or_eq_false_iff] at this
              simpa using this.1
            obtain ⟨q0, eq0, _⟩ := set_typed pk
            rw [if_pos (by simpa using h0)]
            refine ⟨_, at_prev h0 (by omega), ?_⟩
            rw [eq0, eq, y_lt enc_row (by decide)]
            have el : late es k = !ltE rowD q0 q := by rw [late, decide_eq_true h0, eq0, eq, asR_row, asR_row]; rfl
            refine ⟨_, rfl, ifc (fun c5 => ⟨by decide, ?_⟩) fun c5 => ?_⟩
            · have q1 := hE (by rw [badSet, el, c5]; simp)
              rw [setW, if_pos c4] at q1
              exact q1
            · exact hN (by rw [badSet, c4, el, c5]; rfl) _ ⟨_, _, rfl⟩
          · rw [if_neg (by simpa using h0)]
            exact hN (by rw [badSet, c4, late, decide_eq_false h0]; rfl) _ ⟨_, _, rfl⟩
      · rw [setsFault, hf] at hP
        exact hP
      · obtain ⟨z3, z4, rfl⟩ := hJ
        rw [setsFault, hf] at hP
        simp only [x_var0, x_varS, x_own0, x_ownS, x_ixT, x_ixL, x_addI, x_addT, x_addL, x_gI, x_gIC, x_neg, x_abs, x_intI, x_intB, x_lenT, x_lenL, x_tupL, x_tupT, x_rep, x_seq, x_next, x_set, x_setL, x_par, x_asg, x_drop, x_app, x_ext, x_ret, x_retN, x_if, x_frz, x_for, x_bk, x_ct, x_d1, x_d2, x_dC, x_dL, x_tup, x_and, x_or, x_not, x_ife, x_dB, x_dTr, x_dNot, x_dAnd, x_dOr, x_yes, x_aC, x_aN, x_aSz, x_aRg, x_rg1, x_rg2, x_aList, x_aSort, x_aSl, x_dSl, x_aScr, x_scrLen, x_oN, x_oS, x_rN, x_rC, x_rRl, x_call, x_callB, x_callK, x_iSeq, x_iRg1, x_iRg2, x_iEn, x_gNm, x_gTp, x_gC, x_gN, x_gL, x_comp, startD, arD, wipeD, List.map_cons, List.map_nil, List.length_cons, List.length_nil, List.replicate_succ, List.replicate_zero, List.cons_append, List.nil_append, List.set_cons_succ, List.set_cons_zero, List.getElem?_cons_succ, List.getElem?_cons_zero, Option.some.injEq, PyData.int.injEq, PyData.bool.injEq, PyData.tuple.injEq, PyData.list.injEq, DV.dat.injEq, DV.own.injEq, exists_eq_left', exists_eq_left, exists_eq_right, exists_eq_right', exists_and_left, List.cons.injEq, and_true, true_and, atI0, atI1, atI2, atI3, atI4, atI5, Nat.sub_self, Nat.reduceSub, Nat.reduceAdd, Nat.reduceLT, if_true, if_false, Bool.false_eq_true, ↓reduceIte, Nat.zero_add, y_eqI, y_neI, y_neB, y_eqB, y_eqS, y_neS, y_ltI, y_gtI, y_leI, y_geI, y_inR, y_notInR, y_eqR, y_neR, y_lenR, y_tupR, row_tup, row_lst, tup_lst, lst_tup, false_and, and_false, exists_false, false_or, or_false, exists_const, atI_map, Option.map_some, decide_true, decide_false, Bool.not_true, Bool.not_false, eq_self, y_isB, DV.scr.injEq, x_chain, x_tRg, x_parEL, x_parLE, x_parLL, x_gLs, Nat.add_zero, x_par3, x_aSetSort, x_itL, x_itT, x_itR, x_slL, x_slT, x_lsE, x_parM, x_mN, x_mE, x_mL, x_sm0, x_smD, x_smO, x_iB0, x_iBS, x_idx, x_aSetSortI, x_setRg, x_iRgV, x_qSeq, x_qIf, x_qRet, x_qSet, x_qIfE, x_qRaise, x_qNil, x_qCons, x_qLst, x_qTup, x_callX, x_callKX, x_try, x_qRaise0, x_try0, x_qFor]
        exact hP
    · rw [if_neg (by simp at c; omega)] at hP
      exact ⟨by decide, hP⟩
  | _ =>
    simp only [rd_storm_error, x_var0, x_varS, x_own0, x_ownS, x_ixT, x_ixL, x_addI, x_addT, x_addL, x_gI, x_gIC, x_neg, x_abs, x_intI, x_intB, x_lenT, x_lenL, x_tupL, x_tupT, x_rep, x_seq, x_next, x_set, x_setL, x_par, x_asg, x_drop, x_app, x_ext, x_ret, x_retN, x_if, x_frz, x_for, x_bk, x_ct, x_d1, x_d2, x_dC, x_dL, x_tup, x_and, x_or, x_not, x_ife, x_dB, x_dTr, x_dNot, x_dAnd, x_dOr, x_yes, x_aC, x_aN, x_aSz, x_aRg, x_rg1, x_rg2, x_aList, x_aSort, x_aSl, x_dSl, x_aScr, x_scrLen, x_oN, x_oS, x_rN, x_rC, x_rRl, x_call, x_callB, x_callK, x_iSeq, x_iRg1, x_iRg2, x_iEn, x_gNm, x_gTp, x_gC, x_gN, x_gL, x_comp, startD, arD, wipeD, List.map_cons, List.map_nil, List.length_cons, List.length_nil, List.replicate_succ, List.replicate_zero, List.cons_append, List.nil_append, List.set_cons_succ, List.set_cons_zero, List.getElem?_cons_succ, List.getElem?_cons_zero, Option.some.injEq, PyData.int.injEq, PyData.bool.injEq, PyData.tuple.injEq, PyData.list.injEq, DV.dat.injEq, DV.own.injEq, exists_eq_left', exists_eq_left, exists_eq_right, exists_eq_right', exists_and_left, List.cons.injEq, and_true, true_and, atI0, atI1, atI2, atI3, atI4, atI5, Nat.sub_self, Nat.reduceSub, Nat.reduceAdd, Nat.reduceLT, if_true, if_false, Bool.false_eq_true, ↓reduceIte, Nat.zero_add, y_eqI, y_neI, y_neB, y_eqB, y_eqS, y_neS, y_ltI, y_gtI, y_leI, y_geI, y_inR, y_notInR, y_eqR, y_neR, y_lenR, y_tupR, row_tup, row_lst, tup_lst, lst_tup, false_and, and_false, exists_false, false_or, or_false, exists_const, atI_map, Option.map_some, decide_true, decide_false, Bool.not_true, Bool.not_false, eq_self, y_isB, DV.scr.injEq, x_chain, x_tRg, x_parEL, x_parLE, x_parLL, x_gLs, Nat.add_zero, x_par3, x_aSetSort, x_itL, x_itT, x_itR, x_slL, x_slT, x_lsE, x_parM, x_mN, x_mE, x_mL, x_sm0, x_smD, x_smO, x_iB0, x_iBS, x_idx, x_aSetSortI, x_setRg, x_iRgV, x_qSeq, x_qIf, x_qRet, x_qSet, x_qIfE, x_qRaise, x_qNil, x_qCons, x_qLst, x_qTup, x_callX, x_callKX, x_try, x_qRaise0, x_try0, x_qFor]
    refine isi (c := false) (by simp only [tyName]; decide) ⟨false, rfl, ?_⟩
    rw [if_pos (by decide)]
    exact ⟨by decide, hP⟩
end My
/-! k51: detector_error; the law's own look -/
namespace My
open PySem PySem.Spec L2 DL
def fDtErr : Fn := fun as n P => ∃ (s : Sky) (v : D), as = [.d (skyD s), .d v] ∧ s.st.length ≤ 1000 ∧ DetV v ∧ P (detFault s.st.length v) n
theorem det_len {ds : List D} {N : Nat} (h : ds.length ≠ 2) : detFault N (.tuple ds) = .str "form" := by
  unfold detFault
  split
  · rename_i e
    cases e
    exact absurd rfl h
  · rfl
theorem ends_loop {γ : DTG} {tb : DTS} {E : DEnds} {n : Nat} {sg : Int} {es : List D} (J : DS → Prop) {δ : DS} (hJ : J δ) (hP : E.rt (endsFault sg es) n ∨ (endsFault sg es = .none ∧ ∀ δ, J δ → E.nx δ n)) (hM : endsFault sg es = .none → ∀ δ, J δ → E.nx δ n)
    (hR : endsFault sg es ≠ .none → E.rt (endsFault sg es) n)
    (step : ∀ s < es.length, ∀ δ, J δ → ∀ N : DS → Nat → Prop, (stormFault sg (.int (s : Nat)) (es.getD s .none) = .none → ∀ δ2, J δ2 → N δ2 n) → (stormFault sg (.int (s : Nat)) (es.getD s .none) ≠ .none → E.rt (stormFault sg (.int (s : Nat)) (es.getD s .none)) n) → γ (.tuple [.int (s : Nat), es.getD s .none]) δ fun δ1 => tb ⟨N, E.rt, E.nx, N⟩ δ1 n) :
    forR γ tb E (enumD 0 es) δ n := by
  have ef : ∀ d : D, someFault d = false ↔ d = .none := fun d => by cases d <;> simp [someFault]
  rw [enumD_range]
  refine forR_findN (fun s : Nat => someFault (stormFault sg (.int (s : Nat)) (es.getD s .none))) (fun s => stormFault sg (.int (s : Nat)) (es.getD s .none)) J hJ (fun k hk _ δ hj N hN hE => ?_) (fun k hf => ?_) fun hf => ?_
  · rw [Nat.zero_add]
    refine step k hk δ hj N (fun z => hN ((ef _).mpr z)) fun z => hE ?_
    cases q : someFault (stormFault sg (.int (k : Nat)) (es.getD k .none)) with
    | true => rfl
    | false => exact absurd ((ef _).mp q) z
  · have e : endsFault sg es = stormFault sg (.int (k : Nat)) (es.getD k .none) := by rw [endsFault, hf]
    rw [← e]
    refine hR fun z => ?_
    have q := List.find?_some hf
    rw [e] at z
    simp only [z] at q
    cases q
  · exact hM (by rw [endsFault, hf])
theorem hf_dterr (as : List Ar) (n : Nat) (P : D → Nat → Prop) (hl : as.length = 2) (h : fDtErr as n P) : rd_detector_error fWhole fStErr ⟨fun _ m => P .none m, P, fun _ _ => False, fun _ _ => False⟩ (startD ["sky", "value", "s", "item", "error"] as) n := by
  obtain ⟨s, v, rfl, sl, hv, hP⟩ := h
  cases v with
  | tuple ds =>
    simp only [rd_detector_error, x_var0, x_varS, x_own0, x_ownS, x_ixT, x_ixL, x_addI, x_addT, x_addL, x_gI, x_gIC, x_neg, x_abs, x_intI, x_intB, x_lenT, x_lenL, x_tupL, x_tupT, x_rep, x_seq, x_next, x_set, x_setL, x_par, x_asg, x_drop, x_app, x_ext, x_ret, x_retN, x_if, x_frz, x_for, x_bk, x_ct, x_d1, x_d2, x_dC, x_dL, x_tup, x_and, x_or, x_not, x_ife, x_dB, x_dTr, x_dNot, x_dAnd, x_dOr, x_yes, x_aC, x_aN, x_aSz, x_aRg, x_rg1, x_rg2, x_aList, x_aSort, x_aSl, x_dSl, x_aScr, x_scrLen, x_oN, x_oS, x_rN, x_rC, x_rRl, x_call, x_callB, x_callK, x_iSeq, x_iRg1, x_iRg2, x_iEn, x_gNm, x_gTp, x_gC, x_gN, x_gL, x_comp, startD, arD, wipeD, List.map_cons, List.map_nil, List.length_cons, List.length_nil, List.replicate_succ, List.replicate_zero, List.cons_append, List.nil_append, List.set_cons_succ, List.set_cons_zero, List.getElem?_cons_succ, List.getElem?_cons_zero, Option.some.injEq, PyData.int.injEq, PyData.bool.injEq, PyData.tuple.injEq, PyData.list.injEq, DV.dat.injEq, DV.own.injEq, exists_eq_left', exists_eq_left, exists_eq_right, exists_eq_right', exists_and_left, List.cons.injEq, and_true, true_and, atI0, atI1, atI2, atI3, atI4, atI5, Nat.sub_self, Nat.reduceSub, Nat.reduceAdd, Nat.reduceLT, if_true, if_false, Bool.false_eq_true, ↓reduceIte, Nat.zero_add, y_eqI, y_neI, y_neB, y_eqB, y_eqS, y_neS, y_ltI, y_gtI, y_leI, y_geI, y_inR, y_notInR, y_eqR, y_neR, y_lenR, y_tupR, row_tup, row_lst, tup_lst, lst_tup, false_and, and_false, exists_false, false_or, or_false, exists_const, atI_map, Option.map_some, decide_true, decide_false, Bool.not_true, Bool.not_false, eq_self, y_isB, DV.scr.injEq, x_chain, x_tRg, x_parEL, x_parLE, x_parLL, x_gLs, Nat.add_zero, x_par3, x_aSetSort, x_itL, x_itT, x_itR, x_slL, x_slT, x_lsE, x_parM, x_mN, x_mE, x_mL, x_sm0, x_smD, x_smO, x_iB0, x_iBS, x_idx, x_aSetSortI, x_setRg, x_iRgV, x_qSeq, x_qIf, x_qRet, x_qSet, x_qIfE, x_qRaise, x_qNil, x_qCons, x_qLst, x_qTup, x_callX, x_callKX, x_try, x_qRaise0, x_try0, x_qFor]
    refine isi (c := true) (by simp only [tyName]; decide) ⟨true, rfl, ?_⟩
    rw [if_neg (by decide)]
    refine ifc (fun c => ?_) fun c => ?_
    · rw [det_len (by simp at c; omega)] at hP
      exact hP
    have c' : ds.length = 2 := by simp at c; omega
    match ds, c' with
    | [a, b], _ =>
      have hv0 := hv
      simp only [x_var0, x_varS, x_own0, x_ownS, x_ixT, x_ixL, x_addI, x_addT, x_addL, x_gI, x_gIC, x_neg, x_abs, x_intI, x_intB, x_lenT, x_lenL, x_tupL, x_tupT, x_rep, x_seq, x_next, x_set, x_setL, x_par, x_asg, x_drop, x_app, x_ext, x_ret, x_retN, x_if, x_frz, x_for, x_bk, x_ct, x_d1, x_d2, x_dC, x_dL, x_tup, x_and, x_or, x_not, x_ife, x_dB, x_dTr, x_dNot, x_dAnd, x_dOr, x_yes, x_aC, x_aN, x_aSz, x_aRg, x_rg1, x_rg2, x_aList, x_aSort, x_aSl, x_dSl, x_aScr, x_scrLen, x_oN, x_oS, x_rN, x_rC, x_rRl, x_call, x_callB, x_callK, x_iSeq, x_iRg1, x_iRg2, x_iEn, x_gNm, x_gTp, x_gC, x_gN, x_gL, x_comp, startD, arD, wipeD, List.map_cons, List.map_nil, List.length_cons, List.length_nil, List.replicate_succ, List.replicate_zero, List.cons_append, List.nil_append, List.set_cons_succ, List.set_cons_zero, List.getElem?_cons_succ, List.getElem?_cons_zero, Option.some.injEq, PyData.int.injEq, PyData.bool.injEq, PyData.tuple.injEq, PyData.list.injEq, DV.dat.injEq, DV.own.injEq, exists_eq_left', exists_eq_left, exists_eq_right, exists_eq_right', exists_and_left, List.cons.injEq, and_true, true_and, atI0, atI1, atI2, atI3, atI4, atI5, Nat.sub_self, Nat.reduceSub, Nat.reduceAdd, Nat.reduceLT, if_true, if_false, Bool.false_eq_true, ↓reduceIte, Nat.zero_add, y_eqI, y_neI, y_neB, y_eqB, y_eqS, y_neS, y_ltI, y_gtI, y_leI, y_geI, y_inR, y_notInR, y_eqR, y_neR, y_lenR, y_tupR, row_tup, row_lst, tup_lst, lst_tup, false_and, and_false, exists_false, false_or, or_false, exists_const, atI_map, Option.map_some, decide_true, decide_false, Bool.not_true, Bool.not_false, eq_self, y_isB, DV.scr.injEq, x_chain, x_tRg, x_parEL, x_parLE, x_parLL, x_gLs, Nat.add_zero, x_par3, x_aSetSort, x_itL, x_itT, x_itR, x_slL, x_slT, x_lsE, x_parM, x_mN, x_mE, x_mL, x_sm0, x_smD, x_smO, x_iB0, x_iBS, x_idx, x_aSetSortI, x_setRg, x_iRgV, x_qSeq, x_qIf, x_qRet, x_qSet, x_qIfE, x_qRaise, x_qNil, x_qCons, x_qLst, x_qTup, x_callX, x_callKX, x_try, x_qRaise0, x_try0, x_qFor]
      have hform : (∀ es, b ≠ .tuple es) → P (.str "form") n := fun hb => by
        have e : detFault s.st.length (.tuple [a, b]) = .str "form" := by
          unfold detFault
          split
          · rename_i e
            cases e
            exact absurd rfl (hb _)
          · rfl
        rw [e] at hP
        exact hP
      refine ⟨a, 1, 6, rfl, tru _ (ifc (fun c1 => ?_) fun c1 => ?_)⟩
      · have c2 : whole a 1 6 = false := by simpa using c1
        cases b with
        | tuple es =>
          rw [detFault, if_neg (by rw [c2]; decide)] at hP
          exact hP
        | _ => exact hform (by intro es z; cases z)
      have c2 : whole a 1 6 = true := by simpa using c1
      cases b with
      | tuple es =>
        refine isi (c := true) (by simp only [tyName]; decide) ⟨true, rfl, ?_⟩
        rw [if_neg (by decide)]
        simp only [k_ix2, x_var0, x_varS, x_own0, x_ownS, x_ixT, x_ixL, x_addI, x_addT, x_addL, x_gI, x_gIC, x_neg, x_abs, x_intI, x_intB, x_lenT, x_lenL, x_tupL, x_tupT, x_rep, x_seq, x_next, x_set, x_setL, x_par, x_asg, x_drop, x_app, x_ext, x_ret, x_retN, x_if, x_frz, x_for, x_bk, x_ct, x_d1, x_d2, x_dC, x_dL, x_tup, x_and, x_or, x_not, x_ife, x_dB, x_dTr, x_dNot, x_dAnd, x_dOr, x_yes, x_aC, x_aN, x_aSz, x_aRg, x_rg1, x_rg2, x_aList, x_aSort, x_aSl, x_dSl, x_aScr, x_scrLen, x_oN, x_oS, x_rN, x_rC, x_rRl, x_call, x_callB, x_callK, x_iSeq, x_iRg1, x_iRg2, x_iEn, x_gNm, x_gTp, x_gC, x_gN, x_gL, x_comp, startD, arD, wipeD, List.map_cons, List.map_nil, List.length_cons, List.length_nil, List.replicate_succ, List.replicate_zero, List.cons_append, List.nil_append, List.set_cons_succ, List.set_cons_zero, List.getElem?_cons_succ, List.getElem?_cons_zero, Option.some.injEq, PyData.int.injEq, PyData.bool.injEq, PyData.tuple.injEq, PyData.list.injEq, DV.dat.injEq, DV.own.injEq, exists_eq_left', exists_eq_left, exists_eq_right, exists_eq_right', exists_and_left, List.cons.injEq, and_true, true_and, atI0, atI1, atI2, atI3, atI4, atI5, Nat.sub_self, Nat.reduceSub, Nat.reduceAdd, Nat.reduceLT, if_true, if_false, Bool.false_eq_true, ↓reduceIte, Nat.zero_add, y_eqI, y_neI, y_neB, y_eqB, y_eqS, y_neS, y_ltI, y_gtI, y_leI, y_geI, y_inR, y_notInR, y_eqR, y_neR, y_lenR, y_tupR, row_tup, row_lst, tup_lst, lst_tup, false_and, and_false, exists_false, false_or, or_false, exists_const, atI_map, Option.map_some, decide_true, decide_false, Bool.not_true, Bool.not_false, eq_self, y_isB, DV.scr.injEq, x_chain, x_tRg, x_parEL, x_parLE, x_parLL, x_gLs, Nat.add_zero, x_par3, x_aSetSort, x_itL, x_itT, x_itR, x_slL, x_slT, x_lsE, x_parM, x_mN, x_mE, x_mL, x_sm0, x_smD, x_smO, x_iB0, x_iBS, x_idx, x_aSetSortI, x_setRg, x_iRgV, x_qSeq, x_qIf, x_qRet, x_qSet, x_qIfE, x_qRaise, x_qNil, x_qCons, x_qLst, x_qTup, x_callX, x_callKX, x_try, x_qRaise0, x_try0, x_qFor, List.length_map]
        rw [detFault, if_pos c2] at hP
        have hve := hv a es rfl
        obtain ⟨sg, rfl⟩ : ∃ sg, a = .int sg := ⟨asI a, (whole_int c2).1⟩
        refine ifc (fun c3 => ?_) fun c3 => ?_
        · rw [if_neg (by simp at c3; omega)] at hP
          exact hP
        rw [if_pos (by simp at c3; omega)] at hP
        have hP : P (endsFault sg es) n := hP
        refine ends_loop (fun δ => ∃ z2 z3 z4 : Option DV, δ = [some (.dat (skyD s)), some (.dat (.tuple [.int sg, .tuple es])), z2, z3, z4]) ⟨_, _, _, rfl⟩ (.inl hP) (fun z δ hJ => ?_) (fun _ => hP) fun k hk δ hJ N hN hE => ?_
        · obtain ⟨z2, z3, z4, rfl⟩ := hJ
          simp only [x_var0, x_varS, x_own0, x_ownS, x_ixT, x_ixL, x_addI, x_addT, x_addL, x_gI, x_gIC, x_neg, x_abs, x_intI, x_intB, x_lenT, x_lenL, x_tupL, x_tupT, x_rep, x_seq, x_next, x_set, x_setL, x_par, x_asg, x_drop, x_app, x_ext, x_ret, x_retN, x_if, x_frz, x_for, x_bk, x_ct, x_d1, x_d2, x_dC, x_dL, x_tup, x_and, x_or, x_not, x_ife, x_dB, x_dTr, x_dNot, x_dAnd, x_dOr, x_yes, x_aC, x_aN, x_aSz, x_aRg, x_rg1, x_rg2, x_aList, x_aSort, x_aSl, x_dSl, x_aScr, x_scrLen, x_oN, x_oS, x_rN, x_rC, x_rRl, x_call, x_callB, x_callK, x_iSeq, x_iRg1, x_iRg2, x_iEn, x_gNm, x_gTp, x_gC, x_gN, x_gL, x_comp, startD, arD, wipeD, List.map_cons, List.map_nil, List.length_cons, List.length_nil, List.replicate_succ, List.replicate_zero, List.cons_append, List.nil_append, List.set_cons_succ, List.set_cons_zero, List.getElem?_cons_succ, List.getElem?_cons_zero, Option.some.injEq, PyData.int.injEq, PyData.bool.injEq, PyData.tuple.injEq, PyData.list.injEq, DV.dat.injEq, DV.own.injEq, exists_eq_left', exists_eq_left, exists_eq_right, exists_eq_right', exists_and_left, List.cons.injEq, and_true, true_and, atI0, atI1, atI2, atI3, atI4, atI5, Nat.sub_self, Nat.reduceSub, Nat.reduceAdd, Nat.reduceLT, if_true, if_false, Bool.false_eq_true, ↓reduceIte, Nat.zero_add, y_eqI, y_neI, y_neB, y_eqB, y_eqS, y_neS, y_ltI, y_gtI, y_leI, y_geI, y_inR, y_notInR, y_eqR, y_neR, y_lenR, y_tupR, row_tup, row_lst, tup_lst, lst_tup, false_and, and_false, exists_false, false_or, or_false, exists_const, atI_map, Option.map_some, decide_true, decide_false, Bool.not_true, Bool.not_false, eq_self, y_isB, DV.scr.injEq, x_chain, x_tRg, x_parEL, x_parLE, x_parLL, x_gLs, Nat.add_zero, x_par3, x_aSetSort, x_itL, x_itT, x_itR, x_slL, x_slT, x_lsE, x_parM, x_mN, x_mE, x_mL, x_sm0, x_smD, x_smO, x_iB0, x_iBS, x_idx, x_aSetSortI, x_setRg, x_iRgV, x_qSeq, x_qIf, x_qRet, x_qSet, x_qIfE, x_qRaise, x_qNil, x_qCons, x_qLst, x_qTup, x_callX, x_callKX, x_try, x_qRaise0, x_try0, x_qFor]
          rw [z] at hP
          exact hP
        · obtain ⟨z2, z3, z4, rfl⟩ := hJ
          simp only [x_var0, x_varS, x_own0, x_ownS, x_ixT, x_ixL, x_addI, x_addT, x_addL, x_gI, x_gIC, x_neg, x_abs, x_intI, x_intB, x_lenT, x_lenL, x_tupL, x_tupT, x_rep, x_seq, x_next, x_set, x_setL, x_par, x_asg, x_drop, x_app, x_ext, x_ret, x_retN, x_if, x_frz, x_for, x_bk, x_ct, x_d1, x_d2, x_dC, x_dL, x_tup, x_and, x_or, x_not, x_ife, x_dB, x_dTr, x_dNot, x_dAnd, x_dOr, x_yes, x_aC, x_aN, x_aSz, x_aRg, x_rg1, x_rg2, x_aList, x_aSort, x_aSl, x_dSl, x_aScr, x_scrLen, x_oN, x_oS, x_rN, x_rC, x_rRl, x_call, x_callB, x_callK, x_iSeq, x_iRg1, x_iRg2, x_iEn, x_gNm, x_gTp, x_gC, x_gN, x_gL, x_comp, startD, arD, wipeD, List.map_cons, List.map_nil, List.length_cons, List.length_nil, List.replicate_succ, List.replicate_zero, List.cons_append, List.nil_append, List.set_cons_succ, List.set_cons_zero, List.getElem?_cons_succ, List.getElem?_cons_zero, Option.some.injEq, PyData.int.injEq, PyData.bool.injEq, PyData.tuple.injEq, PyData.list.injEq, DV.dat.injEq, DV.own.injEq, exists_eq_left', exists_eq_left, exists_eq_right, exists_eq_right', exists_and_left, List.cons.injEq, and_true, true_and, atI0, atI1, atI2, atI3, atI4, atI5, Nat.sub_self, Nat.reduceSub, Nat.reduceAdd, Nat.reduceLT, if_true, if_false, Bool.false_eq_true, ↓reduceIte, Nat.zero_add, y_eqI, y_neI, y_neB, y_eqB, y_eqS, y_neS, y_ltI, y_gtI, y_leI, y_geI, y_inR, y_notInR, y_eqR, y_neR, y_lenR, y_tupR, row_tup, row_lst, tup_lst, lst_tup, false_and, and_false, exists_false, false_or, or_false, exists_const, atI_map, Option.map_some, decide_true, decide_false, Bool.not_true, Bool.not_false, eq_self, y_isB, DV.scr.injEq, x_chain, x_tRg, x_parEL, x_parLE, x_parLL, x_gLs, Nat.add_zero, x_par3, x_aSetSort, x_itL, x_itT, x_itR, x_slL, x_slT, x_lsE, x_parM, x_mN, x_mE, x_mL, x_sm0, x_smD, x_smO, x_iB0, x_iBS, x_idx, x_aSetSortI, x_setRg, x_iRgV, x_qSeq, x_qIf, x_qRet, x_qSet, x_qIfE, x_qRaise, x_qNil, x_qCons, x_qLst, x_qTup, x_callX, x_callKX, x_try, x_qRaise0, x_try0, x_qFor]
          have vd := vis_mem hve (getD_mem hk)
          refine ⟨sg, _, _, rfl, fun fs e => by rw [← e]; exact vd, ?_⟩
          by_cases z : stormFault sg (.int (k : Nat)) (es.getD k .none) = .none
          · rw [z]
            exact ⟨true, rfl, _, rfl, ifc (fun h => absurd h (by decide)) fun _ => hN z _ ⟨_, _, _, rfl⟩⟩
          · have hi : dIs (stormFault sg (.int (k : Nat)) (es.getD k .none)) .none = some false := by
              cases q : stormFault sg (.int (k : Nat)) (es.getD k .none) with
              | none => exact absurd q z
              | _ => rfl
            exact ⟨false, hi, _, rfl, ifc (fun _ => hE z) fun h => absurd h (by decide)⟩
      | _ =>
        refine isi (c := false) (by simp only [tyName]; decide) ⟨false, rfl, ?_⟩
        rw [if_pos (by decide)]
        exact hform (by intro es z; cases z)
  | _ =>
    simp only [rd_detector_error, x_var0, x_varS, x_own0, x_ownS, x_ixT, x_ixL, x_addI, x_addT, x_addL, x_gI, x_gIC, x_neg, x_abs, x_intI, x_intB, x_lenT, x_lenL, x_tupL, x_tupT, x_rep, x_seq, x_next, x_set, x_setL, x_par, x_asg, x_drop, x_app, x_ext, x_ret, x_retN, x_if, x_frz, x_for, x_bk, x_ct, x_d1, x_d2, x_dC, x_dL, x_tup, x_and, x_or, x_not, x_ife, x_dB, x_dTr, x_dNot, x_dAnd, x_dOr, x_yes, x_aC, x_aN, x_aSz, x_aRg, x_rg1, x_rg2, x_aList, x_aSort, x_aSl, x_dSl, x_aScr, x_scrLen, x_oN, x_oS, x_rN, x_rC, x_rRl, x_call, x_callB, x_callK, x_iSeq, x_iRg1, x_iRg2, x_iEn, x_gNm, x_gTp, x_gC, x_gN, x_gL, x_comp, startD, arD, wipeD, List.map_cons, List.map_nil, List.length_cons, List.length_nil, List.replicate_succ, List.replicate_zero, List.cons_append, List.nil_append, List.set_cons_succ, List.set_cons_zero, List.getElem?_cons_succ, List.getElem?_cons_zero, Option.some.injEq, PyData.int.injEq, PyData.bool.injEq, PyData.tuple.injEq, PyData.list.injEq, DV.dat.injEq, DV.own.injEq, exists_eq_left', exists_eq_left, exists_eq_right, exists_eq_right', exists_and_left, List.cons.injEq, and_true, true_and, atI0, atI1, atI2, atI3, atI4, atI5, Nat.sub_self, Nat.reduceSub, Nat.reduceAdd, Nat.reduceLT, if_true, if_false, Bool.false_eq_true, ↓reduceIte, Nat.zero_add, y_eqI, y_neI, y_neB, y_eqB, y_eqS, y_neS, y_ltI, y_gtI, y_leI, y_geI, y_inR, y_notInR, y_eqR, y_neR, y_lenR, y_tupR, row_tup, row_lst, tup_lst, lst_tup, false_and, and_false, exists_false, false_or, or_false, exists_const, atI_map, Option.map_some, decide_true, decide_false, Bool.not_true, Bool.not_false, eq_self, y_isB, DV.scr.injEq, x_chain, x_tRg, x_parEL, x_parLE, x_parLL, x_gLs, Nat.add_zero, x_par3, x_aSetSort, x_itL, x_itT, x_itR, x_slL, x_slT, x_lsE, x_parM, x_mN, x_mE, x_mL, x_sm0, x_smD, x_smO, x_iB0, x_iBS, x_idx, x_aSetSortI, x_setRg, x_iRgV, x_qSeq, x_qIf, x_qRet, x_qSet, x_qIfE, x_qRaise, x_qNil, x_qCons, x_qLst, x_qTup, x_callX, x_callKX, x_try, x_qRaise0, x_try0, x_qFor]
    refine isi (c := false) (by simp only [tyName]; decide) ⟨false, rfl, ?_⟩
    rw [if_pos (by decide)]
    exact hP
def fLSet : Fn := fun as n P => ∃ (d : D) (sg : Int), as = [.d d, .d (.int sg)] ∧ Vis d ∧ P (.bool (setOk sg d)) n
theorem adj_zipB : ∀ r : Row, ((r.zip r.tail).all fun p => decide (p.1 < p.2)) = adjB (ltE PyData.int) r
  | [] => rfl
  | [_] => rfl
  | x :: y :: r => by
    have ih := adj_zipB (y :: r)
    have e : ltE PyData.int x y = decide (x < y) := PySem.W.dataLt_int x y
    rw [adjB, ← ih, e]
    rfl
theorem hf_lset (as : List Ar) (n : Nat) (P : D → Nat → Prop) (hl : as.length = 2) (h : fLSet as n P) : rd__law_is_set fNum ⟨fun _ m => P .none m, P, fun _ _ => False, fun _ _ => False⟩ (startD ["value", "signs", "own", "low", "high"] as) n := by
  obtain ⟨d, sg, rfl, hv, hP⟩ := h
  cases d with
  | tuple ds =>
    have hd := vis_len hv
    simp only [rd__law_is_set, x_var0, x_varS, x_own0, x_ownS, x_ixT, x_ixL, x_addI, x_addT, x_addL, x_gI, x_gIC, x_neg, x_abs, x_intI, x_intB, x_lenT, x_lenL, x_tupL, x_tupT, x_rep, x_seq, x_next, x_set, x_setL, x_par, x_asg, x_drop, x_app, x_ext, x_ret, x_retN, x_if, x_frz, x_for, x_bk, x_ct, x_d1, x_d2, x_dC, x_dL, x_tup, x_and, x_or, x_not, x_ife, x_dB, x_dTr, x_dNot, x_dAnd, x_dOr, x_yes, x_aC, x_aN, x_aSz, x_aRg, x_rg1, x_rg2, x_aList, x_aSort, x_aSl, x_dSl, x_aScr, x_scrLen, x_oN, x_oS, x_rN, x_rC, x_rRl, x_call, x_callB, x_callK, x_iSeq, x_iRg1, x_iRg2, x_iEn, x_gNm, x_gTp, x_gC, x_gN, x_gL, x_comp, startD, arD, wipeD, List.map_cons, List.map_nil, List.length_cons, List.length_nil, List.replicate_succ, List.replicate_zero, List.cons_append, List.nil_append, List.set_cons_succ, List.set_cons_zero, List.getElem?_cons_succ, List.getElem?_cons_zero, Option.some.injEq, PyData.int.injEq, PyData.bool.injEq, PyData.tuple.injEq, PyData.list.injEq, DV.dat.injEq, DV.own.injEq, exists_eq_left', exists_eq_left, exists_eq_right, exists_eq_right', exists_and_left, List.cons.injEq, and_true, true_and, atI0, atI1, atI2, atI3, atI4, atI5, Nat.sub_self, Nat.reduceSub, Nat.reduceAdd, Nat.reduceLT, if_true, if_false, Bool.false_eq_true, ↓reduceIte, Nat.zero_add, y_eqI, y_neI, y_neB, y_eqB, y_eqS, y_neS, y_ltI, y_gtI, y_leI, y_geI, y_inR, y_notInR, y_eqR, y_neR, y_lenR, y_tupR, row_tup, row_lst, tup_lst, lst_tup, false_and, and_false, exists_false, false_or, or_false, exists_const, atI_map, Option.map_some, decide_true, decide_false, Bool.not_true, Bool.not_false, eq_self, y_isB, DV.scr.injEq, x_chain, x_tRg, x_parEL, x_parLE, x_parLL, x_gLs, Nat.add_zero, x_par3, x_aSetSort, x_itL, x_itT, x_itR, x_slL, x_slT, x_lsE, x_parM, x_mN, x_mE, x_mL, x_sm0, x_smD, x_smO, x_iB0, x_iBS, x_idx, x_aSetSortI, x_setRg, x_iRgV, x_qSeq, x_qIf, x_qRet, x_qSet, x_qIfE, x_qRaise, x_qNil, x_qCons, x_qLst, x_qTup, x_callX, x_callKX, x_try, x_qRaise0, x_try0, x_qFor]
    refine isi (c := true) (by simp only [tyName]; decide) ⟨true, rfl, ?_⟩
    rw [if_neg (by decide)]
    refine ⟨Nat.zero_le _, ?_⟩
    rw [eq_empty hv]
    have ee : emptyT (.tuple ds) = decide (asR (.tuple ds) = []) := by cases ds <;> rfl
    have es : setOk sg (.tuple ds) = (rowOk (.tuple ds) sg && !emptyT (.tuple ds)) := by rw [setOk, ee]
    rw [es] at hP
    refine ⟨_, rfl, ifc (fun c1 => ?_) fun c1 => ?_⟩
    · rw [c1, Bool.not_true, Bool.and_false] at hP
      exact hP
    rw [c1, Bool.not_false, Bool.and_true] at hP
    refine ⟨rfl, small _ (by omega), ?_⟩
    refine compR_eachD (fun d => .bool (whole d 0 (sg - 1))) ds _ (fun d hd A B ha => ?_) ?_
    · simp only [x_var0, x_varS, x_own0, x_ownS, x_ixT, x_ixL, x_addI, x_addT, x_addL, x_gI, x_gIC, x_neg, x_abs, x_intI, x_intB, x_lenT, x_lenL, x_tupL, x_tupT, x_rep, x_seq, x_next, x_set, x_setL, x_par, x_asg, x_drop, x_app, x_ext, x_ret, x_retN, x_if, x_frz, x_for, x_bk, x_ct, x_d1, x_d2, x_dC, x_dL, x_tup, x_and, x_or, x_not, x_ife, x_dB, x_dTr, x_dNot, x_dAnd, x_dOr, x_yes, x_aC, x_aN, x_aSz, x_aRg, x_rg1, x_rg2, x_aList, x_aSort, x_aSl, x_dSl, x_aScr, x_scrLen, x_oN, x_oS, x_rN, x_rC, x_rRl, x_call, x_callB, x_callK, x_iSeq, x_iRg1, x_iRg2, x_iEn, x_gNm, x_gTp, x_gC, x_gN, x_gL, x_comp, startD, arD, wipeD, List.map_cons, List.map_nil, List.length_cons, List.length_nil, List.replicate_succ, List.replicate_zero, List.cons_append, List.nil_append, List.set_cons_succ, List.set_cons_zero, List.getElem?_cons_succ, List.getElem?_cons_zero, Option.some.injEq, PyData.int.injEq, PyData.bool.injEq, PyData.tuple.injEq, PyData.list.injEq, DV.dat.injEq, DV.own.injEq, exists_eq_left', exists_eq_left, exists_eq_right, exists_eq_right', exists_and_left, List.cons.injEq, and_true, true_and, atI0, atI1, atI2, atI3, atI4, atI5, Nat.sub_self, Nat.reduceSub, Nat.reduceAdd, Nat.reduceLT, if_true, if_false, Bool.false_eq_true, ↓reduceIte, Nat.zero_add, y_eqI, y_neI, y_neB, y_eqB, y_eqS, y_neS, y_ltI, y_gtI, y_leI, y_geI, y_inR, y_notInR, y_eqR, y_neR, y_lenR, y_tupR, row_tup, row_lst, tup_lst, lst_tup, false_and, and_false, exists_false, false_or, or_false, exists_const, atI_map, Option.map_some, decide_true, decide_false, Bool.not_true, Bool.not_false, eq_self, y_isB, DV.scr.injEq, x_chain, x_tRg, x_parEL, x_parLE, x_parLL, x_gLs, Nat.add_zero, x_par3, x_aSetSort, x_itL, x_itT, x_itR, x_slL, x_slT, x_lsE, x_parM, x_mN, x_mE, x_mL, x_sm0, x_smD, x_smO, x_iB0, x_iBS, x_idx, x_aSetSortI, x_setRg, x_iRgV, x_qSeq, x_qIf, x_qRet, x_qSet, x_qIfE, x_qRaise, x_qNil, x_qCons, x_qLst, x_qTup, x_callX, x_callKX, x_try, x_qRaise0, x_try0, x_qFor]
      exact ⟨_, _, rfl, ha⟩
    rw [List.nil_append]
    have e : ds.map (fun d => PyData.bool (whole d 0 (sg - 1))) = (ds.map fun d => whole d 0 (sg - 1)).map PyData.bool := by simp
    rw [e, x_all]
    have e2 : (ds.map fun d => whole d 0 (sg - 1)).all id = ds.all fun d => whole d 0 (sg - 1) := by rw [List.all_map]; rfl
    rw [e2]
    rw [rowOk_tup] at hP
    refine ⟨_, rfl, ifc (fun c2 => ?_) fun c2 => ?_⟩
    · have c3 : (ds.all fun d => whole d 0 (sg - 1)) = false := by simpa using c2
      rw [c3, Bool.false_and] at hP
      exact hP
    · have c3 : (ds.all fun d => whole d 0 (sg - 1)) = true := by simpa using c2
      rw [c3, Bool.true_and] at hP
      obtain ⟨e3, _⟩ := ints_map c3
      have lq : (ds.map asI).length ≤ 100000 := by rw [List.length_map]; exact hd
      generalize ds.map asI = q at e3 hP lq
      subst e3
      refine ⟨rfl, ?_⟩
      simp only [iZp, x_var0, x_varS, x_own0, x_ownS, x_ixT, x_ixL, x_addI, x_addT, x_addL, x_gI, x_gIC, x_neg, x_abs, x_intI, x_intB, x_lenT, x_lenL, x_tupL, x_tupT, x_rep, x_seq, x_next, x_set, x_setL, x_par, x_asg, x_drop, x_app, x_ext, x_ret, x_retN, x_if, x_frz, x_for, x_bk, x_ct, x_d1, x_d2, x_dC, x_dL, x_tup, x_and, x_or, x_not, x_ife, x_dB, x_dTr, x_dNot, x_dAnd, x_dOr, x_yes, x_aC, x_aN, x_aSz, x_aRg, x_rg1, x_rg2, x_aList, x_aSort, x_aSl, x_dSl, x_aScr, x_scrLen, x_oN, x_oS, x_rN, x_rC, x_rRl, x_call, x_callB, x_callK, x_iSeq, x_iRg1, x_iRg2, x_iEn, x_gNm, x_gTp, x_gC, x_gN, x_gL, x_comp, startD, arD, wipeD, List.map_cons, List.map_nil, List.length_cons, List.length_nil, List.replicate_succ, List.replicate_zero, List.cons_append, List.nil_append, List.set_cons_succ, List.set_cons_zero, List.getElem?_cons_succ, List.getElem?_cons_zero, Option.some.injEq, PyData.int.injEq, PyData.bool.injEq, PyData.tuple.injEq, PyData.list.injEq, DV.dat.injEq, DV.own.injEq, exists_eq_left', exists_eq_left, exists_eq_right, exists_eq_right', exists_and_left, List.cons.injEq, and_true, true_and, atI0, atI1, atI2, atI3, atI4, atI5, Nat.sub_self, Nat.reduceSub, Nat.reduceAdd, Nat.reduceLT, if_true, if_false, Bool.false_eq_true, ↓reduceIte, Nat.zero_add, y_eqI, y_neI, y_neB, y_eqB, y_eqS, y_neS, y_ltI, y_gtI, y_leI, y_geI, y_inR, y_notInR, y_eqR, y_neR, y_lenR, y_tupR, row_tup, row_lst, tup_lst, lst_tup, false_and, and_false, exists_false, false_or, or_false, exists_const, atI_map, Option.map_some, decide_true, decide_false, Bool.not_true, Bool.not_false, eq_self, y_isB, DV.scr.injEq, x_chain, x_tRg, x_parEL, x_parLE, x_parLL, x_gLs, Nat.add_zero, x_par3, x_aSetSort, x_itL, x_itT, x_itR, x_slL, x_slT, x_lsE, x_parM, x_mN, x_mE, x_mL, x_sm0, x_smD, x_smO, x_iB0, x_iBS, x_idx, x_aSetSortI, x_setRg, x_iRgV, x_qSeq, x_qIf, x_qRet, x_qSet, x_qIfE, x_qRaise, x_qNil, x_qCons, x_qLst, x_qTup, x_callX, x_callKX, x_try, x_qRaise0, x_try0, x_qFor]
      rw [cut_one, zip_ints]
      refine ⟨small _ (by rw [List.length_map, List.length_zip]; omega), ?_⟩
      refine compR_each (e := prI) (fun p => .bool (decide (p.1 < p.2))) _ _ (fun p hp A B ha => ?_) ?_
      · simp only [prI, x_var0, x_varS, x_own0, x_ownS, x_ixT, x_ixL, x_addI, x_addT, x_addL, x_gI, x_gIC, x_neg, x_abs, x_intI, x_intB, x_lenT, x_lenL, x_tupL, x_tupT, x_rep, x_seq, x_next, x_set, x_setL, x_par, x_asg, x_drop, x_app, x_ext, x_ret, x_retN, x_if, x_frz, x_for, x_bk, x_ct, x_d1, x_d2, x_dC, x_dL, x_tup, x_and, x_or, x_not, x_ife, x_dB, x_dTr, x_dNot, x_dAnd, x_dOr, x_yes, x_aC, x_aN, x_aSz, x_aRg, x_rg1, x_rg2, x_aList, x_aSort, x_aSl, x_dSl, x_aScr, x_scrLen, x_oN, x_oS, x_rN, x_rC, x_rRl, x_call, x_callB, x_callK, x_iSeq, x_iRg1, x_iRg2, x_iEn, x_gNm, x_gTp, x_gC, x_gN, x_gL, x_comp, startD, arD, wipeD, List.map_cons, List.map_nil, List.length_cons, List.length_nil, List.replicate_succ, List.replicate_zero, List.cons_append, List.nil_append, List.set_cons_succ, List.set_cons_zero, List.getElem?_cons_succ, List.getElem?_cons_zero, Option.some.injEq, PyData.int.injEq, PyData.bool.injEq, PyData.tuple.injEq, PyData.list.injEq, DV.dat.injEq, DV.own.injEq, exists_eq_left', exists_eq_left, exists_eq_right, exists_eq_right', exists_and_left, List.cons.injEq, and_true, true_and, atI0, atI1, atI2, atI3, atI4, atI5, Nat.sub_self, Nat.reduceSub, Nat.reduceAdd, Nat.reduceLT, if_true, if_false, Bool.false_eq_true, ↓reduceIte, Nat.zero_add, y_eqI, y_neI, y_neB, y_eqB, y_eqS, y_neS, y_ltI, y_gtI, y_leI, y_geI, y_inR, y_notInR, y_eqR, y_neR, y_lenR, y_tupR, row_tup, row_lst, tup_lst, lst_tup, false_and, and_false, exists_false, false_or, or_false, exists_const, atI_map, Option.map_some, decide_true, decide_false, Bool.not_true, Bool.not_false, eq_self, y_isB, DV.scr.injEq, x_chain, x_tRg, x_parEL, x_parLE, x_parLL, x_gLs, Nat.add_zero, x_par3, x_aSetSort, x_itL, x_itT, x_itR, x_slL, x_slT, x_lsE, x_parM, x_mN, x_mE, x_mL, x_sm0, x_smD, x_smO, x_iB0, x_iBS, x_idx, x_aSetSortI, x_setRg, x_iRgV, x_qSeq, x_qIf, x_qRet, x_qSet, x_qIfE, x_qRaise, x_qNil, x_qCons, x_qLst, x_qTup, x_callX, x_callKX, x_try, x_qRaise0, x_try0, x_qFor]
        exact ha
      · rw [List.nil_append, show (q.zip q.tail).map (fun p => PyData.bool (decide (p.1 < p.2))) = ((q.zip q.tail).map fun p => decide (p.1 < p.2)).map PyData.bool by rw [List.map_map]; rfl, x_all, List.all_map]
        have e4 : (q.zip q.tail).all (id ∘ fun p => decide (p.1 < p.2)) = adjB (ltE PyData.int) q := adj_zipB q
        rw [e4]
        exact hP
  | _ =>
    simp only [rd__law_is_set, x_var0, x_varS, x_own0, x_ownS, x_ixT, x_ixL, x_addI, x_addT, x_addL, x_gI, x_gIC, x_neg, x_abs, x_intI, x_intB, x_lenT, x_lenL, x_tupL, x_tupT, x_rep, x_seq, x_next, x_set, x_setL, x_par, x_asg, x_drop, x_app, x_ext, x_ret, x_retN, x_if, x_frz, x_for, x_bk, x_ct, x_d1, x_d2, x_dC, x_dL, x_tup, x_and, x_or, x_not, x_ife, x_dB, x_dTr, x_dNot, x_dAnd, x_dOr, x_yes, x_aC, x_aN, x_aSz, x_aRg, x_rg1, x_rg2, x_aList, x_aSort, x_aSl, x_dSl, x_aScr, x_scrLen, x_oN, x_oS, x_rN, x_rC, x_rRl, x_call, x_callB, x_callK, x_iSeq, x_iRg1, x_iRg2, x_iEn, x_gNm, x_gTp, x_gC, x_gN, x_gL, x_comp, startD, arD, wipeD, List.map_cons, List.map_nil, List.length_cons, List.length_nil, List.replicate_succ, List.replicate_zero, List.cons_append, List.nil_append, List.set_cons_succ, List.set_cons_zero, List.getElem?_cons_succ, List.getElem?_cons_zero, Option.some.injEq, PyData.int.injEq, PyData.bool.injEq, PyData.tuple.injEq, PyData.list.injEq, DV.dat.injEq, DV.own.injEq, exists_eq_left', exists_eq_left, exists_eq_right, exists_eq_right', exists_and_left, List.cons.injEq, and_true, true_and, atI0, atI1, atI2, atI3, atI4, atI5, Nat.sub_self, Nat.reduceSub, Nat.reduceAdd, Nat.reduceLT, if_true, if_false, Bool.false_eq_true, ↓reduceIte, Nat.zero_add, y_eqI, y_neI, y_neB, y_eqB, y_eqS, y_neS, y_ltI, y_gtI, y_leI, y_geI, y_inR, y_notInR, y_eqR, y_neR, y_lenR, y_tupR, row_tup, row_lst, tup_lst, lst_tup, false_and, and_false, exists_false, false_or, or_false, exists_const, atI_map, Option.map_some, decide_true, decide_false, Bool.not_true, Bool.not_false, eq_self, y_isB, DV.scr.injEq, x_chain, x_tRg, x_parEL, x_parLE, x_parLL, x_gLs, Nat.add_zero, x_par3, x_aSetSort, x_itL, x_itT, x_itR, x_slL, x_slT, x_lsE, x_parM, x_mN, x_mE, x_mL, x_sm0, x_smD, x_smO, x_iB0, x_iBS, x_idx, x_aSetSortI, x_setRg, x_iRgV, x_qSeq, x_qIf, x_qRet, x_qSet, x_qIfE, x_qRaise, x_qNil, x_qCons, x_qLst, x_qTup, x_callX, x_callKX, x_try, x_qRaise0, x_try0, x_qFor]
    refine isi (c := false) (by simp only [tyName]; decide) ⟨false, rfl, ?_⟩
    rw [if_pos (by decide)]
    exact hP
theorem setsM {sg : Int} {s : Nat} {es : List D} {Sk V : D} {z3 z6 z7 : Option DV} {n : Nat} {E : DEnds} (hv : Vis (.tuple es)) (hP : setsFault sg (.int s) es ≠ .none → E.rt (setsFault sg (.int s) es) n) (hN : setsFault sg (.int s) es = .none → ∀ z6 z7, E.nx [some (.dat Sk), some (.dat V), some (.dat (.int sg)), z3, some (.dat (.int s)), some (.dat (.tuple es)), z6, z7] n) :
    (sFor (iEn (dVar 5)) (gTp (gCons' (gNm 6) (gCons' (gNm 7) (gNil')))) (sSeq (sIf (dNot (dTr (dCall fLSet (rCons (dVar 7) (rCons (dVar 2) (rNil)))))) (sRet (dTup (aCons (dC (.str "set")) (aCons (dVar 4) (aCons (dVar 6) (aNil)))))) (sNext))
      (sIf (dAnd (dB (d2 gGt (dVar 6) (dC (.int 0)))) (dNot (dB (d2 gLt (d2 gIx (dVar 5) (d2 gSub (dVar 6) (dC (.int 1)))) (dVar 7))))) (sRet (dTup (aCons (dC (.str "order")) (aCons (dVar 4) (aCons (dVar 6) (aNil)))))) (sNext)))) E [some (.dat Sk), some (.dat V), some (.dat (.int sg)), z3, some (.dat (.int s)), some (.dat (.tuple es)), z6, z7] n := by
  simp only [x_var0, x_varS, x_own0, x_ownS, x_ixT, x_ixL, x_addI, x_addT, x_addL, x_gI, x_gIC, x_neg, x_abs, x_intI, x_intB, x_lenT, x_lenL, x_tupL, x_tupT, x_rep, x_seq, x_next, x_set, x_setL, x_par, x_asg, x_drop, x_app, x_ext, x_ret, x_retN, x_if, x_frz, x_for, x_bk, x_ct, x_d1, x_d2, x_dC, x_dL, x_tup, x_and, x_or, x_not, x_ife, x_dB, x_dTr, x_dNot, x_dAnd, x_dOr, x_yes, x_aC, x_aN, x_aSz, x_aRg, x_rg1, x_rg2, x_aList, x_aSort, x_aSl, x_dSl, x_aScr, x_scrLen, x_oN, x_oS, x_rN, x_rC, x_rRl, x_call, x_callB, x_callK, x_iSeq, x_iRg1, x_iRg2, x_iEn, x_gNm, x_gTp, x_gC, x_gN, x_gL, x_comp, startD, arD, wipeD, List.map_cons, List.map_nil, List.length_cons, List.length_nil, List.replicate_succ, List.replicate_zero, List.cons_append, List.nil_append, List.set_cons_succ, List.set_cons_zero, List.getElem?_cons_succ, List.getElem?_cons_zero, Option.some.injEq, PyData.int.injEq, PyData.bool.injEq, PyData.tuple.injEq, PyData.list.injEq, DV.dat.injEq, DV.own.injEq, exists_eq_left', exists_eq_left, exists_eq_right, exists_eq_right', exists_and_left, List.cons.injEq, and_true, true_and, atI0, atI1, atI2, atI3, atI4, atI5, Nat.sub_self, Nat.reduceSub, Nat.reduceAdd, Nat.reduceLT, if_true, if_false, Bool.false_eq_true, ↓reduceIte, Nat.zero_add, y_eqI, y_neI, y_neB, y_eqB, y_eqS, y_neS, y_ltI, y_gtI, y_leI, y_geI, y_inR, y_notInR, y_eqR, y_neR, y_lenR, y_tupR, row_tup, row_lst, tup_lst, lst_tup, false_and, and_false, exists_false, false_or, or_false, exists_const, atI_map, Option.map_some, decide_true, decide_false, Bool.not_true, Bool.not_false, eq_self, y_isB, DV.scr.injEq, x_chain, x_tRg, x_parEL, x_parLE, x_parLL, x_gLs, Nat.add_zero, x_par3, x_aSetSort, x_itL, x_itT, x_itR, x_slL, x_slT, x_lsE, x_parM, x_mN, x_mE, x_mL, x_sm0, x_smD, x_smO, x_iB0, x_iBS, x_idx, x_aSetSortI, x_setRg, x_iRgV, x_qSeq, x_qIf, x_qRet, x_qSet, x_qIfE, x_qRaise, x_qNil, x_qCons, x_qLst, x_qTup, x_callX, x_callKX, x_try, x_qRaise0, x_try0, x_qFor]
  rw [enumD_range]
  refine forR_findN (badSet sg es) (setW sg (.int s) es) (fun δ => ∃ z6 z7 : Option DV, δ = [some (.dat Sk), some (.dat V), some (.dat (.int sg)), z3, some (.dat (.int s)), some (.dat (.tuple es)), z6, z7]) ⟨_, _, rfl⟩ (fun k hk hb δ hJ N hN hE => ?_) (fun k hf => ?_) fun hf δ hJ => ?_
  · obtain ⟨z6, z7, rfl⟩ := hJ
    simp only [x_var0, x_varS, x_own0, x_ownS, x_ixT, x_ixL, x_addI, x_addT, x_addL, x_gI, x_gIC, x_neg, x_abs, x_intI, x_intB, x_lenT, x_lenL, x_tupL, x_tupT, x_rep, x_seq, x_next, x_set, x_setL, x_par, x_asg, x_drop, x_app, x_ext, x_ret, x_retN, x_if, x_frz, x_for, x_bk, x_ct, x_d1, x_d2, x_dC, x_dL, x_tup, x_and, x_or, x_not, x_ife, x_dB, x_dTr, x_dNot, x_dAnd, x_dOr, x_yes, x_aC, x_aN, x_aSz, x_aRg, x_rg1, x_rg2, x_aList, x_aSort, x_aSl, x_dSl, x_aScr, x_scrLen, x_oN, x_oS, x_rN, x_rC, x_rRl, x_call, x_callB, x_callK, x_iSeq, x_iRg1, x_iRg2, x_iEn, x_gNm, x_gTp, x_gC, x_gN, x_gL, x_comp, startD, arD, wipeD, List.map_cons, List.map_nil, List.length_cons, List.length_nil, List.replicate_succ, List.replicate_zero, List.cons_append, List.nil_append, List.set_cons_succ, List.set_cons_zero, List.getElem?_cons_succ, List.getElem?_cons_zero, Option.some.injEq, PyData.int.injEq, PyData.bool.injEq, PyData.tuple.injEq, PyData.list.injEq, DV.dat.injEq, DV.own.injEq, exists_eq_left', exists_eq_left, exists_eq_right, exists_eq_right', exists_and_left, List.cons.injEq, and_true, true_and, atI0, atI1, atI2, atI3, atI4, atI5, Nat.sub_self, Nat.reduceSub, Nat.reduceAdd, Nat.reduceLT, if_true, if_false, Bool.false_eq_true, ↓reduceIte, Nat.zero_add, y_eqI, y_neI, y_neB, y_eqB, y_eqS, y_neS, y_ltI, y_gtI, y_leI, y_geI, y_inR, y_notInR, y_eqR, y_neR, y_lenR, y_tupR, row_tup, row_lst, tup_lst, lst_tup, false_and, and_false, exists_false, false_or, or_false, exists_const, atI_map, Option.map_some, decide_true, decide_false, Bool.not_true, Bool.not_false, eq_self, y_isB, DV.scr.injEq, x_chain, x_tRg, x_parEL, x_parLE, x_parLL, x_gLs, Nat.add_zero, x_par3, x_aSetSort, x_itL, x_itT, x_itR, x_slL, x_slT, x_lsE, x_parM, x_mN, x_mE, x_mL, x_sm0, x_smD, x_smO, x_iB0, x_iBS, x_idx, x_aSetSortI, x_setRg, x_iRgV, x_qSeq, x_qIf, x_qRet, x_qSet, x_qIfE, x_qRaise, x_qNil, x_qCons, x_qLst, x_qTup, x_callX, x_callKX, x_try, x_qRaise0, x_try0, x_qFor]
    have vd := vis_mem hv (getD_mem hk)
    refine ⟨es.getD k .none, sg, rfl, vd, tru _ ?_⟩
    refine ifc (fun c3 => ⟨by decide, ?_⟩) fun c3 => ?_
    · have c4 : setOk sg (es.getD k .none) = false := by simpa using c3
      have q := hE (by rw [badSet, c4]; rfl)
      rw [setW, c4] at q
      exact q
    · have c4 : setOk sg (es.getD k .none) = true := by simpa using c3
      obtain ⟨q, eq, _⟩ := set_typed c4
      by_cases h0 : 0 < k
      · have pk : setOk sg (es.getD (k - 1) .none) = true := by
          have := hb (k - 1) (by omega)
          rw [badSet, Bool.or_eq_false_iff] at this
          simpa using this.1
        obtain ⟨q0, eq0, _⟩ := set_typed pk
        rw [if_pos (by simpa using h0)]
        refine ⟨_, at_prev h0 (by omega), ?_⟩
        rw [eq0, eq, y_lt enc_row (by decide)]
        have el : late es k = !ltE rowD q0 q := by rw [late, decide_eq_true h0, eq0, eq, asR_row, asR_row]; rfl
        refine ⟨_, rfl, ifc (fun c5 => ⟨by decide, ?_⟩) fun c5 => ?_⟩
        · have q1 := hE (by rw [badSet, el, c5]; simp)
          rw [setW, if_pos c4] at q1
          exact q1
        · exact hN (by rw [badSet, c4, el, c5]; rfl) _ ⟨_, _, rfl⟩
      · rw [if_neg (by simpa using h0)]
        exact hN (by rw [badSet, c4, late, decide_eq_false h0]; rfl) _ ⟨_, _, rfl⟩
  · have e : setsFault sg (.int s) es = setW sg (.int s) es k := by rw [setsFault, hf]
    rw [← e]
    refine hP fun z => ?_
    rw [e] at z
    have := setW_ne sg (.int s) es k
    rw [z] at this
    cases this
  · obtain ⟨z6, z7, rfl⟩ := hJ
    exact hN (by rw [setsFault, hf]) _ _
theorem hf_ldterr (as : List Ar) (n : Nat) (P : D → Nat → Prop) (hl : as.length = 2) (h : fDtErr as n P) : rd__law_detector_error fNum fLSet ⟨fun _ m => P .none m, P, fun _ _ => False, fun _ _ => False⟩ (startD ["sky", "value", "signs", "ends", "s", "some", "k", "own"] as) n := by
  obtain ⟨s, v, rfl, sl, hv, hP⟩ := h
  cases v with
  | tuple ds =>
    simp only [rd__law_detector_error, x_var0, x_varS, x_own0, x_ownS, x_ixT, x_ixL, x_addI, x_addT, x_addL, x_gI, x_gIC, x_neg, x_abs, x_intI, x_intB, x_lenT, x_lenL, x_tupL, x_tupT, x_rep, x_seq, x_next, x_set, x_setL, x_par, x_asg, x_drop, x_app, x_ext, x_ret, x_retN, x_if, x_frz, x_for, x_bk, x_ct, x_d1, x_d2, x_dC, x_dL, x_tup, x_and, x_or, x_not, x_ife, x_dB, x_dTr, x_dNot, x_dAnd, x_dOr, x_yes, x_aC, x_aN, x_aSz, x_aRg, x_rg1, x_rg2, x_aList, x_aSort, x_aSl, x_dSl, x_aScr, x_scrLen, x_oN, x_oS, x_rN, x_rC, x_rRl, x_call, x_callB, x_callK, x_iSeq, x_iRg1, x_iRg2, x_iEn, x_gNm, x_gTp, x_gC, x_gN, x_gL, x_comp, startD, arD, wipeD, List.map_cons, List.map_nil, List.length_cons, List.length_nil, List.replicate_succ, List.replicate_zero, List.cons_append, List.nil_append, List.set_cons_succ, List.set_cons_zero, List.getElem?_cons_succ, List.getElem?_cons_zero, Option.some.injEq, PyData.int.injEq, PyData.bool.injEq, PyData.tuple.injEq, PyData.list.injEq, DV.dat.injEq, DV.own.injEq, exists_eq_left', exists_eq_left, exists_eq_right, exists_eq_right', exists_and_left, List.cons.injEq, and_true, true_and, atI0, atI1, atI2, atI3, atI4, atI5, Nat.sub_self, Nat.reduceSub, Nat.reduceAdd, Nat.reduceLT, if_true, if_false, Bool.false_eq_true, ↓reduceIte, Nat.zero_add, y_eqI, y_neI, y_neB, y_eqB, y_eqS, y_neS, y_ltI, y_gtI, y_leI, y_geI, y_inR, y_notInR, y_eqR, y_neR, y_lenR, y_tupR, row_tup, row_lst, tup_lst, lst_tup, false_and, and_false, exists_false, false_or, or_false, exists_const, atI_map, Option.map_some, decide_true, decide_false, Bool.not_true, Bool.not_false, eq_self, y_isB, DV.scr.injEq, x_chain, x_tRg, x_parEL, x_parLE, x_parLL, x_gLs, Nat.add_zero, x_par3, x_aSetSort, x_itL, x_itT, x_itR, x_slL, x_slT, x_lsE, x_parM, x_mN, x_mE, x_mL, x_sm0, x_smD, x_smO, x_iB0, x_iBS, x_idx, x_aSetSortI, x_setRg, x_iRgV, x_qSeq, x_qIf, x_qRet, x_qSet, x_qIfE, x_qRaise, x_qNil, x_qCons, x_qLst, x_qTup, x_callX, x_callKX, x_try, x_qRaise0, x_try0, x_qFor]
    refine isi (c := true) (by simp only [tyName]; decide) ⟨true, rfl, ?_⟩
    rw [if_neg (by decide)]
    refine ifc (fun c => ?_) fun c => ?_
    · rw [det_len (by simp at c; omega)] at hP
      exact hP
    have c' : ds.length = 2 := by simp at c; omega
    match ds, c' with
    | [a, b], _ =>
      simp only [x_var0, x_varS, x_own0, x_ownS, x_ixT, x_ixL, x_addI, x_addT, x_addL, x_gI, x_gIC, x_neg, x_abs, x_intI, x_intB, x_lenT, x_lenL, x_tupL, x_tupT, x_rep, x_seq, x_next, x_set, x_setL, x_par, x_asg, x_drop, x_app, x_ext, x_ret, x_retN, x_if, x_frz, x_for, x_bk, x_ct, x_d1, x_d2, x_dC, x_dL, x_tup, x_and, x_or, x_not, x_ife, x_dB, x_dTr, x_dNot, x_dAnd, x_dOr, x_yes, x_aC, x_aN, x_aSz, x_aRg, x_rg1, x_rg2, x_aList, x_aSort, x_aSl, x_dSl, x_aScr, x_scrLen, x_oN, x_oS, x_rN, x_rC, x_rRl, x_call, x_callB, x_callK, x_iSeq, x_iRg1, x_iRg2, x_iEn, x_gNm, x_gTp, x_gC, x_gN, x_gL, x_comp, startD, arD, wipeD, List.map_cons, List.map_nil, List.length_cons, List.length_nil, List.replicate_succ, List.replicate_zero, List.cons_append, List.nil_append, List.set_cons_succ, List.set_cons_zero, List.getElem?_cons_succ, List.getElem?_cons_zero, Option.some.injEq, PyData.int.injEq, PyData.bool.injEq, PyData.tuple.injEq, PyData.list.injEq, DV.dat.injEq, DV.own.injEq, exists_eq_left', exists_eq_left, exists_eq_right, exists_eq_right', exists_and_left, List.cons.injEq, and_true, true_and, atI0, atI1, atI2, atI3, atI4, atI5, Nat.sub_self, Nat.reduceSub, Nat.reduceAdd, Nat.reduceLT, if_true, if_false, Bool.false_eq_true, ↓reduceIte, Nat.zero_add, y_eqI, y_neI, y_neB, y_eqB, y_eqS, y_neS, y_ltI, y_gtI, y_leI, y_geI, y_inR, y_notInR, y_eqR, y_neR, y_lenR, y_tupR, row_tup, row_lst, tup_lst, lst_tup, false_and, and_false, exists_false, false_or, or_false, exists_const, atI_map, Option.map_some, decide_true, decide_false, Bool.not_true, Bool.not_false, eq_self, y_isB, DV.scr.injEq, x_chain, x_tRg, x_parEL, x_parLE, x_parLL, x_gLs, Nat.add_zero, x_par3, x_aSetSort, x_itL, x_itT, x_itR, x_slL, x_slT, x_lsE, x_parM, x_mN, x_mE, x_mL, x_sm0, x_smD, x_smO, x_iB0, x_iBS, x_idx, x_aSetSortI, x_setRg, x_iRgV, x_qSeq, x_qIf, x_qRet, x_qSet, x_qIfE, x_qRaise, x_qNil, x_qCons, x_qLst, x_qTup, x_callX, x_callKX, x_try, x_qRaise0, x_try0, x_qFor]
      cases b with
      | tuple es =>
        refine isi (c := true) (by simp only [tyName]; decide) ⟨true, rfl, ?_⟩
        rw [if_neg (by decide)]
        simp only [k_ix2, x_var0, x_varS, x_own0, x_ownS, x_ixT, x_ixL, x_addI, x_addT, x_addL, x_gI, x_gIC, x_neg, x_abs, x_intI, x_intB, x_lenT, x_lenL, x_tupL, x_tupT, x_rep, x_seq, x_next, x_set, x_setL, x_par, x_asg, x_drop, x_app, x_ext, x_ret, x_retN, x_if, x_frz, x_for, x_bk, x_ct, x_d1, x_d2, x_dC, x_dL, x_tup, x_and, x_or, x_not, x_ife, x_dB, x_dTr, x_dNot, x_dAnd, x_dOr, x_yes, x_aC, x_aN, x_aSz, x_aRg, x_rg1, x_rg2, x_aList, x_aSort, x_aSl, x_dSl, x_aScr, x_scrLen, x_oN, x_oS, x_rN, x_rC, x_rRl, x_call, x_callB, x_callK, x_iSeq, x_iRg1, x_iRg2, x_iEn, x_gNm, x_gTp, x_gC, x_gN, x_gL, x_comp, startD, arD, wipeD, List.map_cons, List.map_nil, List.length_cons, List.length_nil, List.replicate_succ, List.replicate_zero, List.cons_append, List.nil_append, List.set_cons_succ, List.set_cons_zero, List.getElem?_cons_succ, List.getElem?_cons_zero, Option.some.injEq, PyData.int.injEq, PyData.bool.injEq, PyData.tuple.injEq, PyData.list.injEq, DV.dat.injEq, DV.own.injEq, exists_eq_left', exists_eq_left, exists_eq_right, exists_eq_right', exists_and_left, List.cons.injEq, and_true, true_and, atI0, atI1, atI2, atI3, atI4, atI5, Nat.sub_self, Nat.reduceSub, Nat.reduceAdd, Nat.reduceLT, if_true, if_false, Bool.false_eq_true, ↓reduceIte, Nat.zero_add, y_eqI, y_neI, y_neB, y_eqB, y_eqS, y_neS, y_ltI, y_gtI, y_leI, y_geI, y_inR, y_notInR, y_eqR, y_neR, y_lenR, y_tupR, row_tup, row_lst, tup_lst, lst_tup, false_and, and_false, exists_false, false_or, or_false, exists_const, atI_map, Option.map_some, decide_true, decide_false, Bool.not_true, Bool.not_false, eq_self, y_isB, DV.scr.injEq, x_chain, x_tRg, x_parEL, x_parLE, x_parLL, x_gLs, Nat.add_zero, x_par3, x_aSetSort, x_itL, x_itT, x_itR, x_slL, x_slT, x_lsE, x_parM, x_mN, x_mE, x_mL, x_sm0, x_smD, x_smO, x_iB0, x_iBS, x_idx, x_aSetSortI, x_setRg, x_iRgV, x_qSeq, x_qIf, x_qRet, x_qSet, x_qIfE, x_qRaise, x_qNil, x_qCons, x_qLst, x_qTup, x_callX, x_callKX, x_try, x_qRaise0, x_try0, x_qFor, List.length_map]
        have hve := hv a es rfl
        refine ⟨a, 7, rfl, tru _ ?_⟩
        rw [detFault] at hP
        refine ifc (fun c1 => ?_) fun c1 => ?_
        · have c2 : whole a 0 6 = false := by simpa using c1
          rw [if_neg (fun z => by
            obtain ⟨e, h1, h2⟩ := whole_int z
            rw [e] at c2
            have : whole (.int (asI a)) 0 6 = true := by
              show (decide (0 ≤ asI a) && decide (asI a ≤ 6)) = true
              rw [decide_eq_true (by omega), decide_eq_true h2]; rfl
            rw [this] at c2
            cases c2)] at hP
          exact hP
        have c2 : whole a 0 6 = true := by simpa using c1
        obtain ⟨ea, g1, g2⟩ := whole_int c2
        generalize asI a = sg at ea g1 g2
        subst ea
        rw [y_eqI]
        refine ⟨_, rfl, ifc (fun c3 => ?_) fun c3 => ?_⟩
        · have c4 : sg = 0 := by simpa using c3
          rw [if_neg (by rw [c4]; decide)] at hP
          exact hP
        have c4 : sg ≠ 0 := by simpa using c3
        rw [if_pos (by show (decide (1 ≤ sg) && decide (sg ≤ 6)) = true; rw [decide_eq_true (by omega), decide_eq_true g2]; rfl)] at hP
        refine ifc (fun c5 => ?_) fun c5 => ?_
        · rw [if_neg (by simp at c5; omega)] at hP
          exact hP
        rw [if_pos (by simp at c5; omega)] at hP
        have hP : P (endsFault sg es) n := hP
        refine ends_loop (fun δ => ∃ z4 z5 z6 z7 : Option DV, δ = [some (.dat (skyD s)), some (.dat (.tuple [.int sg, .tuple es])), some (.dat (.int sg)), some (.dat (.tuple es)), z4, z5, z6, z7]) ⟨_, _, _, _, rfl⟩ (.inl hP) (fun z δ hJ => ?_) (fun _ => hP) fun k hk δ hJ N hN hE => ?_
        · obtain ⟨z4, z5, z6, z7, rfl⟩ := hJ
          simp only [x_var0, x_varS, x_own0, x_ownS, x_ixT, x_ixL, x_addI, x_addT, x_addL, x_gI, x_gIC, x_neg, x_abs, x_intI, x_intB, x_lenT, x_lenL, x_tupL, x_tupT, x_rep, x_seq, x_next, x_set, x_setL, x_par, x_asg, x_drop, x_app, x_ext, x_ret, x_retN, x_if, x_frz, x_for, x_bk, x_ct, x_d1, x_d2, x_dC, x_dL, x_tup, x_and, x_or, x_not, x_ife, x_dB, x_dTr, x_dNot, x_dAnd, x_dOr, x_yes, x_aC, x_aN, x_aSz, x_aRg, x_rg1, x_rg2, x_aList, x_aSort, x_aSl, x_dSl, x_aScr, x_scrLen, x_oN, x_oS, x_rN, x_rC, x_rRl, x_call, x_callB, x_callK, x_iSeq, x_iRg1, x_iRg2, x_iEn, x_gNm, x_gTp, x_gC, x_gN, x_gL, x_comp, startD, arD, wipeD, List.map_cons, List.map_nil, List.length_cons, List.length_nil, List.replicate_succ, List.replicate_zero, List.cons_append, List.nil_append, List.set_cons_succ, List.set_cons_zero, List.getElem?_cons_succ, List.getElem?_cons_zero, Option.some.injEq, PyData.int.injEq, PyData.bool.injEq, PyData.tuple.injEq, PyData.list.injEq, DV.dat.injEq, DV.own.injEq, exists_eq_left', exists_eq_left, exists_eq_right, exists_eq_right', exists_and_left, List.cons.injEq, and_true, true_and, atI0, atI1, atI2, atI3, atI4, atI5, Nat.sub_self, Nat.reduceSub, Nat.reduceAdd, Nat.reduceLT, if_true, if_false, Bool.false_eq_true, ↓reduceIte, Nat.zero_add, y_eqI, y_neI, y_neB, y_eqB, y_eqS, y_neS, y_ltI, y_gtI, y_leI, y_geI, y_inR, y_notInR, y_eqR, y_neR, y_lenR, y_tupR, row_tup, row_lst, tup_lst, lst_tup, false_and, and_false, exists_false, false_or, or_false, exists_const, atI_map, Option.map_some, decide_true, decide_false, Bool.not_true, Bool.not_false, eq_self, y_isB, DV.scr.injEq, x_chain, x_tRg, x_parEL, x_parLE, x_parLL, x_gLs, Nat.add_zero, x_par3, x_aSetSort, x_itL, x_itT, x_itR, x_slL, x_slT, x_lsE, x_parM, x_mN, x_mE, x_mL, x_sm0, x_smD, x_smO, x_iB0, x_iBS, x_idx, x_aSetSortI, x_setRg, x_iRgV, x_qSeq, x_qIf, x_qRet, x_qSet, x_qIfE, x_qRaise, x_qNil, x_qCons, x_qLst, x_qTup, x_callX, x_callKX, x_try, x_qRaise0, x_try0, x_qFor]
          rw [z] at hP
          exact hP
        · obtain ⟨z4, z5, z6, z7, rfl⟩ := hJ
          simp only [x_var0, x_varS, x_own0, x_ownS, x_ixT, x_ixL, x_addI, x_addT, x_addL, x_gI, x_gIC, x_neg, x_abs, x_intI, x_intB, x_lenT, x_lenL, x_tupL, x_tupT, x_rep, x_seq, x_next, x_set, x_setL, x_par, x_asg, x_drop, x_app, x_ext, x_ret, x_retN, x_if, x_frz, x_for, x_bk, x_ct, x_d1, x_d2, x_dC, x_dL, x_tup, x_and, x_or, x_not, x_ife, x_dB, x_dTr, x_dNot, x_dAnd, x_dOr, x_yes, x_aC, x_aN, x_aSz, x_aRg, x_rg1, x_rg2, x_aList, x_aSort, x_aSl, x_dSl, x_aScr, x_scrLen, x_oN, x_oS, x_rN, x_rC, x_rRl, x_call, x_callB, x_callK, x_iSeq, x_iRg1, x_iRg2, x_iEn, x_gNm, x_gTp, x_gC, x_gN, x_gL, x_comp, startD, arD, wipeD, List.map_cons, List.map_nil, List.length_cons, List.length_nil, List.replicate_succ, List.replicate_zero, List.cons_append, List.nil_append, List.set_cons_succ, List.set_cons_zero, List.getElem?_cons_succ, List.getElem?_cons_zero, Option.some.injEq, PyData.int.injEq, PyData.bool.injEq, PyData.tuple.injEq, PyData.list.injEq, DV.dat.injEq, DV.own.injEq, exists_eq_left', exists_eq_left, exists_eq_right, exists_eq_right', exists_and_left, List.cons.injEq, and_true, true_and, atI0, atI1, atI2, atI3, atI4, atI5, Nat.sub_self, Nat.reduceSub, Nat.reduceAdd, Nat.reduceLT, if_true, if_false, Bool.false_eq_true, ↓reduceIte, Nat.zero_add, y_eqI, y_neI, y_neB, y_eqB, y_eqS, y_neS, y_ltI, y_gtI, y_leI, y_geI, y_inR, y_notInR, y_eqR, y_neR, y_lenR, y_tupR, row_tup, row_lst, tup_lst, lst_tup, false_and, and_false, exists_false, false_or, or_false, exists_const, atI_map, Option.map_some, decide_true, decide_false, Bool.not_true, Bool.not_false, eq_self, y_isB, DV.scr.injEq, x_chain, x_tRg, x_parEL, x_parLE, x_parLL, x_gLs, Nat.add_zero, x_par3, x_aSetSort, x_itL, x_itT, x_itR, x_slL, x_slT, x_lsE, x_parM, x_mN, x_mE, x_mL, x_sm0, x_smD, x_smO, x_iB0, x_iBS, x_idx, x_aSetSortI, x_setRg, x_iRgV, x_qSeq, x_qIf, x_qRet, x_qSet, x_qIfE, x_qRaise, x_qNil, x_qCons, x_qLst, x_qTup, x_callX, x_callKX, x_try, x_qRaise0, x_try0, x_qFor]
          have vd := vis_mem hve (getD_mem hk)
          cases q : es.getD k .none with
          | tuple fs =>
            rw [q] at hN hE vd
            refine isi (c := true) (by simp only [tyName]; decide) ⟨true, rfl, ?_⟩
            rw [if_neg (by decide)]
            simp only [x_var0, x_varS, x_own0, x_ownS, x_ixT, x_ixL, x_addI, x_addT, x_addL, x_gI, x_gIC, x_neg, x_abs, x_intI, x_intB, x_lenT, x_lenL, x_tupL, x_tupT, x_rep, x_seq, x_next, x_set, x_setL, x_par, x_asg, x_drop, x_app, x_ext, x_ret, x_retN, x_if, x_frz, x_for, x_bk, x_ct, x_d1, x_d2, x_dC, x_dL, x_tup, x_and, x_or, x_not, x_ife, x_dB, x_dTr, x_dNot, x_dAnd, x_dOr, x_yes, x_aC, x_aN, x_aSz, x_aRg, x_rg1, x_rg2, x_aList, x_aSort, x_aSl, x_dSl, x_aScr, x_scrLen, x_oN, x_oS, x_rN, x_rC, x_rRl, x_call, x_callB, x_callK, x_iSeq, x_iRg1, x_iRg2, x_iEn, x_gNm, x_gTp, x_gC, x_gN, x_gL, x_comp, startD, arD, wipeD, List.map_cons, List.map_nil, List.length_cons, List.length_nil, List.replicate_succ, List.replicate_zero, List.cons_append, List.nil_append, List.set_cons_succ, List.set_cons_zero, List.getElem?_cons_succ, List.getElem?_cons_zero, Option.some.injEq, PyData.int.injEq, PyData.bool.injEq, PyData.tuple.injEq, PyData.list.injEq, DV.dat.injEq, DV.own.injEq, exists_eq_left', exists_eq_left, exists_eq_right, exists_eq_right', exists_and_left, List.cons.injEq, and_true, true_and, atI0, atI1, atI2, atI3, atI4, atI5, Nat.sub_self, Nat.reduceSub, Nat.reduceAdd, Nat.reduceLT, if_true, if_false, Bool.false_eq_true, ↓reduceIte, Nat.zero_add, y_eqI, y_neI, y_neB, y_eqB, y_eqS, y_neS, y_ltI, y_gtI, y_leI, y_geI, y_inR, y_notInR, y_eqR, y_neR, y_lenR, y_tupR, row_tup, row_lst, tup_lst, lst_tup, false_and, and_false, exists_false, false_or, or_false, exists_const, atI_map, Option.map_some, decide_true, decide_false, Bool.not_true, Bool.not_false, eq_self, y_isB, DV.scr.injEq, x_chain, x_tRg, x_parEL, x_parLE, x_parLL, x_gLs, Nat.add_zero, x_par3, x_aSetSort, x_itL, x_itT, x_itR, x_slL, x_slT, x_lsE, x_parM, x_mN, x_mE, x_mL, x_sm0, x_smD, x_smO, x_iB0, x_iBS, x_idx, x_aSetSortI, x_setRg, x_iRgV, x_qSeq, x_qIf, x_qRet, x_qSet, x_qIfE, x_qRaise, x_qNil, x_qCons, x_qLst, x_qTup, x_callX, x_callKX, x_try, x_qRaise0, x_try0, x_qFor]
            rw [stormFault] at hN hE
            have key := setsM (sg := sg) (s := k) (es := fs) (Sk := skyD s) (V := .tuple [.int sg, .tuple es]) (z3 := some (.dat (.tuple es))) (z6 := z6) (z7 := z7) (n := n) (E := ⟨N, P, fun δ m => (sRet (dC PyData.none)) ⟨fun _ m => P .none m, P, fun _ _ => False, fun _ _ => False⟩ δ m, N⟩) vd
            simp only [x_var0, x_varS, x_own0, x_ownS, x_ixT, x_ixL, x_addI, x_addT, x_addL, x_gI, x_gIC, x_neg, x_abs, x_intI, x_intB, x_lenT, x_lenL, x_tupL, x_tupT, x_rep, x_seq, x_next, x_set, x_setL, x_par, x_asg, x_drop, x_app, x_ext, x_ret, x_retN, x_if, x_frz, x_for, x_bk, x_ct, x_d1, x_d2, x_dC, x_dL, x_tup, x_and, x_or, x_not, x_ife, x_dB, x_dTr, x_dNot, x_dAnd, x_dOr, x_yes, x_aC, x_aN, x_aSz, x_aRg, x_rg1, x_rg2, x_aList, x_aSort, x_aSl, x_dSl, x_aScr, x_scrLen, x_oN, x_oS, x_rN, x_rC, x_rRl, x_call, x_callB, x_callK, x_iSeq, x_iRg1, x_iRg2, x_iEn, x_gNm, x_gTp, x_gC, x_gN, x_gL, x_comp, startD, arD, wipeD, List.map_cons, List.map_nil, List.length_cons, List.length_nil, List.replicate_succ, List.replicate_zero, List.cons_append, List.nil_append, List.set_cons_succ, List.set_cons_zero, List.getElem?_cons_succ, List.getElem?_cons_zero, Option.some.injEq, PyData.int.injEq, PyData.bool.injEq, PyData.tuple.injEq, PyData.list.injEq, DV.dat.injEq, DV.own.injEq, exists_eq_left', exists_eq_left, exists_eq_right, exists_eq_right', exists_and_left, List.cons.injEq, and_true, true_and, atI0, atI1, atI2, atI3, atI4, atI5, Nat.sub_self, Nat.reduceSub, Nat.reduceAdd, Nat.reduceLT, if_true, if_false, Bool.false_eq_true, ↓reduceIte, Nat.zero_add, y_eqI, y_neI, y_neB, y_eqB, y_eqS, y_neS, y_ltI, y_gtI, y_leI, y_geI, y_inR, y_notInR, y_eqR, y_neR, y_lenR, y_tupR, row_tup, row_lst, tup_lst, lst_tup, false_and, and_false, exists_false, false_or, or_false, exists_const, atI_map, Option.map_some, decide_true, decide_false, Bool.not_true, Bool.not_false, eq_self, y_isB, DV.scr.injEq, x_chain, x_tRg, x_parEL, x_parLE, x_parLL, x_gLs, Nat.add_zero, x_par3, x_aSetSort, x_itL, x_itT, x_itR, x_slL, x_slT, x_lsE, x_parM, x_mN, x_mE, x_mL, x_sm0, x_smD, x_smO, x_iB0, x_iBS, x_idx, x_aSetSortI, x_setRg, x_iRgV, x_qSeq, x_qIf, x_qRet, x_qSet, x_qIfE, x_qRaise, x_qNil, x_qCons, x_qLst, x_qTup, x_callX, x_callKX, x_try, x_qRaise0, x_try0, x_qFor] at key
            refine ifc (fun c6 => ifc (fun c7 => ?_) fun c7 => ?_) fun c6 => ?_
            · rw [if_neg (by simp at c6 c7; omega)] at hE
              exact ⟨by decide, hE (by simp)⟩
            · rw [if_pos (by simp at c6 c7; omega)] at hE hN
              exact key hE fun z z6 z7 => hN z _ ⟨_, _, _, _, rfl⟩
            · rw [if_neg (by simp at c6; omega)] at hE
              exact ⟨by decide, hE (by simp)⟩
          | _ =>
            rw [q] at hE
            refine isi (c := false) (by simp only [tyName]; decide) ⟨false, rfl, ?_⟩
            rw [if_pos (by decide)]
            exact ⟨by decide, hE (by simp [stormFault])⟩
      | _ =>
        refine isi (c := false) (by simp only [tyName]; decide) ⟨false, rfl, ?_⟩
        rw [if_pos (by decide)]
        exact hP
  | _ =>
    simp only [rd__law_detector_error, x_var0, x_varS, x_own0, x_ownS, x_ixT, x_ixL, x_addI, x_addT, x_addL, x_gI, x_gIC, x_neg, x_abs, x_intI, x_intB, x_lenT, x_lenL, x_tupL, x_tupT, x_rep, x_seq, x_next, x_set, x_setL, x_par, x_asg, x_drop, x_app, x_ext, x_ret, x_retN, x_if, x_frz, x_for, x_bk, x_ct, x_d1, x_d2, x_dC, x_dL, x_tup, x_and, x_or, x_not, x_ife, x_dB, x_dTr, x_dNot, x_dAnd, x_dOr, x_yes, x_aC, x_aN, x_aSz, x_aRg, x_rg1, x_rg2, x_aList, x_aSort, x_aSl, x_dSl, x_aScr, x_scrLen, x_oN, x_oS, x_rN, x_rC, x_rRl, x_call, x_callB, x_callK, x_iSeq, x_iRg1, x_iRg2, x_iEn, x_gNm, x_gTp, x_gC, x_gN, x_gL, x_comp, startD, arD, wipeD, List.map_cons, List.map_nil, List.length_cons, List.length_nil, List.replicate_succ, List.replicate_zero, List.cons_append, List.nil_append, List.set_cons_succ, List.set_cons_zero, List.getElem?_cons_succ, List.getElem?_cons_zero, Option.some.injEq, PyData.int.injEq, PyData.bool.injEq, PyData.tuple.injEq, PyData.list.injEq, DV.dat.injEq, DV.own.injEq, exists_eq_left', exists_eq_left, exists_eq_right, exists_eq_right', exists_and_left, List.cons.injEq, and_true, true_and, atI0, atI1, atI2, atI3, atI4, atI5, Nat.sub_self, Nat.reduceSub, Nat.reduceAdd, Nat.reduceLT, if_true, if_false, Bool.false_eq_true, ↓reduceIte, Nat.zero_add, y_eqI, y_neI, y_neB, y_eqB, y_eqS, y_neS, y_ltI, y_gtI, y_leI, y_geI, y_inR, y_notInR, y_eqR, y_neR, y_lenR, y_tupR, row_tup, row_lst, tup_lst, lst_tup, false_and, and_false, exists_false, false_or, or_false, exists_const, atI_map, Option.map_some, decide_true, decide_false, Bool.not_true, Bool.not_false, eq_self, y_isB, DV.scr.injEq, x_chain, x_tRg, x_parEL, x_parLE, x_parLL, x_gLs, Nat.add_zero, x_par3, x_aSetSort, x_itL, x_itT, x_itR, x_slL, x_slT, x_lsE, x_parM, x_mN, x_mE, x_mL, x_sm0, x_smD, x_smO, x_iB0, x_iBS, x_idx, x_aSetSortI, x_setRg, x_iRgV, x_qSeq, x_qIf, x_qRet, x_qSet, x_qIfE, x_qRaise, x_qNil, x_qCons, x_qLst, x_qTup, x_callX, x_callKX, x_try, x_qRaise0, x_try0, x_qFor]
    refine isi (c := false) (by simp only [tyName]; decide) ⟨false, rfl, ?_⟩
    rw [if_pos (by decide)]
    exact hP
end My
/-! k51: what a storm leaves; a detector with one thing otherwise -/
namespace My
open PySem PySem.Spec L2 DL
def fRow (g : Sky → St → Row) : Fn := fun as n P => ∃ (s : Sky) (i : Int) (x : St), as = [.d (skyD s), .d (.int i)] ∧ L2.atI s.st i = some x ∧ Ok s ∧ P (rowD (g s x)) n
abbrev fLeft := fRow leftM
theorem hf_left (as : List Ar) (n : Nat) (P : D → Nat → Prop) (hl : as.length = 2) (h : fLeft as n P) : rd_left ⟨fun _ m => P .none m, P, fun _ _ => False, fun _ _ => False⟩ (startD ["sky", "s", "gone", "machine"] as) n := by
  obtain ⟨s, i, x, rfl, hx, ok, hP⟩ := h
  have m0 := ok.m0; have m1 := ok.m1
  simp only [rd_left, skyD, stD, x_var0, x_varS, x_own0, x_ownS, x_ixT, x_ixL, x_addI, x_addT, x_addL, x_gI, x_gIC, x_neg, x_abs, x_intI, x_intB, x_lenT, x_lenL, x_tupL, x_tupT, x_rep, x_seq, x_next, x_set, x_setL, x_par, x_asg, x_drop, x_app, x_ext, x_ret, x_retN, x_if, x_frz, x_for, x_bk, x_ct, x_d1, x_d2, x_dC, x_dL, x_tup, x_and, x_or, x_not, x_ife, x_dB, x_dTr, x_dNot, x_dAnd, x_dOr, x_yes, x_aC, x_aN, x_aSz, x_aRg, x_rg1, x_rg2, x_aList, x_aSort, x_aSl, x_dSl, x_aScr, x_scrLen, x_oN, x_oS, x_rN, x_rC, x_rRl, x_call, x_callB, x_callK, x_iSeq, x_iRg1, x_iRg2, x_iEn, x_gNm, x_gTp, x_gC, x_gN, x_gL, x_comp, startD, arD, wipeD, List.map_cons, List.map_nil, List.length_cons, List.length_nil, List.replicate_succ, List.replicate_zero, List.cons_append, List.nil_append, List.set_cons_succ, List.set_cons_zero, List.getElem?_cons_succ, List.getElem?_cons_zero, Option.some.injEq, PyData.int.injEq, PyData.bool.injEq, PyData.tuple.injEq, PyData.list.injEq, DV.dat.injEq, DV.own.injEq, exists_eq_left', exists_eq_left, exists_eq_right, exists_eq_right', exists_and_left, List.cons.injEq, and_true, true_and, atI0, atI1, atI2, atI3, atI4, atI5, Nat.sub_self, Nat.reduceSub, Nat.reduceAdd, Nat.reduceLT, if_true, if_false, Bool.false_eq_true, ↓reduceIte, Nat.zero_add, y_eqI, y_neI, y_neB, y_eqB, y_eqS, y_neS, y_ltI, y_gtI, y_leI, y_geI, y_inR, y_notInR, y_eqR, y_neR, y_lenR, y_tupR, row_tup, row_lst, tup_lst, lst_tup, false_and, and_false, exists_false, false_or, or_false, exists_const, atI_map, Option.map_some, decide_true, decide_false, Bool.not_true, Bool.not_false, eq_self, y_isB, DV.scr.injEq, x_chain, x_tRg, x_parEL, x_parLE, x_parLL, x_gLs, Nat.add_zero, x_par3, x_aSetSort, x_itL, x_itT, x_itR, x_slL, x_slT, x_lsE, x_parM, x_mN, x_mE, x_mL, x_sm0, x_smD, x_smO, x_iB0, x_iBS, x_idx, x_aSetSortI, x_setRg, x_iRgV, x_qSeq, x_qIf, x_qRet, x_qSet, x_qIfE, x_qRaise, x_qNil, x_qCons, x_qLst, x_qTup, x_callX, x_callKX, x_try, x_qRaise0, x_try0, x_qFor, hx]
  refine ⟨rfl, by omega, by omega, small _ (by rw [rangeD_rng]; simp [intsD, rng_len]; omega), ?_⟩
  rw [rangeD_rng]
  refine compR_map (fun o => !decide (o ∈ x.1)) PyData.int _ _ (fun o ho A B ha hb => ?_) hP
  simp only [x_var0, x_varS, x_own0, x_ownS, x_ixT, x_ixL, x_addI, x_addT, x_addL, x_gI, x_gIC, x_neg, x_abs, x_intI, x_intB, x_lenT, x_lenL, x_tupL, x_tupT, x_rep, x_seq, x_next, x_set, x_setL, x_par, x_asg, x_drop, x_app, x_ext, x_ret, x_retN, x_if, x_frz, x_for, x_bk, x_ct, x_d1, x_d2, x_dC, x_dL, x_tup, x_and, x_or, x_not, x_ife, x_dB, x_dTr, x_dNot, x_dAnd, x_dOr, x_yes, x_aC, x_aN, x_aSz, x_aRg, x_rg1, x_rg2, x_aList, x_aSort, x_aSl, x_dSl, x_aScr, x_scrLen, x_oN, x_oS, x_rN, x_rC, x_rRl, x_call, x_callB, x_callK, x_iSeq, x_iRg1, x_iRg2, x_iEn, x_gNm, x_gTp, x_gC, x_gN, x_gL, x_comp, startD, arD, wipeD, List.map_cons, List.map_nil, List.length_cons, List.length_nil, List.replicate_succ, List.replicate_zero, List.cons_append, List.nil_append, List.set_cons_succ, List.set_cons_zero, List.getElem?_cons_succ, List.getElem?_cons_zero, Option.some.injEq, PyData.int.injEq, PyData.bool.injEq, PyData.tuple.injEq, PyData.list.injEq, DV.dat.injEq, DV.own.injEq, exists_eq_left', exists_eq_left, exists_eq_right, exists_eq_right', exists_and_left, List.cons.injEq, and_true, true_and, atI0, atI1, atI2, atI3, atI4, atI5, Nat.sub_self, Nat.reduceSub, Nat.reduceAdd, Nat.reduceLT, if_true, if_false, Bool.false_eq_true, ↓reduceIte, Nat.zero_add, y_eqI, y_neI, y_neB, y_eqB, y_eqS, y_neS, y_ltI, y_gtI, y_leI, y_geI, y_inR, y_notInR, y_eqR, y_neR, y_lenR, y_tupR, row_tup, row_lst, tup_lst, lst_tup, false_and, and_false, exists_false, false_or, or_false, exists_const, atI_map, Option.map_some, decide_true, decide_false, Bool.not_true, Bool.not_false, eq_self, y_isB, DV.scr.injEq, x_chain, x_tRg, x_parEL, x_parLE, x_parLL, x_gLs, Nat.add_zero, x_par3, x_aSetSort, x_itL, x_itT, x_itR, x_slL, x_slT, x_lsE, x_parM, x_mN, x_mE, x_mL, x_sm0, x_smD, x_smO, x_iB0, x_iBS, x_idx, x_aSetSortI, x_setRg, x_iRgV, x_qSeq, x_qIf, x_qRet, x_qSet, x_qIfE, x_qRaise, x_qNil, x_qCons, x_qLst, x_qTup, x_callX, x_callKX, x_try, x_qRaise0, x_try0, x_qFor]
  exact ifc ha hb
theorem hf_lleft (as : List Ar) (n : Nat) (P : D → Nat → Prop) (hl : as.length = 2) (h : fLeft as n P) : rd__law_left ⟨fun _ m => P .none m, P, fun _ _ => False, fun _ _ => False⟩ (startD ["sky", "s", "i"] as) n := by
  obtain ⟨s, i, x, rfl, hx, ok, hP⟩ := h
  have m0 := ok.m0; have m1 := ok.m1
  simp only [rd__law_left, skyD, stD, x_var0, x_varS, x_own0, x_ownS, x_ixT, x_ixL, x_addI, x_addT, x_addL, x_gI, x_gIC, x_neg, x_abs, x_intI, x_intB, x_lenT, x_lenL, x_tupL, x_tupT, x_rep, x_seq, x_next, x_set, x_setL, x_par, x_asg, x_drop, x_app, x_ext, x_ret, x_retN, x_if, x_frz, x_for, x_bk, x_ct, x_d1, x_d2, x_dC, x_dL, x_tup, x_and, x_or, x_not, x_ife, x_dB, x_dTr, x_dNot, x_dAnd, x_dOr, x_yes, x_aC, x_aN, x_aSz, x_aRg, x_rg1, x_rg2, x_aList, x_aSort, x_aSl, x_dSl, x_aScr, x_scrLen, x_oN, x_oS, x_rN, x_rC, x_rRl, x_call, x_callB, x_callK, x_iSeq, x_iRg1, x_iRg2, x_iEn, x_gNm, x_gTp, x_gC, x_gN, x_gL, x_comp, startD, arD, wipeD, List.map_cons, List.map_nil, List.length_cons, List.length_nil, List.replicate_succ, List.replicate_zero, List.cons_append, List.nil_append, List.set_cons_succ, List.set_cons_zero, List.getElem?_cons_succ, List.getElem?_cons_zero, Option.some.injEq, PyData.int.injEq, PyData.bool.injEq, PyData.tuple.injEq, PyData.list.injEq, DV.dat.injEq, DV.own.injEq, exists_eq_left', exists_eq_left, exists_eq_right, exists_eq_right', exists_and_left, List.cons.injEq, and_true, true_and, atI0, atI1, atI2, atI3, atI4, atI5, Nat.sub_self, Nat.reduceSub, Nat.reduceAdd, Nat.reduceLT, if_true, if_false, Bool.false_eq_true, ↓reduceIte, Nat.zero_add, y_eqI, y_neI, y_neB, y_eqB, y_eqS, y_neS, y_ltI, y_gtI, y_leI, y_geI, y_inR, y_notInR, y_eqR, y_neR, y_lenR, y_tupR, row_tup, row_lst, tup_lst, lst_tup, false_and, and_false, exists_false, false_or, or_false, exists_const, atI_map, Option.map_some, decide_true, decide_false, Bool.not_true, Bool.not_false, eq_self, y_isB, DV.scr.injEq, x_chain, x_tRg, x_parEL, x_parLE, x_parLL, x_gLs, Nat.add_zero, x_par3, x_aSetSort, x_itL, x_itT, x_itR, x_slL, x_slT, x_lsE, x_parM, x_mN, x_mE, x_mL, x_sm0, x_smD, x_smO, x_iB0, x_iBS, x_idx, x_aSetSortI, x_setRg, x_iRgV, x_qSeq, x_qIf, x_qRet, x_qSet, x_qIfE, x_qRaise, x_qNil, x_qCons, x_qLst, x_qTup, x_callX, x_callKX, x_try, x_qRaise0, x_try0, x_qFor, hx]
  refine ⟨rfl, by omega, by omega, small _ (by rw [rangeD_rng]; simp [intsD, rng_len]; omega), ?_⟩
  rw [rangeD_rng]
  refine compR_map (fun o => !decide (o ∈ x.1)) PyData.int _ _ (fun o ho A B ha hb => ?_) hP
  simp only [x_var0, x_varS, x_own0, x_ownS, x_ixT, x_ixL, x_addI, x_addT, x_addL, x_gI, x_gIC, x_neg, x_abs, x_intI, x_intB, x_lenT, x_lenL, x_tupL, x_tupT, x_rep, x_seq, x_next, x_set, x_setL, x_par, x_asg, x_drop, x_app, x_ext, x_ret, x_retN, x_if, x_frz, x_for, x_bk, x_ct, x_d1, x_d2, x_dC, x_dL, x_tup, x_and, x_or, x_not, x_ife, x_dB, x_dTr, x_dNot, x_dAnd, x_dOr, x_yes, x_aC, x_aN, x_aSz, x_aRg, x_rg1, x_rg2, x_aList, x_aSort, x_aSl, x_dSl, x_aScr, x_scrLen, x_oN, x_oS, x_rN, x_rC, x_rRl, x_call, x_callB, x_callK, x_iSeq, x_iRg1, x_iRg2, x_iEn, x_gNm, x_gTp, x_gC, x_gN, x_gL, x_comp, startD, arD, wipeD, List.map_cons, List.map_nil, List.length_cons, List.length_nil, List.replicate_succ, List.replicate_zero, List.cons_append, List.nil_append, List.set_cons_succ, List.set_cons_zero, List.getElem?_cons_succ, List.getElem?_cons_zero, Option.some.injEq, PyData.int.injEq, PyData.bool.injEq, PyData.tuple.injEq, PyData.list.injEq, DV.dat.injEq, DV.own.injEq, exists_eq_left', exists_eq_left, exists_eq_right, exists_eq_right', exists_and_left, List.cons.injEq, and_true, true_and, atI0, atI1, atI2, atI3, atI4, atI5, Nat.sub_self, Nat.reduceSub, Nat.reduceAdd, Nat.reduceLT, if_true, if_false, Bool.false_eq_true, ↓reduceIte, Nat.zero_add, y_eqI, y_neI, y_neB, y_eqB, y_eqS, y_neS, y_ltI, y_gtI, y_leI, y_geI, y_inR, y_notInR, y_eqR, y_neR, y_lenR, y_tupR, row_tup, row_lst, tup_lst, lst_tup, false_and, and_false, exists_false, false_or, or_false, exists_const, atI_map, Option.map_some, decide_true, decide_false, Bool.not_true, Bool.not_false, eq_self, y_isB, DV.scr.injEq, x_chain, x_tRg, x_parEL, x_parLE, x_parLL, x_gLs, Nat.add_zero, x_par3, x_aSetSort, x_itL, x_itT, x_itR, x_slL, x_slT, x_lsE, x_parM, x_mN, x_mE, x_mL, x_sm0, x_smD, x_smO, x_iB0, x_iBS, x_idx, x_aSetSortI, x_setRg, x_iRgV, x_qSeq, x_qIf, x_qRet, x_qSet, x_qIfE, x_qRaise, x_qNil, x_qCons, x_qLst, x_qTup, x_callX, x_callKX, x_try, x_qRaise0, x_try0, x_qFor, stD, hx]
  exact ifc ha hb
structure FamB (f : List Row) : Prop where
  pos : 1 ≤ f.length
  le : f.length ≤ 6
  mem : ∀ x ∈ f, x.length ≤ 6 ∧ ∀ o ∈ x, 0 ≤ o ∧ o < 6
structure DetB (sg : Int) (ends : List (List Row)) : Prop where
  s0 : 1 ≤ sg
  s1 : sg ≤ 6
  pos : 1 ≤ ends.length
  le : ends.length ≤ 10
  mem : ∀ f ∈ ends, FamB f
theorem vwrB {x : Row} (h : x.length ≤ 6 ∧ ∀ o ∈ x, 0 ≤ o ∧ o < 6) : VwA 0 24 (intsD x) := by
  refine VwA.of (m := 0) (w := 4) (L := 6) (fun d hd => ?_) (by rw [intsD_len]; exact h.1)
  obtain ⟨o, ho, rfl⟩ := List.mem_map.mp hd
  have := h.2 o ho
  exact vwi (by omega) (by omega)
theorem vwfB {f : List Row} (h : FamB f) : VwA 1 150 (f.map rowD) := by
  refine VwA.of (m := 1) (w := 25) (L := 6) (fun d hd => ?_) (by rw [List.length_map]; exact h.le)
  obtain ⟨x, hx, rfl⟩ := List.mem_map.mp hd
  exact (vwrB (h.mem x hx)).tup
theorem vweB {sg : Int} {ends : List (List Row)} (h : DetB sg ends) : VwA 2 1510 (ends.map famD) := by
  refine VwA.of (m := 2) (w := 151) (L := 10) (fun d hd => ?_) (by rw [List.length_map]; exact h.le)
  obtain ⟨x, hx, rfl⟩ := List.mem_map.mp hd
  exact (vwfB (h.mem x hx)).tup
theorem vw_i5 {o : Int} {m : Nat} (h : o.natAbs < 10 ^ 12) : Vw m 41 (.int o) := (vw_sm (Sm.int h)).mono (Nat.zero_le _) (Nat.le_refl _)
def fBent : Fn := fun as n P => ∃ (sg : Int) (ends : List (List Row)), as = [.rl, .d (detD sg ends)] ∧ DetB sg ends ∧ 20 ≤ n ∧ ∀ d m, Vw 7 9000 d → n ≤ m + 20 → P d m
theorem hf_bent (as : List Ar) (n : Nat) (P : D → Nat → Prop) (hl : as.length = 2) (h : fBent as n P) : rd__law_bent_detector fTake fOne fMix ⟨fun _ m => P .none m, P, fun _ _ => False, fun _ _ => False⟩ (startD ["mill", "detector", "signs", "ends", "way", "s", "some", "k", "fresh", "own", "turned"] as) n := by
  obtain ⟨sg, ends, rfl, g, hn, hP⟩ := h
  have s0 := g.s0
  have s1 := g.s1
  have l0 := g.pos
  have l1 := g.le
  simp (config := {maxSteps := 3000000}) only [rd__law_bent_detector, detD, x_var0, x_varS, x_own0, x_ownS, x_ixT, x_ixL, x_addI, x_addT, x_addL, x_gI, x_gIC, x_neg, x_abs, x_intI, x_intB, x_lenT, x_lenL, x_tupL, x_tupT, x_rep, x_seq, x_next, x_set, x_setL, x_par, x_asg, x_drop, x_app, x_ext, x_ret, x_retN, x_if, x_frz, x_for, x_bk, x_ct, x_d1, x_d2, x_dC, x_dL, x_tup, x_and, x_or, x_not, x_ife, x_dB, x_dTr, x_dNot, x_dAnd, x_dOr, x_yes, x_aC, x_aN, x_aSz, x_aRg, x_rg1, x_rg2, x_aList, x_aSort, x_aSl, x_dSl, x_aScr, x_scrLen, x_oN, x_oS, x_rN, x_rC, x_rRl, x_call, x_callB, x_callK, x_iSeq, x_iRg1, x_iRg2, x_iEn, x_gNm, x_gTp, x_gC, x_gN, x_gL, x_comp, startD, arD, wipeD, List.map_cons, List.map_nil, List.length_cons, List.length_nil, List.replicate_succ, List.replicate_zero, List.cons_append, List.nil_append, List.set_cons_succ, List.set_cons_zero, List.getElem?_cons_succ, List.getElem?_cons_zero, Option.some.injEq, PyData.int.injEq, PyData.bool.injEq, PyData.tuple.injEq, PyData.list.injEq, DV.dat.injEq, DV.own.injEq, exists_eq_left', exists_eq_left, exists_eq_right, exists_eq_right', exists_and_left, List.cons.injEq, and_true, true_and, atI0, atI1, atI2, atI3, atI4, atI5, Nat.sub_self, Nat.reduceSub, Nat.reduceAdd, Nat.reduceLT, if_true, if_false, Bool.false_eq_true, ↓reduceIte, Nat.zero_add, y_eqI, y_neI, y_neB, y_eqB, y_eqS, y_neS, y_ltI, y_gtI, y_leI, y_geI, y_inR, y_notInR, y_eqR, y_neR, y_lenR, y_tupR, row_tup, row_lst, tup_lst, lst_tup, false_and, and_false, exists_false, false_or, or_false, exists_const, atI_map, Option.map_some, decide_true, decide_false, Bool.not_true, Bool.not_false, eq_self, y_isB, DV.scr.injEq, x_chain, x_tRg, x_parEL, x_parLE, x_parLL, x_gLs, Nat.add_zero, x_par3, x_aSetSort, x_itL, x_itT, x_itR, x_slL, x_slT, x_lsE, x_parM, x_mN, x_mE, x_mL, x_sm0, x_smD, x_smO, x_iB0, x_iBS, x_idx, x_aSetSortI, x_setRg, x_iRgV, x_qSeq, x_qIf, x_qRet, x_qSet, x_qIfE, x_qRaise, x_qNil, x_qCons, x_qLst, x_qTup, x_callX, x_callKX, x_try, x_qRaise0, x_try0, x_qFor, List.length_map]
  refine ⟨14, rfl, by decide, by omega, fun w w0 w1 => ⟨ends.length, rfl, by omega, by omega, fun k k0 k1 => ⟨_, _, ⟨rfl, rfl⟩, ?_⟩⟩⟩
  obtain ⟨i, rfl⟩ : ∃ i : Nat, k = (i : Int) := ⟨k.toNat, by omega⟩
  obtain ⟨f, hf, hg⟩ : ∃ f, L2.atI (ends.map famD) (i : Int) = some (famD f) ∧ FamB f := by
    have hi : i < ends.length := by omega
    exact ⟨ends[i], by rw [atI_nat', List.getElem?_map, List.getElem?_eq_getElem hi]; rfl, g.mem _ (List.getElem_mem hi)⟩
  refine ⟨_, hf, ?_⟩
  simp only [famD, x_var0, x_varS, x_own0, x_ownS, x_ixT, x_ixL, x_addI, x_addT, x_addL, x_gI, x_gIC, x_neg, x_abs, x_intI, x_intB, x_lenT, x_lenL, x_tupL, x_tupT, x_rep, x_seq, x_next, x_set, x_setL, x_par, x_asg, x_drop, x_app, x_ext, x_ret, x_retN, x_if, x_frz, x_for, x_bk, x_ct, x_d1, x_d2, x_dC, x_dL, x_tup, x_and, x_or, x_not, x_ife, x_dB, x_dTr, x_dNot, x_dAnd, x_dOr, x_yes, x_aC, x_aN, x_aSz, x_aRg, x_rg1, x_rg2, x_aList, x_aSort, x_aSl, x_dSl, x_aScr, x_scrLen, x_oN, x_oS, x_rN, x_rC, x_rRl, x_call, x_callB, x_callK, x_iSeq, x_iRg1, x_iRg2, x_iEn, x_gNm, x_gTp, x_gC, x_gN, x_gL, x_comp, startD, arD, wipeD, List.map_cons, List.map_nil, List.length_cons, List.length_nil, List.replicate_succ, List.replicate_zero, List.cons_append, List.nil_append, List.set_cons_succ, List.set_cons_zero, List.getElem?_cons_succ, List.getElem?_cons_zero, Option.some.injEq, PyData.int.injEq, PyData.bool.injEq, PyData.tuple.injEq, PyData.list.injEq, DV.dat.injEq, DV.own.injEq, exists_eq_left', exists_eq_left, exists_eq_right, exists_eq_right', exists_and_left, List.cons.injEq, and_true, true_and, atI0, atI1, atI2, atI3, atI4, atI5, Nat.sub_self, Nat.reduceSub, Nat.reduceAdd, Nat.reduceLT, if_true, if_false, Bool.false_eq_true, ↓reduceIte, Nat.zero_add, y_eqI, y_neI, y_neB, y_eqB, y_eqS, y_neS, y_ltI, y_gtI, y_leI, y_geI, y_inR, y_notInR, y_eqR, y_neR, y_lenR, y_tupR, row_tup, row_lst, tup_lst, lst_tup, false_and, and_false, exists_false, false_or, or_false, exists_const, atI_map, Option.map_some, decide_true, decide_false, Bool.not_true, Bool.not_false, eq_self, y_isB, DV.scr.injEq, x_chain, x_tRg, x_parEL, x_parLE, x_parLL, x_gLs, Nat.add_zero, x_par3, x_aSetSort, x_itL, x_itT, x_itR, x_slL, x_slT, x_lsE, x_parM, x_mN, x_mE, x_mL, x_sm0, x_smD, x_smO, x_iB0, x_iBS, x_idx, x_aSetSortI, x_setRg, x_iRgV, x_qSeq, x_qIf, x_qRet, x_qSet, x_qIfE, x_qRaise, x_qNil, x_qCons, x_qLst, x_qTup, x_callX, x_callKX, x_try, x_qRaise0, x_try0, x_qFor, List.length_map]
  have f0 := hg.pos
  have f1 := hg.le
  refine ⟨f.length, rfl, by omega, by omega, fun k k0 k1 => ?_⟩
  obtain ⟨j, rfl⟩ : ∃ j : Nat, k = (j : Int) := ⟨k.toNat, by omega⟩
  obtain ⟨r, hr, hx⟩ : ∃ r, L2.atI (f.map rowD) (j : Int) = some (rowD r) ∧ (r.length ≤ 6 ∧ ∀ o ∈ r, 0 ≤ o ∧ o < 6) := by
    have hi : j < f.length := by omega
    exact ⟨f[j], by rw [atI_nat', List.getElem?_map, List.getElem?_eq_getElem hi]; rfl, hg.mem _ (List.getElem_mem hi)⟩
  simp (config := {maxSteps := 3000000}) only [hr, x_var0, x_varS, x_own0, x_ownS, x_ixT, x_ixL, x_addI, x_addT, x_addL, x_gI, x_gIC, x_neg, x_abs, x_intI, x_intB, x_lenT, x_lenL, x_tupL, x_tupT, x_rep, x_seq, x_next, x_set, x_setL, x_par, x_asg, x_drop, x_app, x_ext, x_ret, x_retN, x_if, x_frz, x_for, x_bk, x_ct, x_d1, x_d2, x_dC, x_dL, x_tup, x_and, x_or, x_not, x_ife, x_dB, x_dTr, x_dNot, x_dAnd, x_dOr, x_yes, x_aC, x_aN, x_aSz, x_aRg, x_rg1, x_rg2, x_aList, x_aSort, x_aSl, x_dSl, x_aScr, x_scrLen, x_oN, x_oS, x_rN, x_rC, x_rRl, x_call, x_callB, x_callK, x_iSeq, x_iRg1, x_iRg2, x_iEn, x_gNm, x_gTp, x_gC, x_gN, x_gL, x_comp, startD, arD, wipeD, List.map_cons, List.map_nil, List.length_cons, List.length_nil, List.replicate_succ, List.replicate_zero, List.cons_append, List.nil_append, List.set_cons_succ, List.set_cons_zero, List.getElem?_cons_succ, List.getElem?_cons_zero, Option.some.injEq, PyData.int.injEq, PyData.bool.injEq, PyData.tuple.injEq, PyData.list.injEq, DV.dat.injEq, DV.own.injEq, exists_eq_left', exists_eq_left, exists_eq_right, exists_eq_right', exists_and_left, List.cons.injEq, and_true, true_and, atI0, atI1, atI2, atI3, atI4, atI5, Nat.sub_self, Nat.reduceSub, Nat.reduceAdd, Nat.reduceLT, if_true, if_false, Bool.false_eq_true, ↓reduceIte, Nat.zero_add, y_eqI, y_neI, y_neB, y_eqB, y_eqS, y_neS, y_ltI, y_gtI, y_leI, y_geI, y_inR, y_notInR, y_eqR, y_neR, y_lenR, y_tupR, row_tup, row_lst, tup_lst, lst_tup, false_and, and_false, exists_false, false_or, or_false, exists_const, atI_map, Option.map_some, decide_true, decide_false, Bool.not_true, Bool.not_false, eq_self, y_isB, DV.scr.injEq, x_chain, x_tRg, x_parEL, x_parLE, x_parLL, x_gLs, Nat.add_zero, x_par3, x_aSetSort, x_itL, x_itT, x_itR, x_slL, x_slT, x_lsE, x_parM, x_mN, x_mE, x_mL, x_sm0, x_smD, x_smO, x_iB0, x_iBS, x_idx, x_aSetSortI, x_setRg, x_iRgV, x_qSeq, x_qIf, x_qRet, x_qSet, x_qIfE, x_qRaise, x_qNil, x_qCons, x_qLst, x_qTup, x_callX, x_callKX, x_try, x_qRaise0, x_try0, x_qFor]
  have tb : ∀ (xs : List D) (Q : D → Prop), gBack (.tuple xs) Q = Q (.tuple xs.reverse) := fun _ _ => rfl
  have tr : ∀ (xs : List D) (Q : D → Prop), gBack (rowD r) Q = Q (.tuple (intsD r).reverse) := fun _ _ => rfl
  have vr := vwrB hx
  have lr : (intsD r).length ≤ 6 := by rw [intsD_len]; exact hx.1
  have vf := vwfB hg
  have ve := vweB g
  have lf : (f.map rowD).length ≤ 6 := by rw [List.length_map]; exact f1
  have le : (ends.map famD).length ≤ 10 := by rw [List.length_map]; exact l1
  have ixi : ∀ ds : List D, ds.length ≤ 10 → ∀ (k : Nat) (d : D), (cutD ds none (some (k : Int))).length + 1 ≤ sizeLine ∧ (cutD ds none (some (k : Int)) ++ [d]).length + (cutD ds (some ((k : Int) + 1)) none).length ≤ sizeLine := fun ds h k d => by
    have h1 := cut_len ds none (some (k : Int))
    have h2 := cut_len ds (some ((k : Int) + 1)) none
    exact ⟨sz _ (by omega), sz _ (by rw [List.length_append, List.length_singleton]; omega)⟩
  have put : ∀ (ds : List D) (k : Nat) (d : D), cutD ds none (some (k : Int)) ++ [d] ++ cutD ds (some ((k : Int) + 1)) none = putL ds k d := fun ds k d => by
    rw [cut_to, show ((k : Int) + 1) = ((k + 1 : Nat) : Int) by omega, cut_from]; rfl
  have pair : ∀ {x : D}, Vw 6 8000 x → Vw 7 9000 (.tuple [.int sg, x]) := fun h => (VwA.cons (w := 41) (w' := 8000) (vw_i5 (by omega)) (VwA.cons (w' := 0) h VwA.nil)).tup.mono (by decide) (by decide)
  have fin : ∀ {d : D} {m : Nat}, Vw 5 5000 d → n ≤ m + 20 → P (.tuple [.int sg, .tuple (cutD (ends.map famD) none (some (i : Int)) ++ [d] ++ cutD (ends.map famD) (some ((i : Int) + 1)) none)]) m := fun {d m} h hm => by
    rw [put]
    exact hP _ _ (pair ((put_vw h _ i 1510 (ve.mono (by decide) (Nat.le_refl _))).tup.mono (by decide) (by decide))) hm
  have addr : ∀ (ys : List D) (Q : D → Prop), gAdd (rowD r) (.tuple ys) Q = ((intsD r).length + ys.length ≤ sizeLine ∧ Q (.tuple (intsD r ++ ys))) := fun ys Q => by
    show gAdd (.tuple (intsD r)) (.tuple ys) Q = _
    rw [x_addT]
  refine ⟨by decide, by decide, by decide, by decide, by decide, by decide, by decide, by decide, ?_⟩
  rw [addr]
  refine ⟨sz _ (by simp only [List.length_singleton]; omega), ?_⟩
  rw [tr []]
  refine ⟨by decide, by decide, by decide, ?_⟩
  show gAdd (rowD r) (.tuple (intsD r)) _
  rw [addr]
  refine ⟨sz _ (by omega), cpow30, by decide, by decide, by decide, ?_⟩
  refine ⟨_, _, rfl, .inl rfl, by simp, by simp, by omega, fun o ho => ?_⟩
  have vo : Vw 2 300 o := by
    simp only [List.mem_cons, List.not_mem_nil, or_false] at ho
    have i1 : ∀ {k : Int}, k.natAbs < 10 ^ 12 → Vw 1 50 (.int k) := fun h => (vw_i5 h).mono (m := 0) (by decide) (by decide)
    rcases ho with rfl | rfl | rfl | rfl | rfl | rfl | rfl | rfl | rfl | rfl | rfl | rfl | rfl | rfl | rfl | rfl
    · exact (VwA.cons (w' := 0) (i1 (by omega)) VwA.nil).tup.mono (by decide) (by decide)
    · exact cv
    · exact cv
    · exact cv
    · exact cv
    · exact cv
    · exact (VwA.cons (w' := 50) (i1 (by omega)) (VwA.cons (w' := 0) (i1 (by decide)) VwA.nil)).tup.mono (by decide) (by decide)
    · exact (VwA.app (vr.mono (m' := 1) (by decide) (Nat.le_refl _)) (VwA.cons (w' := 0) (i1 (by omega)) VwA.nil)).tup.mono (by decide) (by decide)
    · refine (VwA.of (m := 0) (w := 41) (L := 6) (fun y hy => ?_) (by rw [List.length_reverse]; exact lr)).tup.mono (by decide) (by decide)
      obtain ⟨o, ho, rfl⟩ := List.mem_map.mp (List.mem_reverse.mp hy)
      have := hx.2 o ho
      exact vw_i5 (by omega)
    · exact cv
    · exact cv
    · exact vr.lst.mono (by decide) (by decide)
    · exact cv
    · exact cv
    · exact (VwA.app vr vr).tup.mono (by decide) (by decide)
    · exact cv
  obtain ⟨a1, a2⟩ := ixi _ (Nat.le_trans lf (by decide)) j o
  obtain ⟨b1, b2⟩ := ixi _ le i (.tuple (cutD (f.map rowD) none (some (j : Int)) ++ [o] ++ cutD (f.map rowD) (some ((j : Int) + 1)) none))
  refine ifc (fun _ => ⟨by decide, a1, a2, by decide, b1, b2, by decide, fin ?_ (by omega)⟩) fun _ => ifc (fun _ => ?_) fun _ => ifc (fun _ => ?_) fun _ => ifc (fun _ => ?_) fun _ => ifc (fun _ => ?_) fun _ => ifc (fun _ => ?_) fun _ => ?_
  · rw [put]
    exact (put_vw vo _ j 150 (vf.mono (by decide) (Nat.le_refl _))).tup.mono (by decide) (by decide)
  · rw [tb]
    have lf' : f.length ≤ 6 := f1
    refine ⟨sz _ (by omega), f.map rowD, 7, rfl, rfl, by decide, by decide, by omega, by decide, by decide, by decide, (ixi _ (Nat.le_trans lf (by decide)) j .none).1, by decide, ?_⟩
    refine ⟨_, _, rfl, .inl rfl, by simp, by simp, by omega, fun o ho => ?_⟩
    have vo : Vw 5 5000 o := by
      have g1 : ∀ x ∈ f.map rowD, Vw 1 25 x := fun x hx => by
        obtain ⟨y, hy, rfl⟩ := List.mem_map.mp hx
        exact (vwrB (hg.mem y hy)).tup
      simp only [List.mem_cons, List.not_mem_nil, or_false] at ho
      rcases ho with rfl | rfl | rfl | rfl | rfl | rfl | rfl | rfl
      · exact (VwA.of (m := 1) (w := 25) (L := 6) (fun y hy => g1 y (List.mem_reverse.mp hy)) (by rw [List.length_reverse]; exact lf)).tup.mono (by decide) (by decide)
      · exact (VwA.app vf vf).tup.mono (by decide) (by decide)
      · refine (VwA.of (m := 1) (w := 25) (L := 42) (fun y hy => g1 y (rep_mem hy)) ?_).tup.mono (by decide) (by decide)
        show (List.replicate 7 (f.map rowD)).flatten.length ≤ 42
        simp only [List.length_flatten, List.map_replicate, List.length_map]
        simp
        omega
      · exact (cv : Vw 2 300 _).mono (by decide) (by decide)
      · exact vr.tup.mono (by decide) (by decide)
      · exact (cv : Vw 2 300 _).mono (by decide) (by decide)
      · exact vf.lst.mono (by decide) (by decide)
      · refine (VwA.app (VwA.of (m := 2) (w := 25) (L := 6) (fun y hy => (g1 y (cut_mem hy)).mono (by decide) (Nat.le_refl _)) (Nat.le_trans (cut_len _ _ _) lf)) (VwA.cons (w := 300) (w' := 0) cv VwA.nil)).tup.mono (by decide) (by decide)
    obtain ⟨b1, b2⟩ := ixi _ le i o
    exact ⟨by decide, b1, b2, by decide, fin vo (by omega)⟩
  · have c1 := cut_len (ends.map famD) none (some 1)
    refine ⟨sz _ (by omega), by decide, ?_⟩
    have g1 : ∀ x ∈ ends.map famD, Vw 2 151 x := fun x hx => by
      obtain ⟨y, hy, rfl⟩ := List.mem_map.mp hx
      exact (vwfB (g.mem y hy)).tup
    obtain ⟨e0, he0⟩ : ∃ e0, (ends.map famD)[0]? = some e0 := ⟨_, List.getElem?_eq_getElem (by rw [List.length_map]; omega)⟩
    refine ⟨e0, he0, by decide, _, _, rfl, .inl rfl, by simp, by simp, by omega, fun o ho => ⟨by decide, hP _ _ (pair ?_) (by omega)⟩⟩
    simp only [List.mem_cons, List.not_mem_nil, or_false] at ho
    have v1 : ∀ lo hi, VwA 2 1510 (cutD (ends.map famD) lo hi) := fun lo hi => VwA.of (m := 2) (w := 151) (L := 10) (fun y hy => g1 y (cut_mem hy)) (Nat.le_trans (cut_len _ _ _) le)
    rcases ho with rfl | rfl | rfl | rfl | rfl | rfl
    · exact (v1 _ _).tup.mono (by decide) (by decide)
    · exact (VwA.app ve (v1 _ _)).tup.mono (by decide) (by decide)
    · exact (cv : Vw 2 300 _).mono (by decide) (by decide)
    · exact ve.lst.mono (by decide) (by decide)
    · exact (g1 _ (List.mem_of_getElem? he0)).mono (by decide) (by decide)
    · exact (cv : Vw 2 300 _).mono (by decide) (by decide)
  · refine ⟨by decide, by decide, _, _, rfl, .inl rfl, by simp, by simp, by omega, fun o ho => ⟨by decide, hP _ _ ?_ (by omega)⟩⟩
    have vo : Vw 3 300 o := by
      simp only [List.mem_cons, List.not_mem_nil, or_false] at ho
      have up : ∀ {k : Int}, k.natAbs < 10 ^ 12 → Vw 3 300 (.int k) := fun h => (vw_i5 h).mono (m := 0) (by decide) (by decide)
      rcases ho with rfl | rfl | rfl | rfl | rfl | rfl | rfl | rfl | rfl
      · exact up (by decide)
      · exact up (by decide)
      · exact up (by omega)
      · exact (cv : Vw 2 300 _).mono (by decide) (by decide)
      · exact (cv : Vw 2 300 _).mono (by decide) (by decide)
      · exact (cv : Vw 2 300 _).mono (by decide) (by decide)
      · exact up (by decide)
      · exact up (by omega)
      · exact (VwA.cons (m := 1) (w := 41) (w' := 0) (vw_i5 (by omega)) VwA.nil).tup.mono (by decide) (by decide)
    exact (VwA.cons (w' := 1511) vo (VwA.cons (w' := 0) ve.tup VwA.nil)).tup.mono (by decide) (by decide)
  · have vs : Vw 3 41 (.int sg) := vw_i5 (by omega)
    have et := ve.tup
    refine ⟨by decide, by decide, by decide, by decide, by decide, by decide, by decide, by decide, _, _, rfl, .inl rfl, by simp, by simp, by omega, fun o ho => hP _ _ ?_ (by omega)⟩
    have e0 : Vw 3 1 (.tuple []) := (VwA.nil (m := 2) (w := 0)).tup
    simp only [List.mem_cons, List.not_mem_nil, or_false] at ho
    rcases ho with rfl | rfl | rfl | rfl | rfl | rfl
    · exact (VwA.cons (w' := 1511) vs (VwA.cons (w' := 0) et VwA.nil)).lst.mono (by decide) (by decide)
    · exact (VwA.cons (w' := 0) vs VwA.nil).tup.mono (by decide) (by decide)
    · exact (VwA.cons (w' := 1512) vs (VwA.cons (w' := 1) et (VwA.cons (w' := 0) e0 VwA.nil))).tup.mono (by decide) (by decide)
    · exact et.mono (by decide) (by decide)
    · exact (VwA.cons (w' := 41) et (VwA.cons (w' := 0) vs VwA.nil)).tup.mono (by decide) (by decide)
    · exact (VwA.cons (w' := 1552) vs (VwA.cons (w' := 41) et (VwA.cons (w' := 0) (vw_i5 (by decide)) VwA.nil))).tup.mono (by decide) (by decide)
  all_goals
    have g1 : ∀ x ∈ ends.map famD, Vw 2 151 x := fun x hx => by
      obtain ⟨y, hy, rfl⟩ := List.mem_map.mp hx
      exact (vwfB (g.mem y hy)).tup
    refine ⟨_, _, rfl, .inr rfl, fun d hd => (g1 d hd).vis, by omega, by omega, fun out ho => ?_⟩
    have vo : VwA 2 1510 out := VwA.of (m := 2) (w := 151) (L := 10) (fun y hy => g1 y (ho.mem_iff.mp hy)) (by rw [ho.length_eq]; exact le)
  · exact ⟨by decide, hP _ _ (pair (vo.lst.mono (by decide) (by decide))) (by omega)⟩
  · exact ⟨out, rfl, by decide, hP _ _ (pair (vo.tup.mono (by decide) (by decide))) (by omega)⟩
end My
/-! k51: known detectors -/
namespace My
open PySem PySem.Spec L2 DL
def words8 : List Str := ["nothing", "leader", "left", "right", "", "Leader", "nothing ", "lefts"]
theorem word_sh {w : Str} (h : w ∈ words8) : SeqAt.shaped (.str w) = true := by
  have q : ∀ w ∈ words8, SeqAt.shaped (.str w) = true := by decide +kernel
  exact q w h
def sat (s : Sky) (o : Int) : St := s.st.getD o.toNat ([], [])
theorem sat_at {s : Sky} {o : Int} (h : o ∈ rng (s.st.length : Int)) : L2.atI s.st o = some (sat s o) := by
  have := rng_mem.mp h
  obtain ⟨j, rfl⟩ : ∃ j : Nat, o = (j : Int) := ⟨o.toNat, by omega⟩
  have hj : j < s.st.length := by omega
  rw [atI_nat', sat, Int.toNat_natCast, List.getD_eq_getElem?_getD, List.getElem?_eq_getElem hj]
  rfl
def lefts (s : Sky) : List Row := (rng (s.st.length : Int)).map fun o => leftM s (sat s o)
def unfit (w : Str) (s : Sky) : Bool := !decide (w ∈ (["leader", "left"] : List Str)) || (lefts s).any fun r => decide (r = [])
def knownD (w : Str) (s : Sky) : D := if w = "nothing" then .tuple [.int 1, .tuple (List.replicate s.st.length (.tuple [.tuple [.int 0]]))] else if w = "leader" then .tuple [.int s.m, .tuple ((lefts s).map fun r => .tuple (r.map fun o => .tuple [.int o]))] else .tuple [.int s.m, .tuple ((lefts s).map fun r => .tuple [rowD r])]
theorem y_notInS {w : Str} {l : List Str} {P : D → Prop} (h : SeqAt.shaped (.str w) = true) (h2 : SeqAt.shaped (.tuple (l.map PyData.str)) = true) (hP : P (.bool (!decide (w ∈ l)))) : gNotIn (.str w) (.tuple (l.map PyData.str)) P :=
  ⟨h, h2, _, dIn_tup eqe_str w l, hP⟩
structure SkyF (s : Sky) : Prop where
  ok : Ok s
  le : s.st.length ≤ 10
  m0 : 1 ≤ s.m
  m1 : s.m ≤ 6
def fKnown : FnX := fun as n px P => ∃ (w : Str) (s : Sky), as = [.d (.str w), .d (skyD s)] ∧ w ∈ words8 ∧ SkyF s ∧ if w = "nothing" ∨ unfit w s = false then P (knownD w s) n else px "Unfit" .none n
theorem hf_known (as : List Ar) (n : Nat) (px : Str → D → Nat → Prop) (P : D → Nat → Prop) (hl : as.length = 2) (h : fKnown as n px P) : rd_known_detector fLeft (fun nm x _ m => px nm x m) ⟨fun _ m => P .none m, P, fun _ _ => False, fun _ _ => False⟩ (startD ["word", "sky", "storms", "s", "i"] as) n := by
  obtain ⟨w, s, rfl, hw, hs, hP⟩ := h
  have le := hs.le
  simp only [rd_known_detector, k_ix2, k_ix0, x_var0, x_varS, x_own0, x_ownS, x_ixT, x_ixL, x_addI, x_addT, x_addL, x_gI, x_gIC, x_neg, x_abs, x_intI, x_intB, x_lenT, x_lenL, x_tupL, x_tupT, x_rep, x_seq, x_next, x_set, x_setL, x_par, x_asg, x_drop, x_app, x_ext, x_ret, x_retN, x_if, x_frz, x_for, x_bk, x_ct, x_d1, x_d2, x_dC, x_dL, x_tup, x_and, x_or, x_not, x_ife, x_dB, x_dTr, x_dNot, x_dAnd, x_dOr, x_yes, x_aC, x_aN, x_aSz, x_aRg, x_rg1, x_rg2, x_aList, x_aSort, x_aSl, x_dSl, x_aScr, x_scrLen, x_oN, x_oS, x_rN, x_rC, x_rRl, x_call, x_callB, x_callK, x_iSeq, x_iRg1, x_iRg2, x_iEn, x_gNm, x_gTp, x_gC, x_gN, x_gL, x_comp, startD, arD, wipeD, List.map_cons, List.map_nil, List.length_cons, List.length_nil, List.replicate_succ, List.replicate_zero, List.cons_append, List.nil_append, List.set_cons_succ, List.set_cons_zero, List.getElem?_cons_succ, List.getElem?_cons_zero, Option.some.injEq, PyData.int.injEq, PyData.bool.injEq, PyData.tuple.injEq, PyData.list.injEq, DV.dat.injEq, DV.own.injEq, exists_eq_left', exists_eq_left, exists_eq_right, exists_eq_right', exists_and_left, List.cons.injEq, and_true, true_and, atI0, atI1, atI2, atI3, atI4, atI5, Nat.sub_self, Nat.reduceSub, Nat.reduceAdd, Nat.reduceLT, if_true, if_false, Bool.false_eq_true, ↓reduceIte, Nat.zero_add, y_eqI, y_neI, y_neB, y_eqB, y_eqS, y_neS, y_ltI, y_gtI, y_leI, y_geI, y_inR, y_notInR, y_eqR, y_neR, y_lenR, y_tupR, row_tup, row_lst, tup_lst, lst_tup, false_and, and_false, exists_false, false_or, or_false, exists_const, atI_map, Option.map_some, decide_true, decide_false, Bool.not_true, Bool.not_false, eq_self, y_isB, DV.scr.injEq, x_chain, x_tRg, x_parEL, x_parLE, x_parLL, x_gLs, Nat.add_zero, x_par3, x_aSetSort, x_itL, x_itT, x_itR, x_slL, x_slT, x_lsE, x_parM, x_mN, x_mE, x_mL, x_sm0, x_smD, x_smO, x_iB0, x_iBS, x_idx, x_aSetSortI, x_setRg, x_iRgV, x_qSeq, x_qIf, x_qRet, x_qSet, x_qIfE, x_qRaise, x_qNil, x_qCons, x_qLst, x_qTup, x_callX, x_callKX, x_try, x_qRaise0, x_try0, x_qFor, List.length_map]
  have bd : (-2 ^ 62 : Int) ≤ 0 ∧ (0 : Int) < 2 ^ 62 ∧ (-2 ^ 62 : Int) ≤ (s.st.length : Int) ∧ (s.st.length : Int) < 2 ^ 62 := by omega
  have rl : (intsD (rng (s.st.length : Int))).length ≤ sizeLine := sz _ (by rw [intsD_len, rng_len]; omega)
  have lf : ∀ {o : Int} {Q : D → Nat → Prop}, o ∈ rng (s.st.length : Int) → Q (rowD (leftM s (sat s o))) n → fLeft [Ar.d (skyD s), Ar.d (.int o)] n Q := fun ho q => ⟨s, _, _, rfl, sat_at ho, hs.ok, q⟩
  have ll : ∀ o, (leftM s (sat s o)).length ≤ 1000 := fun o => left_len s _ hs.ok
  refine ifc (fun c => ?_) fun c => ?_
  · have c' : w = "nothing" := of_decide_eq_true c
    rw [if_pos (.inl c'), knownD, if_pos c'] at hP
    refine ⟨rfl, 0, _, rfl, bd, ?_⟩
    rw [Int.sub_zero, rangeD_rng]
    refine ⟨rl, compR_each (fun _ => .tuple [.tuple [.int 0]]) _ _ (fun o ho A B ha => ?_) ⟨by decide, ?_⟩⟩
    · simp only [x_var0, x_varS, x_own0, x_ownS, x_ixT, x_ixL, x_addI, x_addT, x_addL, x_gI, x_gIC, x_neg, x_abs, x_intI, x_intB, x_lenT, x_lenL, x_tupL, x_tupT, x_rep, x_seq, x_next, x_set, x_setL, x_par, x_asg, x_drop, x_app, x_ext, x_ret, x_retN, x_if, x_frz, x_for, x_bk, x_ct, x_d1, x_d2, x_dC, x_dL, x_tup, x_and, x_or, x_not, x_ife, x_dB, x_dTr, x_dNot, x_dAnd, x_dOr, x_yes, x_aC, x_aN, x_aSz, x_aRg, x_rg1, x_rg2, x_aList, x_aSort, x_aSl, x_dSl, x_aScr, x_scrLen, x_oN, x_oS, x_rN, x_rC, x_rRl, x_call, x_callB, x_callK, x_iSeq, x_iRg1, x_iRg2, x_iEn, x_gNm, x_gTp, x_gC, x_gN, x_gL, x_comp, startD, arD, wipeD, List.map_cons, List.map_nil, List.length_cons, List.length_nil, List.replicate_succ, List.replicate_zero, List.cons_append, List.nil_append, List.set_cons_succ, List.set_cons_zero, List.getElem?_cons_succ, List.getElem?_cons_zero, Option.some.injEq, PyData.int.injEq, PyData.bool.injEq, PyData.tuple.injEq, PyData.list.injEq, DV.dat.injEq, DV.own.injEq, exists_eq_left', exists_eq_left, exists_eq_right, exists_eq_right', exists_and_left, List.cons.injEq, and_true, true_and, atI0, atI1, atI2, atI3, atI4, atI5, Nat.sub_self, Nat.reduceSub, Nat.reduceAdd, Nat.reduceLT, if_true, if_false, Bool.false_eq_true, ↓reduceIte, Nat.zero_add, y_eqI, y_neI, y_neB, y_eqB, y_eqS, y_neS, y_ltI, y_gtI, y_leI, y_geI, y_inR, y_notInR, y_eqR, y_neR, y_lenR, y_tupR, row_tup, row_lst, tup_lst, lst_tup, false_and, and_false, exists_false, false_or, or_false, exists_const, atI_map, Option.map_some, decide_true, decide_false, Bool.not_true, Bool.not_false, eq_self, y_isB, DV.scr.injEq, x_chain, x_tRg, x_parEL, x_parLE, x_parLL, x_gLs, Nat.add_zero, x_par3, x_aSetSort, x_itL, x_itT, x_itR, x_slL, x_slT, x_lsE, x_parM, x_mN, x_mE, x_mL, x_sm0, x_smD, x_smO, x_iB0, x_iBS, x_idx, x_aSetSortI, x_setRg, x_iRgV, x_qSeq, x_qIf, x_qRet, x_qSet, x_qIfE, x_qRaise, x_qNil, x_qCons, x_qLst, x_qTup, x_callX, x_callKX, x_try, x_qRaise0, x_try0, x_qFor]
      exact ⟨by decide, by decide, ha⟩
    · rw [List.nil_append, List.map_const', rng_len, Int.toNat_natCast]
      exact hP
  have c' : ¬ w = "nothing" := of_decide_eq_false c
  have uf : unfit w s = (!decide (w ∈ (["leader", "left"] : List Str)) || (lefts s).any fun r => decide (r = [])) := rfl
  refine ⟨by decide, y_notInS (l := ["leader", "left"]) (word_sh hw) (by decide +kernel) ⟨_, rfl, ifc (fun d => ?_) fun d => ?_⟩⟩
  · rw [d, Bool.true_or] at uf
    rw [if_neg (fun z => z.elim c' fun z => by rw [uf] at z; cases z)] at hP
    exact hP
  rw [d, Bool.false_or] at uf
  refine ⟨rfl, 0, _, rfl, bd, ?_⟩
  rw [Int.sub_zero, rangeD_rng]
  refine ⟨rl, compR_each (fun o => .bool (decide (leftM s (sat s o) = []))) _ _ (fun o ho A B ha => ?_) ?_⟩
  · simp only [x_var0, x_varS, x_own0, x_ownS, x_ixT, x_ixL, x_addI, x_addT, x_addL, x_gI, x_gIC, x_neg, x_abs, x_intI, x_intB, x_lenT, x_lenL, x_tupL, x_tupT, x_rep, x_seq, x_next, x_set, x_setL, x_par, x_asg, x_drop, x_app, x_ext, x_ret, x_retN, x_if, x_frz, x_for, x_bk, x_ct, x_d1, x_d2, x_dC, x_dL, x_tup, x_and, x_or, x_not, x_ife, x_dB, x_dTr, x_dNot, x_dAnd, x_dOr, x_yes, x_aC, x_aN, x_aSz, x_aRg, x_rg1, x_rg2, x_aList, x_aSort, x_aSl, x_dSl, x_aScr, x_scrLen, x_oN, x_oS, x_rN, x_rC, x_rRl, x_call, x_callB, x_callK, x_iSeq, x_iRg1, x_iRg2, x_iEn, x_gNm, x_gTp, x_gC, x_gN, x_gL, x_comp, startD, arD, wipeD, List.map_cons, List.map_nil, List.length_cons, List.length_nil, List.replicate_succ, List.replicate_zero, List.cons_append, List.nil_append, List.set_cons_succ, List.set_cons_zero, List.getElem?_cons_succ, List.getElem?_cons_zero, Option.some.injEq, PyData.int.injEq, PyData.bool.injEq, PyData.tuple.injEq, PyData.list.injEq, DV.dat.injEq, DV.own.injEq, exists_eq_left', exists_eq_left, exists_eq_right, exists_eq_right', exists_and_left, List.cons.injEq, and_true, true_and, atI0, atI1, atI2, atI3, atI4, atI5, Nat.sub_self, Nat.reduceSub, Nat.reduceAdd, Nat.reduceLT, if_true, if_false, Bool.false_eq_true, ↓reduceIte, Nat.zero_add, y_eqI, y_neI, y_neB, y_eqB, y_eqS, y_neS, y_ltI, y_gtI, y_leI, y_geI, y_inR, y_notInR, y_eqR, y_neR, y_lenR, y_tupR, row_tup, row_lst, tup_lst, lst_tup, false_and, and_false, exists_false, false_or, or_false, exists_const, atI_map, Option.map_some, decide_true, decide_false, Bool.not_true, Bool.not_false, eq_self, y_isB, DV.scr.injEq, x_chain, x_tRg, x_parEL, x_parLE, x_parLL, x_gLs, Nat.add_zero, x_par3, x_aSetSort, x_itL, x_itT, x_itR, x_slL, x_slT, x_lsE, x_parM, x_mN, x_mE, x_mL, x_sm0, x_smD, x_smO, x_iB0, x_iBS, x_idx, x_aSetSortI, x_setRg, x_iRgV, x_qSeq, x_qIf, x_qRet, x_qSet, x_qIfE, x_qRaise, x_qNil, x_qCons, x_qLst, x_qTup, x_callX, x_callKX, x_try, x_qRaise0, x_try0, x_qFor]
    refine lf ho ⟨by decide, ?_⟩
    show gEq (rowD _) (rowD []) _
    rw [y_eqR]
    exact ha
  have e1 : (rng (s.st.length : Int)).map (fun o => PyData.bool (decide (leftM s (sat s o) = []))) = ((lefts s).map fun r => decide (r = [])).map PyData.bool := by rw [lefts, List.map_map, List.map_map]; rfl
  have e2 : ((lefts s).map fun r => decide (r = [])).any id = (lefts s).any fun r => decide (r = []) := by rw [List.any_map]; rfl
  rw [List.nil_append, e1, x_any, e2]
  refine ⟨_, rfl, ifc (fun e => ?_) fun e => ?_⟩
  · rw [e] at uf
    rw [if_neg (fun z => z.elim c' fun z => by rw [uf] at z; cases z)] at hP
    exact hP
  rw [e] at uf
  rw [if_pos (.inr uf), knownD, if_neg c'] at hP
  refine ifc (fun f => ?_) fun f => ?_
  · rw [if_pos (of_decide_eq_true f)] at hP
    refine ⟨rfl, 0, _, rfl, bd, ?_⟩
    rw [Int.sub_zero, rangeD_rng]
    refine ⟨rl, compR_each (fun o => .tuple ((leftM s (sat s o)).map fun o => .tuple [.int o])) _ _ (fun o ho A B ha => ?_) ⟨by decide, ?_⟩⟩
    · simp only [x_var0, x_varS, x_own0, x_ownS, x_ixT, x_ixL, x_addI, x_addT, x_addL, x_gI, x_gIC, x_neg, x_abs, x_intI, x_intB, x_lenT, x_lenL, x_tupL, x_tupT, x_rep, x_seq, x_next, x_set, x_setL, x_par, x_asg, x_drop, x_app, x_ext, x_ret, x_retN, x_if, x_frz, x_for, x_bk, x_ct, x_d1, x_d2, x_dC, x_dL, x_tup, x_and, x_or, x_not, x_ife, x_dB, x_dTr, x_dNot, x_dAnd, x_dOr, x_yes, x_aC, x_aN, x_aSz, x_aRg, x_rg1, x_rg2, x_aList, x_aSort, x_aSl, x_dSl, x_aScr, x_scrLen, x_oN, x_oS, x_rN, x_rC, x_rRl, x_call, x_callB, x_callK, x_iSeq, x_iRg1, x_iRg2, x_iEn, x_gNm, x_gTp, x_gC, x_gN, x_gL, x_comp, startD, arD, wipeD, List.map_cons, List.map_nil, List.length_cons, List.length_nil, List.replicate_succ, List.replicate_zero, List.cons_append, List.nil_append, List.set_cons_succ, List.set_cons_zero, List.getElem?_cons_succ, List.getElem?_cons_zero, Option.some.injEq, PyData.int.injEq, PyData.bool.injEq, PyData.tuple.injEq, PyData.list.injEq, DV.dat.injEq, DV.own.injEq, exists_eq_left', exists_eq_left, exists_eq_right, exists_eq_right', exists_and_left, List.cons.injEq, and_true, true_and, atI0, atI1, atI2, atI3, atI4, atI5, Nat.sub_self, Nat.reduceSub, Nat.reduceAdd, Nat.reduceLT, if_true, if_false, Bool.false_eq_true, ↓reduceIte, Nat.zero_add, y_eqI, y_neI, y_neB, y_eqB, y_eqS, y_neS, y_ltI, y_gtI, y_leI, y_geI, y_inR, y_notInR, y_eqR, y_neR, y_lenR, y_tupR, row_tup, row_lst, tup_lst, lst_tup, false_and, and_false, exists_false, false_or, or_false, exists_const, atI_map, Option.map_some, decide_true, decide_false, Bool.not_true, Bool.not_false, eq_self, y_isB, DV.scr.injEq, x_chain, x_tRg, x_parEL, x_parLE, x_parLL, x_gLs, Nat.add_zero, x_par3, x_aSetSort, x_itL, x_itT, x_itR, x_slL, x_slT, x_lsE, x_parM, x_mN, x_mE, x_mL, x_sm0, x_smD, x_smO, x_iB0, x_iBS, x_idx, x_aSetSortI, x_setRg, x_iRgV, x_qSeq, x_qIf, x_qRet, x_qSet, x_qIfE, x_qRaise, x_qNil, x_qCons, x_qLst, x_qTup, x_callX, x_callKX, x_try, x_qRaise0, x_try0, x_qFor]
      refine ⟨rfl, .inr (lf ho ⟨_, rfl, small _ (by rw [intsD_len]; exact Nat.le_trans (ll o) (by decide)), compR_each (e := PyData.int) (fun o => .tuple [.int o]) _ _ (fun o ho A B ha => ?_) ha⟩)⟩
      simp only [x_var0, x_varS, x_own0, x_ownS, x_ixT, x_ixL, x_addI, x_addT, x_addL, x_gI, x_gIC, x_neg, x_abs, x_intI, x_intB, x_lenT, x_lenL, x_tupL, x_tupT, x_rep, x_seq, x_next, x_set, x_setL, x_par, x_asg, x_drop, x_app, x_ext, x_ret, x_retN, x_if, x_frz, x_for, x_bk, x_ct, x_d1, x_d2, x_dC, x_dL, x_tup, x_and, x_or, x_not, x_ife, x_dB, x_dTr, x_dNot, x_dAnd, x_dOr, x_yes, x_aC, x_aN, x_aSz, x_aRg, x_rg1, x_rg2, x_aList, x_aSort, x_aSl, x_dSl, x_aScr, x_scrLen, x_oN, x_oS, x_rN, x_rC, x_rRl, x_call, x_callB, x_callK, x_iSeq, x_iRg1, x_iRg2, x_iEn, x_gNm, x_gTp, x_gC, x_gN, x_gL, x_comp, startD, arD, wipeD, List.map_cons, List.map_nil, List.length_cons, List.length_nil, List.replicate_succ, List.replicate_zero, List.cons_append, List.nil_append, List.set_cons_succ, List.set_cons_zero, List.getElem?_cons_succ, List.getElem?_cons_zero, Option.some.injEq, PyData.int.injEq, PyData.bool.injEq, PyData.tuple.injEq, PyData.list.injEq, DV.dat.injEq, DV.own.injEq, exists_eq_left', exists_eq_left, exists_eq_right, exists_eq_right', exists_and_left, List.cons.injEq, and_true, true_and, atI0, atI1, atI2, atI3, atI4, atI5, Nat.sub_self, Nat.reduceSub, Nat.reduceAdd, Nat.reduceLT, if_true, if_false, Bool.false_eq_true, ↓reduceIte, Nat.zero_add, y_eqI, y_neI, y_neB, y_eqB, y_eqS, y_neS, y_ltI, y_gtI, y_leI, y_geI, y_inR, y_notInR, y_eqR, y_neR, y_lenR, y_tupR, row_tup, row_lst, tup_lst, lst_tup, false_and, and_false, exists_false, false_or, or_false, exists_const, atI_map, Option.map_some, decide_true, decide_false, Bool.not_true, Bool.not_false, eq_self, y_isB, DV.scr.injEq, x_chain, x_tRg, x_parEL, x_parLE, x_parLL, x_gLs, Nat.add_zero, x_par3, x_aSetSort, x_itL, x_itT, x_itR, x_slL, x_slT, x_lsE, x_parM, x_mN, x_mE, x_mL, x_sm0, x_smD, x_smO, x_iB0, x_iBS, x_idx, x_aSetSortI, x_setRg, x_iRgV, x_qSeq, x_qIf, x_qRet, x_qSet, x_qIfE, x_qRaise, x_qNil, x_qCons, x_qLst, x_qTup, x_callX, x_callKX, x_try, x_qRaise0, x_try0, x_qFor]
      exact ⟨by decide, ha⟩
    · have e3 : (lefts s).map (fun r => PyData.tuple (r.map fun o => .tuple [.int o])) = (rng (s.st.length : Int)).map fun o => .tuple ((leftM s (sat s o)).map fun o => .tuple [.int o]) := by rw [lefts, List.map_map]; rfl
      rw [e3] at hP
      exact hP
  · rw [if_neg (of_decide_eq_false f)] at hP
    refine ⟨rfl, 0, _, rfl, bd, ?_⟩
    rw [Int.sub_zero, rangeD_rng]
    refine ⟨rl, compR_each (fun o => .tuple [rowD (leftM s (sat s o))]) _ _ (fun o ho A B ha => ?_) ⟨by decide, ?_⟩⟩
    · simp only [x_var0, x_varS, x_own0, x_ownS, x_ixT, x_ixL, x_addI, x_addT, x_addL, x_gI, x_gIC, x_neg, x_abs, x_intI, x_intB, x_lenT, x_lenL, x_tupL, x_tupT, x_rep, x_seq, x_next, x_set, x_setL, x_par, x_asg, x_drop, x_app, x_ext, x_ret, x_retN, x_if, x_frz, x_for, x_bk, x_ct, x_d1, x_d2, x_dC, x_dL, x_tup, x_and, x_or, x_not, x_ife, x_dB, x_dTr, x_dNot, x_dAnd, x_dOr, x_yes, x_aC, x_aN, x_aSz, x_aRg, x_rg1, x_rg2, x_aList, x_aSort, x_aSl, x_dSl, x_aScr, x_scrLen, x_oN, x_oS, x_rN, x_rC, x_rRl, x_call, x_callB, x_callK, x_iSeq, x_iRg1, x_iRg2, x_iEn, x_gNm, x_gTp, x_gC, x_gN, x_gL, x_comp, startD, arD, wipeD, List.map_cons, List.map_nil, List.length_cons, List.length_nil, List.replicate_succ, List.replicate_zero, List.cons_append, List.nil_append, List.set_cons_succ, List.set_cons_zero, List.getElem?_cons_succ, List.getElem?_cons_zero, Option.some.injEq, PyData.int.injEq, PyData.bool.injEq, PyData.tuple.injEq, PyData.list.injEq, DV.dat.injEq, DV.own.injEq, exists_eq_left', exists_eq_left, exists_eq_right, exists_eq_right', exists_and_left, List.cons.injEq, and_true, true_and, atI0, atI1, atI2, atI3, atI4, atI5, Nat.sub_self, Nat.reduceSub, Nat.reduceAdd, Nat.reduceLT, if_true, if_false, Bool.false_eq_true, ↓reduceIte, Nat.zero_add, y_eqI, y_neI, y_neB, y_eqB, y_eqS, y_neS, y_ltI, y_gtI, y_leI, y_geI, y_inR, y_notInR, y_eqR, y_neR, y_lenR, y_tupR, row_tup, row_lst, tup_lst, lst_tup, false_and, and_false, exists_false, false_or, or_false, exists_const, atI_map, Option.map_some, decide_true, decide_false, Bool.not_true, Bool.not_false, eq_self, y_isB, DV.scr.injEq, x_chain, x_tRg, x_parEL, x_parLE, x_parLL, x_gLs, Nat.add_zero, x_par3, x_aSetSort, x_itL, x_itT, x_itR, x_slL, x_slT, x_lsE, x_parM, x_mN, x_mE, x_mL, x_sm0, x_smD, x_smO, x_iB0, x_iBS, x_idx, x_aSetSortI, x_setRg, x_iRgV, x_qSeq, x_qIf, x_qRet, x_qSet, x_qIfE, x_qRaise, x_qNil, x_qCons, x_qLst, x_qTup, x_callX, x_callKX, x_try, x_qRaise0, x_try0, x_qFor]
      exact lf ho ⟨by decide, ha⟩
    · have e3 : (lefts s).map (fun r => PyData.tuple [rowD r]) = (rng (s.st.length : Int)).map fun o => .tuple [rowD (leftM s (sat s o))] := by rw [lefts, List.map_map]; rfl
      rw [e3] at hP
      exact hP
def toldM (w : Str) (s : Sky) : D := if w = "nothing" ∨ unfit w s = false then .list [.str "told", knownD w s] else .list [.str "unfit"]
def fKnownL : Fn := fun as n P => ∃ (w : Str) (s : Sky), as = [.d (.str w), .d (skyD s)] ∧ w ∈ words8 ∧ SkyF s ∧ P (toldM w s) n
theorem rows_sh {r : List Row} (h : ∀ x ∈ r, x.length ≤ 6 ∧ ∀ o ∈ x, 0 ≤ o ∧ o < 6) : SeqAt.shaped (.list (r.map rowD)) = true := by
  have q : VwA 1 (r.length * 25) (r.map rowD) := VwA.of (m := 1) (w := 25) (fun d hd => by
    obtain ⟨x, hx, rfl⟩ := List.mem_map.mp hd
    exact (vwrB (h x hx)).tup) (by rw [List.length_map]; exact Nat.le_refl _)
  unfold SeqAt.shaped
  have := q.lst
  rw [this.lay, Bool.true_and]
  exact decide_eq_true (Nat.le_trans this.shw.dep (by decide))
theorem left_six {s : Sky} (hs : SkyF s) (x : St) : (leftM s x).length ≤ 6 ∧ ∀ o ∈ leftM s x, 0 ≤ o ∧ o < 6 := by
  have m1 := hs.m1
  have m0 := hs.m0
  refine ⟨Nat.le_trans (List.length_filter_le _ _) (by rw [rng_len]; omega), fun o ho => ?_⟩
  have := rng_mem.mp (List.mem_filter.mp ho).1
  omega
theorem hf_lknown (as : List Ar) (n : Nat) (P : D → Nat → Prop) (hl : as.length = 2) (h : fKnownL as n P) : rd__law_known fLeft ⟨fun _ m => P .none m, P, fun _ _ => False, fun _ _ => False⟩ (startD ["word", "sky", "many", "left", "s", "own", "i"] as) n := by
  obtain ⟨w, s, rfl, hw, hs, hP⟩ := h
  have le := hs.le
  simp only [rd__law_known, k_ix2, k_ix0, x_var0, x_varS, x_own0, x_ownS, x_ixT, x_ixL, x_addI, x_addT, x_addL, x_gI, x_gIC, x_neg, x_abs, x_intI, x_intB, x_lenT, x_lenL, x_tupL, x_tupT, x_rep, x_seq, x_next, x_set, x_setL, x_par, x_asg, x_drop, x_app, x_ext, x_ret, x_retN, x_if, x_frz, x_for, x_bk, x_ct, x_d1, x_d2, x_dC, x_dL, x_tup, x_and, x_or, x_not, x_ife, x_dB, x_dTr, x_dNot, x_dAnd, x_dOr, x_yes, x_aC, x_aN, x_aSz, x_aRg, x_rg1, x_rg2, x_aList, x_aSort, x_aSl, x_dSl, x_aScr, x_scrLen, x_oN, x_oS, x_rN, x_rC, x_rRl, x_call, x_callB, x_callK, x_iSeq, x_iRg1, x_iRg2, x_iEn, x_gNm, x_gTp, x_gC, x_gN, x_gL, x_comp, startD, arD, wipeD, List.map_cons, List.map_nil, List.length_cons, List.length_nil, List.replicate_succ, List.replicate_zero, List.cons_append, List.nil_append, List.set_cons_succ, List.set_cons_zero, List.getElem?_cons_succ, List.getElem?_cons_zero, Option.some.injEq, PyData.int.injEq, PyData.bool.injEq, PyData.tuple.injEq, PyData.list.injEq, DV.dat.injEq, DV.own.injEq, exists_eq_left', exists_eq_left, exists_eq_right, exists_eq_right', exists_and_left, List.cons.injEq, and_true, true_and, atI0, atI1, atI2, atI3, atI4, atI5, Nat.sub_self, Nat.reduceSub, Nat.reduceAdd, Nat.reduceLT, if_true, if_false, Bool.false_eq_true, ↓reduceIte, Nat.zero_add, y_eqI, y_neI, y_neB, y_eqB, y_eqS, y_neS, y_ltI, y_gtI, y_leI, y_geI, y_inR, y_notInR, y_eqR, y_neR, y_lenR, y_tupR, row_tup, row_lst, tup_lst, lst_tup, false_and, and_false, exists_false, false_or, or_false, exists_const, atI_map, Option.map_some, decide_true, decide_false, Bool.not_true, Bool.not_false, eq_self, y_isB, DV.scr.injEq, x_chain, x_tRg, x_parEL, x_parLE, x_parLL, x_gLs, Nat.add_zero, x_par3, x_aSetSort, x_itL, x_itT, x_itR, x_slL, x_slT, x_lsE, x_parM, x_mN, x_mE, x_mL, x_sm0, x_smD, x_smO, x_iB0, x_iBS, x_idx, x_aSetSortI, x_setRg, x_iRgV, x_qSeq, x_qIf, x_qRet, x_qSet, x_qIfE, x_qRaise, x_qNil, x_qCons, x_qLst, x_qTup, x_callX, x_callKX, x_try, x_qRaise0, x_try0, x_qFor, List.length_map]
  have rl : (intsD (rng (s.st.length : Int))).length ≤ sizeLine := sz _ (by rw [intsD_len, rng_len]; omega)
  have lf : ∀ {o : Int} {Q : D → Nat → Prop}, o ∈ rng (s.st.length : Int) → Q (rowD (leftM s (sat s o))) n → fLeft [Ar.d (skyD s), Ar.d (.int o)] n Q := fun ho q => ⟨s, _, _, rfl, sat_at ho, hs.ok, q⟩
  have ll : ∀ o, (leftM s (sat s o)).length ≤ 1000 := fun o => left_len s _ hs.ok
  rw [toldM] at hP
  refine ifc (fun c => ?_) fun c => ?_
  · have c' : w = "nothing" := of_decide_eq_true c
    rw [if_pos (.inl c'), knownD, if_pos c'] at hP
    have e : (List.replicate (s.st.length : Int).toNat [PyData.tuple [PyData.tuple [.int 0]]]).flatten = List.replicate s.st.length (PyData.tuple [PyData.tuple [.int 0]]) := by
      rw [Int.toNat_natCast]
      generalize s.st.length = N
      induction N with
      | zero => rfl
      | succ k ih => rw [List.replicate_succ, List.flatten_cons, ih]; rfl
    refine ⟨by decide, by decide, by decide, _, _, rfl, rfl, by omega, by omega, by decide, by decide, by decide, ?_⟩
    rw [e]
    exact hP
  have c' : ¬ w = "nothing" := of_decide_eq_false c
  have uf : unfit w s = (!decide (w ∈ (["leader", "left"] : List Str)) || (lefts s).any fun r => decide (r = [])) := rfl
  have l2 : (lefts s).length ≤ 10 := by rw [lefts, List.length_map, rng_len]; omega
  refine ⟨rfl, by omega, by omega, ?_⟩
  rw [rangeD_rng]
  refine ⟨rl, compR_each (e := PyData.int) (fun o => rowD (leftM s (sat s o))) _ _ (fun o ho A B ha => ?_) ?_⟩
  · simp only [x_var0, x_varS, x_own0, x_ownS, x_ixT, x_ixL, x_addI, x_addT, x_addL, x_gI, x_gIC, x_neg, x_abs, x_intI, x_intB, x_lenT, x_lenL, x_tupL, x_tupT, x_rep, x_seq, x_next, x_set, x_setL, x_par, x_asg, x_drop, x_app, x_ext, x_ret, x_retN, x_if, x_frz, x_for, x_bk, x_ct, x_d1, x_d2, x_dC, x_dL, x_tup, x_and, x_or, x_not, x_ife, x_dB, x_dTr, x_dNot, x_dAnd, x_dOr, x_yes, x_aC, x_aN, x_aSz, x_aRg, x_rg1, x_rg2, x_aList, x_aSort, x_aSl, x_dSl, x_aScr, x_scrLen, x_oN, x_oS, x_rN, x_rC, x_rRl, x_call, x_callB, x_callK, x_iSeq, x_iRg1, x_iRg2, x_iEn, x_gNm, x_gTp, x_gC, x_gN, x_gL, x_comp, startD, arD, wipeD, List.map_cons, List.map_nil, List.length_cons, List.length_nil, List.replicate_succ, List.replicate_zero, List.cons_append, List.nil_append, List.set_cons_succ, List.set_cons_zero, List.getElem?_cons_succ, List.getElem?_cons_zero, Option.some.injEq, PyData.int.injEq, PyData.bool.injEq, PyData.tuple.injEq, PyData.list.injEq, DV.dat.injEq, DV.own.injEq, exists_eq_left', exists_eq_left, exists_eq_right, exists_eq_right', exists_and_left, List.cons.injEq, and_true, true_and, atI0, atI1, atI2, atI3, atI4, atI5, Nat.sub_self, Nat.reduceSub, Nat.reduceAdd, Nat.reduceLT, if_true, if_false, Bool.false_eq_true, ↓reduceIte, Nat.zero_add, y_eqI, y_neI, y_neB, y_eqB, y_eqS, y_neS, y_ltI, y_gtI, y_leI, y_geI, y_inR, y_notInR, y_eqR, y_neR, y_lenR, y_tupR, row_tup, row_lst, tup_lst, lst_tup, false_and, and_false, exists_false, false_or, or_false, exists_const, atI_map, Option.map_some, decide_true, decide_false, Bool.not_true, Bool.not_false, eq_self, y_isB, DV.scr.injEq, x_chain, x_tRg, x_parEL, x_parLE, x_parLL, x_gLs, Nat.add_zero, x_par3, x_aSetSort, x_itL, x_itT, x_itR, x_slL, x_slT, x_lsE, x_parM, x_mN, x_mE, x_mL, x_sm0, x_smD, x_smO, x_iB0, x_iBS, x_idx, x_aSetSortI, x_setRg, x_iRgV, x_qSeq, x_qIf, x_qRet, x_qSet, x_qIfE, x_qRaise, x_qNil, x_qCons, x_qLst, x_qTup, x_callX, x_callKX, x_try, x_qRaise0, x_try0, x_qFor]
    exact lf ho ha
  have e1 : (rng (s.st.length : Int)).map (fun o => rowD (leftM s (sat s o))) = (lefts s).map rowD := by rw [lefts, List.map_map]; rfl
  rw [List.nil_append, e1]
  refine ⟨by decide, y_notInS (l := ["leader", "left"]) (word_sh hw) (by decide +kernel) ⟨_, rfl, ifc (fun d => ?_) fun d => ?_⟩⟩
  · rw [d, Bool.true_or] at uf
    rw [if_neg (fun z => z.elim c' fun z => by rw [uf] at z; cases z)] at hP
    exact ⟨by decide, hP⟩
  rw [d, Bool.false_or] at uf
  have e2 : ∀ i : Decidable (([] : Row) ∈ lefts s), @decide _ i = (lefts s).any fun r => decide (r = []) := fun i => by
    rw [Bool.eq_iff_iff, decide_eq_true_iff, List.any_eq_true]
    exact ⟨fun h => ⟨_, h, rfl⟩, fun ⟨x, h, e⟩ => by rw [← of_decide_eq_true e]; exact h⟩
  have six : ∀ x ∈ lefts s, x.length ≤ 6 ∧ ∀ o ∈ x, 0 ≤ o ∧ o < 6 := fun x hx => by
    obtain ⟨o, _, rfl⟩ := List.mem_map.mp hx
    exact left_six hs _
  have q := dIn_lst eqe_row ([] : Row) (lefts s)
  refine ⟨by decide, by decide +kernel, rows_sh six, _, q, _, rfl, ?_⟩
  rw [e2 _]
  refine ifc (fun e => ?_) fun e => ?_
  · rw [e] at uf
    rw [if_neg (fun z => z.elim c' fun z => by rw [uf] at z; cases z)] at hP
    exact ⟨by decide, hP⟩
  rw [e] at uf
  rw [if_pos (.inr uf), knownD, if_neg c'] at hP
  have two : ¬ w = "left" → w = "leader" := fun z => by
    have h := d
    simp at h
    by_cases y : w = "leader"
    · exact y
    · exact absurd (h y) z
  have lz : ((lefts s).map rowD).length ≤ sizeLine := sz _ (by rw [List.length_map]; omega)
  refine ifc (fun f => ?_) fun f => ?_
  · rw [if_neg (by rw [of_decide_eq_true f]; decide)] at hP
    refine ⟨rfl, lz, compR_each (e := rowD) (fun r => .tuple [rowD r]) _ _ (fun r hr A B ha => ?_) ⟨by decide, by decide, hP⟩⟩
    simp only [x_var0, x_varS, x_own0, x_ownS, x_ixT, x_ixL, x_addI, x_addT, x_addL, x_gI, x_gIC, x_neg, x_abs, x_intI, x_intB, x_lenT, x_lenL, x_tupL, x_tupT, x_rep, x_seq, x_next, x_set, x_setL, x_par, x_asg, x_drop, x_app, x_ext, x_ret, x_retN, x_if, x_frz, x_for, x_bk, x_ct, x_d1, x_d2, x_dC, x_dL, x_tup, x_and, x_or, x_not, x_ife, x_dB, x_dTr, x_dNot, x_dAnd, x_dOr, x_yes, x_aC, x_aN, x_aSz, x_aRg, x_rg1, x_rg2, x_aList, x_aSort, x_aSl, x_dSl, x_aScr, x_scrLen, x_oN, x_oS, x_rN, x_rC, x_rRl, x_call, x_callB, x_callK, x_iSeq, x_iRg1, x_iRg2, x_iEn, x_gNm, x_gTp, x_gC, x_gN, x_gL, x_comp, startD, arD, wipeD, List.map_cons, List.map_nil, List.length_cons, List.length_nil, List.replicate_succ, List.replicate_zero, List.cons_append, List.nil_append, List.set_cons_succ, List.set_cons_zero, List.getElem?_cons_succ, List.getElem?_cons_zero, Option.some.injEq, PyData.int.injEq, PyData.bool.injEq, PyData.tuple.injEq, PyData.list.injEq, DV.dat.injEq, DV.own.injEq, exists_eq_left', exists_eq_left, exists_eq_right, exists_eq_right', exists_and_left, List.cons.injEq, and_true, true_and, atI0, atI1, atI2, atI3, atI4, atI5, Nat.sub_self, Nat.reduceSub, Nat.reduceAdd, Nat.reduceLT, if_true, if_false, Bool.false_eq_true, ↓reduceIte, Nat.zero_add, y_eqI, y_neI, y_neB, y_eqB, y_eqS, y_neS, y_ltI, y_gtI, y_leI, y_geI, y_inR, y_notInR, y_eqR, y_neR, y_lenR, y_tupR, row_tup, row_lst, tup_lst, lst_tup, false_and, and_false, exists_false, false_or, or_false, exists_const, atI_map, Option.map_some, decide_true, decide_false, Bool.not_true, Bool.not_false, eq_self, y_isB, DV.scr.injEq, x_chain, x_tRg, x_parEL, x_parLE, x_parLL, x_gLs, Nat.add_zero, x_par3, x_aSetSort, x_itL, x_itT, x_itR, x_slL, x_slT, x_lsE, x_parM, x_mN, x_mE, x_mL, x_sm0, x_smD, x_smO, x_iB0, x_iBS, x_idx, x_aSetSortI, x_setRg, x_iRgV, x_qSeq, x_qIf, x_qRet, x_qSet, x_qIfE, x_qRaise, x_qNil, x_qCons, x_qLst, x_qTup, x_callX, x_callKX, x_try, x_qRaise0, x_try0, x_qFor]
    exact ⟨by decide, ha⟩
  · rw [if_pos (two (of_decide_eq_false f))] at hP
    refine ⟨rfl, lz, compR_each (e := rowD) (fun r => .tuple (r.map fun o => .tuple [.int o])) _ _ (fun r hr A B ha => ?_) ⟨by decide, by decide, hP⟩⟩
    simp only [x_var0, x_varS, x_own0, x_ownS, x_ixT, x_ixL, x_addI, x_addT, x_addL, x_gI, x_gIC, x_neg, x_abs, x_intI, x_intB, x_lenT, x_lenL, x_tupL, x_tupT, x_rep, x_seq, x_next, x_set, x_setL, x_par, x_asg, x_drop, x_app, x_ext, x_ret, x_retN, x_if, x_frz, x_for, x_bk, x_ct, x_d1, x_d2, x_dC, x_dL, x_tup, x_and, x_or, x_not, x_ife, x_dB, x_dTr, x_dNot, x_dAnd, x_dOr, x_yes, x_aC, x_aN, x_aSz, x_aRg, x_rg1, x_rg2, x_aList, x_aSort, x_aSl, x_dSl, x_aScr, x_scrLen, x_oN, x_oS, x_rN, x_rC, x_rRl, x_call, x_callB, x_callK, x_iSeq, x_iRg1, x_iRg2, x_iEn, x_gNm, x_gTp, x_gC, x_gN, x_gL, x_comp, startD, arD, wipeD, List.map_cons, List.map_nil, List.length_cons, List.length_nil, List.replicate_succ, List.replicate_zero, List.cons_append, List.nil_append, List.set_cons_succ, List.set_cons_zero, List.getElem?_cons_succ, List.getElem?_cons_zero, Option.some.injEq, PyData.int.injEq, PyData.bool.injEq, PyData.tuple.injEq, PyData.list.injEq, DV.dat.injEq, DV.own.injEq, exists_eq_left', exists_eq_left, exists_eq_right, exists_eq_right', exists_and_left, List.cons.injEq, and_true, true_and, atI0, atI1, atI2, atI3, atI4, atI5, Nat.sub_self, Nat.reduceSub, Nat.reduceAdd, Nat.reduceLT, if_true, if_false, Bool.false_eq_true, ↓reduceIte, Nat.zero_add, y_eqI, y_neI, y_neB, y_eqB, y_eqS, y_neS, y_ltI, y_gtI, y_leI, y_geI, y_inR, y_notInR, y_eqR, y_neR, y_lenR, y_tupR, row_tup, row_lst, tup_lst, lst_tup, false_and, and_false, exists_false, false_or, or_false, exists_const, atI_map, Option.map_some, decide_true, decide_false, Bool.not_true, Bool.not_false, eq_self, y_isB, DV.scr.injEq, x_chain, x_tRg, x_parEL, x_parLE, x_parLL, x_gLs, Nat.add_zero, x_par3, x_aSetSort, x_itL, x_itT, x_itR, x_slL, x_slT, x_lsE, x_parM, x_mN, x_mE, x_mL, x_sm0, x_smD, x_smO, x_iB0, x_iBS, x_idx, x_aSetSortI, x_setRg, x_iRgV, x_qSeq, x_qIf, x_qRet, x_qSet, x_qIfE, x_qRaise, x_qNil, x_qCons, x_qLst, x_qTup, x_callX, x_callKX, x_try, x_qRaise0, x_try0, x_qFor]
    refine ⟨rfl, small _ (by rw [intsD_len]; exact Nat.le_trans (six r hr).1 (by decide)), compR_each (e := PyData.int) (fun o => .tuple [.int o]) _ _ (fun o ho A B ha => ?_) ha⟩
    simp only [x_var0, x_varS, x_own0, x_ownS, x_ixT, x_ixL, x_addI, x_addT, x_addL, x_gI, x_gIC, x_neg, x_abs, x_intI, x_intB, x_lenT, x_lenL, x_tupL, x_tupT, x_rep, x_seq, x_next, x_set, x_setL, x_par, x_asg, x_drop, x_app, x_ext, x_ret, x_retN, x_if, x_frz, x_for, x_bk, x_ct, x_d1, x_d2, x_dC, x_dL, x_tup, x_and, x_or, x_not, x_ife, x_dB, x_dTr, x_dNot, x_dAnd, x_dOr, x_yes, x_aC, x_aN, x_aSz, x_aRg, x_rg1, x_rg2, x_aList, x_aSort, x_aSl, x_dSl, x_aScr, x_scrLen, x_oN, x_oS, x_rN, x_rC, x_rRl, x_call, x_callB, x_callK, x_iSeq, x_iRg1, x_iRg2, x_iEn, x_gNm, x_gTp, x_gC, x_gN, x_gL, x_comp, startD, arD, wipeD, List.map_cons, List.map_nil, List.length_cons, List.length_nil, List.replicate_succ, List.replicate_zero, List.cons_append, List.nil_append, List.set_cons_succ, List.set_cons_zero, List.getElem?_cons_succ, List.getElem?_cons_zero, Option.some.injEq, PyData.int.injEq, PyData.bool.injEq, PyData.tuple.injEq, PyData.list.injEq, DV.dat.injEq, DV.own.injEq, exists_eq_left', exists_eq_left, exists_eq_right, exists_eq_right', exists_and_left, List.cons.injEq, and_true, true_and, atI0, atI1, atI2, atI3, atI4, atI5, Nat.sub_self, Nat.reduceSub, Nat.reduceAdd, Nat.reduceLT, if_true, if_false, Bool.false_eq_true, ↓reduceIte, Nat.zero_add, y_eqI, y_neI, y_neB, y_eqB, y_eqS, y_neS, y_ltI, y_gtI, y_leI, y_geI, y_inR, y_notInR, y_eqR, y_neR, y_lenR, y_tupR, row_tup, row_lst, tup_lst, lst_tup, false_and, and_false, exists_false, false_or, or_false, exists_const, atI_map, Option.map_some, decide_true, decide_false, Bool.not_true, Bool.not_false, eq_self, y_isB, DV.scr.injEq, x_chain, x_tRg, x_parEL, x_parLE, x_parLL, x_gLs, Nat.add_zero, x_par3, x_aSetSort, x_itL, x_itT, x_itR, x_slL, x_slT, x_lsE, x_parM, x_mN, x_mE, x_mL, x_sm0, x_smD, x_smO, x_iB0, x_iBS, x_idx, x_aSetSortI, x_setRg, x_iRgV, x_qSeq, x_qIf, x_qRet, x_qSet, x_qIfE, x_qRaise, x_qNil, x_qCons, x_qLst, x_qTup, x_callX, x_callKX, x_try, x_qRaise0, x_try0, x_qFor]
    exact ⟨by decide, ha⟩
def fHeard : Fn := fun as n P => ∃ (w : Str) (s : Sky) (b : Bool), as = [.d (.str w), .d (skyD s), .d (.bool b)] ∧ w ∈ words8 ∧ SkyF s ∧ P (toldM w s) n
theorem hf_heard (as : List Ar) (n : Nat) (P : D → Nat → Prop) (hl : as.length = 3) (h : fHeard as n P) : rd__law_heard fKnown ⟨fun _ m => P .none m, P, fun _ _ => False, fun _ _ => False⟩ (startD ["word", "sky", "is_named"] as) n := by
  obtain ⟨w, s, b, rfl, hw, hs, hP⟩ := h
  have g1 : ∀ x y : Ar, gP 0 2 [1, 0] [] [x, y] = [y, x] := fun _ _ => rfl
  simp only [rd__law_heard, x_var0, x_varS, x_own0, x_ownS, x_ixT, x_ixL, x_addI, x_addT, x_addL, x_gI, x_gIC, x_neg, x_abs, x_intI, x_intB, x_lenT, x_lenL, x_tupL, x_tupT, x_rep, x_seq, x_next, x_set, x_setL, x_par, x_asg, x_drop, x_app, x_ext, x_ret, x_retN, x_if, x_frz, x_for, x_bk, x_ct, x_d1, x_d2, x_dC, x_dL, x_tup, x_and, x_or, x_not, x_ife, x_dB, x_dTr, x_dNot, x_dAnd, x_dOr, x_yes, x_aC, x_aN, x_aSz, x_aRg, x_rg1, x_rg2, x_aList, x_aSort, x_aSl, x_dSl, x_aScr, x_scrLen, x_oN, x_oS, x_rN, x_rC, x_rRl, x_call, x_callB, x_callK, x_iSeq, x_iRg1, x_iRg2, x_iEn, x_gNm, x_gTp, x_gC, x_gN, x_gL, x_comp, startD, arD, wipeD, List.map_cons, List.map_nil, List.length_cons, List.length_nil, List.replicate_succ, List.replicate_zero, List.cons_append, List.nil_append, List.set_cons_succ, List.set_cons_zero, List.getElem?_cons_succ, List.getElem?_cons_zero, Option.some.injEq, PyData.int.injEq, PyData.bool.injEq, PyData.tuple.injEq, PyData.list.injEq, DV.dat.injEq, DV.own.injEq, exists_eq_left', exists_eq_left, exists_eq_right, exists_eq_right', exists_and_left, List.cons.injEq, and_true, true_and, atI0, atI1, atI2, atI3, atI4, atI5, Nat.sub_self, Nat.reduceSub, Nat.reduceAdd, Nat.reduceLT, if_true, if_false, Bool.false_eq_true, ↓reduceIte, Nat.zero_add, y_eqI, y_neI, y_neB, y_eqB, y_eqS, y_neS, y_ltI, y_gtI, y_leI, y_geI, y_inR, y_notInR, y_eqR, y_neR, y_lenR, y_tupR, row_tup, row_lst, tup_lst, lst_tup, false_and, and_false, exists_false, false_or, or_false, exists_const, atI_map, Option.map_some, decide_true, decide_false, Bool.not_true, Bool.not_false, eq_self, y_isB, DV.scr.injEq, x_chain, x_tRg, x_parEL, x_parLE, x_parLL, x_gLs, Nat.add_zero, x_par3, x_aSetSort, x_itL, x_itT, x_itR, x_slL, x_slT, x_lsE, x_parM, x_mN, x_mE, x_mL, x_sm0, x_smD, x_smO, x_iB0, x_iBS, x_idx, x_aSetSortI, x_setRg, x_iRgV, x_qSeq, x_qIf, x_qRet, x_qSet, x_qIfE, x_qRaise, x_qNil, x_qCons, x_qLst, x_qTup, x_callX, x_callKX, x_try, x_qRaise0, x_try0, x_qFor, g1]
  have go : fKnown [Ar.d (.str w), Ar.d (skyD s)] n (fun nm x m' => nm = Str.ofString "Unfit" ∧ P (.list [.str (Str.ofString "unfit")]) m') fun d m => 2 ≤ sizeLine ∧ P (.list [.str (Str.ofString "told"), d]) m := by
    refine ⟨w, s, rfl, hw, hs, ?_⟩
    rw [toldM] at hP
    split
    · rename_i c
      rw [if_pos c] at hP
      exact ⟨by decide, hP⟩
    · rename_i c
      rw [if_neg c] at hP
      exact ⟨rfl, hP⟩
  exact tru _ (ifc (fun _ => go) fun _ => go)
end My
/-! k51: what can be shown; what has no fault -/
namespace My
open PySem PySem.Spec L2 DL
theorem wdC {w : Str} (h : w ∈ (["form", "ends", "storm", "order", "set", "told", "unfit"] : List Str)) {m : Nat} : Shw m 60 (.str w) := by
  simp only [List.mem_cons, List.not_mem_nil, or_false] at h
  have z : Shw 0 60 (.str w) := by
    rcases h with e | e | e | e | e | e | e <;> rw [e] <;> exact ⟨by decide +kernel, by decide +kernel, by decide +kernel, by decide +kernel⟩
  exact z.mono (Nat.zero_le _) (Nat.le_refl _)
theorem int_shw {k : Int} {m : Nat} (h : k.natAbs < 10 ^ 12) : Shw m 41 (.int k) := (shw_sm (Sm.int h)).mono (Nat.zero_le _) (Nat.le_refl _)
theorem storm_shw {sg : Int} {s : Nat} {d : D} {M : Nat} (hs : s ≤ 1000) (h : Shw M 100000 d) : Shw 2 200 (stormFault sg (.int (s : Nat)) d) := by
  have st : Shw 2 200 (.tuple [.str "storm", .int (s : Nat)]) := (ShwAll.cons (m := 0) (w := 60) (w' := 41) (wdC (by simp)) (ShwAll.cons (w' := 0) (int_shw (by omega)) ShwAll.nil)).tup.mono (by decide) (by decide)
  unfold stormFault
  split
  · rename_i es
    have hl := all_len (shw_tup h)
    split
    · unfold setsFault
      split
      · rename_i k hk
        have := List.mem_range.mp (List.mem_of_find?_eq_some hk)
        have g : ∀ {w : Str}, w ∈ (["order", "set"] : List Str) → Shw 2 200 (.tuple [.str w, .int (s : Nat), .int (k : Nat)]) := fun {w} hw => by
          have q : Shw 0 60 (.str w) := wdC (by simp only [List.mem_cons, List.not_mem_nil, or_false] at hw ⊢; rcases hw with e | e <;> simp [e])
          exact (ShwAll.cons (m := 0) (w := 60) (w' := 82) q (ShwAll.cons (w' := 41) (int_shw (by omega)) (ShwAll.cons (w' := 0) (int_shw (by omega)) ShwAll.nil))).tup.mono (by decide) (by decide)
        unfold setW
        split
        · exact g (by simp)
        · exact g (by simp)
      · exact (shw_sm Sm.none).mono (by decide) (by decide)
    · exact st
  · exact st
theorem fault_shw {N : Nat} {v : D} {M : Nat} (hN : N ≤ 1000) (h : Shw M 100000 v) : Shw 2 200 (detFault N v) := by
  unfold detFault
  split
  · rename_i a es
    split
    · split
      · unfold endsFault
        split
        · rename_i s hs
          have hr := List.mem_range.mp (List.mem_of_find?_eq_some hs)
          have vt := all_mem (shw_tup (all_mem (shw_tup h) (.tuple es) (by simp))) _ (getD_mem hr)
          exact storm_shw (by omega) vt
        · exact (shw_sm Sm.none).mono (by decide) (by decide)
      · exact (wdC (by simp)).mono (m := 2) (by decide) (by decide)
    · exact (wdC (by simp)).mono (m := 2) (by decide) (by decide)
  · exact (wdC (by simp)).mono (m := 2) (by decide) (by decide)
theorem asc_len : ∀ (q : Row) (lo : Int), lo ≤ 6 → (∀ o ∈ q, o ≤ 5) → (∀ x, q.head? = some x → lo ≤ x) → Asc q → (q.length : Int) + lo ≤ 6
  | [], lo, h, _, _, _ => by simpa using h
  | [x], lo, _, h1, h2, _ => by
    have := h1 x (by simp)
    have := h2 x rfl
    simp
    omega
  | x :: y :: r, lo, _, h1, h2, h3 => by
    have e : ltE PyData.int x y = decide (x < y) := PySem.W.dataLt_int x y
    rw [Asc, adjB, Bool.and_eq_true, e] at h3
    have q0 := of_decide_eq_true h3.1
    have q1 := h1 x (by simp)
    have q2 := h2 x rfl
    have := asc_len (y :: r) (x + 1) (by omega) (fun o ho => h1 o (List.mem_cons_of_mem _ ho)) (fun z hz => by cases hz; omega) h3.2
    rw [List.length_cons]
    omega
theorem storm_none {sg : Int} {s d : D} (s1 : sg ≤ 6) (h : stormFault sg s d = .none) : ∃ f, d = famD f ∧ FamB f := by
  unfold stormFault at h
  split at h
  · rename_i fs
    split at h
    · rename_i hl
      unfold setsFault at h
      split at h
      · rename_i k hk
        have := setW_ne sg s fs k
        rw [h] at this
        cases this
      · rename_i hf
        have each : ∀ d ∈ fs, ∃ q : Row, d = rowD q ∧ (q.length ≤ 6 ∧ ∀ o ∈ q, 0 ≤ o ∧ o < 6) := fun d hd => by
          obtain ⟨i, hi, e⟩ := List.getElem_of_mem hd
          have eg : fs.getD i .none = d := by rw [List.getD_eq_getElem?_getD, List.getElem?_eq_getElem hi, e]; rfl
          have q' := find_all hf hi
          rw [badSet, eg, Bool.or_eq_false_iff] at q'
          obtain ⟨q, rfl, _, h2, h3⟩ := set_typed (by simpa using q'.1)
          refine ⟨q, rfl, ?_, fun o ho => by have := h2 o ho; omega⟩
          have := asc_len q 0 (by decide) (fun o ho => by have := h2 o ho; omega) (fun x hx => (h2 x (List.mem_of_mem_head? hx)).1) h3
          omega
        have back : ∀ es : List D, (∀ d ∈ es, d ∈ fs) → ∃ l : List Row, es = l.map rowD ∧ ∀ x ∈ l, x.length ≤ 6 ∧ ∀ o ∈ x, 0 ≤ o ∧ o < 6 := by
          intro es
          induction es with
          | nil => intro _; exact ⟨[], rfl, fun x hx => nomatch hx⟩
          | cons d es ih =>
            intro hs
            obtain ⟨l, e, hl⟩ := ih fun x hx => hs x (List.mem_cons_of_mem _ hx)
            obtain ⟨q, ep, hq⟩ := each d (hs d List.mem_cons_self)
            refine ⟨q :: l, by rw [e, ep, List.map_cons], fun x hx => ?_⟩
            rcases List.mem_cons.mp hx with rfl | hx
            · exact hq
            · exact hl x hx
        obtain ⟨l, e, hm⟩ := back fs fun _ h => h
        subst e
        rw [List.length_map] at hl
        exact ⟨l, rfl, hl.1, hl.2, hm⟩
    · cases h
  · cases h
theorem fault_none {N : Nat} {v : D} (n0 : 1 ≤ N) (n1 : N ≤ 10) (h : detFault N v = .none) : ∃ sg ends, v = detD sg ends ∧ DetB sg ends := by
  unfold detFault at h
  split at h
  · rename_i a es
    split at h
    · rename_i hw
      obtain ⟨ea, g1, g2⟩ := whole_int hw
      generalize asI a = sg at *
      subst ea
      split at h
      · rename_i hl
        have each : ∀ d ∈ es, ∃ f, d = famD f ∧ FamB f := fun d hd => by
          obtain ⟨i, hi, e⟩ := List.getElem_of_mem hd
          have eg : es.getD i .none = d := by rw [List.getD_eq_getElem?_getD, List.getElem?_eq_getElem hi, e]; rfl
          have ef : ∀ d : D, someFault d = false → d = .none := fun d => by cases d <;> simp [someFault]
          unfold endsFault at h
          split at h
          · rename_i s hs
            have q := List.find?_some hs
            simp only [h] at q
            cases q
          · rename_i hf
            have q := find_all hf hi
            rw [eg] at q
            exact storm_none g2 (ef _ q)
        have back : ∀ ds : List D, (∀ d ∈ ds, d ∈ es) → ∃ l : List (List Row), ds = l.map famD ∧ ∀ x ∈ l, FamB x := by
          intro ds
          induction ds with
          | nil => intro _; exact ⟨[], rfl, fun x hx => nomatch hx⟩
          | cons d ds ih =>
            intro hs
            obtain ⟨l, e, hl⟩ := ih fun x hx => hs x (List.mem_cons_of_mem _ hx)
            obtain ⟨q, ep, hq⟩ := each d (hs d List.mem_cons_self)
            refine ⟨q :: l, by rw [e, ep, List.map_cons], fun x hx => ?_⟩
            rcases List.mem_cons.mp hx with rfl | hx
            · exact hq
            · exact hl x hx
        obtain ⟨l, e, hm⟩ := back es fun _ h => h
        subst e
        rw [List.length_map] at hl
        exact ⟨sg, l, rfl, g1, g2, by omega, by omega, hm⟩
      · cases h
    · cases h
  · cases h
theorem skyF_of {s : Sky} (g : GoodW 10 s) : SkyF s := by
  have m0 := g.m0
  have m1 := g.m1
  exact ⟨⟨by omega, by omega, Nat.le_trans (sub_len g.b (by omega) m1) (by decide), Nat.le_trans g.le (by decide), fun x hx => Nat.le_trans (sub_len (g.r x hx).1 (by omega) m1) (by decide), fun x hx => Nat.le_trans (sub_len (g.r x hx).2 (by omega) m1) (by decide)⟩, g.le, m0, m1⟩
theorem shwi {o : Int} {m : Nat} (h0 : 0 ≤ o) (h1 : o < 8) : Shw m 4 (.int o) := (vwi h0 h1).shw.mono (Nat.zero_le _) (Nat.le_refl _)
theorem left_shw {s : Sky} (h : SkyF s) : ∀ r ∈ lefts s, r.length ≤ 6 ∧ ∀ o ∈ r, 0 ≤ o ∧ o < 6 := fun r hr => by
  obtain ⟨o, _, rfl⟩ := List.mem_map.mp hr
  exact left_six h _
theorem known_shw {w : Str} {s : Sky} (h : SkyF s) : Shw 5 2000 (knownD w s) := by
  have le := h.le
  have m0 := h.m0
  have m1 := h.m1
  have ll : (lefts s).length ≤ 10 := by rw [lefts, List.length_map, rng_len]; omega
  have pair : ∀ {o : Int} {x : D}, 0 ≤ o → o < 8 → Shw 4 1900 x → Shw 5 2000 (.tuple [.int o, x]) := fun h0 h1 h => (ShwAll.cons (w' := 1900) (shwi h0 h1) (ShwAll.cons (w' := 0) h ShwAll.nil)).tup.mono (by decide) (by decide)
  unfold knownD
  split
  · refine pair (by decide) (by decide) ?_
    have c : Shw 2 20 (.tuple [.tuple [.int 0]]) := ⟨by decide +kernel, by decide +kernel, by decide +kernel, by decide +kernel⟩
    exact (ShwAll.of (m := 2) (w := 20) (L := 10) (fun d hd => by rw [(List.mem_replicate.mp hd).2]; exact c) (by rw [List.length_replicate]; exact le)).tup.mono (by decide) (by decide)
  · split
    · refine pair (by omega) (by omega) ?_
      refine (ShwAll.of (m := 2) (w := 31) (L := 10) (fun d hd => ?_) (by rw [List.length_map]; exact ll)).tup.mono (by decide) (by decide)
      obtain ⟨r, hr, rfl⟩ := List.mem_map.mp hd
      have q := left_shw h r hr
      refine (ShwAll.of (m := 1) (w := 5) (L := 6) (fun d hd => ?_) (by rw [List.length_map]; exact q.1)).tup.mono (by decide) (by decide)
      obtain ⟨o, ho, rfl⟩ := List.mem_map.mp hd
      have := q.2 o ho
      exact (ShwAll.cons (m := 0) (w := 4) (w' := 0) (shwi (by omega) (by omega)) ShwAll.nil).tup
    · refine pair (by omega) (by omega) ?_
      refine (ShwAll.of (m := 2) (w := 31) (L := 10) (fun d hd => ?_) (by rw [List.length_map]; exact ll)).tup.mono (by decide) (by decide)
      obtain ⟨r, hr, rfl⟩ := List.mem_map.mp hd
      have q := left_shw h r hr
      exact (ShwAll.cons (m := 1) (w := 25) (w' := 0) (vwrB q).tup.shw ShwAll.nil).tup.mono (by decide) (by decide)
theorem told_shw {w : Str} {s : Sky} (h : SkyF s) : Shw 6 2100 (toldM w s) := by
  unfold toldM
  split
  · exact (ShwAll.cons (m := 5) (w := 60) (w' := 2000) (wdC (by simp)) (ShwAll.cons (w' := 0) (known_shw h) ShwAll.nil)).lst.mono (by decide) (by decide)
  · exact (ShwAll.cons (m := 5) (w := 60) (w' := 0) (wdC (by simp)) ShwAll.nil).lst.mono (by decide) (by decide)
end My
/-! the law k51 -/
namespace My
open PySem PySem.Spec L2 DL
def rlV : DTS := (sFor (iEn (dVar 9)) (gTp (gCons' (gNm 10) (gCons' (gNm 11) (gNil')))) (sSeq (sPar 12 13 (aCons (d1 gRepr (dVar 11)) (aCons (d1 gRepr (dCall fDtErr (rCons (dVar 4) (rCons (dVar 11) (rNil))))) (aNil)))) (sSeq (sSet 14 (dIf (dB (d2 gEq (dVar 10) (dVar 2))) (dCallK fDtErr 0 2 [1, 0] rNil (rCons (dVar 11) (rCons (dVar 4) (rNil)))) (dCall fDtErr (rCons (dVar 4) (rCons (dVar 11) (rNil)))))) (sSeq (sIf (dOr (dB (d2 gNe (d1 gRepr (dVar 14)) (dVar 13))) (dOr (dB (d2 gNe (d1 gRepr (dVar 11)) (dVar 12))) (dB (d2 gNe (d1 gRepr (dVar 4)) (dVar 6))))) (sRet (dC (.bool false))) (sNext)) (sIf (dAnd (dB (d2 gLt (dVar 10) (dC (.int 2)))) (dB (d2 gNe (d1 gRepr (dCall fDtErr (rCons (dVar 4) (rCons (dVar 11) (rNil))))) (dVar 13)))) (sRet (dC (.bool false))) (sNext))))))
def rlW : DTS := (sFor (iSeq (dTup (aCons (dC (.str "nothing")) (aCons (dC (.str "leader")) (aCons (dC (.str "left")) (aCons (dCall fOne (rRl 1 (rCons (dL (aSz (aCons (dC (.str "right")) (aCons (dC (.str "")) (aCons (dC (.str "Leader")) (aCons (dC (.str "nothing ")) (aCons (dC (.str "lefts")) (aNil)))))))) (rNil)))) (aNil))))))) (gNm 15) (sSeq (sSet 13 (d1 gRepr (dCall fKnownL (rCons (dVar 15) (rCons (dVar 4) (rNil)))))) (sSeq (sIf (dB (d2 gNe (d1 gRepr (dL (aSz (aCons (dCall fHeard (rCons (dVar 15) (rCons (dVar 4) (rCons (dC (.bool true)) (rNil))))) (aCons (dCall fHeard (rCons (dVar 15) (rCons (dVar 4) (rCons (dC (.bool false)) (rNil))))) (aNil)))))) (d1 gRepr (d2 gRep (dL (aSz (aCons (dCall fKnownL (rCons (dVar 15) (rCons (dVar 4) (rNil)))) (aNil)))) (dC (.int 2)))))) (sRet (dC (.bool false))) (sNext)) (sIf (dOr (dB (d2 gNe (d1 gRepr (dCall fHeard (rCons (dVar 15) (rCons (dVar 4) (rCons (d2 gEq (dVar 2) (dC (.int 0))) (rNil)))))) (dVar 13))) (dB (d2 gNe (d1 gRepr (dVar 4)) (dVar 6)))) (sRet (dC (.bool false))) (sNext)))))
def rlM : DTS := (sIf (dAnd (dB (d1 (gIsi "tuple") (dVar 8))) (dB (d2 gIs (dCall fDtErr (rCons (dVar 4) (rCons (dVar 8) (rNil)))) (dC .none)))) (sApp 9 (dCall fBent (rRl 1 (rCons (dVar 8) (rNil))))) (sNext))
def rl2 : DTS := (sSeq (sSet 8 (dCall fBent (rRl 1 (rCons (dVar 5) (rNil))))) (sSeq (sSetL 9 (aSz (aCons (dVar 5) (aCons (dVar 8) (aCons (dCall fOdd (rRl 1 (rNil))) (aCons (dCall fBent (rRl 1 (rCons (dVar 5) (rNil)))) (aCons (dTup (aCons (d2 gIx (dVar 5) (dC (.int 0))) (aCons (dCall fOdd (rRl 1 (rNil))) (aNil)))) (aNil)))))))) (sSeq rlM (sFrz 9 (sSeq rlV rlW)))))
def rl0 : DTS := (sSeq (sSet 4 (dCall fSky (rRl 1 (rCons (dCall fOne (rRl 1 (rCons (dL (aSz (aCons (dC (.int 1)) (aCons (dC (.int 2)) (aCons (dC (.int 3)) (aCons (dC (.int 3)) (aCons (dC (.int 4)) (aCons (dC (.int 5)) (aCons (dC (.int 6)) (aNil)))))))))) (rNil)))) (rCons (dVar 3) (rNil)))))) (sSeq (sPar 5 6 (aCons (dCall fDet (rRl 1 (rCons (dVar 4) (rCons (d2 gAdd (dC (.int 1)) (dCall fTake (rRl 1 (rCons (dC (.int 6)) (rNil))))) (rCons (dCall fOne (rRl 1 (rCons (dL (aSz (aCons (dC (.int 2)) (aCons (dC (.int 4)) (aCons (dC (.int 9)) (aNil)))))) (rNil)))) (rNil)))))) (aCons (d1 gRepr (dVar 4)) (aNil)))) (sSeq (sSet 5 (dTup (aCons (d2 gIx (dVar 5) (dC (.int 0))) (aCons (d1 gTuple (dL (dComp (iSeq (d2 gIx (dVar 5) (dC (.int 1)))) (gNm 7) (dYes) (dSl (dVar 7) (oNone) (oSome (dC (.int 6)))) [7]))) (aNil))))) rl2)))
def rl1 : DTS := (sSeq (sSet 3 (dIf (dB (d2 gEq (dCall fTake (rRl 1 (rCons (dC (.int 8)) (rNil)))) (dC (.int 0)))) (dC (.int 10)) (dC (.int 4)))) rl0)
structure Val (v : D) : Prop where
  shw : Shw 10 60000 v
  det : DetV v
theorem det_vw {m w : Nat} {v : D} (h : Vw m w v) (h1 : m ≤ 20 := by decide) (h2 : w ≤ 100000 := by decide) : DetV v := fun a es e => by
  subst e
  have q := (vwa_tup h).head
  obtain ⟨x, y, l, q1, q2⟩ := q
  obtain ⟨x2, y2, l2, q3, q4⟩ := q2.head
  exact ⟨q3.shw.mono h1 (by omega), q3.lay⟩
theorem enum_mem {x : D} : ∀ {ds : List D} {k : Nat}, x ∈ enumD k ds → ∃ (i : Int) (d : D), x = .tuple [.int i, d] ∧ d ∈ ds
  | [], _, h => by cases h
  | d :: ds, k, h => by
    rcases List.mem_cons.mp h with rfl | h
    · exact ⟨_, d, rfl, List.mem_cons_self⟩
    · obtain ⟨i, d', e, m⟩ := enum_mem h
      exact ⟨i, d', e, List.mem_cons_of_mem _ m⟩
theorem repr_ne {d : D} {m w : Nat} {X : Str} (h : Shw m w d) (hX : X = dshow d) {A B : Prop} (b : B) (hm : m ≤ 60 := by decide) (hw : w ≤ 200000 := by decide) :
    gRepr d fun x => gNe x (.str X) fun y => ∃ k, y = .bool k ∧ if k = true then A else B := by
  refine repr_shw h ?_ hm hw
  rw [y_neS, hX]
  exact ⟨_, rfl, by rw [decide_eq_true rfl]; exact ifc (fun h => absurd h (by decide)) fun _ => b⟩
theorem vwskyW {s : Sky} {k : Nat} (g : GoodW k s) (hk : k ≤ 10) : Vw 4 541 (skyD s) := by
  have m0 := g.m0
  have m1 := g.m1
  have a1 : Vw 3 511 (.tuple (s.st.map stD)) := (VwA.of (m := 2) (w := 51) (L := 10) (fun d hd => by
    obtain ⟨x, hx, rfl⟩ := List.mem_map.mp hd
    exact vws (g.r x hx).1 (g.r x hx).2 (by omega) m1) (by rw [List.length_map]; exact Nat.le_trans g.le hk)).tup
  have a2 : Vw 3 25 (rowD s.b) := (vwr g.b (by omega) m1).mono (by decide) (Nat.le_refl _)
  have a3 : Vw 3 4 (.int s.m) := (vwi (by omega) (by omega)).mono (by decide) (Nat.le_refl _)
  exact (VwA.cons (w' := 536) a3 (VwA.cons (w' := 511) a2 (VwA.cons (w' := 0) a1 VwA.nil))).tup
theorem stepV {z0 z3 z5 z7 z8 z10 z11 z12 z13 z14 z15 : Option DV} {t : Int} {s : Sky} {L : List D} {m : Nat} {E : DEnds} (g : GoodW 10 s) (hL : ∀ d ∈ L, Val d)
    (hN : ∀ z10 z11 z12 z13 z14, E.nx [z0, some .rl, some (.dat (.int t)), z3, some (.dat (skyD s)), z5, some (.dat (.str (dshow (skyD s)))), z7, z8, some (.dat (.list L)), z10, z11, z12, z13, z14, z15] m) :
    rlV E [z0, some .rl, some (.dat (.int t)), z3, some (.dat (skyD s)), z5, some (.dat (.str (dshow (skyD s)))), z7, z8, some (.dat (.list L)), z10, z11, z12, z13, z14, z15] m := by
  have g1 : ∀ x y : Ar, gP 0 2 [1, 0] [] [x, y] = [y, x] := fun _ _ => rfl
  have vs := (vwskyW g (Nat.le_refl _)).shw
  rw [rlV, x_for]
  show (iEn (dVar 9)) _ _ _
  refine .inl ⟨_, rfl, _, rfl, ?_⟩
  rw [← List.map_id (enumD 0 L)]
  refine forR_inv (e := id) (fun r δ m' => m' = m ∧ ∃ z10 z11 z12 z13 z14 : Option DV, δ = [z0, some .rl, some (.dat (.int t)), z3, some (.dat (skyD s)), z5, some (.dat (.str (dshow (skyD s)))), z7, z8, some (.dat (.list L)), z10, z11, z12, z13, z14, z15]) _ _ _ ⟨rfl, _, _, _, _, _, rfl⟩ (fun x r δ m' hx hI N hN2 => ?_) fun δ m' hI => ?_
  · obtain ⟨rfl, z10, z11, z12, z13, z14, rfl⟩ := hI
    obtain ⟨i, d, rfl, hd⟩ := enum_mem hx
    have v := hL d hd
    have f1 := fault_shw (N := s.st.length) (by have := g.le; omega) (v.shw.mono (Nat.le_refl _) (by decide))
    have de : ∀ {Q : D → Nat → Prop}, Q (detFault s.st.length d) m' → fDtErr [.d (skyD s), .d d] m' Q := fun q => ⟨s, d, rfl, by have := g.le; omega, v.det, q⟩
    simp only [id, x_var0, x_varS, x_own0, x_ownS, x_ixT, x_ixL, x_addI, x_addT, x_addL, x_gI, x_gIC, x_neg, x_abs, x_intI, x_intB, x_lenT, x_lenL, x_tupL, x_tupT, x_rep, x_seq, x_next, x_set, x_setL, x_par, x_asg, x_drop, x_app, x_ext, x_ret, x_retN, x_if, x_frz, x_for, x_bk, x_ct, x_d1, x_d2, x_dC, x_dL, x_tup, x_and, x_or, x_not, x_ife, x_dB, x_dTr, x_dNot, x_dAnd, x_dOr, x_yes, x_aC, x_aN, x_aSz, x_aRg, x_rg1, x_rg2, x_aList, x_aSort, x_aSl, x_dSl, x_aScr, x_scrLen, x_oN, x_oS, x_rN, x_rC, x_rRl, x_call, x_callB, x_callK, x_iSeq, x_iRg1, x_iRg2, x_iEn, x_gNm, x_gTp, x_gC, x_gN, x_gL, x_comp, startD, arD, wipeD, List.map_cons, List.map_nil, List.length_cons, List.length_nil, List.replicate_succ, List.replicate_zero, List.cons_append, List.nil_append, List.set_cons_succ, List.set_cons_zero, List.getElem?_cons_succ, List.getElem?_cons_zero, Option.some.injEq, PyData.int.injEq, PyData.bool.injEq, PyData.tuple.injEq, PyData.list.injEq, DV.dat.injEq, DV.own.injEq, exists_eq_left', exists_eq_left, exists_eq_right, exists_eq_right', exists_and_left, List.cons.injEq, and_true, true_and, atI0, atI1, atI2, atI3, atI4, atI5, Nat.sub_self, Nat.reduceSub, Nat.reduceAdd, Nat.reduceLT, if_true, if_false, Bool.false_eq_true, ↓reduceIte, Nat.zero_add, y_eqI, y_neI, y_neB, y_eqB, y_eqS, y_neS, y_ltI, y_gtI, y_leI, y_geI, y_inR, y_notInR, y_eqR, y_neR, y_lenR, y_tupR, row_tup, row_lst, tup_lst, lst_tup, false_and, and_false, exists_false, false_or, or_false, exists_const, atI_map, Option.map_some, decide_true, decide_false, Bool.not_true, Bool.not_false, eq_self, y_isB, DV.scr.injEq, x_chain, x_tRg, x_parEL, x_parLE, x_parLL, x_gLs, Nat.add_zero, x_par3, x_aSetSort, x_itL, x_itT, x_itR, x_slL, x_slT, x_lsE, x_parM, x_mN, x_mE, x_mL, x_sm0, x_smD, x_smO, x_iB0, x_iBS, x_idx, x_aSetSortI, x_setRg, x_iRgV, x_qSeq, x_qIf, x_qRet, x_qSet, x_qIfE, x_qRaise, x_qNil, x_qCons, x_qLst, x_qTup, x_callX, x_callKX, x_try, x_qRaise0, x_try0, x_qFor, g1]
    have fin : ∀ {c : Bool} {A B : Prop}, A → B → ((if c = true then A else B)) := fun a b => ifc (fun _ => a) fun _ => b
    refine repr_shw v.shw (de (repr_shw f1 ⟨_, _, ⟨rfl, rfl⟩, ?_⟩))
    refine fin ?_ ?_ <;> refine de (repr_ne f1 rfl (repr_ne v.shw rfl (repr_ne vs rfl (fin (de (repr_ne f1 rfl ?_)) ?_)))) <;> exact hN2 _ _ ⟨rfl, _, _, _, _, _, rfl⟩
  · obtain ⟨rfl, z10, z11, z12, z13, z14, rfl⟩ := hI
    exact hN _ _ _ _ _
theorem stepW {z0 z3 z5 z7 z8 z9 z10 z11 z12 z13 z14 z15 : Option DV} {t : Int} {s : Sky} {m : Nat} {E : DEnds} (g : GoodW 10 s) (hm : 10 ≤ m)
    (hN : ∀ z13 z15 m', m ≤ m' + 10 → E.nx [z0, some .rl, some (.dat (.int t)), z3, some (.dat (skyD s)), z5, some (.dat (.str (dshow (skyD s)))), z7, z8, z9, z10, z11, z12, z13, z14, z15] m') :
    rlW E [z0, some .rl, some (.dat (.int t)), z3, some (.dat (skyD s)), z5, some (.dat (.str (dshow (skyD s)))), z7, z8, z9, z10, z11, z12, z13, z14, z15] m := by
  have hs := skyF_of g
  have vs := (vwskyW g (Nat.le_refl _)).shw
  simp only [rlW, x_var0, x_varS, x_own0, x_ownS, x_ixT, x_ixL, x_addI, x_addT, x_addL, x_gI, x_gIC, x_neg, x_abs, x_intI, x_intB, x_lenT, x_lenL, x_tupL, x_tupT, x_rep, x_seq, x_next, x_set, x_setL, x_par, x_asg, x_drop, x_app, x_ext, x_ret, x_retN, x_if, x_frz, x_for, x_bk, x_ct, x_d1, x_d2, x_dC, x_dL, x_tup, x_and, x_or, x_not, x_ife, x_dB, x_dTr, x_dNot, x_dAnd, x_dOr, x_yes, x_aC, x_aN, x_aSz, x_aRg, x_rg1, x_rg2, x_aList, x_aSort, x_aSl, x_dSl, x_aScr, x_scrLen, x_oN, x_oS, x_rN, x_rC, x_rRl, x_call, x_callB, x_callK, x_iSeq, x_iRg1, x_iRg2, x_iEn, x_gNm, x_gTp, x_gC, x_gN, x_gL, x_comp, startD, arD, wipeD, List.map_cons, List.map_nil, List.length_cons, List.length_nil, List.replicate_succ, List.replicate_zero, List.cons_append, List.nil_append, List.set_cons_succ, List.set_cons_zero, List.getElem?_cons_succ, List.getElem?_cons_zero, Option.some.injEq, PyData.int.injEq, PyData.bool.injEq, PyData.tuple.injEq, PyData.list.injEq, DV.dat.injEq, DV.own.injEq, exists_eq_left', exists_eq_left, exists_eq_right, exists_eq_right', exists_and_left, List.cons.injEq, and_true, true_and, atI0, atI1, atI2, atI3, atI4, atI5, Nat.sub_self, Nat.reduceSub, Nat.reduceAdd, Nat.reduceLT, if_true, if_false, Bool.false_eq_true, ↓reduceIte, Nat.zero_add, y_eqI, y_neI, y_neB, y_eqB, y_eqS, y_neS, y_ltI, y_gtI, y_leI, y_geI, y_inR, y_notInR, y_eqR, y_neR, y_lenR, y_tupR, row_tup, row_lst, tup_lst, lst_tup, false_and, and_false, exists_false, false_or, or_false, exists_const, atI_map, Option.map_some, decide_true, decide_false, Bool.not_true, Bool.not_false, eq_self, y_isB, DV.scr.injEq, x_chain, x_tRg, x_parEL, x_parLE, x_parLL, x_gLs, Nat.add_zero, x_par3, x_aSetSort, x_itL, x_itT, x_itR, x_slL, x_slT, x_lsE, x_parM, x_mN, x_mE, x_mL, x_sm0, x_smD, x_smO, x_iB0, x_iBS, x_idx, x_aSetSortI, x_setRg, x_iRgV, x_qSeq, x_qIf, x_qRet, x_qSet, x_qIfE, x_qRaise, x_qNil, x_qCons, x_qLst, x_qTup, x_callX, x_callKX, x_try, x_qRaise0, x_try0, x_qFor]
  refine .inr ⟨by decide, _, _, rfl, .inl rfl, by simp, by simp, by omega, fun o ho => ⟨by decide, ?_⟩⟩
  obtain ⟨w4, rfl, hw4⟩ : ∃ w4 : Str, o = .str w4 ∧ w4 ∈ words8 := by
    simp only [List.mem_cons, List.not_mem_nil, or_false] at ho
    rcases ho with rfl | rfl | rfl | rfl | rfl
    · exact ⟨_, rfl, by simp [words8]⟩
    · exact ⟨_, rfl, by simp [words8]⟩
    · exact ⟨_, rfl, by simp [words8]⟩
    · exact ⟨_, rfl, by simp [words8]⟩
    · exact ⟨_, rfl, by simp [words8]⟩
  refine forR_inv (e := PyData.str) (fun r δ m' => m' = m - 1 ∧ ∃ z13 z15 : Option DV, δ = [z0, some .rl, some (.dat (.int t)), z3, some (.dat (skyD s)), z5, some (.dat (.str (dshow (skyD s)))), z7, z8, z9, z10, z11, z12, z13, z14, z15]) ["nothing", "leader", "left", w4] _ _ ⟨rfl, _, _, rfl⟩ (fun x r δ m' hx hI N hN2 => ?_) fun δ m' hI => ?_
  · obtain ⟨rfl, z13, z15, rfl⟩ := hI
    have hx8 : x ∈ words8 := by
      simp only [List.mem_cons, List.not_mem_nil, or_false] at hx
      rcases hx with rfl | rfl | rfl | rfl
      · simp [words8]
      · simp [words8]
      · simp [words8]
      · exact hw4
    have kn : ∀ {Q : D → Nat → Prop} {k : Nat}, Q (toldM x s) k → fKnownL [.d (.str x), .d (skyD s)] k Q := fun q => ⟨x, s, rfl, hx8, hs, q⟩
    have he : ∀ {Q : D → Nat → Prop} {k : Nat} {b : Bool}, Q (toldM x s) k → fHeard [.d (.str x), .d (skyD s), .d (.bool b)] k Q := fun {Q k b} q => ⟨x, s, b, rfl, hx8, hs, q⟩
    have f1 := told_shw (w := x) hs
    have f2 : Shw 7 4300 (.list [toldM x s, toldM x s]) := (ShwAll.cons (w' := 2100) f1 (ShwAll.cons (w' := 0) f1 ShwAll.nil)).lst.mono (by decide) (by decide)
    simp only [x_var0, x_varS, x_own0, x_ownS, x_ixT, x_ixL, x_addI, x_addT, x_addL, x_gI, x_gIC, x_neg, x_abs, x_intI, x_intB, x_lenT, x_lenL, x_tupL, x_tupT, x_rep, x_seq, x_next, x_set, x_setL, x_par, x_asg, x_drop, x_app, x_ext, x_ret, x_retN, x_if, x_frz, x_for, x_bk, x_ct, x_d1, x_d2, x_dC, x_dL, x_tup, x_and, x_or, x_not, x_ife, x_dB, x_dTr, x_dNot, x_dAnd, x_dOr, x_yes, x_aC, x_aN, x_aSz, x_aRg, x_rg1, x_rg2, x_aList, x_aSort, x_aSl, x_dSl, x_aScr, x_scrLen, x_oN, x_oS, x_rN, x_rC, x_rRl, x_call, x_callB, x_callK, x_iSeq, x_iRg1, x_iRg2, x_iEn, x_gNm, x_gTp, x_gC, x_gN, x_gL, x_comp, startD, arD, wipeD, List.map_cons, List.map_nil, List.length_cons, List.length_nil, List.replicate_succ, List.replicate_zero, List.cons_append, List.nil_append, List.set_cons_succ, List.set_cons_zero, List.getElem?_cons_succ, List.getElem?_cons_zero, Option.some.injEq, PyData.int.injEq, PyData.bool.injEq, PyData.tuple.injEq, PyData.list.injEq, DV.dat.injEq, DV.own.injEq, exists_eq_left', exists_eq_left, exists_eq_right, exists_eq_right', exists_and_left, List.cons.injEq, and_true, true_and, atI0, atI1, atI2, atI3, atI4, atI5, Nat.sub_self, Nat.reduceSub, Nat.reduceAdd, Nat.reduceLT, if_true, if_false, Bool.false_eq_true, ↓reduceIte, Nat.zero_add, y_eqI, y_neI, y_neB, y_eqB, y_eqS, y_neS, y_ltI, y_gtI, y_leI, y_geI, y_inR, y_notInR, y_eqR, y_neR, y_lenR, y_tupR, row_tup, row_lst, tup_lst, lst_tup, false_and, and_false, exists_false, false_or, or_false, exists_const, atI_map, Option.map_some, decide_true, decide_false, Bool.not_true, Bool.not_false, eq_self, y_isB, DV.scr.injEq, x_chain, x_tRg, x_parEL, x_parLE, x_parLL, x_gLs, Nat.add_zero, x_par3, x_aSetSort, x_itL, x_itT, x_itR, x_slL, x_slT, x_lsE, x_parM, x_mN, x_mE, x_mL, x_sm0, x_smD, x_smO, x_iB0, x_iBS, x_idx, x_aSetSortI, x_setRg, x_iRgV, x_qSeq, x_qIf, x_qRet, x_qSet, x_qIfE, x_qRaise, x_qNil, x_qCons, x_qLst, x_qTup, x_callX, x_callKX, x_try, x_qRaise0, x_try0, x_qFor]
    refine kn (repr_shw f1 (he (he ⟨by decide, repr_shw f2 (kn ⟨by decide, by decide, by decide, by decide, repr_ne f2 rfl ?_⟩)⟩)))
    exact he (repr_ne f1 rfl (repr_ne vs rfl (hN2 _ _ ⟨rfl, _, _, rfl⟩)))
  · obtain ⟨rfl, z13, z15, rfl⟩ := hI
    exact hN _ _ _ (by omega)
theorem val_vw {v : D} {m w : Nat} (h : Vw m w v) (h1 : m ≤ 10 := by decide) (h2 : w ≤ 60000 := by decide) : Val v := ⟨h.shw.mono h1 h2, det_vw h (Nat.le_trans h1 (by decide)) (Nat.le_trans h2 (by decide))⟩
theorem stepM {z0 z3 z5 z6 z7 z10 z11 z12 z13 z14 z15 : Option DV} {t : Int} {s : Sky} {bent : D} {L : List D} {m : Nat} {E : DEnds} (g : GoodW 10 s) (hb : Vw 7 9000 bent) (hl : L.length = 5) (hL : ∀ x ∈ L, Val x) (hm : 100 ≤ m)
    (hN : ∀ L' m', (∀ x ∈ L', Val x) → m ≤ m' + 20 → E.nx [z0, some .rl, some (.dat (.int t)), z3, some (.dat (skyD s)), z5, z6, z7, some (.dat bent), some (.own L'), z10, z11, z12, z13, z14, z15] m') :
    rlM E [z0, some .rl, some (.dat (.int t)), z3, some (.dat (skyD s)), z5, z6, z7, some (.dat bent), some (.own L), z10, z11, z12, z13, z14, z15] m := by
  have le := g.le
  simp only [rlM, x_var0, x_varS, x_own0, x_ownS, x_ixT, x_ixL, x_addI, x_addT, x_addL, x_gI, x_gIC, x_neg, x_abs, x_intI, x_intB, x_lenT, x_lenL, x_tupL, x_tupT, x_rep, x_seq, x_next, x_set, x_setL, x_par, x_asg, x_drop, x_app, x_ext, x_ret, x_retN, x_if, x_frz, x_for, x_bk, x_ct, x_d1, x_d2, x_dC, x_dL, x_tup, x_and, x_or, x_not, x_ife, x_dB, x_dTr, x_dNot, x_dAnd, x_dOr, x_yes, x_aC, x_aN, x_aSz, x_aRg, x_rg1, x_rg2, x_aList, x_aSort, x_aSl, x_dSl, x_aScr, x_scrLen, x_oN, x_oS, x_rN, x_rC, x_rRl, x_call, x_callB, x_callK, x_iSeq, x_iRg1, x_iRg2, x_iEn, x_gNm, x_gTp, x_gC, x_gN, x_gL, x_comp, startD, arD, wipeD, List.map_cons, List.map_nil, List.length_cons, List.length_nil, List.replicate_succ, List.replicate_zero, List.cons_append, List.nil_append, List.set_cons_succ, List.set_cons_zero, List.getElem?_cons_succ, List.getElem?_cons_zero, Option.some.injEq, PyData.int.injEq, PyData.bool.injEq, PyData.tuple.injEq, PyData.list.injEq, DV.dat.injEq, DV.own.injEq, exists_eq_left', exists_eq_left, exists_eq_right, exists_eq_right', exists_and_left, List.cons.injEq, and_true, true_and, atI0, atI1, atI2, atI3, atI4, atI5, Nat.sub_self, Nat.reduceSub, Nat.reduceAdd, Nat.reduceLT, if_true, if_false, Bool.false_eq_true, ↓reduceIte, Nat.zero_add, y_eqI, y_neI, y_neB, y_eqB, y_eqS, y_neS, y_ltI, y_gtI, y_leI, y_geI, y_inR, y_notInR, y_eqR, y_neR, y_lenR, y_tupR, row_tup, row_lst, tup_lst, lst_tup, false_and, and_false, exists_false, false_or, or_false, exists_const, atI_map, Option.map_some, decide_true, decide_false, Bool.not_true, Bool.not_false, eq_self, y_isB, DV.scr.injEq, x_chain, x_tRg, x_parEL, x_parLE, x_parLL, x_gLs, Nat.add_zero, x_par3, x_aSetSort, x_itL, x_itT, x_itR, x_slL, x_slT, x_lsE, x_parM, x_mN, x_mE, x_mL, x_sm0, x_smD, x_smO, x_iB0, x_iBS, x_idx, x_aSetSortI, x_setRg, x_iRgV, x_qSeq, x_qIf, x_qRet, x_qSet, x_qIfE, x_qRaise, x_qNil, x_qCons, x_qLst, x_qTup, x_callX, x_callKX, x_try, x_qRaise0, x_try0, x_qFor]
  cases bent with
  | tuple xs =>
    refine isi (c := true) (by simp only [tyName]; decide) ⟨true, rfl, ?_⟩
    rw [if_pos rfl]
    refine ⟨s, .tuple xs, rfl, by omega, det_vw hb, ?_⟩
    by_cases hf : detFault s.st.length (.tuple xs) = .none
    · rw [hf]
      refine ⟨true, rfl, _, rfl, ?_⟩
      rw [if_pos rfl]
      obtain ⟨sg, ends, e, d2⟩ := fault_none g.pos le hf
      rw [e]
      refine ⟨smallLt _ (by omega), sg, ends, rfl, d2, by omega, fun x m2 hx hm2 => ?_⟩
      rw [← e]
      refine hN _ _ (fun y hy => ?_) (by omega)
      rcases List.mem_append.mp hy with hy | hy
      · exact hL y hy
      · rw [List.mem_singleton.mp hy]; exact val_vw hx
    · have hi : dIs (detFault s.st.length (.tuple xs)) .none = some false := by
        cases e : detFault s.st.length (.tuple xs) with
        | none => exact absurd e hf
        | _ => rfl
      refine ⟨false, hi, _, rfl, ?_⟩
      rw [if_neg (by decide)]
      exact hN _ _ hL (by omega)
  | _ =>
    refine isi (c := false) (by simp only [tyName]; decide) ⟨false, rfl, ?_⟩
    rw [if_neg (by decide)]
    exact hN _ _ hL (by omega)
theorem step2 {z0 z3 z7 z8 z9 z10 z11 z12 z13 z14 z15 : Option DV} {t : Int} {s : Sky} {sg : Int} {ends : List (List Row)} {m : Nat} {E : DEnds} (g : GoodW 10 s) (gb : DetB sg ends) (hm : 1000 ≤ m)
    (hN : ∀ z8 z9 z10 z11 z12 z13 z14 z15 m', m ≤ m' + 500 → E.nx [z0, some .rl, some (.dat (.int t)), z3, some (.dat (skyD s)), some (.dat (detD sg ends)), some (.dat (.str (dshow (skyD s)))), z7, z8, z9, z10, z11, z12, z13, z14, z15] m') :
    rl2 E [z0, some .rl, some (.dat (.int t)), z3, some (.dat (skyD s)), some (.dat (detD sg ends)), some (.dat (.str (dshow (skyD s)))), z7, z8, z9, z10, z11, z12, z13, z14, z15] m := by
  have d0 : ∀ P : D → Prop, gIx (detD sg ends) (.int 0) P = P (.int sg) := fun P => by simp only [detD, x_var0, x_varS, x_own0, x_ownS, x_ixT, x_ixL, x_addI, x_addT, x_addL, x_gI, x_gIC, x_neg, x_abs, x_intI, x_intB, x_lenT, x_lenL, x_tupL, x_tupT, x_rep, x_seq, x_next, x_set, x_setL, x_par, x_asg, x_drop, x_app, x_ext, x_ret, x_retN, x_if, x_frz, x_for, x_bk, x_ct, x_d1, x_d2, x_dC, x_dL, x_tup, x_and, x_or, x_not, x_ife, x_dB, x_dTr, x_dNot, x_dAnd, x_dOr, x_yes, x_aC, x_aN, x_aSz, x_aRg, x_rg1, x_rg2, x_aList, x_aSort, x_aSl, x_dSl, x_aScr, x_scrLen, x_oN, x_oS, x_rN, x_rC, x_rRl, x_call, x_callB, x_callK, x_iSeq, x_iRg1, x_iRg2, x_iEn, x_gNm, x_gTp, x_gC, x_gN, x_gL, x_comp, startD, arD, wipeD, List.map_cons, List.map_nil, List.length_cons, List.length_nil, List.replicate_succ, List.replicate_zero, List.cons_append, List.nil_append, List.set_cons_succ, List.set_cons_zero, List.getElem?_cons_succ, List.getElem?_cons_zero, Option.some.injEq, PyData.int.injEq, PyData.bool.injEq, PyData.tuple.injEq, PyData.list.injEq, DV.dat.injEq, DV.own.injEq, exists_eq_left', exists_eq_left, exists_eq_right, exists_eq_right', exists_and_left, List.cons.injEq, and_true, true_and, atI0, atI1, atI2, atI3, atI4, atI5, Nat.sub_self, Nat.reduceSub, Nat.reduceAdd, Nat.reduceLT, if_true, if_false, Bool.false_eq_true, ↓reduceIte, Nat.zero_add, y_eqI, y_neI, y_neB, y_eqB, y_eqS, y_neS, y_ltI, y_gtI, y_leI, y_geI, y_inR, y_notInR, y_eqR, y_neR, y_lenR, y_tupR, row_tup, row_lst, tup_lst, lst_tup, false_and, and_false, exists_false, false_or, or_false, exists_const, atI_map, Option.map_some, decide_true, decide_false, Bool.not_true, Bool.not_false, eq_self, y_isB, DV.scr.injEq, x_chain, x_tRg, x_parEL, x_parLE, x_parLL, x_gLs, Nat.add_zero, x_par3, x_aSetSort, x_itL, x_itT, x_itR, x_slL, x_slT, x_lsE, x_parM, x_mN, x_mE, x_mL, x_sm0, x_smD, x_smO, x_iB0, x_iBS, x_idx, x_aSetSortI, x_setRg, x_iRgV, x_qSeq, x_qIf, x_qRet, x_qSet, x_qIfE, x_qRaise, x_qNil, x_qCons, x_qLst, x_qTup, x_callX, x_callKX, x_try, x_qRaise0, x_try0, x_qFor]
  simp only [rl2, d0, x_var0, x_varS, x_own0, x_ownS, x_ixT, x_ixL, x_addI, x_addT, x_addL, x_gI, x_gIC, x_neg, x_abs, x_intI, x_intB, x_lenT, x_lenL, x_tupL, x_tupT, x_rep, x_seq, x_next, x_set, x_setL, x_par, x_asg, x_drop, x_app, x_ext, x_ret, x_retN, x_if, x_frz, x_for, x_bk, x_ct, x_d1, x_d2, x_dC, x_dL, x_tup, x_and, x_or, x_not, x_ife, x_dB, x_dTr, x_dNot, x_dAnd, x_dOr, x_yes, x_aC, x_aN, x_aSz, x_aRg, x_rg1, x_rg2, x_aList, x_aSort, x_aSl, x_dSl, x_aScr, x_scrLen, x_oN, x_oS, x_rN, x_rC, x_rRl, x_call, x_callB, x_callK, x_iSeq, x_iRg1, x_iRg2, x_iEn, x_gNm, x_gTp, x_gC, x_gN, x_gL, x_comp, startD, arD, wipeD, List.map_cons, List.map_nil, List.length_cons, List.length_nil, List.replicate_succ, List.replicate_zero, List.cons_append, List.nil_append, List.set_cons_succ, List.set_cons_zero, List.getElem?_cons_succ, List.getElem?_cons_zero, Option.some.injEq, PyData.int.injEq, PyData.bool.injEq, PyData.tuple.injEq, PyData.list.injEq, DV.dat.injEq, DV.own.injEq, exists_eq_left', exists_eq_left, exists_eq_right, exists_eq_right', exists_and_left, List.cons.injEq, and_true, true_and, atI0, atI1, atI2, atI3, atI4, atI5, Nat.sub_self, Nat.reduceSub, Nat.reduceAdd, Nat.reduceLT, if_true, if_false, Bool.false_eq_true, ↓reduceIte, Nat.zero_add, y_eqI, y_neI, y_neB, y_eqB, y_eqS, y_neS, y_ltI, y_gtI, y_leI, y_geI, y_inR, y_notInR, y_eqR, y_neR, y_lenR, y_tupR, row_tup, row_lst, tup_lst, lst_tup, false_and, and_false, exists_false, false_or, or_false, exists_const, atI_map, Option.map_some, decide_true, decide_false, Bool.not_true, Bool.not_false, eq_self, y_isB, DV.scr.injEq, x_chain, x_tRg, x_parEL, x_parLE, x_parLL, x_gLs, Nat.add_zero, x_par3, x_aSetSort, x_itL, x_itT, x_itR, x_slL, x_slT, x_lsE, x_parM, x_mN, x_mE, x_mL, x_sm0, x_smD, x_smO, x_iB0, x_iBS, x_idx, x_aSetSortI, x_setRg, x_iRgV, x_qSeq, x_qIf, x_qRet, x_qSet, x_qIfE, x_qRaise, x_qNil, x_qCons, x_qLst, x_qTup, x_callX, x_callKX, x_try, x_qRaise0, x_try0, x_qFor]
  have s0 := gb.s0
  have s1 := gb.s1
  have vi : Vw 6 41 (.int sg) := vw_i5 (by omega)
  have vd : Vw 4 1600 (detD sg ends) := (VwA.cons (w' := 1511) (vi.mono (m' := 6) (Nat.le_refl _) (Nat.le_refl _) |> fun _ => (vw_i5 (m := 3) (by omega))) (VwA.cons (w' := 0) (vweB gb).tup VwA.nil)).tup.mono (by decide) (by decide)
  refine ⟨sg, ends, rfl, gb, by omega, fun bent m1 hb hm1 => ⟨rfl, by omega, fun o1 ho1 hv1 => ⟨sg, ends, rfl, gb, by omega, fun v2 m2 hv hm2 => ⟨rfl, by omega, fun o2 ho2 hv2 => ⟨by decide, by decide, ?_⟩⟩⟩⟩⟩
  refine stepM g hb rfl (fun x hx => ?_) (by omega) fun L m4 hL hm4 => ?_
  · simp only [List.mem_cons, List.not_mem_nil, or_false] at hx
    rcases hx with rfl | rfl | rfl | rfl | rfl
    · exact val_vw vd
    · exact val_vw hb
    · exact ⟨ho1.mono (by decide) (by decide), fun a es e => det_vw (hv1 _ e) (by decide) (by decide) a es e⟩
    · exact val_vw hv
    · refine ⟨(ShwAll.cons (w' := 5000) vi.shw (ShwAll.cons (w' := 0) ho2 ShwAll.nil)).tup.mono (by decide) (by decide), fun a es e => ?_⟩
      have e2 : o2 = .tuple es := by simpa using congrArg (fun d => match d with | .tuple [_, b] => b | d => d) e
      rw [← e2]
      exact (hv2 _ e2).vis
  · show sFrz 9 _ _ _ _
    simp only [x_var0, x_varS, x_own0, x_ownS, x_ixT, x_ixL, x_addI, x_addT, x_addL, x_gI, x_gIC, x_neg, x_abs, x_intI, x_intB, x_lenT, x_lenL, x_tupL, x_tupT, x_rep, x_seq, x_next, x_set, x_setL, x_par, x_asg, x_drop, x_app, x_ext, x_ret, x_retN, x_if, x_frz, x_for, x_bk, x_ct, x_d1, x_d2, x_dC, x_dL, x_tup, x_and, x_or, x_not, x_ife, x_dB, x_dTr, x_dNot, x_dAnd, x_dOr, x_yes, x_aC, x_aN, x_aSz, x_aRg, x_rg1, x_rg2, x_aList, x_aSort, x_aSl, x_dSl, x_aScr, x_scrLen, x_oN, x_oS, x_rN, x_rC, x_rRl, x_call, x_callB, x_callK, x_iSeq, x_iRg1, x_iRg2, x_iEn, x_gNm, x_gTp, x_gC, x_gN, x_gL, x_comp, startD, arD, wipeD, List.map_cons, List.map_nil, List.length_cons, List.length_nil, List.replicate_succ, List.replicate_zero, List.cons_append, List.nil_append, List.set_cons_succ, List.set_cons_zero, List.getElem?_cons_succ, List.getElem?_cons_zero, Option.some.injEq, PyData.int.injEq, PyData.bool.injEq, PyData.tuple.injEq, PyData.list.injEq, DV.dat.injEq, DV.own.injEq, exists_eq_left', exists_eq_left, exists_eq_right, exists_eq_right', exists_and_left, List.cons.injEq, and_true, true_and, atI0, atI1, atI2, atI3, atI4, atI5, Nat.sub_self, Nat.reduceSub, Nat.reduceAdd, Nat.reduceLT, if_true, if_false, Bool.false_eq_true, ↓reduceIte, Nat.zero_add, y_eqI, y_neI, y_neB, y_eqB, y_eqS, y_neS, y_ltI, y_gtI, y_leI, y_geI, y_inR, y_notInR, y_eqR, y_neR, y_lenR, y_tupR, row_tup, row_lst, tup_lst, lst_tup, false_and, and_false, exists_false, false_or, or_false, exists_const, atI_map, Option.map_some, decide_true, decide_false, Bool.not_true, Bool.not_false, eq_self, y_isB, DV.scr.injEq, x_chain, x_tRg, x_parEL, x_parLE, x_parLL, x_gLs, Nat.add_zero, x_par3, x_aSetSort, x_itL, x_itT, x_itR, x_slL, x_slT, x_lsE, x_parM, x_mN, x_mE, x_mL, x_sm0, x_smD, x_smO, x_iB0, x_iBS, x_idx, x_aSetSortI, x_setRg, x_iRgV, x_qSeq, x_qIf, x_qRet, x_qSet, x_qIfE, x_qRaise, x_qNil, x_qCons, x_qLst, x_qTup, x_callX, x_callKX, x_try, x_qRaise0, x_try0, x_qFor]
    refine stepV g hL fun z10 z11 z12 z13 z14 => ?_
    exact stepW g (by omega) fun z13 z15 m5 hm5 => hN _ _ _ _ _ _ _ _ _ (by omega)
theorem step0 {z0 z4 z5 z6 z8 z9 z10 z11 z12 z13 z14 z15 : Option DV} {t : Int} {K : Nat} {m : Nat} {E : DEnds} (k0 : 1 ≤ K) (k1 : K ≤ 10) (hm : 9000 ≤ m)
    (hN : ∀ z4 z5 z6 z8 z9 z10 z11 z12 z13 z14 z15 m', m ≤ m' + 7000 → E.nx [z0, some .rl, some (.dat (.int t)), some (.dat (.int K)), z4, z5, z6, none, z8, z9, z10, z11, z12, z13, z14, z15] m') :
    rl0 E [z0, some .rl, some (.dat (.int t)), some (.dat (.int K)), z4, z5, z6, none, z8, z9, z10, z11, z12, z13, z14, z15] m := by
  simp only [rl0, x_var0, x_varS, x_own0, x_ownS, x_ixT, x_ixL, x_addI, x_addT, x_addL, x_gI, x_gIC, x_neg, x_abs, x_intI, x_intB, x_lenT, x_lenL, x_tupL, x_tupT, x_rep, x_seq, x_next, x_set, x_setL, x_par, x_asg, x_drop, x_app, x_ext, x_ret, x_retN, x_if, x_frz, x_for, x_bk, x_ct, x_d1, x_d2, x_dC, x_dL, x_tup, x_and, x_or, x_not, x_ife, x_dB, x_dTr, x_dNot, x_dAnd, x_dOr, x_yes, x_aC, x_aN, x_aSz, x_aRg, x_rg1, x_rg2, x_aList, x_aSort, x_aSl, x_dSl, x_aScr, x_scrLen, x_oN, x_oS, x_rN, x_rC, x_rRl, x_call, x_callB, x_callK, x_iSeq, x_iRg1, x_iRg2, x_iEn, x_gNm, x_gTp, x_gC, x_gN, x_gL, x_comp, startD, arD, wipeD, List.map_cons, List.map_nil, List.length_cons, List.length_nil, List.replicate_succ, List.replicate_zero, List.cons_append, List.nil_append, List.set_cons_succ, List.set_cons_zero, List.getElem?_cons_succ, List.getElem?_cons_zero, Option.some.injEq, PyData.int.injEq, PyData.bool.injEq, PyData.tuple.injEq, PyData.list.injEq, DV.dat.injEq, DV.own.injEq, exists_eq_left', exists_eq_left, exists_eq_right, exists_eq_right', exists_and_left, List.cons.injEq, and_true, true_and, atI0, atI1, atI2, atI3, atI4, atI5, Nat.sub_self, Nat.reduceSub, Nat.reduceAdd, Nat.reduceLT, if_true, if_false, Bool.false_eq_true, ↓reduceIte, Nat.zero_add, y_eqI, y_neI, y_neB, y_eqB, y_eqS, y_neS, y_ltI, y_gtI, y_leI, y_geI, y_inR, y_notInR, y_eqR, y_neR, y_lenR, y_tupR, row_tup, row_lst, tup_lst, lst_tup, false_and, and_false, exists_false, false_or, or_false, exists_const, atI_map, Option.map_some, decide_true, decide_false, Bool.not_true, Bool.not_false, eq_self, y_isB, DV.scr.injEq, x_chain, x_tRg, x_parEL, x_parLE, x_parLL, x_gLs, Nat.add_zero, x_par3, x_aSetSort, x_itL, x_itT, x_itR, x_slL, x_slT, x_lsE, x_parM, x_mN, x_mE, x_mL, x_sm0, x_smD, x_smO, x_iB0, x_iBS, x_idx, x_aSetSortI, x_setRg, x_iRgV, x_qSeq, x_qIf, x_qRet, x_qSet, x_qIfE, x_qRaise, x_qNil, x_qCons, x_qLst, x_qTup, x_callX, x_callKX, x_try, x_qRaise0, x_try0, x_qFor]
  refine ⟨by decide, _, _, rfl, .inl rfl, by simp, by simp, by omega, fun o ho => ?_⟩
  obtain ⟨j, rfl, j0, j1⟩ : ∃ j : Int, o = .int j ∧ 1 ≤ j ∧ j ≤ 6 := by
    simp only [List.mem_cons, List.not_mem_nil, or_false] at ho
    rcases ho with rfl | rfl | rfl | rfl | rfl | rfl | rfl <;> exact ⟨_, rfl, by decide, by decide⟩
  refine ⟨j, K, rfl, j0, j1, k0, k1, by omega, fun s m1 sm g hm1 => ⟨6, rfl, by decide, by omega, fun b b0 b1 => ?_⟩⟩
  have g : GoodW 10 s := ⟨g.m0, g.m1, g.b, g.pos, Nat.le_trans g.le k1, g.r, g.asc⟩
  show gAdd (.int 1) (.int b) _
  rw [x_addI]
  refine ⟨by decide, _, _, rfl, .inl rfl, by simp, by simp, by omega, fun o ho => ?_⟩
  obtain ⟨q, rfl, q0, q1⟩ : ∃ q : Nat, o = .int q ∧ 1 ≤ q ∧ q ≤ 9 := by
    simp only [List.mem_cons, List.not_mem_nil, or_false] at ho
    rcases ho with rfl | rfl | rfl
    · exact ⟨2, rfl, by decide, by decide⟩
    · exact ⟨4, rfl, by decide, by decide⟩
    · exact ⟨9, rfl, by decide, by decide⟩
  refine ⟨s, 1 + b, q, rfl, g.le, by omega, by omega, q0, q1, by omega, fun ends m2 ge hm2 => repr_shw (vwskyW g (Nat.le_refl _)).shw ⟨_, _, ⟨rfl, rfl⟩, ?_⟩⟩
  have s0 : 1 ≤ 1 + b := by omega
  have s1 : 1 + b ≤ 6 := by omega
  generalize 1 + b = sg at *
  have d0 : ∀ P : D → Prop, gIx (detD sg ends) (.int 0) P = P (.int sg) := fun P => by simp only [detD, x_var0, x_varS, x_own0, x_ownS, x_ixT, x_ixL, x_addI, x_addT, x_addL, x_gI, x_gIC, x_neg, x_abs, x_intI, x_intB, x_lenT, x_lenL, x_tupL, x_tupT, x_rep, x_seq, x_next, x_set, x_setL, x_par, x_asg, x_drop, x_app, x_ext, x_ret, x_retN, x_if, x_frz, x_for, x_bk, x_ct, x_d1, x_d2, x_dC, x_dL, x_tup, x_and, x_or, x_not, x_ife, x_dB, x_dTr, x_dNot, x_dAnd, x_dOr, x_yes, x_aC, x_aN, x_aSz, x_aRg, x_rg1, x_rg2, x_aList, x_aSort, x_aSl, x_dSl, x_aScr, x_scrLen, x_oN, x_oS, x_rN, x_rC, x_rRl, x_call, x_callB, x_callK, x_iSeq, x_iRg1, x_iRg2, x_iEn, x_gNm, x_gTp, x_gC, x_gN, x_gL, x_comp, startD, arD, wipeD, List.map_cons, List.map_nil, List.length_cons, List.length_nil, List.replicate_succ, List.replicate_zero, List.cons_append, List.nil_append, List.set_cons_succ, List.set_cons_zero, List.getElem?_cons_succ, List.getElem?_cons_zero, Option.some.injEq, PyData.int.injEq, PyData.bool.injEq, PyData.tuple.injEq, PyData.list.injEq, DV.dat.injEq, DV.own.injEq, exists_eq_left', exists_eq_left, exists_eq_right, exists_eq_right', exists_and_left, List.cons.injEq, and_true, true_and, atI0, atI1, atI2, atI3, atI4, atI5, Nat.sub_self, Nat.reduceSub, Nat.reduceAdd, Nat.reduceLT, if_true, if_false, Bool.false_eq_true, ↓reduceIte, Nat.zero_add, y_eqI, y_neI, y_neB, y_eqB, y_eqS, y_neS, y_ltI, y_gtI, y_leI, y_geI, y_inR, y_notInR, y_eqR, y_neR, y_lenR, y_tupR, row_tup, row_lst, tup_lst, lst_tup, false_and, and_false, exists_false, false_or, or_false, exists_const, atI_map, Option.map_some, decide_true, decide_false, Bool.not_true, Bool.not_false, eq_self, y_isB, DV.scr.injEq, x_chain, x_tRg, x_parEL, x_parLE, x_parLL, x_gLs, Nat.add_zero, x_par3, x_aSetSort, x_itL, x_itT, x_itR, x_slL, x_slT, x_lsE, x_parM, x_mN, x_mE, x_mL, x_sm0, x_smD, x_smO, x_iB0, x_iBS, x_idx, x_aSetSortI, x_setRg, x_iRgV, x_qSeq, x_qIf, x_qRet, x_qSet, x_qIfE, x_qRaise, x_qNil, x_qCons, x_qLst, x_qTup, x_callX, x_callKX, x_try, x_qRaise0, x_try0, x_qFor]
  have d1 : ∀ P : D → Prop, gIx (detD sg ends) (.int 1) P = P (.tuple (ends.map famD)) := fun P => by simp only [detD, x_var0, x_varS, x_own0, x_ownS, x_ixT, x_ixL, x_addI, x_addT, x_addL, x_gI, x_gIC, x_neg, x_abs, x_intI, x_intB, x_lenT, x_lenL, x_tupL, x_tupT, x_rep, x_seq, x_next, x_set, x_setL, x_par, x_asg, x_drop, x_app, x_ext, x_ret, x_retN, x_if, x_frz, x_for, x_bk, x_ct, x_d1, x_d2, x_dC, x_dL, x_tup, x_and, x_or, x_not, x_ife, x_dB, x_dTr, x_dNot, x_dAnd, x_dOr, x_yes, x_aC, x_aN, x_aSz, x_aRg, x_rg1, x_rg2, x_aList, x_aSort, x_aSl, x_dSl, x_aScr, x_scrLen, x_oN, x_oS, x_rN, x_rC, x_rRl, x_call, x_callB, x_callK, x_iSeq, x_iRg1, x_iRg2, x_iEn, x_gNm, x_gTp, x_gC, x_gN, x_gL, x_comp, startD, arD, wipeD, List.map_cons, List.map_nil, List.length_cons, List.length_nil, List.replicate_succ, List.replicate_zero, List.cons_append, List.nil_append, List.set_cons_succ, List.set_cons_zero, List.getElem?_cons_succ, List.getElem?_cons_zero, Option.some.injEq, PyData.int.injEq, PyData.bool.injEq, PyData.tuple.injEq, PyData.list.injEq, DV.dat.injEq, DV.own.injEq, exists_eq_left', exists_eq_left, exists_eq_right, exists_eq_right', exists_and_left, List.cons.injEq, and_true, true_and, atI0, atI1, atI2, atI3, atI4, atI5, Nat.sub_self, Nat.reduceSub, Nat.reduceAdd, Nat.reduceLT, if_true, if_false, Bool.false_eq_true, ↓reduceIte, Nat.zero_add, y_eqI, y_neI, y_neB, y_eqB, y_eqS, y_neS, y_ltI, y_gtI, y_leI, y_geI, y_inR, y_notInR, y_eqR, y_neR, y_lenR, y_tupR, row_tup, row_lst, tup_lst, lst_tup, false_and, and_false, exists_false, false_or, or_false, exists_const, atI_map, Option.map_some, decide_true, decide_false, Bool.not_true, Bool.not_false, eq_self, y_isB, DV.scr.injEq, x_chain, x_tRg, x_parEL, x_parLE, x_parLL, x_gLs, Nat.add_zero, x_par3, x_aSetSort, x_itL, x_itT, x_itR, x_slL, x_slT, x_lsE, x_parM, x_mN, x_mE, x_mL, x_sm0, x_smD, x_smO, x_iB0, x_iBS, x_idx, x_aSetSortI, x_setRg, x_iRgV, x_qSeq, x_qIf, x_qRet, x_qSet, x_qIfE, x_qRaise, x_qNil, x_qCons, x_qLst, x_qTup, x_callX, x_callKX, x_try, x_qRaise0, x_try0, x_qFor]
  simp only [d0, d1, x_var0, x_varS, x_own0, x_ownS, x_ixT, x_ixL, x_addI, x_addT, x_addL, x_gI, x_gIC, x_neg, x_abs, x_intI, x_intB, x_lenT, x_lenL, x_tupL, x_tupT, x_rep, x_seq, x_next, x_set, x_setL, x_par, x_asg, x_drop, x_app, x_ext, x_ret, x_retN, x_if, x_frz, x_for, x_bk, x_ct, x_d1, x_d2, x_dC, x_dL, x_tup, x_and, x_or, x_not, x_ife, x_dB, x_dTr, x_dNot, x_dAnd, x_dOr, x_yes, x_aC, x_aN, x_aSz, x_aRg, x_rg1, x_rg2, x_aList, x_aSort, x_aSl, x_dSl, x_aScr, x_scrLen, x_oN, x_oS, x_rN, x_rC, x_rRl, x_call, x_callB, x_callK, x_iSeq, x_iRg1, x_iRg2, x_iEn, x_gNm, x_gTp, x_gC, x_gN, x_gL, x_comp, startD, arD, wipeD, List.map_cons, List.map_nil, List.length_cons, List.length_nil, List.replicate_succ, List.replicate_zero, List.cons_append, List.nil_append, List.set_cons_succ, List.set_cons_zero, List.getElem?_cons_succ, List.getElem?_cons_zero, Option.some.injEq, PyData.int.injEq, PyData.bool.injEq, PyData.tuple.injEq, PyData.list.injEq, DV.dat.injEq, DV.own.injEq, exists_eq_left', exists_eq_left, exists_eq_right, exists_eq_right', exists_and_left, List.cons.injEq, and_true, true_and, atI0, atI1, atI2, atI3, atI4, atI5, Nat.sub_self, Nat.reduceSub, Nat.reduceAdd, Nat.reduceLT, if_true, if_false, Bool.false_eq_true, ↓reduceIte, Nat.zero_add, y_eqI, y_neI, y_neB, y_eqB, y_eqS, y_neS, y_ltI, y_gtI, y_leI, y_geI, y_inR, y_notInR, y_eqR, y_neR, y_lenR, y_tupR, row_tup, row_lst, tup_lst, lst_tup, false_and, and_false, exists_false, false_or, or_false, exists_const, atI_map, Option.map_some, decide_true, decide_false, Bool.not_true, Bool.not_false, eq_self, y_isB, DV.scr.injEq, x_chain, x_tRg, x_parEL, x_parLE, x_parLL, x_gLs, Nat.add_zero, x_par3, x_aSetSort, x_itL, x_itT, x_itR, x_slL, x_slT, x_lsE, x_parM, x_mN, x_mE, x_mL, x_sm0, x_smD, x_smO, x_iB0, x_iBS, x_idx, x_aSetSortI, x_setRg, x_iRgV, x_qSeq, x_qIf, x_qRet, x_qSet, x_qIfE, x_qRaise, x_qNil, x_qCons, x_qLst, x_qTup, x_callX, x_callKX, x_try, x_qRaise0, x_try0, x_qFor]
  have e : ends.map (fun x => famD (x.take 6)) = (ends.map fun x => x.take 6).map famD := by rw [List.map_map]; rfl
  have len : ends.length = s.st.length := ge.len
  have gl := g.le
  have gp := g.pos
  refine ⟨rfl, sz _ (by rw [List.length_map]; omega), compR_each (fun x => famD (x.take 6)) _ _ (fun x hx A B ha => ?_) ⟨by decide, ?_⟩⟩
  · simp only [x_var0, x_varS, x_own0, x_ownS, x_ixT, x_ixL, x_addI, x_addT, x_addL, x_gI, x_gIC, x_neg, x_abs, x_intI, x_intB, x_lenT, x_lenL, x_tupL, x_tupT, x_rep, x_seq, x_next, x_set, x_setL, x_par, x_asg, x_drop, x_app, x_ext, x_ret, x_retN, x_if, x_frz, x_for, x_bk, x_ct, x_d1, x_d2, x_dC, x_dL, x_tup, x_and, x_or, x_not, x_ife, x_dB, x_dTr, x_dNot, x_dAnd, x_dOr, x_yes, x_aC, x_aN, x_aSz, x_aRg, x_rg1, x_rg2, x_aList, x_aSort, x_aSl, x_dSl, x_aScr, x_scrLen, x_oN, x_oS, x_rN, x_rC, x_rRl, x_call, x_callB, x_callK, x_iSeq, x_iRg1, x_iRg2, x_iEn, x_gNm, x_gTp, x_gC, x_gN, x_gL, x_comp, startD, arD, wipeD, List.map_cons, List.map_nil, List.length_cons, List.length_nil, List.replicate_succ, List.replicate_zero, List.cons_append, List.nil_append, List.set_cons_succ, List.set_cons_zero, List.getElem?_cons_succ, List.getElem?_cons_zero, Option.some.injEq, PyData.int.injEq, PyData.bool.injEq, PyData.tuple.injEq, PyData.list.injEq, DV.dat.injEq, DV.own.injEq, exists_eq_left', exists_eq_left, exists_eq_right, exists_eq_right', exists_and_left, List.cons.injEq, and_true, true_and, atI0, atI1, atI2, atI3, atI4, atI5, Nat.sub_self, Nat.reduceSub, Nat.reduceAdd, Nat.reduceLT, if_true, if_false, Bool.false_eq_true, ↓reduceIte, Nat.zero_add, y_eqI, y_neI, y_neB, y_eqB, y_eqS, y_neS, y_ltI, y_gtI, y_leI, y_geI, y_inR, y_notInR, y_eqR, y_neR, y_lenR, y_tupR, row_tup, row_lst, tup_lst, lst_tup, false_and, and_false, exists_false, false_or, or_false, exists_const, atI_map, Option.map_some, decide_true, decide_false, Bool.not_true, Bool.not_false, eq_self, y_isB, DV.scr.injEq, x_chain, x_tRg, x_parEL, x_parLE, x_parLL, x_gLs, Nat.add_zero, x_par3, x_aSetSort, x_itL, x_itT, x_itR, x_slL, x_slT, x_lsE, x_parM, x_mN, x_mE, x_mL, x_sm0, x_smD, x_smO, x_iB0, x_iBS, x_idx, x_aSetSortI, x_setRg, x_iRgV, x_qSeq, x_qIf, x_qRet, x_qSet, x_qIfE, x_qRaise, x_qNil, x_qCons, x_qLst, x_qTup, x_callX, x_callKX, x_try, x_qRaise0, x_try0, x_qFor]
    show gSl (.tuple (x.map rowD)) none (some 6) _
    rw [x_slT, show (6 : Int) = ((6 : Nat) : Int) from rfl, cut_to, ← List.map_take]
    exact ha
  · rw [List.nil_append, e]
    refine step2 g ⟨s0, s1, by rw [List.length_map]; omega, by rw [List.length_map]; omega, fun f hf => ?_⟩ (by omega) fun _ _ _ _ _ _ _ _ m' hm' => hN _ _ _ _ _ _ _ _ _ _ _ _ (by omega)
    obtain ⟨x, hx, rfl⟩ := List.mem_map.mp hf
    have q := ge.mem x hx
    have qp := q.pos
    refine ⟨by rw [List.length_take]; omega, by rw [List.length_take]; omega, fun y hy => ?_⟩
    have sb := (q.mem y (List.mem_of_mem_take hy)).2
    refine ⟨sub_len sb (by omega) s1, fun o ho => ?_⟩
    have := rng_mem.mp (sb.subset ho)
    omega
theorem step1 {z0 z3 z4 z5 z6 z8 z9 z10 z11 z12 z13 z14 z15 : Option DV} {t : Int} {m : Nat} {E : DEnds} (hm : 10000 ≤ m)
    (hN : ∀ z3 z4 z5 z6 z8 z9 z10 z11 z12 z13 z14 z15 m', m ≤ m' + 8000 → E.nx [z0, some .rl, some (.dat (.int t)), z3, z4, z5, z6, none, z8, z9, z10, z11, z12, z13, z14, z15] m') :
    rl1 E [z0, some .rl, some (.dat (.int t)), z3, z4, z5, z6, none, z8, z9, z10, z11, z12, z13, z14, z15] m := by
  simp only [rl1, x_var0, x_varS, x_own0, x_ownS, x_ixT, x_ixL, x_addI, x_addT, x_addL, x_gI, x_gIC, x_neg, x_abs, x_intI, x_intB, x_lenT, x_lenL, x_tupL, x_tupT, x_rep, x_seq, x_next, x_set, x_setL, x_par, x_asg, x_drop, x_app, x_ext, x_ret, x_retN, x_if, x_frz, x_for, x_bk, x_ct, x_d1, x_d2, x_dC, x_dL, x_tup, x_and, x_or, x_not, x_ife, x_dB, x_dTr, x_dNot, x_dAnd, x_dOr, x_yes, x_aC, x_aN, x_aSz, x_aRg, x_rg1, x_rg2, x_aList, x_aSort, x_aSl, x_dSl, x_aScr, x_scrLen, x_oN, x_oS, x_rN, x_rC, x_rRl, x_call, x_callB, x_callK, x_iSeq, x_iRg1, x_iRg2, x_iEn, x_gNm, x_gTp, x_gC, x_gN, x_gL, x_comp, startD, arD, wipeD, List.map_cons, List.map_nil, List.length_cons, List.length_nil, List.replicate_succ, List.replicate_zero, List.cons_append, List.nil_append, List.set_cons_succ, List.set_cons_zero, List.getElem?_cons_succ, List.getElem?_cons_zero, Option.some.injEq, PyData.int.injEq, PyData.bool.injEq, PyData.tuple.injEq, PyData.list.injEq, DV.dat.injEq, DV.own.injEq, exists_eq_left', exists_eq_left, exists_eq_right, exists_eq_right', exists_and_left, List.cons.injEq, and_true, true_and, atI0, atI1, atI2, atI3, atI4, atI5, Nat.sub_self, Nat.reduceSub, Nat.reduceAdd, Nat.reduceLT, if_true, if_false, Bool.false_eq_true, ↓reduceIte, Nat.zero_add, y_eqI, y_neI, y_neB, y_eqB, y_eqS, y_neS, y_ltI, y_gtI, y_leI, y_geI, y_inR, y_notInR, y_eqR, y_neR, y_lenR, y_tupR, row_tup, row_lst, tup_lst, lst_tup, false_and, and_false, exists_false, false_or, or_false, exists_const, atI_map, Option.map_some, decide_true, decide_false, Bool.not_true, Bool.not_false, eq_self, y_isB, DV.scr.injEq, x_chain, x_tRg, x_parEL, x_parLE, x_parLL, x_gLs, Nat.add_zero, x_par3, x_aSetSort, x_itL, x_itT, x_itR, x_slL, x_slT, x_lsE, x_parM, x_mN, x_mE, x_mL, x_sm0, x_smD, x_smO, x_iB0, x_iBS, x_idx, x_aSetSortI, x_setRg, x_iRgV, x_qSeq, x_qIf, x_qRet, x_qSet, x_qIfE, x_qRaise, x_qNil, x_qCons, x_qLst, x_qTup, x_callX, x_callKX, x_try, x_qRaise0, x_try0, x_qFor]
  refine ⟨8, rfl, by decide, by omega, fun a a0 a1 => ?_⟩
  show gEq (.int a) (.int 0) _
  rw [y_eqI]
  refine ⟨_, rfl, ifc (fun _ => ?_) fun _ => ?_⟩
  · exact step0 (K := 10) (by decide) (by decide) (by omega) fun _ _ _ _ _ _ _ _ _ _ _ m' h => hN _ _ _ _ _ _ _ _ _ _ _ _ _ (by omega)
  · exact step0 (K := 4) (by decide) (by decide) (by omega) fun _ _ _ _ _ _ _ _ _ _ _ m' h => hN _ _ _ _ _ _ _ _ _ _ _ _ _ (by omega)
abbrev rdL := rd_law fTake fSky fOne fDet fBent fOdd fDtErr fDtErr fKnownL fHeard
theorem law_ok {E : DEnds} {n : Nat} {z0 : Option DV} (hn : 100000 ≤ n) (hE : ∀ m, E.rt (.bool true) m) : rdL E (z0 :: some .rl :: List.replicate 14 none) n := by
  show rd_law fTake fSky fOne fDet fBent fOdd fDtErr fDtErr fKnownL fHeard _ _ _
  rw [rd_law, x_seq]
  simp only [x_for, x_iRg1, x_dC, PyData.int.injEq, exists_eq_left']
  refine ⟨by decide, by decide, ?_⟩
  have e8 : rangeD 0 (Int.toNat 6) = intsD (rng 6) := by rw [rangeD_rng]
  rw [e8]
  refine forR_inv (e := PyData.int) (fun r δ m => ∃ (z2 z3 z4 z5 z6 z8 z9 z10 z11 z12 z13 z14 z15 : Option DV), δ = [z0, some .rl, z2, z3, z4, z5, z6, none, z8, z9, z10, z11, z12, z13, z14, z15] ∧ 10000 * r.length ≤ m) (rng 6) _ _ ⟨_, _, _, _, _, _, _, _, _, _, _, _, _, rfl, by rw [rng_len]; simp; omega⟩ (fun t r δ m ht hI N hN => ?_) fun δ m hI => ?_
  · obtain ⟨z2, z3, z4, z5, z6, z8, z9, z10, z11, z12, z13, z14, z15, rfl, h1⟩ := hI
    rw [List.length_cons] at h1
    refine ⟨by simp, ?_⟩
    exact step1 (by omega) fun _ _ _ _ _ _ _ _ _ _ _ _ m' hm' => hN _ _ ⟨_, _, _, _, _, _, _, _, _, _, _, _, _, rfl, by omega⟩
  · obtain ⟨z2, z3, z4, z5, z6, z8, z9, z10, z11, z12, z13, z14, z15, rfl, h1⟩ := hI
    simp only [x_ret, x_dC]
    exact hE _
theorem law_hf : rdL ⟨fun _ _ => False, fun d _ => d = .bool true, fun _ _ => False, fun _ _ => False⟩ (none :: some .rl :: List.replicate 14 none) N0 := law_ok (by decide) fun _ => rfl
end My
namespace My
open PySem PySem.Spec L2 DL
section
variable {P : Program} {w : World} {K : PySem.W.Frag} {mg : Str → Option Value} {base : Heap}
theorem fin_is_whole (T : Tops P K mg) : FnG P w K mg base CX0 1 T.a_is_whole T.d_is_whole ["value", "low", "high"] (spD K 3 fWhole) := st_is_whole T  hf_whole
theorem fin_is_ascending (T : Tops P K mg) : FnG P w K mg base CX0 1 T.a_is_ascending T.d_is_ascending ["items"] (spD K 1 fAsc) := st_is_ascending T  hf_asc
theorem fin_is_row (T : Tops P K mg) : FnG P w K mg base CX0 2 T.a_is_row T.d_is_row ["value", "many"] (spD K 2 fRowP) := st_is_row T (fin_is_whole T) (fin_is_ascending T) hf_row
theorem fin_is_lot (T : Tops P K mg) : FnG P w K mg base CX0 3 T.a_is_lot T.d_is_lot ["value", "many"] (spD K 2 fLotP) := st_is_lot T (fin_is_row T) hf_lotp
theorem fin_left (T : Tops P K mg) : FnG P w K mg base CX0 1 T.a_left T.d_left ["sky", "s"] (spD K 2 fLeft) := st_left T  hf_left
theorem fin_storm_error (T : Tops P K mg) : FnG P w K mg base CX0 4 T.a_storm_error T.d_storm_error ["many", "s", "value"] (spD K 3 fStErr) := st_storm_error T (fin_is_lot T) hf_sterr
theorem fin_detector_error (T : Tops P K mg) : FnG P w K mg base CX0 5 T.a_detector_error T.d_detector_error ["sky", "value"] (spD K 2 fDtErr) := st_detector_error T (fin_is_whole T) (fin_storm_error T) hf_dterr
theorem fin_known_detector (T : Tops P K mg) : FnG P w K mg base (L2.CX P w) 2 T.a_known_detector T.d_known_detector ["word", "sky"] (spDX K 2 (ct0 "Unfit" T.C_Unfit) fKnown) := st_known_detector T (fin_left T) hf_known
theorem fin__law_take (T : Tops P K mg) : FnG P w K mg base CX0 1 T.a__law_take T.d__law_take ["mill", "many"] (spD K 2 fTake) := ok_take T.F__law_take T.z_int
theorem fin__law_one (T : Tops P K mg) : FnG P w K mg base CX0 2 T.a__law_one T.d__law_one ["mill", "some"] (spD K 2 fOne) := st__law_one T (fin__law_take T) hf_one
theorem fin__law_mixed (T : Tops P K mg) : FnG P w K mg base CX0 2 T.a__law_mixed T.d__law_mixed ["mill", "some"] (spD K 2 fMix) := st__law_mixed T (fin__law_take T) hf_mixed
theorem fin__law_few (T : Tops P K mg) : FnG P w K mg base CX0 3 T.a__law_few T.d__law_few ["mill", "some", "many"] (spD K 3 fFew) := st__law_few T (fin__law_mixed T) hf_few
theorem fin__law_sky (T : Tops P K mg) : FnG P w K mg base CX0 4 T.a__law_sky T.d__law_sky ["mill", "many", "most"] (spD K 3 fSky) := st__law_sky T (fin__law_take T) (fin__law_few T) (fin__law_one T) hf_sky
theorem fin__law_left (T : Tops P K mg) : FnG P w K mg base CX0 1 T.a__law_left T.d__law_left ["sky", "s"] (spD K 2 fLeft) := st__law_left T  hf_lleft
theorem fin__law_set (T : Tops P K mg) : FnG P w K mg base CX0 4 T.a__law_set T.d__law_set ["mill", "signs"] (spD K 2 fSet) := st__law_set T (fin__law_few T) (fin__law_take T) hf_set
theorem fin__law_drawn_detector (T : Tops P K mg) : FnG P w K mg base CX0 5 T.a__law_drawn_detector T.d__law_drawn_detector ["mill", "sky", "signs", "most"] (spD K 4 fDet) := st__law_drawn_detector T (fin__law_take T) (fin__law_set T) hf_det
theorem fin__law_is_number (T : Tops P K mg) : FnG P w K mg base CX0 1 T.a__law_is_number T.d__law_is_number ["value", "many"] (spD K 2 fNum) := st__law_is_number T  hf_num
theorem fin__law_is_set (T : Tops P K mg) : FnG P w K mg base CX0 2 T.a__law_is_set T.d__law_is_set ["value", "signs"] (spD K 2 fLSet) := st__law_is_set T (fin__law_is_number T) hf_lset
theorem fin__law_odd (T : Tops P K mg) : FnG P w K mg base CX0 3 T.a__law_odd T.d__law_odd ["mill"] (spD K 1 fOdd) := st__law_odd T (fin__law_one T) hf_odd
theorem fin__law_detector_error (T : Tops P K mg) : FnG P w K mg base CX0 3 T.a__law_detector_error T.d__law_detector_error ["sky", "value"] (spD K 2 fDtErr) := st__law_detector_error T (fin__law_is_number T) (fin__law_is_set T) hf_ldterr
theorem fin__law_bent_detector (T : Tops P K mg) : FnG P w K mg base CX0 3 T.a__law_bent_detector T.d__law_bent_detector ["mill", "detector"] (spD K 2 fBent) := st__law_bent_detector T (fin__law_take T) (fin__law_one T) (fin__law_mixed T) hf_bent
theorem fin__law_known (T : Tops P K mg) : FnG P w K mg base CX0 2 T.a__law_known T.d__law_known ["word", "sky"] (spD K 2 fKnownL) := st__law_known T (fin__law_left T) hf_lknown
theorem fin__law_heard (T : Tops P K mg) : FnG P w K mg base CX0 3 T.a__law_heard T.d__law_heard ["word", "sky", "is_named"] (spD K 3 fHeard) := st__law_heard T (fin_known_detector T) hf_heard
theorem fin_law (T : Tops P K mg) {fa : Addr} {fd : FuncData} (F : Fun K "law" "law" s_law fa fd) : FnG P w K mg base CX0 6 fa fd ["script"] (spTrue K 63) := st_law T (fin__law_take T) (fin__law_sky T) (fin__law_one T) (fin__law_drawn_detector T) (fin__law_bent_detector T) (fin__law_odd T) (fin__law_detector_error T) (fin_detector_error T) (fin__law_known T) (fin__law_heard T) (ok_mill T) F law_hf
end
theorem all_mk {l : PySem.W.OpenLaw} {w : World} {K : PySem.W.Frag} {h : Heap} {mg : Str → Option Value} {fa f0 f1 f2 f3 f4 f5 f6 f7 f8 f9 f10 f11 f12 f13 f14 f15 f16 f17 f18 f19 f20 f21 f22 f23 f24 : Addr} (X : K.In h) (G : h.Ns mainGlobals mg) (hfa : mg "law" = some (.ref fa))
    {od0 an0 od1 an1 od2 an2 od3 an3 od4 an4 od5 an5 od6 an6 od7 an7 od8 an8 od9 an9 od10 an10 od11 an11 od12 an12 od13 an13 od14 an14 od15 an15 od16 an16 od17 an17 od18 an18 od19 an19 od20 an20 od21 an21 od22 an22 od23 an23 od24 an24 : Option Addr} {sl0 sl1 sl2 sl3 sl4 sl5 sl6 sl7 sl8 sl9 sl10 sl11 sl12 sl13 sl14 sl15 sl16 sl17 sl18 sl19 sl20 sl21 sl22 sl23 sl24 : Array (Option Value)} {oc0 kV0 dc0 pm0 cd0 ct0 oc1 kV1 dc1 pm1 cd1 ct1 oc2 kV2 dc2 pm2 cd2 ct2 oc3 kV3 dc3 pm3 cd3 ct3 oc4 kV4 dc4 pm4 cd4 ct4 oc5 kV5 dc5 pm5 cd5 ct5 oc6 kV6 dc6 pm6 cd6 ct6 oc7 kV7 dc7 pm7 cd7 ct7 oc8 kV8 dc8 pm8 cd8 ct8 oc9 kV9 dc9 pm9 cd9 ct9 oc10 kV10 dc10 pm10 cd10 ct10 oc11 kV11 dc11 pm11 cd11 ct11 oc12 kV12 dc12 pm12 cd12 ct12 oc13 kV13 dc13 pm13 cd13 ct13 oc14 kV14 dc14 pm14 cd14 ct14 oc15 kV15 dc15 pm15 cd15 ct15 oc16 kV16 dc16 pm16 cd16 ct16 oc17 kV17 dc17 pm17 cd17 ct17 oc18 kV18 dc18 pm18 cd18 ct18 oc19 kV19 dc19 pm19 cd19 ct19 oc20 kV20 dc20 pm20 cd20 ct20 oc21 kV21 dc21 pm21 cd21 ct21 oc22 kV22 dc22 pm22 cd22 ct22 oc23 kV23 dc23 pm23 cd23 ct23 oc24 kV24 dc24 pm24 cd24 ct24 : Value}
    {t0 t1 : Tok}
    {wC0 wI0 wD0 wW0 : Addr} {wn0 wq0 : Str} {wN0 : Addr} {wbs0 wbm0 : List Value} {wsn0 : List Str} {wsu0 : List Value} {wab0 : Bool} {wco0 : Option Bool} {wdd0 : Option Addr} {wk00 wk10 wk20 wk30 wk50 : Option Value} {woc0 wdo0 wpm0 wct0 : Value} {wod0 wan0 : Option Addr} {wos0 : Array (Option Value)} {wcc0 : Value} {wcd0 : Option Addr} {wvs0 : Array Value} {wcs0 : Array (Option Value)} {wfi0 : Str} {wtf0 : Tok} {wcl0 : Value} {wcld0 : Option Addr} {wcsl0 : Array (Option Value)}
    (a0 : PySem.W.nsIn K mainGlobals "is_whole" = some (some (.ref f0))) (l0 : K.lookup f0 = some ⟨oc0, od0, .func (PySem.W.fnOf "is_whole" "is_whole" (defArgs s_is_whole) (defBody s_is_whole) (defScope s_is_whole) .none kV0 dc0 pm0 an0 cd0 ct0), sl0⟩) (c0 : PySem.W.codeIn K cd0 "is_whole" = true) (k0 : PySem.W.keepIn K (.ref f0) = true)
    (a1 : PySem.W.nsIn K mainGlobals "is_ascending" = some (some (.ref f1))) (l1 : K.lookup f1 = some ⟨oc1, od1, .func (PySem.W.fnOf "is_ascending" "is_ascending" (defArgs s_is_ascending) (defBody s_is_ascending) (defScope s_is_ascending) .none kV1 dc1 pm1 an1 cd1 ct1), sl1⟩) (c1 : PySem.W.codeIn K cd1 "is_ascending" = true) (k1 : PySem.W.keepIn K (.ref f1) = true)
    (a2 : PySem.W.nsIn K mainGlobals "is_row" = some (some (.ref f2))) (l2 : K.lookup f2 = some ⟨oc2, od2, .func (PySem.W.fnOf "is_row" "is_row" (defArgs s_is_row) (defBody s_is_row) (defScope s_is_row) .none kV2 dc2 pm2 an2 cd2 ct2), sl2⟩) (c2 : PySem.W.codeIn K cd2 "is_row" = true) (k2 : PySem.W.keepIn K (.ref f2) = true)
    (a3 : PySem.W.nsIn K mainGlobals "is_lot" = some (some (.ref f3))) (l3 : K.lookup f3 = some ⟨oc3, od3, .func (PySem.W.fnOf "is_lot" "is_lot" (defArgs s_is_lot) (defBody s_is_lot) (defScope s_is_lot) .none kV3 dc3 pm3 an3 cd3 ct3), sl3⟩) (c3 : PySem.W.codeIn K cd3 "is_lot" = true) (k3 : PySem.W.keepIn K (.ref f3) = true)
    (a4 : PySem.W.nsIn K mainGlobals "left" = some (some (.ref f4))) (l4 : K.lookup f4 = some ⟨oc4, od4, .func (PySem.W.fnOf "left" "left" (defArgs s_left) (defBody s_left) (defScope s_left) .none kV4 dc4 pm4 an4 cd4 ct4), sl4⟩) (c4 : PySem.W.codeIn K cd4 "left" = true) (k4 : PySem.W.keepIn K (.ref f4) = true)
    (a5 : PySem.W.nsIn K mainGlobals "storm_error" = some (some (.ref f5))) (l5 : K.lookup f5 = some ⟨oc5, od5, .func (PySem.W.fnOf "storm_error" "storm_error" (defArgs s_storm_error) (defBody s_storm_error) (defScope s_storm_error) .none kV5 dc5 pm5 an5 cd5 ct5), sl5⟩) (c5 : PySem.W.codeIn K cd5 "storm_error" = true) (k5 : PySem.W.keepIn K (.ref f5) = true)
    (a6 : PySem.W.nsIn K mainGlobals "detector_error" = some (some (.ref f6))) (l6 : K.lookup f6 = some ⟨oc6, od6, .func (PySem.W.fnOf "detector_error" "detector_error" (defArgs s_detector_error) (defBody s_detector_error) (defScope s_detector_error) .none kV6 dc6 pm6 an6 cd6 ct6), sl6⟩) (c6 : PySem.W.codeIn K cd6 "detector_error" = true) (k6 : PySem.W.keepIn K (.ref f6) = true)
    (a7 : PySem.W.nsIn K mainGlobals "known_detector" = some (some (.ref f7))) (l7 : K.lookup f7 = some ⟨oc7, od7, .func (PySem.W.fnOf "known_detector" "known_detector" (defArgs s_known_detector) (defBody s_known_detector) (defScope s_known_detector) .none kV7 dc7 pm7 an7 cd7 ct7), sl7⟩) (c7 : PySem.W.codeIn K cd7 "known_detector" = true) (k7 : PySem.W.keepIn K (.ref f7) = true)
    (a8 : PySem.W.nsIn K mainGlobals "_law_mill" = some (some (.ref f8))) (l8 : K.lookup f8 = some ⟨oc8, od8, .func (PySem.W.fnOf "_law_mill" "_law_mill" (defArgs s__law_mill) (defBody s__law_mill) (defScope s__law_mill) .none kV8 dc8 pm8 an8 cd8 ct8), sl8⟩) (c8 : PySem.W.codeIn K cd8 "_law_mill" = true) (k8 : PySem.W.keepIn K (.ref f8) = true)
    (a9 : PySem.W.nsIn K mainGlobals "_law_take" = some (some (.ref f9))) (l9 : K.lookup f9 = some ⟨oc9, od9, .func (PySem.W.fnOf "_law_take" "_law_take" (defArgs s__law_take) (defBody s__law_take) (defScope s__law_take) .none kV9 dc9 pm9 an9 cd9 ct9), sl9⟩) (c9 : PySem.W.codeIn K cd9 "_law_take" = true) (k9 : PySem.W.keepIn K (.ref f9) = true)
    (a10 : PySem.W.nsIn K mainGlobals "_law_one" = some (some (.ref f10))) (l10 : K.lookup f10 = some ⟨oc10, od10, .func (PySem.W.fnOf "_law_one" "_law_one" (defArgs s__law_one) (defBody s__law_one) (defScope s__law_one) .none kV10 dc10 pm10 an10 cd10 ct10), sl10⟩) (c10 : PySem.W.codeIn K cd10 "_law_one" = true) (k10 : PySem.W.keepIn K (.ref f10) = true)
    (a11 : PySem.W.nsIn K mainGlobals "_law_mixed" = some (some (.ref f11))) (l11 : K.lookup f11 = some ⟨oc11, od11, .func (PySem.W.fnOf "_law_mixed" "_law_mixed" (defArgs s__law_mixed) (defBody s__law_mixed) (defScope s__law_mixed) .none kV11 dc11 pm11 an11 cd11 ct11), sl11⟩) (c11 : PySem.W.codeIn K cd11 "_law_mixed" = true) (k11 : PySem.W.keepIn K (.ref f11) = true)
    (a12 : PySem.W.nsIn K mainGlobals "_law_few" = some (some (.ref f12))) (l12 : K.lookup f12 = some ⟨oc12, od12, .func (PySem.W.fnOf "_law_few" "_law_few" (defArgs s__law_few) (defBody s__law_few) (defScope s__law_few) .none kV12 dc12 pm12 an12 cd12 ct12), sl12⟩) (c12 : PySem.W.codeIn K cd12 "_law_few" = true) (k12 : PySem.W.keepIn K (.ref f12) = true)
    (a13 : PySem.W.nsIn K mainGlobals "_law_sky" = some (some (.ref f13))) (l13 : K.lookup f13 = some ⟨oc13, od13, .func (PySem.W.fnOf "_law_sky" "_law_sky" (defArgs s__law_sky) (defBody s__law_sky) (defScope s__law_sky) .none kV13 dc13 pm13 an13 cd13 ct13), sl13⟩) (c13 : PySem.W.codeIn K cd13 "_law_sky" = true) (k13 : PySem.W.keepIn K (.ref f13) = true)
    (a14 : PySem.W.nsIn K mainGlobals "_law_left" = some (some (.ref f14))) (l14 : K.lookup f14 = some ⟨oc14, od14, .func (PySem.W.fnOf "_law_left" "_law_left" (defArgs s__law_left) (defBody s__law_left) (defScope s__law_left) .none kV14 dc14 pm14 an14 cd14 ct14), sl14⟩) (c14 : PySem.W.codeIn K cd14 "_law_left" = true) (k14 : PySem.W.keepIn K (.ref f14) = true)
    (a15 : PySem.W.nsIn K mainGlobals "_law_set" = some (some (.ref f15))) (l15 : K.lookup f15 = some ⟨oc15, od15, .func (PySem.W.fnOf "_law_set" "_law_set" (defArgs s__law_set) (defBody s__law_set) (defScope s__law_set) .none kV15 dc15 pm15 an15 cd15 ct15), sl15⟩) (c15 : PySem.W.codeIn K cd15 "_law_set" = true) (k15 : PySem.W.keepIn K (.ref f15) = true)
    (a16 : PySem.W.nsIn K mainGlobals "_law_drawn_detector" = some (some (.ref f16))) (l16 : K.lookup f16 = some ⟨oc16, od16, .func (PySem.W.fnOf "_law_drawn_detector" "_law_drawn_detector" (defArgs s__law_drawn_detector) (defBody s__law_drawn_detector) (defScope s__law_drawn_detector) .none kV16 dc16 pm16 an16 cd16 ct16), sl16⟩) (c16 : PySem.W.codeIn K cd16 "_law_drawn_detector" = true) (k16 : PySem.W.keepIn K (.ref f16) = true)
    (a17 : PySem.W.nsIn K mainGlobals "_law_is_number" = some (some (.ref f17))) (l17 : K.lookup f17 = some ⟨oc17, od17, .func (PySem.W.fnOf "_law_is_number" "_law_is_number" (defArgs s__law_is_number) (defBody s__law_is_number) (defScope s__law_is_number) .none kV17 dc17 pm17 an17 cd17 ct17), sl17⟩) (c17 : PySem.W.codeIn K cd17 "_law_is_number" = true) (k17 : PySem.W.keepIn K (.ref f17) = true)
    (a18 : PySem.W.nsIn K mainGlobals "_law_is_set" = some (some (.ref f18))) (l18 : K.lookup f18 = some ⟨oc18, od18, .func (PySem.W.fnOf "_law_is_set" "_law_is_set" (defArgs s__law_is_set) (defBody s__law_is_set) (defScope s__law_is_set) .none kV18 dc18 pm18 an18 cd18 ct18), sl18⟩) (c18 : PySem.W.codeIn K cd18 "_law_is_set" = true) (k18 : PySem.W.keepIn K (.ref f18) = true)
    (a19 : PySem.W.nsIn K mainGlobals "_law_odd" = some (some (.ref f19))) (l19 : K.lookup f19 = some ⟨oc19, od19, .func (PySem.W.fnOf "_law_odd" "_law_odd" (defArgs s__law_odd) (defBody s__law_odd) (defScope s__law_odd) .none kV19 dc19 pm19 an19 cd19 ct19), sl19⟩) (c19 : PySem.W.codeIn K cd19 "_law_odd" = true) (k19 : PySem.W.keepIn K (.ref f19) = true)
    (a20 : PySem.W.nsIn K mainGlobals "_law_detector_error" = some (some (.ref f20))) (l20 : K.lookup f20 = some ⟨oc20, od20, .func (PySem.W.fnOf "_law_detector_error" "_law_detector_error" (defArgs s__law_detector_error) (defBody s__law_detector_error) (defScope s__law_detector_error) .none kV20 dc20 pm20 an20 cd20 ct20), sl20⟩) (c20 : PySem.W.codeIn K cd20 "_law_detector_error" = true) (k20 : PySem.W.keepIn K (.ref f20) = true)
    (a21 : PySem.W.nsIn K mainGlobals "_law_bent_detector" = some (some (.ref f21))) (l21 : K.lookup f21 = some ⟨oc21, od21, .func (PySem.W.fnOf "_law_bent_detector" "_law_bent_detector" (defArgs s__law_bent_detector) (defBody s__law_bent_detector) (defScope s__law_bent_detector) .none kV21 dc21 pm21 an21 cd21 ct21), sl21⟩) (c21 : PySem.W.codeIn K cd21 "_law_bent_detector" = true) (k21 : PySem.W.keepIn K (.ref f21) = true)
    (a22 : PySem.W.nsIn K mainGlobals "_law_known" = some (some (.ref f22))) (l22 : K.lookup f22 = some ⟨oc22, od22, .func (PySem.W.fnOf "_law_known" "_law_known" (defArgs s__law_known) (defBody s__law_known) (defScope s__law_known) .none kV22 dc22 pm22 an22 cd22 ct22), sl22⟩) (c22 : PySem.W.codeIn K cd22 "_law_known" = true) (k22 : PySem.W.keepIn K (.ref f22) = true)
    (a23 : PySem.W.nsIn K mainGlobals "_law_heard" = some (some (.ref f23))) (l23 : K.lookup f23 = some ⟨oc23, od23, .func (PySem.W.fnOf "_law_heard" "_law_heard" (defArgs s__law_heard) (defBody s__law_heard) (defScope s__law_heard) .none kV23 dc23 pm23 an23 cd23 ct23), sl23⟩) (c23 : PySem.W.codeIn K cd23 "_law_heard" = true) (k23 : PySem.W.keepIn K (.ref f23) = true)
    (a24 : PySem.W.nsIn K mainGlobals "law" = some (some (.ref f24))) (l24 : K.lookup f24 = some ⟨oc24, od24, .func (PySem.W.fnOf "law" "law" (defArgs s_law) (defBody s_law) (defScope s_law) .none kV24 dc24 pm24 an24 cd24 ct24), sl24⟩) (c24 : PySem.W.codeIn K cd24 "law" = true) (k24 : PySem.W.keepIn K (.ref f24) = true)
    (wa0 : PySem.W.nsIn K mainGlobals "Unfit" = some (some (.ref wC0)))
    (ws0 : PySem.W.nsIn K mainGlobals "super" = some none)
    (wL0 : K.lookup wC0 = some (PySem.excClassObj wn0 wq0 wC0 wN0 wbs0 wbm0 true wsn0 wsu0 wab0 wco0 wdd0 wk00 wk10 wk20 wk30 wk50 "ValueError.__new__"))
    (wr0 : PySem.HandSPX.refsVE wbm0 = true)
    (wg0 : PySem.W.alongIn K "__init__" wbm0 = some (some (.builtin "ValueError.__init__")))
    (w00 : PySem.W.excInitIn K wC0 [.type "ValueError", .type "Exception", .type "BaseException", .type "object"] "ValueError.__new__" = true)
    (w30 : PySem.W.findIn K (.ref wC0) "__init__" = some (some (.ref wI0)))
    (w40 : PySem.W.typeIn K (.ref wI0) = some (.type "function"))
    (w50 : PySem.W.keepIn K (.ref wC0) = true)
    (w60 : PySem.W.nsIn K cStatics "thirdparty.any" = some none)
    (w70 : PySem.W.subIn K (.ref wC0) (.type "ValueError") = some true)
    (w80 : PySem.W.mroIn K wC0 (.ref wC0) = some true)
    (w90 : (l.prog.main.scope.names.lookup ("super" : Str)).isSome = false)
    (wl0 : K.lookup wI0 = some ⟨woc0, wod0, .func (PySem.W.fnX "__init__" "Unfit.__init__" (DX.mkA0 ⟨8, 17, 8, 21⟩) (DX.mkB0 ⟨9, 8, 9, 13⟩ ⟨9, 8, 9, 15⟩ ⟨9, 8, 9, 24⟩ ⟨9, 8, 9, 26⟩ ⟨9, 8, 9, 26⟩) (DX.mkS0) [("__class__", wW0)] .none .none wdo0 wpm0 wan0 (.ref wD0) wct0), wos0⟩)
    (wc0 : PySem.W.codeIn K (.ref wD0) "Unfit.__init__" = true)
    (wo0 : K.lookup wD0 = some ⟨wcc0, wcd0, .fields wvs0, wcs0⟩)
    (wv0 : wvs0[2]? = some (.str wfi0 wtf0))
    (wf0 : ((l.prog.main.file : Str) == wfi0) = true)
    (we0 : K.lookup wW0 = some ⟨wcl0, wcld0, .cell (some (.ref wC0)), wcsl0⟩)
    (wbe0 : PySem.W.subIn K (.ref wC0) (.type "BaseException") = some true)
    (wty0 : PySem.W.typeIn K (.ref wC0) = some (.type "type"))
    (wci0 : PySem.W.isClsIn K wC0 = true)
    (wsc0 : PySem.W.subIn K (.ref wC0) (.ref wC0) = some true)
    (z0 : PySem.W.nsIn K mainGlobals "abs" = some none) (z1 : PySem.W.nsIn K mainGlobals "all" = some none) (z2 : PySem.W.nsIn K mainGlobals "any" = some none) (z3 : PySem.W.nsIn K mainGlobals "bool" = some none) (z4 : PySem.W.nsIn K mainGlobals "enumerate" = some none) (z5 : PySem.W.nsIn K mainGlobals "int" = some none) (z6 : PySem.W.nsIn K mainGlobals "isinstance" = some none) (z7 : PySem.W.nsIn K mainGlobals "len" = some none) (z8 : PySem.W.nsIn K mainGlobals "list" = some none) (z9 : PySem.W.nsIn K mainGlobals "range" = some none) (z10 : PySem.W.nsIn K mainGlobals "repr" = some none) (z11 : PySem.W.nsIn K mainGlobals "set" = some none) (z12 : PySem.W.nsIn K mainGlobals "sorted" = some none) (z13 : PySem.W.nsIn K mainGlobals "tuple" = some none) (z14 : PySem.W.nsIn K mainGlobals "zip" = some none) (v0 : PySem.W.nsIn K mainGlobals "MAX_SETS" = some (some (.int 6 t0))) (v1 : PySem.W.nsIn K mainGlobals "MAX_SIGNS" = some (some (.int 6 t1))) :
    ∃ fd : FuncData, (∀ (s : Shared) (v : Value), BindsTo s fd ⟨[v], []⟩ [("script", v)]) ∧ ∀ base : Heap, K.In base → base.Ns mainGlobals mg → FnG l.prog w K mg base CX0 6 fa fd ["script"] (spTrue K 63) := by
  have e := hfa.symm.trans (PySem.W.mg_of X G a24)
  cases e
  have T : Tops l.prog K mg := {
    a_is_whole := f0, d_is_whole := _, F_is_whole := fun_mk (st := s_is_whole) l0 c0 k0, g_is_whole := PySem.W.mg_of X G a0,
    a_is_ascending := f1, d_is_ascending := _, F_is_ascending := fun_mk (st := s_is_ascending) l1 c1 k1, g_is_ascending := PySem.W.mg_of X G a1,
    a_is_row := f2, d_is_row := _, F_is_row := fun_mk (st := s_is_row) l2 c2 k2, g_is_row := PySem.W.mg_of X G a2,
    a_is_lot := f3, d_is_lot := _, F_is_lot := fun_mk (st := s_is_lot) l3 c3 k3, g_is_lot := PySem.W.mg_of X G a3,
    a_left := f4, d_left := _, F_left := fun_mk (st := s_left) l4 c4 k4, g_left := PySem.W.mg_of X G a4,
    a_storm_error := f5, d_storm_error := _, F_storm_error := fun_mk (st := s_storm_error) l5 c5 k5, g_storm_error := PySem.W.mg_of X G a5,
    a_detector_error := f6, d_detector_error := _, F_detector_error := fun_mk (st := s_detector_error) l6 c6 k6, g_detector_error := PySem.W.mg_of X G a6,
    a_known_detector := f7, d_known_detector := _, F_known_detector := fun_mk (st := s_known_detector) l7 c7 k7, g_known_detector := PySem.W.mg_of X G a7,
    a__law_mill := f8, d__law_mill := _, F__law_mill := fun_mk (st := s__law_mill) l8 c8 k8, g__law_mill := PySem.W.mg_of X G a8,
    a__law_take := f9, d__law_take := _, F__law_take := fun_mk (st := s__law_take) l9 c9 k9, g__law_take := PySem.W.mg_of X G a9,
    a__law_one := f10, d__law_one := _, F__law_one := fun_mk (st := s__law_one) l10 c10 k10, g__law_one := PySem.W.mg_of X G a10,
    a__law_mixed := f11, d__law_mixed := _, F__law_mixed := fun_mk (st := s__law_mixed) l11 c11 k11, g__law_mixed := PySem.W.mg_of X G a11,
    a__law_few := f12, d__law_few := _, F__law_few := fun_mk (st := s__law_few) l12 c12 k12, g__law_few := PySem.W.mg_of X G a12,
    a__law_sky := f13, d__law_sky := _, F__law_sky := fun_mk (st := s__law_sky) l13 c13 k13, g__law_sky := PySem.W.mg_of X G a13,
    a__law_left := f14, d__law_left := _, F__law_left := fun_mk (st := s__law_left) l14 c14 k14, g__law_left := PySem.W.mg_of X G a14,
    a__law_set := f15, d__law_set := _, F__law_set := fun_mk (st := s__law_set) l15 c15 k15, g__law_set := PySem.W.mg_of X G a15,
    a__law_drawn_detector := f16, d__law_drawn_detector := _, F__law_drawn_detector := fun_mk (st := s__law_drawn_detector) l16 c16 k16, g__law_drawn_detector := PySem.W.mg_of X G a16,
    a__law_is_number := f17, d__law_is_number := _, F__law_is_number := fun_mk (st := s__law_is_number) l17 c17 k17, g__law_is_number := PySem.W.mg_of X G a17,
    a__law_is_set := f18, d__law_is_set := _, F__law_is_set := fun_mk (st := s__law_is_set) l18 c18 k18, g__law_is_set := PySem.W.mg_of X G a18,
    a__law_odd := f19, d__law_odd := _, F__law_odd := fun_mk (st := s__law_odd) l19 c19 k19, g__law_odd := PySem.W.mg_of X G a19,
    a__law_detector_error := f20, d__law_detector_error := _, F__law_detector_error := fun_mk (st := s__law_detector_error) l20 c20 k20, g__law_detector_error := PySem.W.mg_of X G a20,
    a__law_bent_detector := f21, d__law_bent_detector := _, F__law_bent_detector := fun_mk (st := s__law_bent_detector) l21 c21 k21, g__law_bent_detector := PySem.W.mg_of X G a21,
    a__law_known := f22, d__law_known := _, F__law_known := fun_mk (st := s__law_known) l22 c22 k22, g__law_known := PySem.W.mg_of X G a22,
    a__law_heard := f23, d__law_heard := _, F__law_heard := fun_mk (st := s__law_heard) l23 c23 k23, g__law_heard := PySem.W.mg_of X G a23,
    z_abs := PySem.W.mg_none_of X G z0, z_all := PySem.W.mg_none_of X G z1, z_any := PySem.W.mg_none_of X G z2, z_bool := PySem.W.mg_none_of X G z3, z_enumerate := PySem.W.mg_none_of X G z4, z_int := PySem.W.mg_none_of X G z5, z_isinstance := PySem.W.mg_none_of X G z6, z_len := PySem.W.mg_none_of X G z7, z_list := PySem.W.mg_none_of X G z8, z_range := PySem.W.mg_none_of X G z9, z_repr := PySem.W.mg_none_of X G z10, z_set := PySem.W.mg_none_of X G z11, z_sorted := PySem.W.mg_none_of X G z12, z_tuple := PySem.W.mg_none_of X G z13, z_zip := PySem.W.mg_none_of X G z14, t_MAX_SETS := t0, v_MAX_SETS := PySem.W.mg_of X G v0, t_MAX_SIGNS := t1, v_MAX_SIGNS := PySem.W.mg_of X G v1
    , C_Unfit := wC0, I_Unfit := wI0,
    x_Unfit := { gC := PySem.W.mg_of X G wa0, gs := PySem.W.mg_none_of X G ws0, cls := ⟨_, _, _, _, _, _, _, _, _, _, _, _, _, _, _, wL0, wr0, wg0⟩, q0 := w00, iC := w30, tC := w40, kC := w50, op := w60, sB := w70, sC := w80, top := w90, ls := by decide +kernel, lc := by decide +kernel, nc := by decide +kernel, fn := ⟨_, _, _, _, _, _, _, _, _, _, _, _, _, _, _, _, wl0, wc0, fun _ => rfl, fun _ => ⟨_, rfl⟩, ⟨_, _, _, _, _, _, wo0, wv0, wf0⟩, ⟨_, _, _, we0⟩⟩ },
    e_Unfit := wbe0, y_Unfit := wty0, m_Unfit := exm_own wbe0 wci0 wty0 wsc0 }
  exact ⟨_, fun s v => .of_eq rfl, fun base _ _ => fin_law T (fun_mk (st := s_law) l24 c24 k24)⟩
end My
open PySem PySem.W PyProof.Rows
set_option maxHeartbeats 0 in
theorem PySem.Challenge.cw_stormhouses_k51_whole_what_detectors_are_holds : PySem.Challenge.rw_stormhouses_k51_whole_what_detectors_are.Holds := by
  w_on; o_law; k_head; (case hw => w_witness2)
  k_fill
  refine DL.law_end (l := PySem.Challenge.rw_stormhouses_k51_whole_what_detectors_are) (n := 63) (k := 6) (x := "script") rfl (by decide) rfl ⟨rfl, by decide, by decide⟩ (fun w h Y => PySem.W.kIn_of Y) ?F
  case F =>
    intro w mg fa h KX G hmg
    refine' My.all_mk KX G hmg ?a0 ?l0 ?c0 ?k0 ?a1 ?l1 ?c1 ?k1 ?a2 ?l2 ?c2 ?k2 ?a3 ?l3 ?c3 ?k3 ?a4 ?l4 ?c4 ?k4 ?a5 ?l5 ?c5 ?k5 ?a6 ?l6 ?c6 ?k6 ?a7 ?l7 ?c7 ?k7 ?a8 ?l8 ?c8 ?k8 ?a9 ?l9 ?c9 ?k9 ?a10 ?l10 ?c10 ?k10 ?a11 ?l11 ?c11 ?k11 ?a12 ?l12 ?c12 ?k12 ?a13 ?l13 ?c13 ?k13 ?a14 ?l14 ?c14 ?k14 ?a15 ?l15 ?c15 ?k15 ?a16 ?l16 ?c16 ?k16 ?a17 ?l17 ?c17 ?k17 ?a18 ?l18 ?c18 ?k18 ?a19 ?l19 ?c19 ?k19 ?a20 ?l20 ?c20 ?k20 ?a21 ?l21 ?c21 ?k21 ?a22 ?l22 ?c22 ?k22 ?a23 ?l23 ?c23 ?k23 ?a24 ?l24 ?c24 ?k24 ?wa0 ?ws0 ?wL0 ?wr0 ?wg0 ?w00 ?w30 ?w40 ?w50 ?w60 ?w70 ?w80 ?w90 ?wl0 ?wc0 ?wo0 ?wv0 ?wf0 ?we0 ?wbe0 ?wty0 ?wci0 ?wsc0 ?z0 ?z1 ?z2 ?z3 ?z4 ?z5 ?z6 ?z7 ?z8 ?z9 ?z10 ?z11 ?z12 ?z13 ?z14 ?v0 ?v1
    (case a0 => k_is); (case l0 => k_is); (case c0 => k_is); (case k0 => k_is)
    (case a1 => k_is); (case l1 => k_is); (case c1 => k_is); (case k1 => k_is)
    (case a2 => k_is); (case l2 => k_is); (case c2 => k_is); (case k2 => k_is)
    (case a3 => k_is); (case l3 => k_is); (case c3 => k_is); (case k3 => k_is)
    (case a4 => k_is); (case l4 => k_is); (case c4 => k_is); (case k4 => k_is)
    (case a5 => k_is); (case l5 => k_is); (case c5 => k_is); (case k5 => k_is)
    (case a6 => k_is); (case l6 => k_is); (case c6 => k_is); (case k6 => k_is)
    (case a7 => k_is); (case l7 => k_is); (case c7 => k_is); (case k7 => k_is)
    (case a8 => k_is); (case l8 => k_is); (case c8 => k_is); (case k8 => k_is)
    (case a9 => k_is); (case l9 => k_is); (case c9 => k_is); (case k9 => k_is)
    (case a10 => k_is); (case l10 => k_is); (case c10 => k_is); (case k10 => k_is)
    (case a11 => k_is); (case l11 => k_is); (case c11 => k_is); (case k11 => k_is)
    (case a12 => k_is); (case l12 => k_is); (case c12 => k_is); (case k12 => k_is)
    (case a13 => k_is); (case l13 => k_is); (case c13 => k_is); (case k13 => k_is)
    (case a14 => k_is); (case l14 => k_is); (case c14 => k_is); (case k14 => k_is)
    (case a15 => k_is); (case l15 => k_is); (case c15 => k_is); (case k15 => k_is)
    (case a16 => k_is); (case l16 => k_is); (case c16 => k_is); (case k16 => k_is)
    (case a17 => k_is); (case l17 => k_is); (case c17 => k_is); (case k17 => k_is)
    (case a18 => k_is); (case l18 => k_is); (case c18 => k_is); (case k18 => k_is)
    (case a19 => k_is); (case l19 => k_is); (case c19 => k_is); (case k19 => k_is)
    (case a20 => k_is); (case l20 => k_is); (case c20 => k_is); (case k20 => k_is)
    (case a21 => k_is); (case l21 => k_is); (case c21 => k_is); (case k21 => k_is)
    (case a22 => k_is); (case l22 => k_is); (case c22 => k_is); (case k22 => k_is)
    (case a23 => k_is); (case l23 => k_is); (case c23 => k_is); (case k23 => k_is)
    (case a24 => k_is); (case l24 => k_is); (case c24 => k_is); (case k24 => k_is)
    (case wa0 => first | k_is | rfl | kernel_rfl)
    (case ws0 => first | k_is | rfl | kernel_rfl)
    (case wL0 => first | k_is | rfl | kernel_rfl)
    (case wr0 => first | k_is | rfl | kernel_rfl)
    (case wg0 => first | k_is | rfl | kernel_rfl)
    (case w00 => first | k_is | rfl | kernel_rfl)
    (case w30 => first | k_is | rfl | kernel_rfl)
    (case w40 => first | k_is | rfl | kernel_rfl)
    (case w50 => first | k_is | rfl | kernel_rfl)
    (case w60 => first | k_is | rfl | kernel_rfl)
    (case w70 => first | k_is | rfl | kernel_rfl)
    (case w80 => first | k_is | rfl | kernel_rfl)
    (case w90 => first | k_is | rfl | kernel_rfl)
    (case wl0 => first | k_is | rfl | kernel_rfl)
    (case wc0 => first | k_is | rfl | kernel_rfl)
    (case wo0 => first | k_is | rfl | kernel_rfl)
    (case wv0 => first | k_is | rfl | kernel_rfl)
    (case wf0 => first | k_is | rfl | kernel_rfl)
    (case we0 => first | k_is | rfl | kernel_rfl)
    (case wbe0 => first | k_is | rfl | kernel_rfl)
    (case wty0 => first | k_is | rfl | kernel_rfl)
    (case wci0 => first | k_is | rfl | kernel_rfl)
    (case wsc0 => first | k_is | rfl | kernel_rfl)
    (case z0 => k_is); (case z1 => k_is); (case z2 => k_is); (case z3 => k_is); (case z4 => k_is); (case z5 => k_is); (case z6 => k_is); (case z7 => k_is); (case z8 => k_is); (case z9 => k_is); (case z10 => k_is); (case z11 => k_is); (case z12 => k_is); (case z13 => k_is); (case z14 => k_is); (case v0 => k_is); (case v1 => k_is)
    all_goals exact (none : Option Value)
