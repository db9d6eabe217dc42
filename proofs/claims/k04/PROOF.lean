import PyProof.Rows.All
import Wide.All
import OpenK.AllK
import Wide.FinOn
import HandS.ForMost
import HandS.Deep
import HandS.Walk
import HandS.Flow
import HandS.Style
import HandS.IsInst
import HandS.Conv
import HandS.Defaults
import HandS.TupAny
import KE.DataCmp
import KE.DataMinMax
import KE.SortData
import PyProof.ReprRoads
import HandS.RaiseMore
import HandS.Zip
import HandS.Text
import KE.GoesMore
import PyProof.ReprLen
import HandS.More
import HandS.Ends
import HandS.TryOnly
import PyProof.SeqIndex
import KE.KExcSuper
import HandS.Exc
import HandS.ForSpec
import HandS.ExcIs
import HandS.ExcField
import KE.KExcIs
import PySem.Challenge.RW_stormhouses_k04_whole_known_skies
set_option Elab.async false
set_option linter.all false
set_option maxRecDepth 100000
set_option maxHeartbeats 4000000
/-! DL0: data states over the hand layer: what a state of plain data in slots says of slots and heap. -/
namespace DL
open PySem PySem.Spec L2

abbrev D := PyData
/-- a slot: data that stands for ever; a list that this slot alone holds; the drawing dict; the script -/
inductive DV where
  | dat (d : D)
  | own (ds : List D)
  | rl
  | scr (ns : List Int)
abbrev DS := List (Option DV)
/-- ghosts: the drawing dict and its list; the heap at the entry; what was to be read at the entry -/
structure Gh where
  W : Option (Addr × Addr)
  H0 : Hp
  S0 : Hp
  T : List Addr := []
def inW (W : Option (Addr × Addr)) (b : Addr) : Prop := ∃ r f, W = some (r, f) ∧ (b = r ∨ b = f)
structure RillOk (H : Hp) (r f : Addr) (n : Nat) : Prop where
  ne : r ≠ f
  ex : ∃ (far : List Int) (flow turn : Int), H r = some (.dK [(.inr (Str.ofString "far"), .ref f), (.inr (Str.ofString "flow"), .int flow), (.inr (Str.ofString "turn"), .int turn)]) ∧ H f = some (.lst (far.map V.int)) ∧
    (∀ x ∈ far, 0 ≤ x) ∧ far.length ≤ 64 ∧ 0 ≤ flow ∧ flow < 2 ^ 33 ∧ 0 ≤ turn ∧ turn + n < 2 ^ 62

mutual
/-- what a value is as data: lists are tracked ones -/
inductive Dp (K : PySem.W.Frag) (H : Hp) : V → D → Prop
  | non : Dp K H .non .none
  | bl (b : Bool) : Dp K H (.bl b) (.bool b)
  | int (i : Int) : Dp K H (.int i) (.int i)
  | str (x : Str) : Dp K H (.str x) (.str x)
  | lst {a : Addr} {xs : List V} {ds : List D} : H a = some (.lst xs) → DpAll K H xs ds → Dp K H (.ref a) (.list ds)
  | tup {a : Addr} {xs : List V} {ds : List D} : SqT K H a xs → DpAll K H xs ds → Dp K H (.ref a) (.tuple ds)
inductive DpAll (K : PySem.W.Frag) (H : Hp) : List V → List D → Prop
  | nil : DpAll K H [] []
  | cons {v : V} {vs : List V} {d : D} {ds : List D} : Dp K H v d → DpAll K H vs ds → DpAll K H (v :: vs) (d :: ds)
end
section
variable {K : PySem.W.Frag}
mutual
theorem Dp.to' {H : Hp} : ∀ (d : D) (v : V), Dp K H v d → L2.Dp K H v d
  | .none, _, h => by cases h; exact .non
  | .bool b, _, h => by cases h; exact .bl b
  | .int i, _, h => by cases h; exact .int i
  | .str x, _, h => by cases h; exact .str x
  | .list ds, _, h => by
    cases h with
    | lst hs ha => exact .lst (SqL.of hs) (DpAll.to' ds _ ha)
  | .tuple ds, _, h => by
    cases h with
    | tup hs ha => exact .tup hs (DpAll.to' ds _ ha)
  | .dict _, _, h => by cases h
theorem DpAll.to' {H : Hp} : ∀ (ds : List D) (vs : List V), DpAll K H vs ds → L2.DpAll K H vs ds
  | [], _, h => by cases h; exact .nil
  | d :: ds, _, h => by
    cases h with
    | cons h1 h2 => exact .cons (Dp.to' d _ h1) (DpAll.to' ds _ h2)
end
theorem Dp.to {H : Hp} {d : D} {v : V} (h : Dp K H v d) : L2.Dp K H v d := Dp.to' d v h
mutual
theorem Dp.mono' {H H' : Hp} (e : Same H H') : ∀ (d : D) (v : V), Dp K H v d → Dp K H' v d
  | .none, _, h => by cases h; exact .non
  | .bool b, _, h => by cases h; exact .bl b
  | .int i, _, h => by cases h; exact .int i
  | .str x, _, h => by cases h; exact .str x
  | .list ds, _, h => by
    cases h with
    | lst hs ha => exact .lst (e _ _ hs) (DpAll.mono' e ds _ ha)
  | .tuple ds, _, h => by
    cases h with
    | tup hs ha =>
      refine .tup ?_ (DpAll.mono' e ds _ ha)
      rcases hs with (h | ⟨o, h⟩) | h
      · exact .inl (.inl (e _ _ h))
      · exact .inl (.inr ⟨o, e _ _ h⟩)
      · exact .inr h
  | .dict _, _, h => by cases h
theorem DpAll.mono' {H H' : Hp} (e : Same H H') : ∀ (ds : List D) (vs : List V), DpAll K H vs ds → DpAll K H' vs ds
  | [], _, h => by cases h; exact .nil
  | d :: ds, _, h => by
    cases h with
    | cons h1 h2 => exact .cons (Dp.mono' e d _ h1) (DpAll.mono' e ds _ h2)
end
theorem Dp.mono {H H' : Hp} (e : Same H H') {d : D} {v : V} (h : Dp K H v d) : Dp K H' v d := Dp.mono' e d v h
theorem DpAll.mono {H H' : Hp} (e : Same H H') {ds : List D} {vs : List V} (h : DpAll K H vs ds) : DpAll K H' vs ds := DpAll.mono' e ds vs h
theorem DpAll.length {H : Hp} : ∀ {vs : List V} {ds : List D}, DpAll K H vs ds → vs.length = ds.length
  | _, [], h => by cases h; rfl
  | _, d :: ds, h => by
    cases h with
    | cons h1 h2 => rw [List.length_cons, List.length_cons, DpAll.length h2]
theorem DpAll.get {H : Hp} : ∀ {ds : List D} {vs : List V} {i : Nat} {v : V}, DpAll K H vs ds → vs[i]? = some v → ∃ d, ds[i]? = some d ∧ Dp K H v d
  | [], _, _, _, h, e => by cases h; simp at e
  | d :: ds, _, 0, _, h, e => by
    cases h with
    | cons h1 h2 => simp at e; subst e; exact ⟨d, rfl, h1⟩
  | d :: ds, _, i + 1, v, h, e => by
    cases h with
    | cons h1 h2 =>
      obtain ⟨d', e1, e2⟩ := DpAll.get h2 (show _ = some v by simpa using e)
      exact ⟨d', by simpa using e1, e2⟩
theorem DpAll.get' {H : Hp} : ∀ {ds : List D} {vs : List V} {i : Nat} {d : D}, DpAll K H vs ds → ds[i]? = some d → ∃ v, vs[i]? = some v ∧ Dp K H v d
  | [], _, _, _, h, e => by simp at e
  | d :: ds, _, 0, _, h, e => by
    cases h with
    | cons h1 h2 => simp at e; subst e; exact ⟨_, rfl, h1⟩
  | _ :: ds, _, i + 1, d, h, e => by
    cases h with
    | cons h1 h2 =>
      obtain ⟨d', e1, e2⟩ := DpAll.get' h2 (show _ = some d by simpa using e)
      exact ⟨d', by simpa using e1, e2⟩
theorem DpAll.append {H : Hp} : ∀ {ds es : List D} {vs ws : List V}, DpAll K H vs ds → DpAll K H ws es → DpAll K H (vs ++ ws) (ds ++ es)
  | [], _, _, _, h, h' => by cases h; exact h'
  | d :: ds, _, _, _, h, h' => by
    cases h with
    | cons h1 h2 => exact .cons h1 (DpAll.append h2 h')
theorem DpAll.take {H : Hp} : ∀ {ds : List D} {vs : List V} (n : Nat), DpAll K H vs ds → DpAll K H (vs.take n) (ds.take n)
  | ds, vs, 0, _ => by simp only [List.take_zero]; exact .nil
  | [], _, n + 1, h => by cases h; exact .nil
  | d :: ds, _, n + 1, h => by
    cases h with
    | cons h1 h2 => exact .cons h1 (DpAll.take n h2)
theorem DpAll.drop {H : Hp} : ∀ {ds : List D} {vs : List V} (n : Nat), DpAll K H vs ds → DpAll K H (vs.drop n) (ds.drop n)
  | ds, vs, 0, h => by simpa using h
  | [], _, n + 1, h => by cases h; exact .nil
  | d :: ds, _, n + 1, h => by
    cases h with
    | cons h1 h2 => exact DpAll.drop n h2
theorem DpAll.of_get {H : Hp} : ∀ {ds : List D} {vs : List V}, vs.length = ds.length → (∀ (i : Nat) v d, vs[i]? = some v → ds[i]? = some d → Dp K H v d) → DpAll K H vs ds
  | [], [], _, _ => .nil
  | [], _ :: _, h, _ => by simp at h
  | _ :: _, [], h, _ => by simp at h
  | d :: ds, v :: vs, h, f => .cons (f 0 v d rfl rfl) (DpAll.of_get (by simpa using h) fun i v' d' e1 e2 => f (i + 1) v' d' (by simpa using e1) (by simpa using e2))
mutual
/-- no list within -/
def noList : D → Bool
  | .list _ => false
  | .tuple ds => noListAll ds
  | .dict _ => false
  | _ => true
def noListAll : List D → Bool
  | [] => true
  | d :: ds => noList d && noListAll ds
end
mutual
theorem Dp.tups' {H H' : Hp} (e : ∀ b o, H b = some o → H' b = some o ∨ ∃ xs, o = .lst xs) : ∀ (d : D) (v : V), noList d = true → Dp K H v d → Dp K H' v d
  | .none, _, _, h => by cases h; exact .non
  | .bool b, _, _, h => by cases h; exact .bl b
  | .int i, _, _, h => by cases h; exact .int i
  | .str x, _, _, h => by cases h; exact .str x
  | .list ds, _, n, _ => by simp [noList] at n
  | .tuple ds, _, n, h => by
    cases h with
    | tup hs ha =>
      refine .tup ?_ (DpAll.tups' e ds _ (by simpa [noList] using n) ha)
      rcases hs with (h | ⟨o, h⟩) | h
      · rcases e _ _ h with z | ⟨xs, z⟩
        · exact .inl (.inl z)
        · cases z
      · rcases e _ _ h with z | ⟨xs, z⟩
        · exact .inl (.inr ⟨o, z⟩)
        · cases z
      · exact .inr h
  | .dict _, _, n, _ => by simp [noList] at n
theorem DpAll.tups' {H H' : Hp} (e : ∀ b o, H b = some o → H' b = some o ∨ ∃ xs, o = .lst xs) : ∀ (ds : List D) (vs : List V), noListAll ds = true → DpAll K H vs ds → DpAll K H' vs ds
  | [], _, _, h => by cases h; exact .nil
  | d :: ds, _, n, h => by
    cases h with
    | cons h1 h2 =>
      have n' : noList d = true ∧ noListAll ds = true := by simpa [noListAll] using n
      exact .cons (Dp.tups' e d _ n'.1 h1) (DpAll.tups' e ds _ n'.2 h2)
end

def SlotOk (K : PySem.W.Frag) (g : Gh) (S Vs : Hp) : DV → V → Prop
  | .dat d, v => Dp K S v d
  | .own ds, v => ∃ a xs, v = .ref a ∧ Vs a = some (.lst xs) ∧ S a = none ∧ g.H0 a = none ∧ DpAll K S xs ds
  | .rl, v => ∃ r f, g.W = some (r, f) ∧ v = .ref r
  | .scr ns, v => ∃ a, v = .ref a ∧ SqL K g.S0 a (ns.map V.int)

structure SR (K : PySem.W.Frag) (g : Gh) (n : Nat) (δ : DS) (σ : L2.St) (H S Vs : Hp) : Prop where
  S0S : Same g.S0 S
  SV : Same S Vs
  VH : Same Vs H
  VS : ∀ b o, Vs b = some o → S b = some o ∨ ∃ xs, o = .lst xs
  base : ∀ b o, g.H0 b = some o → ¬ inW g.W b → H b = some o
  nW : ∀ b, inW g.W b → Vs b = none
  fresh : ∀ b o, Vs b = some o → g.S0 b = some o ∨ g.H0 b = none
  rill : ∀ r f, g.W = some (r, f) → RillOk H r f n
  len : σ.length = δ.length
  slots : ∀ (i : Nat) x, δ[i]? = some (some x) → ∃ v, σ[i]? = some (some v) ∧ SlotOk K g S Vs x v
  apart : ∀ (i j : Nat) ds es, i ≠ j → δ[i]? = some (some (.own ds)) → δ[j]? = some (some (.own es)) → σ[i]? ≠ σ[j]?
  tmps : ∀ a ∈ g.T, S a = none ∧ (∃ xs, Vs a = some (.lst xs)) ∧ ∀ (i : Nat) ds, δ[i]? = some (some (.own ds)) → σ[i]? ≠ some (some (.ref a))

variable {g : Gh} {n m : Nat} {δ : DS} {σ : L2.St} {H S Vs : Hp} {p a : Addr} {o : HO}

theorem same_upd {H : Hp} {p : Addr} {o : HO} (h : H p = none) : Same H (upd H p o) := fun b x e => by
  rw [upd_ne (ne_of_none e h)]
  exact e
theorem upd_none {H : Hp} {p b : Addr} {o : HO} (hb : b ≠ p) (h : H b = none) : upd H p o b = none := by rw [upd_ne hb]; exact h
theorem SR.SH (h : SR K g n δ σ H S Vs) : Same S H := h.SV.trans h.VH
theorem SR.less (h : SR K g n δ σ H S Vs) (hm : m ≤ n) : SR K g m δ σ H S Vs :=
  ⟨h.S0S, h.SV, h.VH, h.VS, h.base, h.nW, h.fresh, fun r f e => by
    obtain ⟨ne, far, flow, turn, a1, a2, a3, a4, a5, a6, a7, a8⟩ := h.rill r f e
    exact ⟨ne, far, flow, turn, a1, a2, a3, a4, a5, a6, a7, by omega⟩, h.len, h.slots, h.apart, h.tmps⟩
theorem RillOk.has {H : Hp} {r f b : Addr} {n : Nat} (h : RillOk H r f n) (hb : b = r ∨ b = f) : ∃ o, H b = some o := by
  obtain ⟨_, far, flow, turn, a1, a2, _⟩ := h
  rcases hb with rfl | rfl
  · exact ⟨_, a1⟩
  · exact ⟨_, a2⟩
theorem SR.notW (h : SR K g n δ σ H S Vs) (hp : H p = none) : ¬ inW g.W p := fun ⟨r, f, e, hb⟩ => by
  obtain ⟨o, q⟩ := (h.rill r f e).has hb
  rw [hp] at q; cases q
theorem RillOk.upd {H : Hp} {r f p : Addr} {n : Nat} {o : HO} (h : RillOk H r f n) (hp : ¬ (p = r ∨ p = f)) : RillOk (upd H p o) r f n := by
  obtain ⟨ne, far, flow, turn, a1, a2, a3⟩ := h
  refine ⟨ne, far, flow, turn, ?_, ?_, a3⟩
  · rw [upd_ne fun z => hp (.inl z.symm)]; exact a1
  · rw [upd_ne fun z => hp (.inr z.symm)]; exact a2
theorem SR.h0 (h : SR K g n δ σ H S Vs) (hp : H p = none) : g.H0 p = none := by
  cases q : g.H0 p with
  | none => rfl
  | some o => rw [h.base p o q (h.notW hp)] at hp; cases hp
theorem SR.vN (h : SR K g n δ σ H S Vs) (hp : H p = none) : Vs p = none := h.VH.free hp
theorem SR.sN (h : SR K g n δ σ H S Vs) (hp : H p = none) : S p = none := h.SH.free hp
/-- a new object that is not known -/
theorem SR.temp (h : SR K g n δ σ H S Vs) (hp : H p = none) : SR K g n δ σ (upd H p o) S Vs :=
  ⟨h.S0S, h.SV, h.VH.trans (same_upd hp), h.VS, fun b x e w => by rw [upd_ne fun z => by subst z; rw [h.h0 hp] at e; cases e]; exact h.base b x e w, h.nW, h.fresh,
    fun r f e => (h.rill r f e).upd fun z => h.notW hp ⟨r, f, e, z⟩, h.len, h.slots, h.apart, h.tmps⟩
/-- a new object gets known -/
theorem SR.track (h : SR K g n δ σ H S Vs) (hH : H p = some o) (hV : Vs p = none) (h0 : g.H0 p = none) (hw : ¬ inW g.W p) : SR K g n δ σ H (upd S p o) (upd Vs p o) := by
  have hS : S p = none := h.SV.free hV
  refine ⟨h.S0S.trans (same_upd hS), fun b x e => ?_, fun b x e => ?_, fun b x e => ?_, h.base, fun b w => ?_, fun b x e => ?_, h.rill, h.len, fun i x e => ?_, h.apart, fun a ha => ?_⟩
  · by_cases hb : b = p
    · subst hb; rw [upd_same] at e ⊢; exact e
    · rw [upd_ne hb] at e ⊢; exact h.SV b x e
  · by_cases hb : b = p
    · subst hb; rw [upd_same] at e; rw [hH]; exact e
    · rw [upd_ne hb] at e; exact h.VH b x e
  · by_cases hb : b = p
    · subst hb; rw [upd_same] at e ⊢; exact .inl e
    · rw [upd_ne hb] at e ⊢; exact h.VS b x e
  · rw [upd_ne fun z => hw (by rw [← z]; exact w)]; exact h.nW b w
  · by_cases hb : b = p
    · subst hb; exact .inr h0
    · rw [upd_ne hb] at e; exact h.fresh b x e
  · obtain ⟨v, e1, e2⟩ := h.slots i x e
    refine ⟨v, e1, ?_⟩
    cases x with
    | dat d => exact Dp.mono (same_upd hS) e2
    | own ds =>
      obtain ⟨a, xs, ev, ea, es, eh, ed⟩ := e2
      have ne : a ≠ p := ne_of_none ea hV
      exact ⟨a, xs, ev, by rw [upd_ne ne]; exact ea, by rw [upd_ne ne]; exact es, eh, DpAll.mono (same_upd hS) ed⟩
    | rl => exact e2
    | scr _ => exact e2
  · obtain ⟨q1, ⟨xs, q2⟩, q3⟩ := h.tmps a ha
    have ne : a ≠ p := ne_of_none q2 hV
    exact ⟨by rw [upd_ne ne]; exact q1, ⟨xs, by rw [upd_ne ne]; exact q2⟩, q3⟩
theorem SR.alloc (h : SR K g n δ σ H S Vs) (hp : H p = none) : SR K g n δ σ (upd H p o) (upd S p o) (upd Vs p o) :=
  (h.temp hp).track upd_same (h.vN hp) (h.h0 hp) (h.notW hp)
theorem set_get {α : Type} {l : List (Option α)} {i j : Nat} {x y : α} (e : (l.set i (some y))[j]? = some (some x)) : (i = j ∧ x = y) ∨ (i ≠ j ∧ l[j]? = some (some x)) := by
  by_cases h : i = j
  · subst h
    rw [List.getElem?_set] at e
    split at e
    · split at e
      · exact .inl ⟨rfl, ((Option.some.inj (Option.some.inj e))).symm⟩
      · cases e
    · exact absurd rfl ‹_›
  · rw [List.getElem?_set_ne h] at e
    exact .inr ⟨h, e⟩
/-- a slot is stored: data -/
theorem SR.set (h : SR K g n δ σ H S Vs) {i : Nat} {v : V} {d : D} (hi : i < δ.length) (hd : Dp K S v d) : SR K g n (δ.set i (some (.dat d))) (σ.set i (some v)) H S Vs := by
  refine ⟨h.S0S, h.SV, h.VH, h.VS, h.base, h.nW, h.fresh, h.rill, by simp [h.len], fun j x e => ?_, fun j k ds es hjk e1 e2 => ?_, fun a ha => ?_⟩
  · rcases set_get e with ⟨rfl, rfl⟩ | ⟨hj, e⟩
    · exact ⟨v, by rw [List.getElem?_set_self (by rw [h.len]; exact hi)], hd⟩
    · obtain ⟨u, e1, e2⟩ := h.slots j x e
      exact ⟨u, by rw [List.getElem?_set_ne hj]; exact e1, e2⟩
  · rcases set_get e1 with ⟨_, z⟩ | ⟨hj, e1⟩
    · cases z
    rcases set_get e2 with ⟨_, z⟩ | ⟨hk, e2⟩
    · cases z
    rw [List.getElem?_set_ne hj, List.getElem?_set_ne hk]
    exact h.apart j k ds es hjk e1 e2
  · obtain ⟨q1, q2, q3⟩ := h.tmps a ha
    refine ⟨q1, q2, fun j ds e => ?_⟩
    rcases set_get e with ⟨_, z⟩ | ⟨hj, e⟩
    · cases z
    · rw [List.getElem?_set_ne hj]; exact q3 j ds e
/-- a slot is stored: the drawing dict -/
theorem SR.setR (h : SR K g n δ σ H S Vs) {i : Nat} {r f : Addr} (hi : i < δ.length) (hr : g.W = some (r, f)) : SR K g n (δ.set i (some .rl)) (σ.set i (some (.ref r))) H S Vs := by
  refine ⟨h.S0S, h.SV, h.VH, h.VS, h.base, h.nW, h.fresh, h.rill, by simp [h.len], fun j x e => ?_, fun j k ds es hjk e1 e2 => ?_, fun a ha => ?_⟩
  · rcases set_get e with ⟨rfl, rfl⟩ | ⟨hj, e⟩
    · exact ⟨_, by rw [List.getElem?_set_self (by rw [h.len]; exact hi)], r, f, hr, rfl⟩
    · obtain ⟨u, e1, e2⟩ := h.slots j x e
      exact ⟨u, by rw [List.getElem?_set_ne hj]; exact e1, e2⟩
  · rcases set_get e1 with ⟨_, z⟩ | ⟨hj, e1⟩
    · cases z
    rcases set_get e2 with ⟨_, z⟩ | ⟨hk, e2⟩
    · cases z
    rw [List.getElem?_set_ne hj, List.getElem?_set_ne hk]
    exact h.apart j k ds es hjk e1 e2
  · obtain ⟨q1, q2, q3⟩ := h.tmps a ha
    refine ⟨q1, q2, fun j ds e => ?_⟩
    rcases set_get e with ⟨_, z⟩ | ⟨hj, e⟩
    · cases z
    · rw [List.getElem?_set_ne hj]; exact q3 j ds e
/-- a slot is forgotten -/
theorem set_none_get {α : Type} {l : List (Option α)} {i j : Nat} {x : α} (e : (l.set i none)[j]? = some (some x)) : i ≠ j ∧ l[j]? = some (some x) := by
  by_cases h : i = j
  · subst h
    rw [List.getElem?_set] at e
    split at e
    · split at e <;> cases e
    · exact absurd rfl ‹_›
  · rw [List.getElem?_set_ne h] at e
    exact ⟨h, e⟩
theorem SR.drop (h : SR K g n δ σ H S Vs) (i : Nat) : SR K g n (δ.set i none) σ H S Vs :=
  ⟨h.S0S, h.SV, h.VH, h.VS, h.base, h.nW, h.fresh, h.rill, by simp [h.len], fun j x e => h.slots j x (set_none_get e).2,
    fun j k ds es hjk e1 e2 => h.apart j k ds es hjk (set_none_get e1).2 (set_none_get e2).2,
    fun a ha => ⟨(h.tmps a ha).1, (h.tmps a ha).2.1, fun j ds e => (h.tmps a ha).2.2 j ds (set_none_get e).2⟩⟩
theorem SR.drop2 (h : SR K g n δ σ H S Vs) (i : Nat) : SR K g n (δ.set i none) (σ.set i none) H S Vs :=
  ⟨h.S0S, h.SV, h.VH, h.VS, h.base, h.nW, h.fresh, h.rill, by simp [h.len], fun j x e => by
    obtain ⟨hj, e⟩ := set_none_get e
    obtain ⟨u, e1, e2⟩ := h.slots j x e
    exact ⟨u, by rw [List.getElem?_set_ne hj]; exact e1, e2⟩,
    fun j k ds es hjk e1 e2 => by
      obtain ⟨hj, e1⟩ := set_none_get e1
      obtain ⟨hk, e2⟩ := set_none_get e2
      rw [List.getElem?_set_ne hj, List.getElem?_set_ne hk]
      exact h.apart j k ds es hjk e1 e2,
    fun a ha => ⟨(h.tmps a ha).1, (h.tmps a ha).2.1, fun j ds e => by
      obtain ⟨hj, e⟩ := set_none_get e
      rw [List.getElem?_set_ne hj]
      exact (h.tmps a ha).2.2 j ds e⟩⟩
def wipeD (δ : DS) : List Nat → DS
  | [] => δ
  | v :: vs => (wipeD δ vs).set v none
theorem SR.wip (h : SR K g n δ σ H S Vs) : ∀ vs : List Nat, SR K g n (wipeD δ vs) (L2.wipe σ vs) H S Vs
  | [] => h
  | v :: vs => (SR.wip h vs).drop2 v
/-- a slot is stored: a new list -/
theorem SR.setO (h : SR K g n δ σ H S Vs) {i : Nat} {xs : List V} {ds : List D} (hi : i < δ.length) (hH : H p = some (.lst xs)) (hV : Vs p = none) (h0 : g.H0 p = none) (hw : ¬ inW g.W p) (hd : DpAll K S xs ds) :
    SR K g n (δ.set i (some (.own ds))) (σ.set i (some (.ref p))) H S (upd Vs p (.lst xs)) := by
  have hS : S p = none := h.SV.free hV
  have neo : ∀ (j : Nat) es, δ[j]? = some (some (.own es)) → ∀ v, σ[j]? = some v → v ≠ some (.ref p) := fun j es e v q z => by
    obtain ⟨u, e1, a, xs, e2, e3, _⟩ := h.slots j _ e
    rw [e1] at q; cases q
    subst e2
    cases z
    rw [hV] at e3; cases e3
  refine ⟨h.S0S, h.SV.trans (same_upd hV), fun b x e => ?_, fun b x e => ?_, h.base, fun b w => ?_, fun b x e => ?_, h.rill, by simp [h.len], fun j x e => ?_, fun j k ds' es' hjk e1 e2 => ?_, fun a ha => ?_⟩
  · by_cases hb : b = p
    · subst hb; rw [upd_same] at e; rw [hH]; exact e
    · rw [upd_ne hb] at e; exact h.VH b x e
  · by_cases hb : b = p
    · subst hb; rw [upd_same] at e; cases e; exact .inr ⟨_, rfl⟩
    · rw [upd_ne hb] at e; exact h.VS b x e
  · rw [upd_ne fun z => hw (by rw [← z]; exact w)]; exact h.nW b w
  · by_cases hb : b = p
    · subst hb; exact .inr h0
    · rw [upd_ne hb] at e; exact h.fresh b x e
  · rcases set_get e with ⟨rfl, rfl⟩ | ⟨hj, e⟩
    · exact ⟨_, by rw [List.getElem?_set_self (by rw [h.len]; exact hi)], p, xs, rfl, upd_same, hS, h0, hd⟩
    · obtain ⟨u, e1, e2⟩ := h.slots j x e
      refine ⟨u, by rw [List.getElem?_set_ne hj]; exact e1, ?_⟩
      cases x with
      | dat d => exact e2
      | own ds =>
        obtain ⟨a, ys, ev, ea, es, eh, ed⟩ := e2
        exact ⟨a, ys, ev, by rw [upd_ne (ne_of_none ea hV)]; exact ea, es, eh, ed⟩
      | rl => exact e2
      | scr _ => exact e2
  · have hlen : i < σ.length := by rw [h.len]; exact hi
    rcases set_get e1 with ⟨rfl, _⟩ | ⟨hj, e1⟩
    · rcases set_get e2 with ⟨rfl, _⟩ | ⟨hk, e2⟩
      · exact absurd rfl hjk
      · rw [List.getElem?_set_self hlen, List.getElem?_set_ne hk]
        exact fun z => neo k _ e2 _ z.symm rfl
    · rcases set_get e2 with ⟨rfl, _⟩ | ⟨hk, e2⟩
      · rw [List.getElem?_set_self hlen, List.getElem?_set_ne hj]
        exact fun z => neo j _ e1 _ z rfl
      · rw [List.getElem?_set_ne hj, List.getElem?_set_ne hk]
        exact h.apart j k ds' es' hjk e1 e2
  · obtain ⟨q1, ⟨ys, q2⟩, q3⟩ := h.tmps a ha
    have ne : a ≠ p := ne_of_none q2 hV
    refine ⟨q1, ⟨ys, by rw [upd_ne ne]; exact q2⟩, fun j ds e => ?_⟩
    rcases set_get e with ⟨rfl, _⟩ | ⟨hj, e⟩
    · rw [List.getElem?_set_self (by rw [h.len]; exact hi)]
      exact fun z => ne (by cases z; rfl)
    · rw [List.getElem?_set_ne hj]; exact q3 j ds e
/-- an own list is changed -/
theorem SR.mut (h : SR K g n δ σ H S Vs) {i : Nat} {ys : List V} {ds es : List D} (hi : δ[i]? = some (some (.own ds))) (hv : σ[i]? = some (some (.ref a))) (hd : DpAll K S ys es) :
    SR K g n (δ.set i (some (.own es))) σ (upd H a (.lst ys)) S (upd Vs a (.lst ys)) := by
  obtain ⟨v, e1, a', xs, e2, e3, e4, e5, e6⟩ := h.slots i _ hi
  rw [hv] at e1
  cases e1
  cases e2
  have hil : i < δ.length := (List.getElem?_eq_some_iff.mp hi).1
  have hw : ¬ inW g.W a := fun w => by rw [h.nW a w] at e3; cases e3
  refine ⟨h.S0S, fun b x e => ?_, fun b x e => ?_, fun b x e => ?_, fun b x e w => ?_, fun b w => ?_, fun b x e => ?_, fun r f e => (h.rill r f e).upd fun z => hw ⟨r, f, e, z⟩, by simp [h.len], fun j x e => ?_, fun j k ds' es' hjk q1 q2 => ?_, fun b hb => ?_⟩
  · rw [upd_ne (ne_of_none e e4)]; exact h.SV b x e
  · by_cases hb : b = a
    · subst hb; rw [upd_same] at e ⊢; exact e
    · rw [upd_ne hb] at e ⊢; exact h.VH b x e
  · by_cases hb : b = a
    · subst hb; rw [upd_same] at e; cases e; exact .inr ⟨_, rfl⟩
    · rw [upd_ne hb] at e; exact h.VS b x e
  · rw [upd_ne (ne_of_none e e5)]; exact h.base b x e w
  · rw [upd_ne fun z => hw (by rw [← z]; exact w)]; exact h.nW b w
  · by_cases hb : b = a
    · subst hb; exact .inr e5
    · rw [upd_ne hb] at e; exact h.fresh b x e
  · rcases set_get e with ⟨rfl, rfl⟩ | ⟨hj, e⟩
    · exact ⟨_, hv, a, ys, rfl, upd_same, e4, e5, hd⟩
    · obtain ⟨u, q1, q2⟩ := h.slots j x e
      refine ⟨u, q1, ?_⟩
      cases x with
      | dat d => exact q2
      | own ds' =>
        obtain ⟨a', ys', ev, ea, es, eh, ed⟩ := q2
        have ne : a' ≠ a := fun z => by
          subst z
          subst ev
          exact h.apart i j ds ds' hj hi e (by rw [hv, q1])
        exact ⟨a', ys', ev, by rw [upd_ne ne]; exact ea, es, eh, ed⟩
      | rl => exact q2
      | scr _ => exact q2
  · rcases set_get q1 with ⟨rfl, _⟩ | ⟨hj, q1⟩
    · rcases set_get q2 with ⟨rfl, _⟩ | ⟨hk, q2⟩
      · exact absurd rfl hjk
      · exact h.apart i k ds es' hjk hi q2
    · rcases set_get q2 with ⟨rfl, _⟩ | ⟨hk, q2⟩
      · exact h.apart j i ds' ds hjk q1 hi
      · exact h.apart j k ds' es' hjk q1 q2
  · obtain ⟨q1, ⟨zs, q2⟩, q3⟩ := h.tmps b hb
    have ne : b ≠ a := fun z => q3 i ds hi (by rw [hv, z])
    refine ⟨q1, ⟨zs, by rw [upd_ne ne]; exact q2⟩, fun j ds' e => ?_⟩
    rcases set_get e with ⟨rfl, _⟩ | ⟨hj, e⟩
    · exact q3 i ds hi
    · exact q3 j ds' e
/-- an own list is given away -/
theorem SR.freeze (h : SR K g n δ σ H S Vs) (hT : g.T = []) {i : Nat} {ds : List D} (hi : δ[i]? = some (some (.own ds))) :
    ∃ S', SR K g n (δ.set i (some (.dat (.list ds)))) σ H S' Vs ∧ Same S S' := by
  obtain ⟨v, e1, a, xs, e2, e3, e4, e5, e6⟩ := h.slots i _ hi
  subst e2
  have hil : i < δ.length := (List.getElem?_eq_some_iff.mp hi).1
  refine ⟨upd S a (.lst xs), ⟨h.S0S.trans (same_upd e4), fun b x e => ?_, h.VH, fun b x e => ?_, h.base, h.nW, h.fresh, h.rill, by simp [h.len], fun j x e => ?_, fun j k ds' es' hjk q1 q2 => ?_, fun b hb => by rw [hT] at hb; cases hb⟩, same_upd e4⟩
  · by_cases hb : b = a
    · subst hb; rw [upd_same] at e; rw [e3]; exact e
    · rw [upd_ne hb] at e; exact h.SV b x e
  · rcases h.VS b x e with z | z
    · exact .inl (same_upd e4 b x z)
    · exact .inr z
  · rcases set_get e with ⟨rfl, rfl⟩ | ⟨hj, e⟩
    · exact ⟨_, e1, .lst upd_same (DpAll.mono (same_upd e4) e6)⟩
    · obtain ⟨u, q1, q2⟩ := h.slots j x e
      refine ⟨u, q1, ?_⟩
      cases x with
      | dat d => exact Dp.mono (same_upd e4) q2
      | own ds' =>
        obtain ⟨a', ys', ev, ea, es, eh, ed⟩ := q2
        have ne : a' ≠ a := fun z => by
          subst z
          subst ev
          exact h.apart i j ds ds' hj hi e (by rw [e1, q1])
        exact ⟨a', ys', ev, ea, by rw [upd_ne ne]; exact es, eh, DpAll.mono (same_upd e4) ed⟩
      | rl => exact q2
      | scr _ => exact q2
  · rcases set_get q1 with ⟨_, z⟩ | ⟨hj, q1⟩
    · cases z
    rcases set_get q2 with ⟨_, z⟩ | ⟨hk, q2⟩
    · cases z
    exact h.apart j k ds' es' hjk q1 q2
/-- the outer state again, behind what a block did -/
theorem SR.regrow {δw : DS} {σw : L2.St} {H' S' Vs' : Hp} (h : SR K g n δ σ H S Vs) (h' : SR K g m δw σw H' S' Vs') (s1 : Same S S') (s2 : Same Vs Vs')
    (ho : ∀ (i : Nat) ds, δ[i]? = some (some (.own ds)) → δw[i]? = some (some (.own ds)) ∧ σw[i]? = σ[i]?) : SR K g m δ σ H' S' Vs' := by
  refine ⟨h'.S0S, h'.SV, h'.VH, h'.VS, h'.base, h'.nW, h'.fresh, h'.rill, h.len, fun i x e => ?_, h.apart, fun a ha => ?_⟩
  · obtain ⟨v, e1, e2⟩ := h.slots i x e
    refine ⟨v, e1, ?_⟩
    cases x with
    | dat d => exact Dp.mono s1 e2
    | own ds =>
      obtain ⟨a, xs, ev, ea, es, eh, ed⟩ := e2
      obtain ⟨o1, o2⟩ := ho i ds e
      obtain ⟨v', f1, a', xs', fv, fa, fs, fh, fd⟩ := h'.slots i _ o1
      rw [o2, e1] at f1
      cases f1
      rw [ev] at fv
      cases fv
      exact ⟨a, xs, ev, s2 _ _ ea, fs, eh, DpAll.mono s1 ed⟩
    | rl => exact e2
    | scr _ => exact e2
  · obtain ⟨q1, ⟨xs, q2⟩, q3⟩ := h.tmps a ha
    exact ⟨(h'.tmps a ha).1, ⟨xs, s2 _ _ q2⟩, q3⟩
/-- a new list that no slot holds -/
theorem SR.withTmp {xs : List V} (h : SR K g n δ σ H S Vs) (hH : H p = some (.lst xs)) (hV : Vs p = none) (h0 : g.H0 p = none) (hw : ¬ inW g.W p) :
    SR K { g with T := p :: g.T } n δ σ H S (upd Vs p (.lst xs)) := by
  refine ⟨h.S0S, h.SV.trans (same_upd hV), fun b x e => ?_, fun b x e => ?_, h.base, fun b w => ?_, fun b x e => ?_, h.rill, h.len, fun j x e => ?_, h.apart, fun b hb => ?_⟩
  · by_cases hb : b = p
    · subst hb; rw [upd_same] at e; rw [hH]; exact e
    · rw [upd_ne hb] at e; exact h.VH b x e
  · by_cases hb : b = p
    · subst hb; rw [upd_same] at e; cases e; exact .inr ⟨_, rfl⟩
    · rw [upd_ne hb] at e; exact h.VS b x e
  · rw [upd_ne fun z => hw (by rw [← z]; exact w)]; exact h.nW b w
  · by_cases hb : b = p
    · subst hb; exact .inr h0
    · rw [upd_ne hb] at e; exact h.fresh b x e
  · obtain ⟨u, e1, e2⟩ := h.slots j x e
    refine ⟨u, e1, ?_⟩
    cases x with
    | dat d => exact e2
    | own ds =>
      obtain ⟨a, ys, ev, ea, es, eh, ed⟩ := e2
      exact ⟨a, ys, ev, by rw [upd_ne (ne_of_none ea hV)]; exact ea, es, eh, ed⟩
    | rl => exact e2
    | scr _ => exact e2
  · rcases List.mem_cons.mp hb with rfl | hb
    · refine ⟨h.SV.free hV, ⟨xs, upd_same⟩, fun i ds e z => ?_⟩
      obtain ⟨u, e1, a, ys, ev, ea, _⟩ := h.slots i _ e
      rw [z] at e1
      cases e1
      cases ev
      rw [hV] at ea; cases ea
    · obtain ⟨q1, ⟨ys, q2⟩, q3⟩ := h.tmps b hb
      exact ⟨q1, ⟨ys, by rw [upd_ne (ne_of_none q2 hV)]; exact q2⟩, q3⟩
/-- .. is changed -/
theorem SR.tmpMut {T : List Addr} {ys : List V} (h : SR K { g with T := p :: T } n δ σ H S Vs) (h0 : g.H0 p = none) (hT : p ∉ T) :
    SR K { g with T := p :: T } n δ σ (upd H p (.lst ys)) S (upd Vs p (.lst ys)) := by
  obtain ⟨q1, ⟨xs, q2⟩, q3⟩ := h.tmps p List.mem_cons_self
  have hw : ¬ inW g.W p := fun w => by rw [h.nW p w] at q2; cases q2
  refine ⟨h.S0S, fun b x e => ?_, fun b x e => ?_, fun b x e => ?_, fun b x e w => ?_, fun b w => ?_, fun b x e => ?_, fun r f e => (h.rill r f e).upd fun z => hw ⟨r, f, e, z⟩, h.len, fun j x e => ?_, h.apart, fun b hb => ?_⟩
  · rw [upd_ne (ne_of_none e q1)]; exact h.SV b x e
  · by_cases hb : b = p
    · subst hb; rw [upd_same] at e ⊢; exact e
    · rw [upd_ne hb] at e ⊢; exact h.VH b x e
  · by_cases hb : b = p
    · subst hb; rw [upd_same] at e; cases e; exact .inr ⟨_, rfl⟩
    · rw [upd_ne hb] at e; exact h.VS b x e
  · rw [upd_ne (ne_of_none e h0)]; exact h.base b x e w
  · rw [upd_ne fun z => hw (by rw [← z]; exact w)]; exact h.nW b w
  · by_cases hb : b = p
    · subst hb; exact .inr h0
    · rw [upd_ne hb] at e; exact h.fresh b x e
  · obtain ⟨u, e1, e2⟩ := h.slots j x e
    refine ⟨u, e1, ?_⟩
    cases x with
    | dat d => exact e2
    | own ds =>
      obtain ⟨a, zs, ev, ea, es, eh, ed⟩ := e2
      have ne : a ≠ p := fun z => q3 j ds e (by rw [e1, ev, z])
      exact ⟨a, zs, ev, by rw [upd_ne ne]; exact ea, es, eh, ed⟩
    | rl => exact e2
    | scr _ => exact e2
  · rcases List.mem_cons.mp hb with rfl | hb
    · exact ⟨q1, ⟨ys, upd_same⟩, q3⟩
    · obtain ⟨r1, ⟨zs, r2⟩, r3⟩ := h.tmps b (List.mem_cons_of_mem _ hb)
      exact ⟨r1, ⟨zs, by rw [upd_ne (show b ≠ p from fun z => hT (z ▸ hb))]; exact r2⟩, r3⟩
/-- .. is known no longer as one -/
theorem SR.noTmp {T : List Addr} (h : SR K { g with T := T } n δ σ H S Vs) (hs : ∀ a ∈ g.T, a ∈ T) : SR K g n δ σ H S Vs :=
  ⟨h.S0S, h.SV, h.VH, h.VS, h.base, h.nW, h.fresh, h.rill, h.len, h.slots, h.apart, fun a ha => h.tmps a (hs a ha)⟩
end
end DL
/-! DL1: judgements over data states: expressions. -/
namespace DL
open PySem PySem.Spec L2

/-- borrowed: stands for ever, or a list of a slot's own with items that do -/
def BRep (K : PySem.W.Frag) (S Vs : Hp) (v : V) (d : D) : Prop := Dp K S v d ∨ ∃ a xs ds, d = .list ds ∧ v = .ref a ∧ Vs a = some (.lst xs) ∧ DpAll K S xs ds
def Rp (K : PySem.W.Frag) (b : Bool) (S Vs : Hp) (v : V) (d : D) : Prop := if b = true then Dp K S v d else BRep K S Vs v d
abbrev DTE := DS → Nat → (D → Nat → Prop) → Prop
abbrev DTT := DS → Nat → (Bool → Nat → Prop) → Prop
abbrev DTA := DS → Nat → (List D → Nat → Prop) → Prop
def lE (K : PySem.W.Frag) (b : Bool) (t : DTE) : TE := fun σ H Q => ∃ g n δ S Vs P, SR K g n δ σ H S Vs ∧ t δ n P ∧
  ∀ d m v H' S' Vs', P d m → SR K g m δ σ H' S' Vs' → Same S S' → Same Vs Vs' → Rp K b S' Vs' v d → Q v H'
def lT (K : PySem.W.Frag) (t : DTT) : TT := fun σ H Q => ∃ g n δ S Vs P, SR K g n δ σ H S Vs ∧ t δ n P ∧
  ∀ c m H' S' Vs', P c m → SR K g m δ σ H' S' Vs' → Same S S' → Same Vs Vs' → Q c H'
structure DE (X : Cx) (b : Bool) (e : Expr) (t : DTE) : Prop where
  run : PE X e (lE X.K b t)
structure DT (X : Cx) (e : Expr) (t : DTT) : Prop where
  run : PT X e (lT X.K t)
structure DW (X : Cx) (e : Expr) (t : DTT) : Prop where
  run : PW X e (lT X.K t)

section
variable {X : Cx} {K : PySem.W.Frag} {e a b c : Expr} {t u : TE} {pos : Pos}
theorem PE.imp (h : PE X e t) (hi : ∀ σ H Q, u σ H Q → t σ H Q) : PE X e u := ⟨fun pins s σ H Q I q => h.run pins s σ H Q I (hi σ H Q q)⟩
theorem PT.imp {t u : TT} (h : PT X e t) (hi : ∀ σ H Q, u σ H Q → t σ H Q) : PT X e u := ⟨fun pins s σ H Q I q => h.run pins s σ H Q I (hi σ H Q q)⟩
theorem PW.imp {t u : TT} (h : PW X e t) (hi : ∀ σ H Q, u σ H Q → t σ H Q) : PW X e u := ⟨fun wh pins s σ H Q I q => h.run wh pins s σ H Q I (hi σ H Q q)⟩
theorem Rp.br {b : Bool} {S Vs : Hp} {v : V} {d : D} (h : Rp K b S Vs v d) : BRep K S Vs v d := by
  unfold Rp at h
  split at h
  · exact .inl h
  · exact h
theorem BRep.dp {S Vs : Hp} {v : V} {d : D} (h : BRep K S Vs v d) (sv : Same S Vs) : Dp K Vs v d := by
  rcases h with h | ⟨a, xs, ds, rfl, rfl, h1, h2⟩
  · exact Dp.mono sv h
  · exact .lst h1 (DpAll.mono sv h2)
theorem BRep.mono {S Vs S' Vs' : Hp} {v : V} {d : D} (h : BRep K S Vs v d) (s1 : Same S S') (s2 : Same Vs Vs') : BRep K S' Vs' v d := by
  rcases h with h | ⟨a, xs, ds, rfl, rfl, h1, h2⟩
  · exact .inl (Dp.mono s1 h)
  · exact .inr ⟨a, xs, ds, rfl, rfl, s2 _ _ h1, DpAll.mono s1 h2⟩
theorem Rp.mono {b : Bool} {S Vs S' Vs' : Hp} {v : V} {d : D} (h : Rp K b S Vs v d) (s1 : Same S S') (s2 : Same Vs Vs') : Rp K b S' Vs' v d := by
  unfold Rp at h ⊢
  cases b with
  | true => exact Dp.mono s1 h
  | false => exact BRep.mono h s1 s2
theorem Rp.dp {b : Bool} {S Vs : Hp} {v : V} {d : D} (h : Rp K b S Vs v d) (sv : Same S Vs) : Dp K Vs v d := BRep.dp (Rp.br h) sv
theorem Rp.of {b : Bool} {S Vs : Hp} {v : V} {d : D} (h : Dp K S v d) : Rp K b S Vs v d := by
  unfold Rp
  cases b with
  | true => exact h
  | false => exact .inl h
theorem DE.weak {t : DTE} {b : Bool} (h : DE X b e t) : DE X false e t :=
  ⟨PE.imp h.run fun σ H Q ⟨g, n, δ, S, Vs, P, sr, ht, k⟩ => ⟨g, n, δ, S, Vs, P, sr, ht, fun d m v H' S' Vs' p sr' s1 s2 r => k d m v H' S' Vs' p sr' s1 s2 (show Rp X.K false S' Vs' v d from Rp.br r)⟩⟩

/-- data without the heap -/
def Sc (d : D) (v : V) : Prop := ∀ (K : PySem.W.Frag) (B : Hp), Dp K B v d
theorem sc_int (i : Int) : Sc (.int i) (.int i) := fun _ _ => .int i
theorem sc_bl (i : Bool) : Sc (.bool i) (.bl i) := fun _ _ => .bl i
theorem sc_str (i : Str) : Sc (.str i) (.str i) := fun _ _ => .str i
theorem sc_non : Sc .none .non := fun _ _ => .non

/-! ### constants, names -/
def dC (d : D) : DTE := fun _ n Q => Q d n
theorem de_c {v : V} {d : D} (h : PE X e (tC v)) (hs : Sc d v) : DE X true e (dC d) :=
  ⟨PE.imp h fun σ H Q ⟨g, n, δ, S, Vs, P, sr, ht, k⟩ => k d n v H S Vs ht sr (Same.refl _) (Same.refl _) (hs _ _)⟩
theorem de_int {i j pos} : DE X true (.Constant (.int i) j pos) (dC (.int i)) := de_c pe_int (sc_int i)
theorem de_bl {i j pos} : DE X true (.Constant (.bool i) j pos) (dC (.bool i)) := de_c pe_bl (sc_bl i)
theorem de_non {j pos} : DE X true (.Constant .none j pos) (dC .none) := de_c pe_non sc_non
theorem de_str {i j pos} : DE X true (.Constant (.str i) j pos) (dC (.str i)) := de_c pe_str (sc_str i)
def dVar (i : Nat) : DTE := fun δ n Q => ∃ d, δ[i]? = some (some (.dat d)) ∧ Q d n
def dOwn (i : Nat) : DTE := fun δ n Q => ∃ ds, δ[i]? = some (some (.own ds)) ∧ Q (.list ds) n
theorem de_var {i : Nat} (h : PE X e (tVar i)) : DE X true e (dVar i) :=
  ⟨PE.imp h fun σ H Q ⟨g, n, δ, S, Vs, P, sr, ⟨d, e1, ht⟩, k⟩ => by
    obtain ⟨v, e2, r⟩ := sr.slots i _ e1
    exact ⟨v, e2, k d n v H S Vs ht sr (Same.refl _) (Same.refl _) r⟩⟩
theorem de_own {i : Nat} (h : PE X e (tVar i)) : DE X false e (dOwn i) :=
  ⟨PE.imp h fun σ H Q ⟨g, n, δ, S, Vs, P, sr, ⟨ds, e1, ht⟩, k⟩ => by
    obtain ⟨v, e2, a, xs, ev, ea, es, eh, ed⟩ := sr.slots i _ e1
    exact ⟨v, e2, k _ n v H S Vs ht sr (Same.refl _) (Same.refl _) (.inr ⟨a, xs, ds, rfl, ev, ea, ed⟩)⟩⟩
/-- borrowed data without a list within stands for ever -/
def dNL (t : DTE) : DTE := fun δ n Q => t δ n fun d m => noList d = true ∧ Q d m
theorem SR.noList {g : Gh} {n : Nat} {δ : DS} {σ : L2.St} {H S Vs : Hp} {v : V} {d : D} (sr : SR K g n δ σ H S Vs) (h : Dp K Vs v d) (hn : noList d = true) : Dp K S v d := Dp.tups' sr.VS d v hn h
theorem de_nl {b : Bool} {t : DTE} (h : DE X b e t) : DE X true e (dNL t) :=
  ⟨PE.imp h.run fun σ H Q ⟨g, n, δ, S, Vs, P, sr, ht, k⟩ => ⟨g, n, δ, S, Vs, _, sr, ht, fun d m v H' S' Vs' ⟨p1, p2⟩ sr' s1 s2 r => k d m v H' S' Vs' p2 sr' s1 s2 (sr'.noList (Rp.dp r sr'.SV) p1)⟩⟩

/-! ### what an operation gives: known data, or a new object of known data -/
inductive Out (K : PySem.W.Frag) (B H : Hp) : D → V → Hp → Prop
  | same {d : D} {v : V} (h : Dp K B v d) : Out K B H d v H
  | tup {p : Addr} {xs : List V} {ds : List D} (hp : H p = none) (h : DpAll K B xs ds) : Out K B H (.tuple ds) (.ref p) (upd H p (.tup xs))
  | lst {p : Addr} {xs : List V} {ds : List D} (hp : H p = none) (h : DpAll K B xs ds) : Out K B H (.list ds) (.ref p) (upd H p (.lst xs))
theorem SR.out {g : Gh} {n : Nat} {δ : DS} {σ : L2.St} {H S Vs H' : Hp} {v : V} {d : D} (sr : SR K g n δ σ H S Vs) (o : Out K S H d v H') :
    ∃ S' Vs', SR K g n δ σ H' S' Vs' ∧ Same S S' ∧ Same Vs Vs' ∧ Dp K S' v d := by
  cases o with
  | same h => exact ⟨S, Vs, sr, Same.refl _, Same.refl _, h⟩
  | tup hp h => exact ⟨_, _, sr.alloc hp, same_upd (sr.sN hp), same_upd (sr.vN hp), .tup (.inl (.inl upd_same)) (DpAll.mono (same_upd (sr.sN hp)) h)⟩
  | lst hp h => exact ⟨_, _, sr.alloc hp, same_upd (sr.sN hp), same_upd (sr.vN hp), .lst upd_same (DpAll.mono (same_upd (sr.sN hp)) h)⟩
theorem Sc.out {d : D} {v : V} {B H : Hp} (h : Sc d v) : Out K B H d v H := .same (h _ _)

/-- an operation by data: one place, two places -/
abbrev G1 := D → (D → Prop) → Prop
abbrev G2 := D → D → (D → Prop) → Prop
def Sem1 (K : PySem.W.Frag) (r : V → Hp → VK → Prop) (g : G1) : Prop := ∀ (B H : Hp) x dx P (Q : VK), Dp K B x dx → Same B H → g dx P → (∀ d v H', P d → Out K B H d v H' → Q v H') → r x H Q
def Sem2 (K : PySem.W.Frag) (r : R2) (g : G2) : Prop := ∀ (B H : Hp) x y dx dy P (Q : VK), Dp K B x dx → Dp K B y dy → Same B H → g dx dy P → (∀ d v H', P d → Out K B H d v H' → Q v H') → r x y H Q
/-- .. whose answer hangs on no heap -/
def Sem2S (K : PySem.W.Frag) (r : R2) (g : G2) : Prop := ∀ (B H : Hp) x y dx dy P (Q : VK), Dp K B x dx → Dp K B y dy → Same B H → g dx dy P → (∀ d v, P d → Sc d v → Q v H) → r x y H Q
def d1 (g : G1) (t : DTE) : DTE := fun δ n Q => t δ n fun x m => g x fun d => Q d m
def d2 (g : G2) (t u : DTE) : DTE := fun δ n Q => t δ n fun x m => u δ m fun y k => g x y fun d => Q d k
theorem de_un {r : V → Hp → VK → Prop} {g : G1} {t : DTE} (hp : ∀ ta, PE X a ta → PE X e (fun σ H Q => ta σ H fun x H1 => r x H1 Q)) (hs : Sem1 X.K r g) (ha : DE X true a t) : DE X true e (d1 g t) :=
  ⟨PE.imp (hp _ ha.run) fun σ H Q ⟨gh, n, δ, S, Vs, P, sr, ht, k⟩ => ⟨gh, n, δ, S, Vs, _, sr, ht, fun d m v H' S' Vs' p sr' s1 s2 rp =>
    hs S' H' v d _ Q rp sr'.SH p fun d2 v2 H2 p2 o => by
      obtain ⟨S2, V2, sr2, q1, q2, q3⟩ := sr'.out o
      exact k d2 m v2 H2 S2 V2 p2 sr2 (s1.trans q1) (s2.trans q2) q3⟩⟩
theorem de_bin {r : R2} {g : G2} {t u : DTE} (hp : ∀ ta tb, PE X a ta → PE X b tb → PE X e (tOp r ta tb)) (hs : Sem2 X.K r g) (ha : DE X true a t) (hb : DE X true b u) : DE X true e (d2 g t u) :=
  ⟨PE.imp (hp _ _ ha.run hb.run) fun σ H Q ⟨gh, n, δ, S, Vs, P, sr, ht, k⟩ => ⟨gh, n, δ, S, Vs, _, sr, ht, fun d m v H' S' Vs' p sr' s1 s2 rp =>
    ⟨gh, m, δ, S', Vs', _, sr', p, fun d2 m2 v2 H2 S2 V2 p2 sr2 t1 t2 rp2 =>
      hs S2 H2 v v2 d d2 _ Q (Dp.mono t1 rp) rp2 sr2.SH p2 fun d3 v3 H3 p3 o => by
        obtain ⟨S3, V3, sr3, q1, q2, q3⟩ := sr2.out o
        exact k d3 m2 v3 H3 S3 V3 p3 sr3 ((s1.trans t1).trans q1) ((s2.trans t2).trans q2) q3⟩⟩⟩
theorem de_binS {r : R2} {g : G2} {t u : DTE} {b1 b2 : Bool} (hp : ∀ ta tb, PE X a ta → PE X b tb → PE X e (tOp r ta tb)) (hs : Sem2S X.K r g) (ha : DE X b1 a t) (hb : DE X b2 b u) : DE X true e (d2 g t u) :=
  ⟨PE.imp (hp _ _ ha.run hb.run) fun σ H Q ⟨gh, n, δ, S, Vs, P, sr, ht, k⟩ => ⟨gh, n, δ, S, Vs, _, sr, ht, fun d m v H' S' Vs' p sr' s1 s2 rp =>
    ⟨gh, m, δ, S', Vs', _, sr', p, fun d2 m2 v2 H2 S2 V2 p2 sr2 t1 t2 rp2 =>
      hs V2 H2 v v2 d d2 _ Q (Dp.mono t2 (Rp.dp rp sr'.SV)) (Rp.dp rp2 sr2.SV) sr2.VH p2 fun d3 v3 p3 o =>
        k d3 m2 v3 H2 S2 V2 p3 sr2 (s1.trans t1) (s2.trans t2) (o _ _)⟩⟩⟩

/-! ### arithmetic -/
def gI (f : Int → Int → D) : G2 := fun x y P => ∃ i j, x = .int i ∧ y = .int j ∧ P (f i j)
def gIC (C : Int → Int → Prop) (f : Int → Int → D) : G2 := fun x y P => ∃ i j, x = .int i ∧ y = .int j ∧ C i j ∧ P (f i j)
theorem sem_I {f : Int → Int → V} {h : Int → Int → D} (hf : ∀ i j, Sc (h i j) (f i j)) : Sem2S K (rI0 f) (gI h) := by
  intro B H x y dx dy P Q hx hy sb ⟨i, j, e1, e2, p⟩ k
  subst e1 e2
  cases hx
  cases hy
  exact ⟨i, j, rfl, rfl, k _ _ p (hf i j)⟩
theorem sem_IC {C : Int → Int → Prop} {f : Int → Int → V} {h : Int → Int → D} (hf : ∀ i j, Sc (h i j) (f i j)) : Sem2S K (rI C f) (gIC C h) := by
  intro B H x y dx dy P Q hx hy sb ⟨i, j, e1, e2, c, p⟩ k
  subst e1 e2
  cases hx
  cases hy
  exact ⟨i, j, rfl, rfl, c, k _ _ p (hf i j)⟩
variable {t1 t2 : DTE} {b1 b2 : Bool}
theorem de_sub (ha : DE X b1 a t1) (hb : DE X b2 b t2) : DE X true (.BinOp a .Sub b pos) (d2 (gI fun i j => .int (i - j)) t1 t2) := de_binS (fun _ _ h1 h2 => pe_op op_sub h1 h2) (sem_I fun _ _ => sc_int _) ha hb
theorem de_addI (ha : DE X b1 a t1) (hb : DE X b2 b t2) : DE X true (.BinOp a .Add b pos) (d2 (gI fun i j => .int (i + j)) t1 t2) := de_binS (fun _ _ h1 h2 => pe_op op_add h1 h2) (sem_I fun _ _ => sc_int _) ha hb
theorem de_mul (ha : DE X b1 a t1) (hb : DE X b2 b t2) : DE X true (.BinOp a .Mult b pos) (d2 (gIC CMul fun i j => .int (i * j)) t1 t2) := de_binS (fun _ _ h1 h2 => pe_op op_mul h1 h2) (sem_IC fun _ _ => sc_int _) ha hb
theorem de_mod (ha : DE X b1 a t1) (hb : DE X b2 b t2) : DE X true (.BinOp a .Mod b pos) (d2 (gIC (fun _ j => 0 < j) fun i j => .int (i % j)) t1 t2) := de_binS (fun _ _ h1 h2 => pe_op op_mod h1 h2) (sem_IC fun _ _ => sc_int _) ha hb
theorem de_fdiv (ha : DE X b1 a t1) (hb : DE X b2 b t2) : DE X true (.BinOp a .FloorDiv b pos) (d2 (gIC CDiv fun i j => .int (i / j)) t1 t2) := de_binS (fun _ _ h1 h2 => pe_op op_fdiv h1 h2) (sem_IC fun _ _ => sc_int _) ha hb
theorem de_pow (ha : DE X b1 a t1) (hb : DE X b2 b t2) : DE X true (.BinOp a .Pow b pos) (d2 (gIC CPow fun i j => .int (i ^ j.toNat)) t1 t2) := de_binS (fun _ _ h1 h2 => pe_op op_pow h1 h2) (sem_IC fun _ _ => sc_int _) ha hb
def gNeg : G1 := fun x P => ∃ i, x = .int i ∧ P (.int (-i))
theorem de_neg (ha : DE X true a t1) : DE X true (.UnaryOp .USub a pos) (d1 gNeg t1) := de_un (fun _ h => pe_un un_neg h) (by
  intro B H x dx P Q hx sb ⟨i, e, p⟩ k
  subst e
  cases hx
  exact ⟨i, rfl, k _ _ _ p (sc_int _).out⟩) ha

/-! ### comparisons -/
theorem OpR.or {X : Cx} {f : Value → Value → Sem Value} {r r' : R2} (h : OpR X f r) (h' : OpR X f r') : OpR X f (fun x y H Q => r x y H Q ∨ r' x y H Q) := by
  intro pins s σ H x y v u Q I rx ry q
  rcases q with q | q
  · exact h pins s σ H x y v u Q I rx ry q
  · exact h' pins s σ H x y v u Q I rx ry q
def eqOk (x y : D) : Prop := (SeqAt.shaped x = true ∧ SeqAt.shaped y = true) ∨ ∃ s t, x = .str s ∧ y = .str t
def gEq : G2 := fun x y P => eqOk x y ∧ P (.bool (PyData.eqv x y))
def gNe : G2 := fun x y P => eqOk x y ∧ P (.bool (!PyData.eqv x y))
theorem sem_eq : Sem2S K (fun x y H Q => rEqD K x y H Q ∨ rEq x y H Q) gEq := by
  intro B H x y dx dy P Q hx hy sb ⟨s1, p⟩ k
  rcases s1 with ⟨s1, s2⟩ | ⟨s, t, rfl, rfl⟩
  · exact .inl ⟨dx, dy, (Dp.mono sb hx).to, (Dp.mono sb hy).to, s1, s2, k _ _ p (sc_bl _)⟩
  · cases hx
    cases hy
    have q := k _ _ p (sc_bl _)
    rw [show PyData.eqv (.str s) (.str t) = decide (V.str s = V.str t) from dec_str.symm ▸ (by rw [PyData.eqv])] at q
    exact .inr ⟨rfl, q⟩
theorem sem_ne : Sem2S K (fun x y H Q => rNeD K x y H Q ∨ rNe x y H Q) gNe := by
  intro B H x y dx dy P Q hx hy sb ⟨s1, p⟩ k
  rcases s1 with ⟨s1, s2⟩ | ⟨s, t, rfl, rfl⟩
  · exact .inl ⟨dx, dy, (Dp.mono sb hx).to, (Dp.mono sb hy).to, s1, s2, k _ _ p (sc_bl _)⟩
  · cases hx
    cases hy
    have q := k _ _ p (sc_bl _)
    rw [show PyData.eqv (.str s) (.str t) = decide (V.str s = V.str t) from dec_str.symm ▸ (by rw [PyData.eqv])] at q
    exact .inr ⟨rfl, q⟩
theorem de_eq (hu : X.A.units + 64 < cLine) (ha : DE X b1 a t1) (hb : DE X b2 b t2) : DE X true (.Compare a [.Eq] [b] pos) (d2 gEq t1 t2) :=
  de_binS (fun _ _ h1 h2 => pe_cmpR (OpR.or (op_eqD hu) op_eq) h1 h2 (nomark _)) sem_eq ha hb
theorem de_ne (hu : X.A.units + 64 < cLine) (ha : DE X b1 a t1) (hb : DE X b2 b t2) : DE X true (.Compare a [.NotEq] [b] pos) (d2 gNe t1 t2) :=
  de_binS (fun _ _ h1 h2 => pe_cmpR (OpR.or (op_neD hu) op_ne) h1 h2 (nomark _)) sem_ne ha hb
/-- order of data that are alike -/
def cmpOk (x y : D) : Prop := PySem.W.alike x y = true ∧ x ≠ .none ∧ x.depth ≤ 64
def rCmp (K : PySem.W.Frag) (f : D → D → Bool) : R2 := fun x y H Q => ∃ d e, Dp K H x d ∧ Dp K H y e ∧ cmpOk d e ∧ Q (.bl (f d e)) H
def gCmp (f : D → D → Bool) : G2 := fun x y P => cmpOk x y ∧ P (.bool (f x y))
theorem op_cmp {op : CmpOp} {f : D → D → Bool} (hr : ∀ (s : Shared) (a b : Value) (da db : D) (as bs : List Addr) (Q E : Value → Shared → Prop), Reads s.heap a da as → Reads s.heap b db bs → PySem.W.alike da db = true → da ≠ .none → X.A.units + min da.depth db.depth < cLine → Q (.bool (f da db)) s → wpAny (model X.prog X.w) X.A (compareOp op a b) Q E s)
    (hu : X.A.units + 64 < cLine) : OpR X (compareOp op) (rCmp X.K f) := by
  intro pins s σ H x y v u Q I rx ry h
  obtain ⟨d, e, hd, he, ⟨c1, c2, c3⟩, q⟩ := h
  obtain ⟨as, r1⟩ := L2.Dp.reads I d x v hd.to rx
  obtain ⟨bs, r2⟩ := L2.Dp.reads I e y u he.to ry
  have hm : min d.depth e.depth ≤ d.depth := Nat.min_le_left _ _
  exact hr s v u d e as bs _ _ r1 r2 c1 c2 (by omega) ⟨.bl _, H, I, rfl, q⟩
theorem sem_cmp {f : D → D → Bool} : Sem2S K (rCmp K f) (gCmp f) := by
  intro B H x y dx dy P Q hx hy sb ⟨s1, p⟩ k
  exact ⟨dx, dy, Dp.mono sb hx, Dp.mono sb hy, s1, k _ _ p (sc_bl _)⟩
theorem de_lt (hu : X.A.units + 64 < cLine) (ha : DE X b1 a t1) (hb : DE X b2 b t2) : DE X true (.Compare a [.Lt] [b] pos) (d2 (gCmp fun x y => PySem.W.dataLt x y) t1 t2) :=
  de_binS (fun _ _ h1 h2 => pe_cmpR (op_cmp (fun s a b da db as bs Q E r1 r2 c1 c2 u q => PySem.W.lt_data r1 r2 c1 c2 u q) hu) h1 h2 (nomark _)) sem_cmp ha hb
theorem de_gt (hu : X.A.units + 64 < cLine) (ha : DE X b1 a t1) (hb : DE X b2 b t2) : DE X true (.Compare a [.Gt] [b] pos) (d2 (gCmp fun x y => PySem.W.dataLt y x) t1 t2) :=
  de_binS (fun _ _ h1 h2 => pe_cmpR (op_cmp (fun s a b da db as bs Q E r1 r2 c1 c2 u q => PySem.W.gt_data r1 r2 c1 c2 u q) hu) h1 h2 (nomark _)) sem_cmp ha hb
theorem de_le (hu : X.A.units + 64 < cLine) (ha : DE X b1 a t1) (hb : DE X b2 b t2) : DE X true (.Compare a [.LtE] [b] pos) (d2 (gCmp fun x y => !PySem.W.dataLt y x) t1 t2) :=
  de_binS (fun _ _ h1 h2 => pe_cmpR (op_cmp (fun s a b da db as bs Q E r1 r2 c1 c2 u q => PySem.W.le_data r1 r2 c1 c2 u q) hu) h1 h2 (nomark _)) sem_cmp ha hb
theorem de_ge (hu : X.A.units + 64 < cLine) (ha : DE X b1 a t1) (hb : DE X b2 b t2) : DE X true (.Compare a [.GtE] [b] pos) (d2 (gCmp fun x y => !PySem.W.dataLt x y) t1 t2) :=
  de_binS (fun _ _ h1 h2 => pe_cmpR (op_cmp (fun s a b da db as bs Q E r1 r2 c1 c2 u q => PySem.W.ge_data r1 r2 c1 c2 u q) hu) h1 h2 (nomark _)) sem_cmp ha hb
end
end DL
/-! DL2: expressions, further: +, in, is, tests, subscripts, displays, built-ins. -/
namespace DL
open PySem PySem.Spec L2

section
variable {X : Cx} {K : PySem.W.Frag} {e a b c : Expr} {pos : Pos} {t1 t2 t3 : DTE} {b1 b2 b3 : Bool}
/-! ### + -/
def gAdd : G2 := fun x y P => match x, y with
  | .int i, .int j => P (.int (i + j))
  | .tuple xs, .tuple ys => xs.length + ys.length ≤ sizeLine ∧ P (.tuple (xs ++ ys))
  | .list xs, .list ys => xs.length + ys.length ≤ sizeLine ∧ P (.list (xs ++ ys))
  | .str i, .str j => i.length + j.length ≤ sizeLine ∧ P (.str (i ++ j))
  | _, _ => False
theorem sem_add : Sem2 K (fun x y H Q => (rI0 fun i j => .int (i + j)) x y H Q ∨ rCatA K x y H Q ∨ rCat x y H Q ∨ ∃ i j, x = .str i ∧ y = .str j ∧ i.length + j.length ≤ sizeLine ∧ Q (.str (i ++ j)) H) gAdd := by
  intro B H x y dx dy P Q hx hy sb g k
  cases hx with
  | int i =>
    cases hy <;> first | exact absurd g (fun z => z) | skip
    exact .inl ⟨_, _, rfl, rfl, k _ _ _ g (sc_int _).out⟩
  | tup h1 h2 =>
    rename_i a xs ds
    cases hy with
    | tup h3 h4 =>
      rename_i a' ys es
      obtain ⟨z, p⟩ := g
      have l1 := h2.length
      have l2 := h4.length
      have q1 := (show SqT K H a xs from by rcases h1 with (h | ⟨o, h⟩) | h; exact .inl (.inl (sb _ _ h)); exact .inl (.inr ⟨o, sb _ _ h⟩); exact .inr h)
      have q2 := (show SqT K H a' ys from by rcases h3 with (h | ⟨o, h⟩) | h; exact .inl (.inl (sb _ _ h)); exact .inl (.inr ⟨o, sb _ _ h⟩); exact .inr h)
      refine .inr (.inl ⟨a, a', xs, ys, rfl, rfl, q1, q2, by omega, fun e => ?_, fun e e' => ?_, fun e e' p' hp => ?_⟩)
      · subst e
        cases h2
        exact k _ _ _ p (.same (.tup h3 h4))
      · subst e'
        cases h4
        rw [List.append_nil] at p
        exact k _ _ _ p (.same (.tup h1 h2))
      · exact k _ _ _ p (.tup hp (h2.append h4))
    | _ => exact absurd g (fun z => z)
  | lst h1 h2 =>
    rename_i a xs ds
    cases hy with
    | lst h3 h4 =>
      rename_i a' ys es
      obtain ⟨z, p⟩ := g
      have l1 := h2.length
      have l2 := h4.length
      exact .inr (.inr (.inl ⟨a, a', xs, ys, rfl, rfl, sb _ _ h1, sb _ _ h3, by omega, fun p' hp => k _ _ _ p (.lst hp (h2.append h4))⟩))
    | _ => exact absurd g (fun z => z)
  | str s =>
    cases hy <;> first | exact absurd g (fun z => z) | skip
    exact .inr (.inr (.inr ⟨_, _, rfl, rfl, g.1, k _ _ _ g.2 (sc_str _).out⟩))
  | non => exact absurd g (fun z => z)
  | bl _ => exact absurd g (fun z => z)
theorem de_add (ha : DE X true a t1) (hb : DE X true b t2) : DE X true (.BinOp a .Add b pos) (d2 gAdd t1 t2) :=
  de_bin (fun _ _ h1 h2 => pe_op (OpR.or op_add (OpR.or op_catA (OpR.or op_cat op_add_str))) h1 h2) sem_add ha hb

/-! ### in, not in -/
def dIn (x y : D) : Option Bool := match y with
  | .list ds => some (ds.any fun z => PyData.eqv z x)
  | .tuple ds => some (ds.any fun z => PyData.eqv z x)
  | _ => none
def gIn : G2 := fun x y P => SeqAt.shaped x = true ∧ SeqAt.shaped y = true ∧ ∃ c, dIn x y = some c ∧ P (.bool c)
def gNotIn : G2 := fun x y P => SeqAt.shaped x = true ∧ SeqAt.shaped y = true ∧ ∃ c, dIn x y = some c ∧ P (.bool (!c))
def rInA (K : PySem.W.Frag) (neg : Bool) : R2 := fun x y H Q => ∃ d e c, L2.Dp K H x d ∧ L2.Dp K H y e ∧ SeqAt.shaped d = true ∧ SeqAt.shaped e = true ∧ dIn d e = some c ∧ Q (.bl (if neg then !c else c)) H
theorem shaped_tl {ds : List D} (h : SeqAt.shaped (.tuple ds) = true) : PyData.canLayAll0 ds = true := by
  have := SeqAt.canLay_of_shaped h
  simp [PyData.canLay0] at this
  exact this
theorem op_inA (hu : X.A.units + 65 < cLine) : OpR X (compareOp .In) (rInA X.K false) := by
  intro pins s σ H x y v u Q I rx ry h
  obtain ⟨d, e, cc, hd, he, sd, se, hc, q⟩ := h
  obtain ⟨as, r1⟩ := L2.Dp.reads I d x v hd rx
  obtain ⟨bs, r2⟩ := L2.Dp.reads I e y u he ry
  cases e with
  | list ds =>
    cases hc
    exact op_inD hu pins s σ H x y v u Q I rx ry ⟨d, ds, hd, he, sd, se, q⟩
  | tuple ds =>
    cases hc
    exact SeqAt.in_tuple_reads r2 r1 (shaped_tl se) (SeqAt.canLay_of_shaped sd) (PyProof.Rows.room_in_shaped sd hu) ⟨.bl _, H, I, rfl, q⟩
  | _ => cases hc
theorem op_notInA (hu : X.A.units + 65 < cLine) : OpR X (compareOp .NotIn) (rInA X.K true) := by
  intro pins s σ H x y v u Q I rx ry h
  obtain ⟨d, e, cc, hd, he, sd, se, hc, q⟩ := h
  obtain ⟨as, r1⟩ := L2.Dp.reads I d x v hd rx
  obtain ⟨bs, r2⟩ := L2.Dp.reads I e y u he ry
  cases e with
  | list ds =>
    cases hc
    exact op_notInD hu pins s σ H x y v u Q I rx ry ⟨d, ds, hd, he, sd, se, q⟩
  | tuple ds =>
    cases hc
    exact SeqAt.notIn_tuple_reads r2 r1 (shaped_tl se) (SeqAt.canLay_of_shaped sd) (PyProof.Rows.room_in_shaped sd hu) ⟨.bl _, H, I, rfl, q⟩
  | _ => cases hc
theorem de_in (hu : X.A.units + 65 < cLine) (ha : DE X b1 a t1) (hb : DE X b2 b t2) (hm : behindInMarks .In b = false := by with_unfolding_all rfl) : DE X true (.Compare a [.In] [b] pos) (d2 gIn t1 t2) :=
  de_binS (fun _ _ h1 h2 => pe_cmpR (op_inA hu) h1 h2 hm) (by
    intro B H x y dx dy P Q hx hy sb ⟨s1, s2, cc, hc, p⟩ k
    exact ⟨dx, dy, cc, (Dp.mono sb hx).to, (Dp.mono sb hy).to, s1, s2, hc, k _ _ p (sc_bl _)⟩) ha hb
theorem de_notIn (hu : X.A.units + 65 < cLine) (ha : DE X b1 a t1) (hb : DE X b2 b t2) (hm : behindInMarks .NotIn b = false := by with_unfolding_all rfl) : DE X true (.Compare a [.NotIn] [b] pos) (d2 gNotIn t1 t2) :=
  de_binS (fun _ _ h1 h2 => pe_cmpR (op_notInA hu) h1 h2 hm) (by
    intro B H x y dx dy P Q hx hy sb ⟨s1, s2, cc, hc, p⟩ k
    exact ⟨dx, dy, cc, (Dp.mono sb hx).to, (Dp.mono sb hy).to, s1, s2, hc, k _ _ p (sc_bl _)⟩) ha hb
/-! ### is -/
def dIs (x y : D) : Option Bool := match x, y with
  | .none, .none => some true
  | _, .none => some false
  | .bool i, .bool j => some (decide (i = j))
  | _, _ => none
def gIs : G2 := fun x y P => ∃ c, dIs x y = some c ∧ P (.bool c)
def gIsNot : G2 := fun x y P => ∃ c, dIs x y = some c ∧ P (.bool (!c))
theorem de_is (ha : DE X b1 a t1) (hb : DE X b2 b t2) : DE X true (.Compare a [.Is] [b] pos) (d2 gIs t1 t2) :=
  de_binS (fun _ _ h1 h2 => pe_cmpR (OpR.or op_isN op_isBl) h1 h2 (nomark _)) (by
    intro B H x y dx dy P Q hx hy sb ⟨cc, hc, p⟩ k
    cases hy with
    | non =>
      refine .inl ⟨rfl, ?_⟩
      have e : Sc (.bool cc) (.bl (decide (x = .non))) := by
        cases hx <;> cases hc <;> exact sc_bl _
      exact k _ _ p e
    | bl j =>
      cases hx with
      | bl i => cases hc; exact .inr ⟨i, j, rfl, rfl, k _ _ p (sc_bl _)⟩
      | _ => cases hc
    | _ => cases hx <;> cases hc) ha hb
theorem de_isNot (ha : DE X b1 a t1) (hb : DE X b2 b t2) : DE X true (.Compare a [.IsNot] [b] pos) (d2 gIsNot t1 t2) :=
  de_binS (fun _ _ h1 h2 => pe_cmpR (OpR.or op_notN op_notBl) h1 h2 (nomark _)) (by
    intro B H x y dx dy P Q hx hy sb ⟨cc, hc, p⟩ k
    cases hy with
    | non =>
      refine .inl ⟨rfl, ?_⟩
      have e : Sc (.bool (!cc)) (.bl (!decide (x = .non))) := by
        cases hx <;> cases hc <;> exact sc_bl _
      exact k _ _ p e
    | bl j =>
      cases hx with
      | bl i => cases hc; exact .inr ⟨i, j, rfl, rfl, k _ _ p (sc_bl _)⟩
      | _ => cases hc
    | _ => cases hx <;> cases hc) ha hb

/-! ### tests -/
/-- a value that is True or False -/
def dB (t : DTE) : DTT := fun δ n Q => t δ n fun d m => ∃ k, d = .bool k ∧ Q k m
theorem dt_val (h : DE X b1 a t1) (he : ∀ whole, isTrue a X.env whole = (do let v ← whole; standAt a.pos; holding [v] (truthy v)) := by intro _; rfl) : DT X a (dB t1) :=
  ⟨PT.imp (pt_val h.run he) fun σ H Q ⟨g, n, δ, S, Vs, P, sr, ht, k⟩ => ⟨g, n, δ, S, Vs, _, sr, ht, fun d m v H' S' Vs' p sr' s1 s2 r => by
    obtain ⟨c, rfl, p⟩ := p
    have r' := Rp.dp r sr'.SV
    cases r'
    exact ⟨c, rfl, k c m H' S' Vs' p sr' s1 s2⟩⟩⟩
theorem dt_cmp {op : CmpOp} {h1 : behindInMarks op b = false} (h : DE X b1 (.Compare a [op] [b] pos) t1) (hp : ∀ whole, isTrue (.Compare a [op] [b] pos) X.env whole = (do let v ← whole; standAt (Expr.pos (.Compare a [op] [b] pos)); holding [v] (truthy v)) := by intro _; rfl) : DT X (.Compare a [op] [b] pos) (dB t1) := dt_val h hp
/-- any value by its truth -/
def dTru : D → Option Bool
  | .none => some false
  | .bool k => some k
  | .int i => some (i != 0)
  | .str s => some ((s.length : Int) != 0)
  | .list ds => some (!ds.isEmpty)
  | .tuple ds => some (!ds.isEmpty)
  | .dict _ => none
def dTr (t : DTE) : DTT := fun δ n Q => t δ n fun d m => (∀ s, d = .str s → s.length ≤ sizeLine) ∧ ∃ k, dTru d = some k ∧ Q k m
theorem tru_of {H : Hp} {v : V} {d : D} {k : Bool} (h : Dp K H v d) (hs : ∀ s, d = .str s → s.length ≤ sizeLine) (e : dTru d = some k) : TruV K v H k := by
  cases h with
  | non => cases e; rfl
  | bl i => cases e; rfl
  | int i => cases e; rfl
  | str s => cases e; exact ⟨hs _ rfl, rfl⟩
  | lst h1 h2 =>
    cases e
    refine .inl ⟨_, SqL.of h1, ?_⟩
    have l := h2.length
    rename_i a xs ds
    cases xs <;> cases ds <;> first | rfl | (simp at l)
  | tup h1 h2 =>
    cases e
    refine .inr (.inl ⟨_, h1, ?_⟩)
    have l := h2.length
    rename_i a xs ds
    cases xs <;> cases ds <;> first | rfl | (simp at l)
theorem sqt_mono {H H' : Hp} {a : Addr} {xs : List V} (e : Same H H') (h : SqT K H a xs) : SqT K H' a xs := by
  rcases h with (h | ⟨o, h⟩) | h
  · exact .inl (.inl (e _ _ h))
  · exact .inl (.inr ⟨o, e _ _ h⟩)
  · exact .inr h
theorem dt_truth (h : DE X b1 a t1) (he : ∀ whole, isTrue a X.env whole = (do let v ← whole; standAt a.pos; holding [v] (truthy v)) := by intro _; rfl) : DT X a (dTr t1) :=
  ⟨PT.imp (pt_truth h.run he) fun σ H Q ⟨g, n, δ, S, Vs, P, sr, ht, k⟩ => ⟨g, n, δ, S, Vs, _, sr, ht, fun d m v H' S' Vs' p sr' s1 s2 r => by
    obtain ⟨hs, c, e, p⟩ := p
    exact ⟨c, tru_of (Dp.mono sr'.VH (Rp.dp r sr'.SV)) hs e, k c m H' S' Vs' p sr' s1 s2⟩⟩⟩
variable {u1 u2 : DTT} {rest : List Expr}
def dNot (u : DTT) : DTT := fun δ n Q => u δ n fun c m => Q (!c) m
def dAnd (u v : DTT) : DTT := fun δ n Q => u δ n fun c m => if c = true then v δ m Q else Q false m
def dOr (u v : DTT) : DTT := fun δ n Q => u δ n fun c m => if c = true then Q true m else v δ m Q
theorem dt_not (h : DT X a u1) : DT X (.UnaryOp .Not a pos) (dNot u1) :=
  ⟨PT.imp (pt_not h.run) fun σ H Q ⟨g, n, δ, S, Vs, P, sr, ht, k⟩ => ⟨g, n, δ, S, Vs, _, sr, ht, fun c m H' S' Vs' p sr' s1 s2 => k _ m H' S' Vs' p sr' s1 s2⟩⟩
theorem dw_and1 (h : DT X a u1) : DW X (.BoolOp .And [a] pos) u1 := ⟨pw_and1 h.run⟩
theorem dw_or1 (h : DT X a u1) : DW X (.BoolOp .Or [a] pos) u1 := ⟨pw_or1 h.run⟩
theorem dw_and (h : DT X a u1) (h2 : DW X (.BoolOp .And (b :: rest) pos) u2) : DW X (.BoolOp .And (a :: b :: rest) pos) (dAnd u1 u2) :=
  ⟨PW.imp (pw_and h.run h2.run) fun σ H Q ⟨g, n, δ, S, Vs, P, sr, ht, k⟩ => ⟨g, n, δ, S, Vs, _, sr, ht, fun c m H' S' Vs' p sr' s1 s2 => by
    cases c with
    | true => exact ⟨g, m, δ, S', Vs', _, sr', p, fun c m2 H2 S2 V2 p2 sr2 r1 r2 => k c m2 H2 S2 V2 p2 sr2 (s1.trans r1) (s2.trans r2)⟩
    | false => exact k _ m H' S' Vs' p sr' s1 s2⟩⟩
theorem dw_or (h : DT X a u1) (h2 : DW X (.BoolOp .Or (b :: rest) pos) u2) : DW X (.BoolOp .Or (a :: b :: rest) pos) (dOr u1 u2) :=
  ⟨PW.imp (pw_or h.run h2.run) fun σ H Q ⟨g, n, δ, S, Vs, P, sr, ht, k⟩ => ⟨g, n, δ, S, Vs, _, sr, ht, fun c m H' S' Vs' p sr' s1 s2 => by
    cases c with
    | false => exact ⟨g, m, δ, S', Vs', _, sr', p, fun c m2 H2 S2 V2 p2 sr2 r1 r2 => k c m2 H2 S2 V2 p2 sr2 (s1.trans r1) (s2.trans r2)⟩
    | true => exact k _ m H' S' Vs' p sr' s1 s2⟩⟩
theorem DW.dt (h : DW X e u1) : DT X e u1 := ⟨h.run.pt⟩
/-- .. as values: True or False all but the last -/
def dAndV (t u : DTE) : DTE := fun δ n Q => t δ n fun d m => ∃ c, d = .bool c ∧ if c = true then u δ m Q else Q (.bool false) m
def dOrV (t u : DTE) : DTE := fun δ n Q => t δ n fun d m => ∃ c, d = .bool c ∧ if c = true then Q (.bool true) m else u δ m Q
def dNotV (t : DTE) : DTE := fun δ n Q => t δ n fun d m => ∃ c, d = .bool c ∧ Q (.bool (!c)) m
theorem de_one {op} (h : DE X b1 a t1) : DE X b1 (.BoolOp op [a] pos) t1 := ⟨pe_one h.run⟩
theorem de_and (h : DE X b1 a t1) (h2 : DE X b2 (.BoolOp .And (b :: rest) pos) t2) : DE X b2 (.BoolOp .And (a :: b :: rest) pos) (dAndV t1 t2) :=
  ⟨PE.imp (pe_and h.run h2.run) fun σ H Q ⟨g, n, δ, S, Vs, P, sr, ht, k⟩ => ⟨g, n, δ, S, Vs, _, sr, ht, fun d m v H' S' Vs' p sr' s1 s2 r => by
    obtain ⟨c, rfl, p⟩ := p
    have r' := Rp.dp r sr'.SV
    cases r'
    refine ⟨c, rfl, ?_⟩
    cases c with
    | true => exact ⟨g, m, δ, S', Vs', _, sr', p, fun d2 m2 v2 H2 S2 V2 p2 sr2 r1 r2 r => k d2 m2 v2 H2 S2 V2 p2 sr2 (s1.trans r1) (s2.trans r2) r⟩
    | false => exact k _ m _ H' S' Vs' p sr' s1 s2 (Rp.of (.bl _))⟩⟩
theorem de_or (h : DE X b1 a t1) (h2 : DE X b2 (.BoolOp .Or (b :: rest) pos) t2) : DE X b2 (.BoolOp .Or (a :: b :: rest) pos) (dOrV t1 t2) :=
  ⟨PE.imp (pe_or h.run h2.run) fun σ H Q ⟨g, n, δ, S, Vs, P, sr, ht, k⟩ => ⟨g, n, δ, S, Vs, _, sr, ht, fun d m v H' S' Vs' p sr' s1 s2 r => by
    obtain ⟨c, rfl, p⟩ := p
    have r' := Rp.dp r sr'.SV
    cases r'
    refine ⟨c, rfl, ?_⟩
    cases c with
    | false => exact ⟨g, m, δ, S', Vs', _, sr', p, fun d2 m2 v2 H2 S2 V2 p2 sr2 r1 r2 r => k d2 m2 v2 H2 S2 V2 p2 sr2 (s1.trans r1) (s2.trans r2) r⟩
    | true => exact k _ m _ H' S' Vs' p sr' s1 s2 (Rp.of (.bl _))⟩⟩
theorem de_not (h : DE X b1 a t1) : DE X true (.UnaryOp .Not a pos) (dNotV t1) :=
  ⟨PE.imp (pe_not h.run) fun σ H Q ⟨g, n, δ, S, Vs, P, sr, ht, k⟩ => ⟨g, n, δ, S, Vs, _, sr, ht, fun d m v H' S' Vs' p sr' s1 s2 r => by
    obtain ⟨c, rfl, p⟩ := p
    have r' := Rp.dp r sr'.SV
    cases r'
    exact ⟨c, rfl, k _ m _ H' S' Vs' p sr' s1 s2 (Rp.of (.bl _))⟩⟩⟩
def dIf (u : DTT) (t v : DTE) : DTE := fun δ n Q => u δ n fun c m => if c = true then t δ m Q else v δ m Q
theorem de_ifExp {fl : Bool} (hc : DT X c u1) (h : DE X fl a t1) (h2 : DE X fl b t2) : DE X fl (.IfExp c a b pos) (dIf u1 t1 t2) :=
  ⟨PE.imp (pe_ifExp hc.run h.run h2.run) fun σ H Q ⟨g, n, δ, S, Vs, P, sr, ht, k⟩ => ⟨g, n, δ, S, Vs, _, sr, ht, fun d m H' S' Vs' p sr' s1 s2 => by
    cases d with
    | true => exact ⟨g, m, δ, S', Vs', _, sr', p, fun d2 m2 v2 H2 S2 V2 p2 sr2 r1 r2 r => k d2 m2 v2 H2 S2 V2 p2 sr2 (s1.trans r1) (s2.trans r2) r⟩
    | false => exact ⟨g, m, δ, S', Vs', _, sr', p, fun d2 m2 v2 H2 S2 V2 p2 sr2 r1 r2 r => k d2 m2 v2 H2 S2 V2 p2 sr2 (s1.trans r1) (s2.trans r2) r⟩⟩⟩

/-! ### subscripts -/
def gIx : G2 := fun x y P => match x, y with
  | .list ds, .int i => ∃ d, atI ds i = some d ∧ P d
  | .tuple ds, .int i => ∃ d, atI ds i = some d ∧ P d
  | .str z, .int i => z.length ≤ sizeLine ∧ ∃ c, atI z.cps.toList i = some c ∧ P (.str ⟨#[c]⟩)
  | _, _ => False
theorem DpAll.atI {H : Hp} {ds : List D} {xs : List V} {i : Int} {d : D} (h : DpAll K H xs ds) (e : atI ds i = some d) : ∃ v, L2.atI xs i = some v ∧ Dp K H v d := by
  unfold L2.atI at e ⊢
  rw [← h.length] at e
  cases q : ixN xs.length i with
  | none => rw [q] at e; cases e
  | some j =>
    rw [q] at e
    exact h.get' e
theorem de_ix (ha : DE X b1 a t1) (hb : DE X b2 b t2) (hs : PlainIx b := by intro _ _; rfl) : DE X true (.Subscript a b pos) (d2 gIx t1 t2) :=
  ⟨PE.imp (pe_ix ix_seq ha.run hb.run hs) fun σ H Q ⟨gh, n, δ, S, Vs, P, sr, ht, k⟩ => ⟨gh, n, δ, S, Vs, _, sr, ht, fun d m v H' S' Vs' p sr' s1 s2 rp =>
    ⟨gh, m, δ, S', Vs', _, sr', p, fun d2 m2 v2 H2 S2 V2 p2 sr2 q1 q2 rp2 => by
      have hy := Rp.dp rp2 sr2.SV
      have fin : ∀ {d3 : D} {v3 : V}, P d3 m2 → Dp X.K S2 v3 d3 → Q v3 H2 := fun p3 h3 => k _ m2 _ H2 S2 V2 p3 sr2 (s1.trans q1) (s2.trans q2) h3
      rcases BRep.mono (Rp.br rp) q1 q2 with h | ⟨l, xs, ds, e1, e2, h1, h2⟩
      · cases h with
        | lst h1 h2 =>
          cases hy <;> first | exact absurd p2 (fun z => z) | skip
          obtain ⟨d3, e3, p3⟩ := p2
          obtain ⟨v3, e4, r4⟩ := h2.atI e3
          exact .inl ⟨_, _, _, v3, rfl, rfl, SqL.of (sr2.SH _ _ h1), e4, fin p3 r4⟩
        | tup h1 h2 =>
          cases hy <;> first | exact absurd p2 (fun z => z) | skip
          obtain ⟨d3, e3, p3⟩ := p2
          obtain ⟨v3, e4, r4⟩ := h2.atI e3
          exact .inr (.inl ⟨_, _, _, v3, rfl, rfl, sqt_mono sr2.SH h1, e4, fin p3 r4⟩)
        | str z =>
          cases hy <;> first | exact absurd p2 (fun z => z) | skip
          obtain ⟨hz, c, e3, p3⟩ := p2
          exact .inr (.inr ⟨_, _, c, rfl, rfl, hz, e3, fin p3 (.str _)⟩)
        | non => exact absurd p2 (fun z => by cases hy <;> exact z)
        | bl _ => exact absurd p2 (fun z => by cases hy <;> exact z)
        | int _ => exact absurd p2 (fun z => by cases hy <;> exact z)
      · subst e1 e2
        cases hy <;> first | exact absurd p2 (fun z => z) | skip
        obtain ⟨d3, e3, p3⟩ := p2
        obtain ⟨v3, e4, r4⟩ := h2.atI e3
        exact .inl ⟨_, _, _, v3, rfl, rfl, SqL.of (sr2.VH _ _ h1), e4, fin p3 r4⟩⟩⟩⟩
end
end DL
/-! DG: promises of defs where it is known that nothing is being shown (repr) around. -/
namespace DL
open PySem PySem.Spec L2

/-- as L2's promise of a def, for calls around which nothing is being shown -/
structure FnG (P : Program) (w : World) (K : PySem.W.Frag) (mg : Str → Option Value) (base : Heap) (CX : CXT) (k : Nat) (f : Addr) (fd : FuncData) (ps : List Str) (sp : Sp) : Prop where
  ar : ∀ vs H Q E, sp vs H Q E → vs.length = ps.length
  go : ∀ (A : Around) (out : List Env) (s : Shared) (H : Hp) (args : Args) (us : List Value) (vs : List V) (Q : VK) (E : XK), A.guards = some [] → Room k A → Env0 P w K mg base A out s H →
    BindsTo s fd args (ps.zip us) → Vals vs us → sp vs H Q E → codeAny (model P w) A (.call (.ref f) args) (CR CX out P w H s Q E) s
section
variable {P : Program} {w : World} {K : PySem.W.Frag} {mg : Str → Option Value} {base : Heap} {CX : CXT} {j k : Nat} {f : Addr} {fd : FuncData} {ps : List Str} {sp sp' : Sp}
theorem FnG.up (F : FnG P w K mg base CX j f fd ps sp) (h : j ≤ k) : FnG P w K mg base CX k f fd ps sp :=
  ⟨F.ar, fun A out s H args us vs Q E hg hr => F.go A out s H args us vs Q E hg (hr.mono h)⟩
theorem FnG.wk (F : FnG P w K mg base CX k f fd ps sp) (h : ∀ vs H Q E, sp' vs H Q E → sp vs H Q E) : FnG P w K mg base CX k f fd ps sp' :=
  ⟨fun vs H Q E q => F.ar vs H Q E (h _ _ _ _ q), fun A out s H args us vs Q E hg hr e b v q => F.go A out s H args us vs Q E hg hr e b v (h _ _ _ _ q)⟩
end
section
variable {X : Cx} {CX : CXT} {k : Nat} {f : Addr} {fd : FuncData} {ps ks : List Str} {sp : Sp} {E : XK} {x : Str} {p pos : Pos} {e : Expr} {es : List Expr} {t tk : TA} {kws : List Keyword}
/-- the call's end, in the caller's context -/
theorem cr_end {pins : List (Addr × Obj)} {σ : L2.St} {H : Hp} {s : Shared} {Q : VK} (I : Inv X pins σ H s) (hx : Passes CX X E) (r : Result) (s' : Shared) (h : CR CX X.stack X.prog X.w H s Q E r s') :
    (match (generalizing := false) r with | .ok (.ret v) => EP X pins σ Q v s' | .ok _ => False | .error e => X.xe e s') := by
  rcases r with e | fl
  · exact hx pins σ H s e s' I h
  · rcases fl with u | _ | _ | _
    all_goals first | exact I.after h | exact h.elim
theorem go_fn {pins : List (Addr × Obj)} {σ : L2.St} {H : Hp} {s : Shared} {Q : VK} {us : List Value} {vs : List V} (F : FnG X.prog X.w X.K X.mg X.base CX k f fd ps sp) (hg : X.A.guards = some []) (hr : Room k X.A) (hb : Binds X.K fd ps []) (hx : Passes CX X E)
    (I : Inv X pins σ H s) (r : Vals vs us) (h : sp vs H Q E) : wpAny (model X.prog X.w) X.A (call (.ref f) us) (EP X pins σ Q) X.xe s := by
  have hl : (us ++ []).length = ps.length := by rw [List.append_nil, ← r.length]; exact F.ar _ _ _ _ h
  have hb' := hb s us I.kIn hl
  rw [List.append_nil] at hb'
  exact wpAny_call (codeAny_mono (F.go X.A X.stack s H ⟨us, []⟩ us vs Q E hg hr I.env0 hb' r h) fun r s' q => cr_end I hx r s' q)
def gCall (sp : Sp) (E : XK) (t : TA) : TE := fun σ H Q => t σ H fun vs H1 => sp vs H1 Q E
/-- f(e, ..) -/
theorem pg_call (F : FnG X.prog X.w X.K X.mg X.base CX k f fd ps sp) (hgd : X.A.guards = some []) (hr : Room k X.A) (hg : Gl X x) (hm : X.mg x = some (.ref f)) (hk : PySem.W.keepIn X.K (.ref f) = true) (hb : Binds X.K fd ps []) (hx : Passes CX X E)
    (ha : PA X (e :: es) t) (hdb : (x == ("__debug__" : Str)) = false := by decide) (he : starEach (e :: es) X.env = (false, eval e X.env) :: starEach es X.env := by rfl) (hpl : (backTo pos (starEach es X.env)).any (·.1) = false := by rfl) :
    PE X (.Call (.Name x p) (e :: es) [] pos) (gCall sp E t) :=
  ⟨fun pins s σ H Q I h => wpAny_Call_Name_kw (ld_glob I hg hm (PySem.W.callWith_K (h₀ := X.base) I.ok.mod.kin hk (thn (ha.run pos pins s σ H _ I h) fun us s1 ⟨vs, H1, I1, r, q⟩ => ⟨I1.kIn, go_fn F hgd hr hb hx I1 r q⟩) he hpl) hdb)⟩
/-- f() -/
theorem pg_call0 (F : FnG X.prog X.w X.K X.mg X.base CX k f fd ps sp) (hgd : X.A.guards = some []) (hr : Room k X.A) (hg : Gl X x) (hm : X.mg x = some (.ref f)) (hk : PySem.W.keepIn X.K (.ref f) = true) (hb : Binds X.K fd ps []) (hx : Passes CX X E)
    (hdb : (x == ("__debug__" : Str)) = false := by decide) : PE X (.Call (.Name x p) [] [] pos) (gCall sp E tNil) :=
  ⟨fun pins s σ H Q I h => wpAny_Call_Name_kw (ld_glob I hg hm (PySem.W.callWith_K0 I.kIn hk (go_fn (us := []) F hgd hr hb hx I .nil h)) hdb)⟩
/-- how keywords bind: the values in the parameters' order -/
structure KwB (K : PySem.W.Frag) (fd : FuncData) (ps ks : List Str) (g : {α : Type} → List α → List α → List α) : Prop where
  to : ∀ (s : Shared) (us ws : List Value), K.In s.heap → (g us ws).length = ps.length → BindsTo s fd ⟨us, ks.zip ws⟩ (ps.zip (g us ws))
  rel : ∀ {vs zs : List V} {us ws : List Value}, Vals vs us → Vals zs ws → Vals (g vs zs) (g us ws)
variable {g : {α : Type} → List α → List α → List α}
theorem go_fnK {pins : List (Addr × Obj)} {σ : L2.St} {H : Hp} {s : Shared} {Q : VK} {us ws : List Value} {vs zs : List V} (F : FnG X.prog X.w X.K X.mg X.base CX k f fd ps sp) (hg : X.A.guards = some []) (hr : Room k X.A) (hb : KwB X.K fd ps ks g) (hx : Passes CX X E)
    (I : Inv X pins σ H s) (r : Vals vs us) (rz : Vals zs ws) (h : sp (g vs zs) H Q E) : wpAny (model X.prog X.w) X.A (call (.ref f) us (ks.zip ws)) (EP X pins σ Q) X.xe s := by
  have r2 := hb.rel r rz
  have hl : (g us ws).length = ps.length := by rw [← r2.length]; exact F.ar _ _ _ _ h
  exact wpAny_call (codeAny_mono (F.go X.A X.stack s H ⟨us, ks.zip ws⟩ (g us ws) (g vs zs) Q E hg hr I.env0 (hb.to s us ws I.kIn hl) r2 h) fun r s' q => cr_end I hx r s' q)
def gCallK (sp : Sp) (g : {α : Type} → List α → List α → List α) (E : XK) (t tk : TA) : TE := fun σ H Q => t σ H fun vs H1 => tk σ H1 fun zs H2 => sp (g vs zs) H2 Q E
/-- f(e, .., k = v, ..) -/
theorem pg_callK (F : FnG X.prog X.w X.K X.mg X.base CX k f fd ps sp) (hgd : X.A.guards = some []) (hr : Room k X.A) (hg : Gl X x) (hm : X.mg x = some (.ref f)) (hk : PySem.W.keepIn X.K (.ref f) = true) (hb : KwB X.K fd ps ks g) (hx : Passes CX X E)
    (ha : PA X (e :: es) t) (hkw : PK X kws tk) (hall : (backToKw pos (keywordEach kws X.env)).all (·.1.isSome) = true := by rfl) (hks : (backToKw pos (keywordEach kws X.env)).filterMap (·.1) = ks := by rfl)
    (hdb : (x == ("__debug__" : Str)) = false := by decide) (he : starEach (e :: es) X.env = (false, eval e X.env) :: starEach es X.env := by rfl)
    (hpl : ((backTo pos (starEach (e :: es) X.env)).any (·.1) || (backToKw pos (keywordEach kws X.env)).any (·.1.isNone)) = false := by rfl) : PE X (.Call (.Name x p) (e :: es) kws pos) (gCallK sp g E t tk) :=
  ⟨fun pins s σ H Q I h => wpAny_Call_Name_kw (ld_glob I hg hm (PySem.W.callWith_KW (h₀ := X.base) I.ok.mod.kin hk hall (thn (ha.run pos pins s σ H _ I h) fun us s1 ⟨vs, H1, I1, r, q⟩ =>
    thn (hkw.run pos pins s1 σ H1 _ I1 q) fun ws s2 ⟨zs, H2, I2, rz, q2⟩ => ⟨I2.kIn, by rw [hks]; exact go_fnK F hgd hr hb hx I2 r rz q2⟩) hpl he) hdb)⟩
/-- f(k = v, ..) -/
theorem pg_callK0 (F : FnG X.prog X.w X.K X.mg X.base CX k f fd ps sp) (hgd : X.A.guards = some []) (hr : Room k X.A) (hg : Gl X x) (hm : X.mg x = some (.ref f)) (hk : PySem.W.keepIn X.K (.ref f) = true) (hb : KwB X.K fd ps ks g) (hx : Passes CX X E)
    (hkw : PK X kws tk) (hall : (backToKw pos (keywordEach kws X.env)).all (·.1.isSome) = true := by rfl) (hks : (backToKw pos (keywordEach kws X.env)).filterMap (·.1) = ks := by rfl)
    (hdb : (x == ("__debug__" : Str)) = false := by decide)
    (hpl : ((backTo pos (starEach [] X.env)).any (·.1) || (backToKw pos (keywordEach kws X.env)).any (·.1.isNone)) = false := by rfl) : PE X (.Call (.Name x p) [] kws pos) (gCallK sp g E tNil tk) :=
  ⟨fun pins s σ H Q I h => wpAny_Call_Name_kw (ld_glob I hg hm (PySem.W.callWith_KW0 (h₀ := X.base) I.ok.mod.kin hk hall (thn (hkw.run pos pins s σ H _ I h) fun ws s2 ⟨zs, H2, I2, rz, q2⟩ =>
    ⟨I2.kIn, by rw [hks, List.append_nil]; exact go_fnK (us := []) F hgd hr hb hx I2 .nil rz q2⟩) hpl) hdb)⟩
end
section
variable {P : Program} {w : World} {K : PySem.W.Frag} {mg : Str → Option Value} {base : Heap} {CX : CXT} {k : Nat} {fa : Addr} {fd : FuncData} {N ps : List Str} {sp : Sp} {x qual : Str} {st : Stmt}
/-- a def by its body -/
theorem fnG_of (F : Fun K x qual st fa fd) (S : FnScope N ps (defScope st)) (len : ∀ vs H Q E, sp vs H Q E → vs.length = ps.length)
    (hb : ∀ (cdv : Value) (A : Around) (out : List Env) (s : Shared) (H : Hp) (vs : List V) (Q : VK) (E : XK), A.guards = some [] → Room k (A.deeper (PyProof.Rows.envOfC qual (defScope st) s.heap.objs.size fa cdv)) → sp vs H Q E →
      ∃ t, PSs (cxOf CX P w K mg base N qual (defScope st) fa cdv A out s H E) (defBody st) t ∧ t { nx := fun _ H' => Q .non H', rt := Q } (L2.start N vs) H) : FnG P w K mg base CX (k + 1) fa fd ps sp := by
  obtain ⟨oc, od, kV, doc, pm, an, cdv, ct, osl, rfl, lk, hcd⟩ := F.ex
  refine ⟨len, ?_⟩
  intro A out s H args us vs Q E hg hr e0 hbd rv hsp
  have hlen := len _ _ _ _ hsp
  have KX : K.In s.heap := e0.mod.kin.keeps fun b o e => (e0.bs b o e).1
  have lim : s.heap.NoLimit := e0.mod.nolimit.keeps fun b o e => (e0.bs b o e).1
  refine codeAny_call_function hr.depth (KX _ _ lk) rfl S.co S.gen rfl (PySem.W.codeRec_of KX hcd) (hbd _ _ _ _ (wpAny_newFunctionEnv_cells S.kind (fun y hy => ?_) fun env he s1 ic => ?_))
  · obtain ⟨n, v⟩ := y
    refine (S.par n (List.of_mem_zip hy).1).imp id fun q => ⟨q, PySem.W.cellsFrom_some _ _ _ (.inl q)⟩
  · subst he
    refine ⟨lim.keeps ic.toInCall.keep, codeAny_func ?_⟩
    obtain ⟨t, ht, hq⟩ := hb cdv A out s H vs Q E hg (hr.deeper _) hsp
    have I := inv_start (CX := CX) (E := E) S hr.hd e0 hlen rv ic
    refine wpAny_mono (ht.run [] s1 (L2.start N vs) H _ I hq) (fun fl s' hs => ?_) fun e s' hs => hs
    rcases fl with _ | _ | _ | u
    all_goals first
      | (obtain ⟨v, σ', H', J, rv, q⟩ := hs; exact ⟨v, H', J.os, J.bare, J.base, J.hok, rv, q⟩)
      | (obtain ⟨σ', H', J, q⟩ := hs; first | exact ⟨V.non, H', J.os, J.bare, J.base, J.hok, rfl, q⟩ | exact q.elim)
end
end DL
/-! DL3: arguments, displays, calls of defs, built-ins over data. -/
namespace DL
open PySem PySem.Spec L2

/-- an argument: data, or the drawing dict -/
inductive Ar where
  | d (d : D)
  | rl
abbrev DTR := DS → Nat → (List Ar → Nat → Prop) → Prop
def RpA (K : PySem.W.Frag) (W : Option (Addr × Addr)) (b : Bool) (S Vs : Hp) : V → Ar → Prop
  | v, .d d => Rp K b S Vs v d
  | v, .rl => ∃ r f, W = some (r, f) ∧ v = .ref r
abbrev RpAs (K : PySem.W.Frag) (W : Option (Addr × Addr)) (b : Bool) (S Vs : Hp) : List V → List Ar → Prop := PySem.Paired (RpA K W b S Vs)
def lR (K : PySem.W.Frag) (b : Bool) (L : Nat) (t : DTR) : TA := fun σ H Q => ∃ g n δ S Vs P, SR K g n δ σ H S Vs ∧ t δ n P ∧
  ∀ as m vs H' S' Vs', P as m → as.length = L → SR K g m δ σ H' S' Vs' → Same S S' → Same Vs Vs' → RpAs K g.W b S' Vs' vs as → Q vs H'
/-- arguments -/
structure DR (X : Cx) (b : Bool) (es : List Expr) (t : DTR) : Prop where
  run : PA X es (lR X.K b es.length t)
def lAs (K : PySem.W.Frag) (t : DTA) : TA := fun σ H Q => ∃ g n δ S Vs P, SR K g n δ σ H S Vs ∧ t δ n P ∧
  ∀ ds m vs H' S' Vs', P ds m → SR K g m δ σ H' S' Vs' → Same S S' → Same Vs Vs' → DpAll K S' vs ds → Q vs H'
/-- items -/
structure DA (X : Cx) (es : List Expr) (t : DTA) : Prop where
  run : PA X es (lAs X.K t)

section
variable {X : Cx} {K : PySem.W.Frag} {e a b c : Expr} {es : List Expr} {pos : Pos} {t1 t2 t3 : DTE} {tr : DTR} {ta : DTA} {b1 b2 b3 : Bool}
theorem PA.imp {t u : TA} (h : PA X es t) (hi : ∀ σ H Q, u σ H Q → t σ H Q) : PA X es u := ⟨fun pos pins s σ H Q I q => h.run pos pins s σ H Q I (hi σ H Q q)⟩
theorem RpA.mono {W : Option (Addr × Addr)} {b : Bool} {S Vs S' Vs' : Hp} {v : V} {x : Ar} (h : RpA K W b S Vs v x) (s1 : Same S S') (s2 : Same Vs Vs') : RpA K W b S' Vs' v x := by
  cases x with
  | d d => exact Rp.mono h s1 s2
  | rl => exact h
def rNil : DTR := fun _ n Q => Q [] n
def rCons (t : DTE) (u : DTR) : DTR := fun δ n Q => t δ n fun d m => u δ m fun as k => Q (.d d :: as) k
def rRl (i : Nat) (u : DTR) : DTR := fun δ n Q => δ[i]? = some (some .rl) ∧ u δ n fun as k => Q (.rl :: as) k
def aNil : DTA := fun _ n Q => Q [] n
def aCons (t : DTE) (u : DTA) : DTA := fun δ n Q => t δ n fun d m => u δ m fun as k => Q (d :: as) k
theorem dr_nil : DR X b1 [] rNil := ⟨PA.imp pa_nil fun σ H Q ⟨g, n, δ, S, Vs, P, sr, ht, k⟩ => k [] n [] H S Vs ht rfl sr (Same.refl _) (Same.refl _) .nil⟩
theorem da_nil : DA X [] aNil := ⟨PA.imp pa_nil fun σ H Q ⟨g, n, δ, S, Vs, P, sr, ht, k⟩ => k [] n [] H S Vs ht sr (Same.refl _) (Same.refl _) .nil⟩
theorem dr_cons (h : DE X b1 e t1) (hr : DR X b1 es tr) (hs : starEach (e :: es) X.env = (false, eval e X.env) :: starEach es X.env := by rfl) : DR X b1 (e :: es) (rCons t1 tr) :=
  ⟨PA.imp (pa_cons h.run hr.run hs) fun σ H Q ⟨g, n, δ, S, Vs, P, sr, ht, k⟩ => ⟨g, n, δ, S, Vs, _, sr, ht, fun d m v H' S' Vs' p sr' s1 s2 r =>
    ⟨g, m, δ, S', Vs', _, sr', p, fun as m2 vs H2 S2 V2 p2 l2 sr2 q1 q2 r2 => k _ m2 (v :: vs) H2 S2 V2 p2 (congrArg (· + 1) l2) sr2 (s1.trans q1) (s2.trans q2) (.cons (show RpA X.K g.W b1 S2 V2 v (.d d) from Rp.mono r q1 q2) r2)⟩⟩⟩
theorem dr_rl {i : Nat} (h : PE X e (tVar i)) (hr : DR X b1 es tr) (hs : starEach (e :: es) X.env = (false, eval e X.env) :: starEach es X.env := by rfl) : DR X b1 (e :: es) (rRl i tr) :=
  ⟨PA.imp (pa_cons h hr.run hs) fun σ H Q ⟨g, n, δ, S, Vs, P, sr, ⟨e1, ht⟩, k⟩ => by
    obtain ⟨v, e2, r⟩ := sr.slots i _ e1
    exact ⟨v, e2, g, n, δ, S, Vs, _, sr, ht, fun as m2 vs H2 S2 V2 p2 l2 sr2 q1 q2 r2 => k _ m2 (v :: vs) H2 S2 V2 p2 (congrArg (· + 1) l2) sr2 q1 q2 (.cons (show RpA X.K g.W b1 S2 V2 v .rl from r) r2)⟩⟩
theorem da_cons (h : DE X true e t1) (hr : DA X es ta) (hs : starEach (e :: es) X.env = (false, eval e X.env) :: starEach es X.env := by rfl) : DA X (e :: es) (aCons t1 ta) :=
  ⟨PA.imp (pa_cons h.run hr.run hs) fun σ H Q ⟨g, n, δ, S, Vs, P, sr, ht, k⟩ => ⟨g, n, δ, S, Vs, _, sr, ht, fun d m v H' S' Vs' p sr' s1 s2 r =>
    ⟨g, m, δ, S', Vs', _, sr', p, fun as m2 vs H2 S2 V2 p2 sr2 q1 q2 r2 => k _ m2 (v :: vs) H2 S2 V2 p2 sr2 (s1.trans q1) (s2.trans q2) (.cons (Dp.mono q1 r) r2)⟩⟩⟩

/-! ### displays -/
def dTup (t : DTA) : DTE := fun δ n Q => t δ n fun ds m => ds.length ≤ sizeLine ∧ Q (.tuple ds) m
theorem de_tup {k : Nat} (h : DA X es ta) : DE X true (.Tuple es k pos) (dTup ta) :=
  ⟨PE.imp (pe_tup h.run) fun σ H Q ⟨g, n, δ, S, Vs, P, sr, ht, k⟩ => ⟨g, n, δ, S, Vs, _, sr, ht, fun ds m vs H' S' Vs' ⟨z, p⟩ sr' s1 s2 r =>
    ⟨by rw [r.length]; exact z, fun q hq => by
      obtain ⟨S2, V2, sr2, q1, q2, q3⟩ := sr'.out (K := X.K) (.tup hq r)
      exact k _ m _ _ S2 V2 p sr2 (s1.trans q1) (s2.trans q2) q3⟩⟩⟩
/-- a new list -/
def lL (K : PySem.W.Frag) (t : DTA) : TE := fun σ H Q => ∃ g n δ S Vs P, SR K g n δ σ H S Vs ∧ t δ n P ∧
  ∀ ds m p xs H' S' Vs', P ds m → SR K g m δ σ H' S' Vs' → Same S S' → Same Vs Vs' → H' p = some (.lst xs) → Vs' p = none → g.H0 p = none → ¬ inW g.W p → DpAll K S' xs ds → Q (.ref p) H'
structure DL (X : Cx) (e : Expr) (t : DTA) : Prop where
  run : PE X e (lL X.K t)
def dL (t : DTA) : DTE := fun δ n Q => t δ n fun ds m => Q (.list ds) m
theorem DL.de (h : DL X e ta) : DE X true e (dL ta) :=
  ⟨PE.imp h.run fun σ H Q ⟨g, n, δ, S, Vs, P, sr, ht, k⟩ => ⟨g, n, δ, S, Vs, _, sr, ht, fun ds m p xs H' S' Vs' p1 sr' s1 s2 e1 e2 e3 e4 r => by
    have hs := sr'.SV.free e2
    exact k _ m _ H' _ _ p1 (sr'.track e1 e2 e3 e4) (s1.trans (same_upd hs)) (s2.trans (same_upd e2)) (.lst upd_same (DpAll.mono (same_upd hs) r))⟩⟩
/-- a rule that lays a list gives a new list -/
theorem dl_of {t : TE} (h : PE X e t) (hi : ∀ σ H Q, lL X.K ta σ H Q → t σ H Q) : DL X e ta := ⟨PE.imp h hi⟩
def aSz (t : DTA) : DTA := fun δ n Q => t δ n fun ds m => ds.length ≤ sizeLine ∧ Q ds m
theorem dl_lst (h : DA X es ta) : DL X (.List es pos) (aSz ta) :=
  ⟨PE.imp (pe_lst h.run) fun σ H Q ⟨g, n, δ, S, Vs, P, sr, ht, k⟩ => ⟨g, n, δ, S, Vs, _, sr, ht, fun ds m vs H' S' Vs' ⟨z, p⟩ sr' s1 s2 r =>
    ⟨by rw [r.length]; exact z, fun q hq => k ds m q vs _ S' Vs' p (sr'.temp hq) s1 s2 upd_same (sr'.vN hq) (sr'.h0 hq) (sr'.notW hq) r⟩⟩⟩

/-! ### what a def promises -/
/-- a def by data: its arguments, how much may be drawn, what is wanted -/
abbrev Fn := List Ar → Nat → (D → Nat → Prop) → Prop
def spD (K : PySem.W.Frag) (ar : Nat) (f : Fn) : Sp := fun vs H Q E => ∃ (W : Option (Addr × Addr)) (n : Nat) (S0 : Hp) (as : List Ar) (P : D → Nat → Prop), as.length = ar ∧ Same S0 H ∧ (∀ b, inW W b → S0 b = none) ∧ (∀ r f, W = some (r, f) → RillOk H r f n) ∧
  RpAs K W true S0 S0 vs as ∧ f as n P ∧
  ∀ d m v H' S', P d m → Same S0 S' → Same S' H' → (∀ b, inW W b → S' b = none) → (∀ b o, S' b = some o → S0 b = some o ∨ H b = none) → (∀ r f, W = some (r, f) → RillOk H' r f m) →
    (∀ b o, H b = some o → ¬ inW W b → H' b = some o) → Dp K S' v d → Q v H'
theorem Paired.len {α β : Type} {F : α → β → Prop} : ∀ {l : List α} {m : List β}, PySem.Paired F l m → l.length = m.length
  | _, _, .nil => rfl
  | _, _, .cons _ t => by rw [List.length_cons, List.length_cons, Paired.len t]
theorem spD_len {ar : Nat} {f : Fn} : ∀ vs H Q E, spD K ar f vs H Q E → vs.length = ar := fun vs H Q E ⟨_, _, _, as, _, e, _, _, _, r, _⟩ => (Paired.len r).trans e
/-- .. a weaker one -/
theorem spD_imp {ar : Nat} {f f' : Fn} (hf : ∀ as n P, as.length = ar → f' as n P → f as n P) : ∀ vs H Q E, spD K ar f' vs H Q E → spD K ar f vs H Q E :=
  fun vs H Q E ⟨W, n, S0, as, P, e, h1, h2, h3, r, hp, k⟩ => ⟨W, n, S0, as, P, e, h1, h2, h3, r, hf as n P e hp, k⟩
/-- behind a call: stable arguments -/
theorem SR.called {g : Gh} {n m : Nat} {δ : DS} {σ : L2.St} {H S Vs H' S' : Hp} (sr : SR K g n δ σ H S Vs) (h1 : Same S S') (h2 : Same S' H') (h3 : ∀ b, inW g.W b → S' b = none) (h4 : ∀ b o, S' b = some o → S b = some o ∨ H b = none)
    (h5 : ∀ r f, g.W = some (r, f) → RillOk H' r f m) (h6 : ∀ b o, H b = some o → ¬ inW g.W b → H' b = some o) : ∃ Vs', SR K g m δ σ H' S' Vs' ∧ Same Vs Vs' := by
  have hVH : Same Vs H' := fun b o e => h6 b o (sr.VH b o e) fun w => by rw [sr.nW b w] at e; cases e
  have hVV : ∀ b o o', Vs b = some o → S' b = some o' → o = o' := fun b o o' e e' => Option.some.inj ((hVH b o e).symm.trans (h2 b o' e'))
  refine ⟨fun b => match S' b with | some o => some o | none => Vs b, ⟨sr.S0S.trans h1, fun b o e => ?_, fun b o e => ?_, fun b o e => ?_, fun b o e w => h6 b o (sr.base b o e w) w, fun b w => ?_, fun b o e => ?_, h5, sr.len, fun i x e => ?_, sr.apart, fun a ha => ?_⟩, fun b o e => ?_⟩
  · show (match S' b with | some o => some o | none => Vs b) = some o
    rw [e]
  · have e : (match S' b with | some o => some o | none => Vs b) = some o := e
    cases q : S' b with
    | some o' => rw [q] at e; cases e; exact h2 b _ q
    | none => rw [q] at e; exact hVH b o e
  · have e : (match S' b with | some o => some o | none => Vs b) = some o := e
    cases q : S' b with
    | some o' => rw [q] at e; exact .inl e
    | none =>
      rw [q] at e
      rcases sr.VS b o e with z | z
      · rw [h1 b o z] at q; cases q
      · exact .inr z
  · show (match S' b with | some o => some o | none => Vs b) = none
    rw [h3 b w]; exact sr.nW b w
  · have e : (match S' b with | some o => some o | none => Vs b) = some o := e
    cases q : S' b with
    | some o' =>
      rw [q] at e
      cases e
      rcases h4 b _ q with z | z
      · exact sr.fresh b _ (sr.SV b _ z)
      · exact .inr (sr.h0 z)
    | none => rw [q] at e; exact sr.fresh b o e
  · obtain ⟨v, e1, e2⟩ := sr.slots i x e
    refine ⟨v, e1, ?_⟩
    cases x with
    | dat d => exact Dp.mono h1 e2
    | own ds =>
      obtain ⟨a, xs, ev, ea, es, eh, ed⟩ := e2
      have sn : S' a = none := by
        cases q : S' a with
        | none => rfl
        | some o =>
          rcases h4 a o q with z | z
          · rw [es] at z; cases z
          · rw [sr.VH a _ ea] at z; cases z
      refine ⟨a, xs, ev, ?_, sn, eh, DpAll.mono h1 ed⟩
      show (match S' a with | some o => some o | none => Vs a) = _
      rw [sn]; exact ea
    | rl => exact e2
    | scr _ => exact e2
  · obtain ⟨q1, ⟨xs, q2⟩, q3⟩ := sr.tmps a ha
    have sn : S' a = none := by
      cases q : S' a with
      | none => rfl
      | some o =>
        rcases h4 a o q with z | z
        · rw [q1] at z; cases z
        · rw [sr.VH a _ q2] at z; cases z
    refine ⟨sn, ⟨xs, ?_⟩, q3⟩
    show (match S' a with | some o => some o | none => Vs a) = _
    rw [sn]; exact q2
  · show (match S' b with | some o => some o | none => Vs b) = some o
    cases q : S' b with
    | some o' => rw [hVV b o o' e q]
    | none => exact e
/-- .. borrowed arguments -/
theorem SR.calledB {g : Gh} {n m : Nat} {δ : DS} {σ : L2.St} {H S Vs H' S' : Hp} (sr : SR K g n δ σ H S Vs) (h1 : Same Vs S') (h2 : Same S' H') (h3 : ∀ b, inW g.W b → S' b = none) (h4 : ∀ b o, S' b = some o → Vs b = some o ∨ H b = none)
    (h5 : ∀ r f, g.W = some (r, f) → RillOk H' r f m) (h6 : ∀ b o, H b = some o → ¬ inW g.W b → H' b = some o) : ∃ S2, SR K g m δ σ H' S2 S' ∧ Same S S2 := by
  have hS : Same S (fun b => match Vs b with | some _ => S b | none => S' b) := fun b o e => by
    show (match Vs b with | some _ => S b | none => S' b) = some o
    rw [sr.SV b o e]; exact e
  have hVS : ∀ b o, S' b = some o → (match Vs b with | some _ => S b | none => S' b) = some o ∨ ∃ xs, o = .lst xs := fun b o e => by
    cases q : Vs b with
    | none => exact .inl e
    | some o' =>
      have z := h1 b o' q
      rw [e] at z
      cases z
      exact sr.VS b o q
  refine ⟨fun b => match Vs b with | some _ => S b | none => S' b, ⟨sr.S0S.trans hS, fun b o e => ?_, h2, hVS, fun b o e w => h6 b o (sr.base b o e w) w, h3, fun b o e => ?_, h5, sr.len, fun i x e => ?_, sr.apart, fun a ha => ?_⟩, hS⟩
  · have e : (match Vs b with | some _ => S b | none => S' b) = some o := e
    cases q : Vs b with
    | none => rw [q] at e; exact e
    | some o' => rw [q] at e; exact h1 b o (sr.SV b o e)
  · rcases h4 b o e with z | z
    · exact sr.fresh b o z
    · exact .inr (sr.h0 z)
  · obtain ⟨v, e1, e2⟩ := sr.slots i x e
    refine ⟨v, e1, ?_⟩
    cases x with
    | dat d => exact Dp.mono hS e2
    | own ds =>
      obtain ⟨a, xs, ev, ea, es, eh, ed⟩ := e2
      refine ⟨a, xs, ev, h1 _ _ ea, ?_, eh, DpAll.mono hS ed⟩
      show (match Vs a with | some _ => S a | none => S' a) = none
      rw [ea]; exact es
    | rl => exact e2
    | scr _ => exact e2
  · obtain ⟨q1, ⟨xs, q2⟩, q3⟩ := sr.tmps a ha
    refine ⟨?_, ⟨xs, h1 _ _ q2⟩, q3⟩
    show (match Vs a with | some _ => S a | none => S' a) = none
    rw [q2]; exact q1
theorem RpAs.tt {W : Option (Addr × Addr)} {S Vs : Hp} {b : Bool} (sv : Same S Vs) : ∀ {vs : List V} {as : List Ar}, RpAs K W b S Vs vs as → RpAs K W true Vs Vs vs as
  | _, _, .nil => .nil
  | _, _, .cons (b := x) h t => .cons (by
      cases x with
      | d d => exact (show Dp K Vs _ d from Rp.dp h sv)
      | rl => exact h) (RpAs.tt sv t)
theorem RpAs.st {W : Option (Addr × Addr)} {S Vs : Hp} : ∀ {vs : List V} {as : List Ar}, RpAs K W true S Vs vs as → RpAs K W true S S vs as
  | _, _, .nil => .nil
  | _, _, .cons (b := x) h t => .cons (by
      cases x with
      | d d => exact h
      | rl => exact h) (RpAs.st t)
def dCall (f : Fn) (tr : DTR) : DTE := fun δ n Q => tr δ n fun as m => f as m Q
def dCallB (f : Fn) (tr : DTR) : DTE := fun δ n Q => tr δ n fun as m => f as m fun d k => noList d = true ∧ Q d k
variable {k : Nat} {fa : Addr} {fd : FuncData} {ps : List Str} {ar : Nat} {f : Fn} {x : Str} {p : Pos}
theorem de_call (F : FnG X.prog X.w X.K X.mg X.base CX0 k fa fd ps (spD X.K ar f)) (hgd : X.A.guards = some []) (hr : Room k X.A) (hg : Gl X x) (hm : X.mg x = some (.ref fa)) (hk : PySem.W.keepIn X.K (.ref fa) = true) (hb : Binds X.K fd ps [])
    (har : (e :: es).length = ar) (ha : DR X true (e :: es) tr) (hdb : (x == ("__debug__" : Str)) = false := by decide)
    (he : starEach (e :: es) X.env = (false, eval e X.env) :: starEach es X.env := by rfl) (hpl : (backTo pos (starEach es X.env)).any (·.1) = false := by rfl) :
    DE X true (.Call (.Name x p) (e :: es) [] pos) (dCall f tr) :=
  ⟨PE.imp (pg_call F hgd hr hg hm hk hb pass0 ha.run hdb he hpl) fun σ H Q ⟨g, n, δ, S, Vs, P, sr, ht, kk⟩ => ⟨g, n, δ, S, Vs, _, sr, ht, fun as m vs H' S' Vs' p hl sr' s1 s2 r =>
    ⟨g.W, m, S', as, P, hl.trans har, sr'.SH, fun b w => sr'.SV.free (sr'.nW b w), sr'.rill, RpAs.st r, p, fun d m2 v H2 S2 p2 h1 h2 h3 h4 h5 h6 hd => by
      obtain ⟨V2, sr2, hv⟩ := sr'.called h1 h2 h3 h4 h5 h6
      exact kk d m2 v H2 S2 V2 p2 sr2 (s1.trans h1) (s2.trans hv) hd⟩⟩⟩
theorem de_callB (F : FnG X.prog X.w X.K X.mg X.base CX0 k fa fd ps (spD X.K ar f)) (hgd : X.A.guards = some []) (hr : Room k X.A) (hg : Gl X x) (hm : X.mg x = some (.ref fa)) (hk : PySem.W.keepIn X.K (.ref fa) = true) (hb : Binds X.K fd ps [])
    (har : (e :: es).length = ar) (ha : DR X false (e :: es) tr) (hdb : (x == ("__debug__" : Str)) = false := by decide)
    (he : starEach (e :: es) X.env = (false, eval e X.env) :: starEach es X.env := by rfl) (hpl : (backTo pos (starEach es X.env)).any (·.1) = false := by rfl) :
    DE X true (.Call (.Name x p) (e :: es) [] pos) (dCallB f tr) :=
  ⟨PE.imp (pg_call F hgd hr hg hm hk hb pass0 ha.run hdb he hpl) fun σ H Q ⟨g, n, δ, S, Vs, P, sr, ht, kk⟩ => ⟨g, n, δ, S, Vs, _, sr, ht, fun as m vs H' S' Vs' p hl sr' s1 s2 r =>
    ⟨g.W, m, Vs', as, _, hl.trans har, sr'.VH, sr'.nW, sr'.rill, RpAs.tt sr'.SV r, p, fun d m2 v H2 S2 ⟨nl, p2⟩ h1 h2 h3 h4 h5 h6 hd => by
      obtain ⟨S3, sr3, hs⟩ := sr'.calledB h1 h2 h3 h4 h5 h6
      exact kk d m2 v H2 S3 S2 p2 sr3 (s1.trans hs) (s2.trans h1) (sr3.noList hd nl)⟩⟩⟩
/-! ### keywords -/
theorem PK.imp {kws : List Keyword} {t u : TA} (h : PK X kws t) (hi : ∀ σ H Q, u σ H Q → t σ H Q) : PK X kws u := ⟨fun pos pins s σ H Q I q => h.run pos pins s σ H Q I (hi σ H Q q)⟩
structure DK (X : Cx) (b : Bool) (kws : List Keyword) (t : DTR) : Prop where
  run : PK X kws (lR X.K b kws.length t)
theorem dk_nil : DK X b1 [] rNil := ⟨PK.imp pk_nil fun σ H Q ⟨g, n, δ, S, Vs, P, sr, ht, k⟩ => k [] n [] H S Vs ht rfl sr (Same.refl _) (Same.refl _) .nil⟩
theorem dk_cons {nm : Option Str} {kpos : Pos} {kws : List Keyword} (h : DE X b1 e t1) (hr : DK X b1 kws tr) : DK X b1 (⟨nm, e, kpos⟩ :: kws) (rCons t1 tr) :=
  ⟨PK.imp (pk_cons h.run hr.run) fun σ H Q ⟨g, n, δ, S, Vs, P, sr, ht, k⟩ => ⟨g, n, δ, S, Vs, _, sr, ht, fun d m v H' S' Vs' p sr' s1 s2 r =>
    ⟨g, m, δ, S', Vs', _, sr', p, fun as m2 vs H2 S2 V2 p2 l2 sr2 q1 q2 r2 => k _ m2 (v :: vs) H2 S2 V2 p2 (congrArg (· + 1) l2) sr2 (s1.trans q1) (s2.trans q2) (.cons (show RpA X.K g.W b1 S2 V2 v (.d d) from Rp.mono r q1 q2) r2)⟩⟩⟩
/-- positional ones, then keywords' ones, put in the parameters' order -/
def gP (a b : Nat) (perm : List Nat) {α : Type} (us ws : List α) : List α := if us.length = a ∧ ws.length = b then perm.filterMap (fun i => (us ++ ws)[i]?) else []
theorem paired_get {α β : Type} {R : α → β → Prop} : ∀ {l : List α} {m : List β} (i : Nat), PySem.Paired R l m → (l[i]? = none ∧ m[i]? = none) ∨ ∃ x y, l[i]? = some x ∧ m[i]? = some y ∧ R x y
  | _, _, _, .nil => .inl ⟨rfl, rfl⟩
  | _, _, 0, .cons r _ => .inr ⟨_, _, rfl, rfl, r⟩
  | _, _, i + 1, .cons _ t => by simpa using paired_get i t
theorem paired_append {α β : Type} {R : α → β → Prop} : ∀ {l l' : List α} {m m' : List β}, PySem.Paired R l m → PySem.Paired R l' m' → PySem.Paired R (l ++ l') (m ++ m')
  | _, _, _, _, .nil, t => t
  | _, _, _, _, .cons r q, t => .cons r (paired_append q t)
theorem paired_pick {α β : Type} {R : α → β → Prop} {l : List α} {m : List β} (h : PySem.Paired R l m) : ∀ perm : List Nat, PySem.Paired R (perm.filterMap (fun i => l[i]?)) (perm.filterMap (fun i => m[i]?))
  | [] => .nil
  | i :: r => by
    rcases paired_get i h with ⟨e1, e2⟩ | ⟨x, y, e1, e2, q⟩
    · rw [List.filterMap_cons, List.filterMap_cons, e1, e2]
      exact paired_pick h r
    · rw [List.filterMap_cons, List.filterMap_cons, e1, e2]
      exact .cons q (paired_pick h r)
theorem paired_gP {α β : Type} {R : α → β → Prop} {a b : Nat} {perm : List Nat} {l l' : List α} {m m' : List β} (h : PySem.Paired R l m) (h' : PySem.Paired R l' m') : PySem.Paired R (gP a b perm l l') (gP a b perm m m') := by
  unfold gP
  rw [Paired.len h, Paired.len h']
  by_cases c : m.length = a ∧ m'.length = b
  · rw [if_pos c, if_pos c]; exact paired_pick (paired_append h h') perm
  · rw [if_neg c, if_neg c]; exact .nil
theorem kwb {qual : Str} {st : Stmt} {ks : List Str} {na nb : Nat} {perm : List Nat} (F : Fun K x qual st fa fd) (hne : 0 < ps.length)
    (h : ∀ (kV doc pm : Value) (an : Option Addr) (cdv ct : Value) (us ws : List Value), us.length = na → ws.length = nb → bindArgs (PySem.W.fnOf x qual (defArgs st) (defBody st) (defScope st) .none kV doc pm an cdv ct) ⟨us, ks.zip ws⟩ = pure (ps.zip (gP na nb perm us ws))) :
    KwB K fd ps ks (gP na nb perm) := by
  obtain ⟨oc, od, kV, doc, pm, an, cdv, ct, osl, rfl, lk, hcd⟩ := F.ex
  refine ⟨fun s us ws _ hl => ?_, fun r rz => paired_gP r rz⟩
  by_cases cc : us.length = na ∧ ws.length = nb
  · exact .of_eq (h kV doc pm an cdv ct us ws cc.1 cc.2)
  · unfold gP at hl
    rw [if_neg cc] at hl
    rw [← hl] at hne
    exact absurd hne (by simp)
def dCallK (f : Fn) (na nb : Nat) (perm : List Nat) (tr tk : DTR) : DTE := fun δ n Q => tr δ n fun as m => tk δ m fun bs k => f (gP na nb perm as bs) k Q
theorem RpAs.mono {W : Option (Addr × Addr)} {b : Bool} {S Vs S' Vs' : Hp} (s1 : Same S S') (s2 : Same Vs Vs') : ∀ {vs : List V} {as : List Ar}, RpAs K W b S Vs vs as → RpAs K W b S' Vs' vs as
  | _, _, .nil => .nil
  | _, _, .cons h t => .cons (RpA.mono h s1 s2) (RpAs.mono s1 s2 t)
theorem de_callK {kws : List Keyword} {tk : DTR} {ks : List Str} {na nb : Nat} {perm : List Nat} (F : FnG X.prog X.w X.K X.mg X.base CX0 k fa fd ps (spD X.K ar f)) (hgd : X.A.guards = some []) (hr : Room k X.A) (hg : Gl X x) (hm : X.mg x = some (.ref fa)) (hk : PySem.W.keepIn X.K (.ref fa) = true)
    (hb : KwB X.K fd ps ks (gP na nb perm)) (ha : DR X true (e :: es) tr) (hkw : DK X true kws tk) (hna : (e :: es).length = na) (hnb : kws.length = nb) (har : ∀ (α : Type) (us ws : List α), us.length = na → ws.length = nb → (gP na nb perm us ws).length = ar)
    (hall : (backToKw pos (keywordEach kws X.env)).all (·.1.isSome) = true := by rfl) (hks : (backToKw pos (keywordEach kws X.env)).filterMap (·.1) = ks := by rfl)
    (hdb : (x == ("__debug__" : Str)) = false := by decide) (he : starEach (e :: es) X.env = (false, eval e X.env) :: starEach es X.env := by rfl)
    (hpl : ((backTo pos (starEach (e :: es) X.env)).any (·.1) || (backToKw pos (keywordEach kws X.env)).any (·.1.isNone)) = false := by rfl) :
    DE X true (.Call (.Name x p) (e :: es) kws pos) (dCallK f na nb perm tr tk) :=
  ⟨PE.imp (pg_callK F hgd hr hg hm hk hb pass0 ha.run hkw.run hall hks hdb he hpl) fun σ H Q ⟨g, n, δ, S, Vs, P, sr, ht, kk⟩ => ⟨g, n, δ, S, Vs, _, sr, ht, fun as m vs H' S' Vs' p hl sr' s1 s2 r =>
    ⟨g, m, δ, S', Vs', _, sr', p, fun bs m1 zs H1 S1 V1 p1 hl1 sr1 q1 q2 rz =>
      ⟨g.W, m1, S1, gP na nb perm as bs, P, har _ _ _ (hl.trans hna) (hl1.trans hnb), sr1.SH, fun b w => sr1.SV.free (sr1.nW b w), sr1.rill, paired_gP (RpAs.st (RpAs.mono q1 q2 r)) (RpAs.st rz), p1, fun d m2 v H2 S2 p2 h1 h2 h3 h4 h5 h6 hd => by
        obtain ⟨V2, sr2, hv⟩ := sr1.called h1 h2 h3 h4 h5 h6
        exact kk d m2 v H2 S2 V2 p2 sr2 ((s1.trans q1).trans h1) ((s2.trans q2).trans hv) hd⟩⟩⟩⟩
theorem de_callK0 {kws : List Keyword} {tk : DTR} {ks : List Str} {nb : Nat} {perm : List Nat} (F : FnG X.prog X.w X.K X.mg X.base CX0 k fa fd ps (spD X.K ar f)) (hgd : X.A.guards = some []) (hr : Room k X.A) (hg : Gl X x) (hm : X.mg x = some (.ref fa)) (hk : PySem.W.keepIn X.K (.ref fa) = true)
    (hb : KwB X.K fd ps ks (gP 0 nb perm)) (hkw : DK X true kws tk) (hnb : kws.length = nb) (har : ∀ (α : Type) (us ws : List α), us.length = 0 → ws.length = nb → (gP 0 nb perm us ws).length = ar)
    (hall : (backToKw pos (keywordEach kws X.env)).all (·.1.isSome) = true := by rfl) (hks : (backToKw pos (keywordEach kws X.env)).filterMap (·.1) = ks := by rfl)
    (hdb : (x == ("__debug__" : Str)) = false := by decide)
    (hpl : ((backTo pos (starEach [] X.env)).any (·.1) || (backToKw pos (keywordEach kws X.env)).any (·.1.isNone)) = false := by rfl) :
    DE X true (.Call (.Name x p) [] kws pos) (dCallK f 0 nb perm rNil tk) :=
  ⟨PE.imp (pg_callK0 F hgd hr hg hm hk hb pass0 hkw.run hall hks hdb hpl) fun σ H Q ⟨g, n, δ, S, Vs, P, sr, ht, kk⟩ => ⟨g, n, δ, S, Vs, _, sr, ht, fun bs m1 zs H1 S1 V1 p1 hl1 sr1 q1 q2 rz =>
      ⟨g.W, m1, S1, gP 0 nb perm [] bs, P, har _ _ _ rfl (hl1.trans hnb), sr1.SH, fun b w => sr1.SV.free (sr1.nW b w), sr1.rill, paired_gP .nil (RpAs.st rz), p1, fun d m2 v H2 S2 p2 h1 h2 h3 h4 h5 h6 hd => by
        obtain ⟨V2, sr2, hv⟩ := sr1.called h1 h2 h3 h4 h5 h6
        exact kk d m2 v H2 S2 V2 p2 sr2 (q1.trans h1) (q2.trans hv) hd⟩⟩⟩
end
end DL
/-! DL4: what is walked, targets, comprehensions. -/
namespace DL
open PySem PySem.Spec L2

/-- what a walk yields, turn by turn: data known ahead -/
def WalkD (K : PySem.W.Frag) (J : It) (B S : Hp) (ds : List D) : Prop :=
  ∀ (i : Nat) (H : Hp), Same B H → (∀ d, ds[i]? = some d → J.go i H ∧ ∀ x H', J.yld i H x H' → Out K S H d x H') ∧ (ds.length ≤ i → J.stop i H)
def lI (K : PySem.W.Frag) (b : Bool) (t : DTA) : TI := fun σ H R => ∃ g n δ S Vs P, SR K g n δ σ H S Vs ∧ t δ n P ∧
  ∀ J H' S' Vs' ds m, P ds m → SR K g m δ σ H' S' Vs' → Same S S' → Same Vs Vs' → WalkD K J (if b = true then S' else Vs') S' ds → R J H'
/-- b: what is walked stands for ever -/
structure DI (X : Cx) (b : Bool) (tg e : Expr) (t : DTA) : Prop where
  run : PI X tg e (lI X.K b t)

section
variable {X : Cx} {K : PySem.W.Frag} {tg e a b c : Expr} {es : List Expr} {pos : Pos} {t1 t2 t3 : DTE} {ta : DTA} {b1 b2 b3 : Bool}
theorem PI.imp {t u : TI} (h : PI X tg e t) (hi : ∀ σ H Q, u σ H Q → t σ H Q) : PI X tg e u := ⟨fun pins s σ H Q I q => h.run pins s σ H Q I (hi σ H Q q)⟩
theorem PI.or {t u : TI} (h : PI X tg e t) (h' : PI X tg e u) : PI X tg e (fun σ H R => t σ H R ∨ u σ H R) := ⟨fun pins s σ H R I q => q.elim (fun q => h.run pins s σ H R I q) fun q => h'.run pins s σ H R I q⟩
theorem Out.mono {B B' H : Hp} {d : D} {v : V} {H' : Hp} (s : Same B B') (o : Out K B H d v H') : Out K B' H d v H' := by
  cases o with
  | same h => exact .same (Dp.mono s h)
  | tup hp h => exact .tup hp (DpAll.mono s h)
  | lst hp h => exact .lst hp (DpAll.mono s h)
theorem walk_l {B S : Hp} {l : Addr} {xs : List V} {ds : List D} (h : B l = some (.lst xs)) (hd : DpAll K S xs ds) : WalkD K (Itl K l) B S ds := fun i H s => by
  have q : SqL K H l xs := SqL.of (s _ _ h)
  refine ⟨fun d e => ?_, fun hl => ⟨xs, q, by rw [hd.length]; exact hl⟩⟩
  obtain ⟨v, e1, r⟩ := hd.get' e
  refine ⟨⟨xs, v, q, e1⟩, fun x H' ⟨e2, f⟩ => ?_⟩
  subst e2
  have := f _ q
  rw [e1] at this
  cases this
  exact .same r
theorem walk_t {B S : Hp} {l : Addr} {xs : List V} {ds : List D} (h : SqT K B l xs) (hd : DpAll K S xs ds) : WalkD K (Itt K l) B S ds := fun i H s => by
  have q : SqT K H l xs := sqt_mono s h
  refine ⟨fun d e => ?_, fun hl => ⟨xs, q, by rw [hd.length]; exact hl⟩⟩
  obtain ⟨v, e1, r⟩ := hd.get' e
  refine ⟨⟨xs, v, q, e1⟩, fun x H' ⟨e2, f⟩ => ?_⟩
  subst e2
  have := f _ q
  rw [e1] at this
  cases this
  exact .same r
def rangeD (lo : Int) (n : Nat) : List D := (List.range n).map fun (i : Nat) => .int (lo + i)
theorem walk_r {B S : Hp} {lo : Int} {n : Nat} : WalkD K (Itr lo n) B S (rangeD lo n) := fun i H s => by
  refine ⟨fun d e => ?_, fun hl => show n ≤ i by simpa [rangeD] using hl⟩
  have hi : i < n := by
    have := (List.getElem?_eq_some_iff.mp e).1
    simpa [rangeD] using this
  refine ⟨hi, fun x H' ⟨e1, e2⟩ => ?_⟩
  subst e1 e2
  have : d = .int (lo + i) := by
    unfold rangeD at e
    rw [List.getElem?_map, List.getElem?_range hi] at e
    exact (Option.some.inj e).symm
  subst this
  exact (sc_int _).out
/-- a list or a tuple, walked -/
def iSeq (t : DTE) : DTA := fun δ n Q => (t δ n fun d m => ∃ ds, d = .list ds ∧ Q ds m) ∨ (t δ n fun d m => ∃ ds, d = .tuple ds ∧ Q ds m)
theorem di_seq (h : DE X b1 e t1) : DI X b1 tg e (iSeq t1) :=
  ⟨PI.imp (PI.or (pi_list h.run) (pi_tup h.run)) fun σ H R ⟨g, n, δ, S, Vs, P, sr, ht, k⟩ => by
    rcases ht with ht | ht
    · refine .inl ⟨g, n, δ, S, Vs, _, sr, ht, fun d m v H' S' Vs' ⟨ds, e1, p⟩ sr' s1 s2 r => ?_⟩
      subst e1
      unfold Rp at r
      cases b1 with
      | true =>
        rw [if_pos rfl] at r
        cases r with
        | lst h1 h2 => exact ⟨_, rfl, ⟨_, SqL.of (sr'.SH _ _ h1)⟩, k _ H' S' Vs' ds m p sr' s1 s2 (by rw [if_pos rfl]; exact walk_l h1 h2)⟩
      | false =>
        rw [if_neg (by decide)] at r
        rcases r with r | ⟨l, xs, ds', q1, q2, h1, h2⟩
        · cases r with
          | lst h1 h2 => exact ⟨_, rfl, ⟨_, SqL.of (sr'.SH _ _ h1)⟩, k _ H' S' Vs' ds m p sr' s1 s2 (by rw [if_neg (by decide)]; exact walk_l (sr'.SV _ _ h1) h2)⟩
        · cases q1
          subst q2
          exact ⟨_, rfl, ⟨_, SqL.of (sr'.VH _ _ h1)⟩, k _ H' S' Vs' ds m p sr' s1 s2 (by rw [if_neg (by decide)]; exact walk_l h1 h2)⟩
    · refine .inr ⟨g, n, δ, S, Vs, _, sr, ht, fun d m v H' S' Vs' ⟨ds, e1, p⟩ sr' s1 s2 r => ?_⟩
      subst e1
      rcases Rp.br r with r | ⟨l, xs, ds', q1, q2, h1, h2⟩
      · cases r with
        | tup h1 h2 =>
          refine ⟨_, rfl, ⟨_, sqt_mono sr'.SH h1⟩, k _ H' S' Vs' ds m p sr' s1 s2 ?_⟩
          cases b1 with
          | true => rw [if_pos rfl]; exact walk_t h1 h2
          | false => rw [if_neg (by decide)]; exact walk_t (sqt_mono sr'.SV h1) h2
      · cases q1⟩
theorem DI.weak (h : DI X b1 tg e ta) : DI X false tg e ta :=
  ⟨PI.imp h.run fun σ H R ⟨g, n, δ, S, Vs, P, sr, ht, k⟩ => ⟨g, n, δ, S, Vs, _, sr, ht, fun J H' S' Vs' ds m p sr' s1 s2 w => k J H' S' Vs' ds m p sr' s1 s2 (by
    rw [if_neg (by decide)]
    cases b1 with
    | true => rw [if_pos rfl] at w; exact fun i H s => w i H (sr'.SV.trans s)
    | false => rw [if_neg (by decide)] at w; exact w)⟩⟩
def iRg1 (t : DTE) : DTA := fun δ n Q => t δ n fun d m => ∃ j : Int, d = .int j ∧ -(2 ^ 62) ≤ j ∧ j < 2 ^ 62 ∧ Q (rangeD 0 j.toNat) m
theorem di_range1 {p : Pos} (h : DE X b1 a t1) (hg : Gl X "range") (hm : X.mg "range" = none) (hs : starEach [a] X.env = [(false, eval a X.env)] := by rfl) (hs2 : starEach (a :: []) X.env = (false, eval a X.env) :: starEach [] X.env := by rfl) :
    DI X true tg (.Call (.Name "range" p) [a] [] pos) (iRg1 t1) :=
  ⟨PI.imp (pi_range1 hg hm (pa_cons h.run pa_nil hs2) hs) fun σ H R ⟨g, n, δ, S, Vs, P, sr, ht, k⟩ => ⟨g, n, δ, S, Vs, _, sr, ht, fun d m v H' S' Vs' ⟨j, e1, q1, q2, p⟩ sr' s1 s2 r => by
    subst e1
    have r' := Rp.dp r sr'.SV
    cases r'
    exact ⟨j, rfl, q1, q2, k _ H' S' Vs' _ m p sr' s1 s2 walk_r⟩⟩⟩
def iRg2 (t u : DTE) : DTA := fun δ n Q => t δ n fun d m => u δ m fun d2 m2 => ∃ i j : Int, d = .int i ∧ d2 = .int j ∧ (-(2 ^ 62) ≤ i ∧ i < 2 ^ 62 ∧ -(2 ^ 62) ≤ j ∧ j < 2 ^ 62) ∧ Q (rangeD i (j - i).toNat) m2
theorem di_range2 {p : Pos} (h : DE X b1 a t1) (h2 : DE X b2 b t2) (hg : Gl X "range") (hm : X.mg "range" = none) (hs : starEach [a, b] X.env = [(false, eval a X.env), (false, eval b X.env)] := by rfl) (hs2 : starEach [b] X.env = [(false, eval b X.env)] := by rfl)
    (hs3 : starEach (a :: [b]) X.env = (false, eval a X.env) :: starEach [b] X.env := by rfl) (hs4 : starEach (b :: []) X.env = (false, eval b X.env) :: starEach [] X.env := by rfl) : DI X true tg (.Call (.Name "range" p) [a, b] [] pos) (iRg2 t1 t2) :=
  ⟨PI.imp (pi_range2 hg hm (pa_cons h.run (pa_cons h2.run pa_nil hs4) hs3) hs hs2) fun σ H R ⟨g, n, δ, S, Vs, P, sr, ht, k⟩ => ⟨g, n, δ, S, Vs, _, sr, ht, fun d m v H' S' Vs' p sr' s1 s2 r =>
    ⟨g, m, δ, S', Vs', _, sr', p, fun d2 m2 v2 H2 S2 V2 ⟨i, j, e1, e2, q, pp⟩ sr2 r1 r2 rp => by
      subst e1 e2
      have r' := Rp.dp r sr'.SV
      have r'' := Rp.dp rp sr2.SV
      cases r'
      cases r''
      exact ⟨i, j, rfl, q, k _ H2 S2 V2 _ m2 pp sr2 (s1.trans r1) (s2.trans r2) walk_r⟩⟩⟩⟩

/-! ### targets: names -/
abbrev DTG := D → DS → (DS → Prop) → Prop
/-- a target of names at slots is, by data -/
def GSem (K : PySem.W.Frag) (g : TG) (is : List Nat) (γ : DTG) : Prop := ∀ (gh : Gh) (n : Nat) (δ : DS) (σ : L2.St) (H S Vs : Hp) (d : D) (v : V) (P : DS → Prop) (Q : L2.St → Hp → Prop), SR K gh n δ σ H S Vs → Dp K S v d → γ d δ P →
    (∀ δ' σ', P δ' → SR K gh n δ' σ' H S Vs → (∀ j, j ∉ is → σ'[j]? = σ[j]? ∧ δ'[j]? = δ[j]?) → σ'.length = σ.length → Q σ' H) → g v σ H Q
abbrev DTGs := List D → DS → (DS → Prop) → Prop
def GsSem (K : PySem.W.Frag) (g : TGs) (is : List Nat) (len : Nat) (γ : DTGs) : Prop := ∀ (gh : Gh) (n : Nat) (δ : DS) (σ : L2.St) (H S Vs : Hp) (ds : List D) (vs : List V) (P : DS → Prop) (Q : L2.St → Hp → Prop), SR K gh n δ σ H S Vs → DpAll K S vs ds → γ ds δ P →
    (∀ δ' σ', P δ' → SR K gh n δ' σ' H S Vs → (∀ j, j ∉ is → σ'[j]? = σ[j]? ∧ δ'[j]? = δ[j]?) → σ'.length = σ.length → Q σ' H) → ds.length = len ∧ g vs σ H Q
def gNm (i : Nat) : DTG := fun d δ P => i < δ.length ∧ P (δ.set i (some (.dat d)))
theorem gs_name {i : Nat} : GSem K (gName i) [i] (gNm i) :=
  fun gh n δ σ H S Vs d v P Q sr hd ⟨hi, hp⟩ k => k _ _ hp (sr.set hi hd) (fun j hj => by
    have ne : i ≠ j := fun z => hj (by simp [z])
    exact ⟨List.getElem?_set_ne ne, List.getElem?_set_ne ne⟩) (by simp)
def gNil' : DTGs := fun ds δ P => ds = [] ∧ P δ
def gCons' (γ : DTG) (γs : DTGs) : DTGs := fun ds δ P => ∃ d r, ds = d :: r ∧ γ d δ fun δ' => γs r δ' P
theorem gs_nil : GsSem K gNil [] 0 gNil' := fun gh n δ σ H S Vs ds vs P Q sr hd ⟨e, hp⟩ k => by
  subst e
  cases hd
  exact ⟨rfl, rfl, k _ _ hp sr (fun _ _ => ⟨rfl, rfl⟩) rfl⟩
theorem gs_cons {i : Nat} {js : List Nat} {g2 : TGs} {l : Nat} {γs : DTGs} (q2 : GsSem K g2 js l γs) : GsSem K (gCons (gName i) g2) (i :: js) (l + 1) (gCons' (gNm i) γs) :=
  fun gh n δ σ H S Vs ds vs P Q sr hd ⟨d, r, e1, hi, hp⟩ k => by
    subst e1
    cases hd with
    | cons h1 h3 =>
      have q := q2 gh n _ _ H S Vs r _ _ Q (sr.set hi h1) h3 hp fun δ2 σ2 hp2 sr2 f2 l2 => k δ2 σ2 hp2 sr2 (fun j hj => by
        have ne : i ≠ j := fun z => hj (by simp [z])
        have a2 := f2 j fun z => hj (List.mem_cons_of_mem _ z)
        exact ⟨a2.1.trans (List.getElem?_set_ne ne), a2.2.trans (List.getElem?_set_ne ne)⟩) (l2.trans (by simp))
      exact ⟨by rw [List.length_cons, q.1], _, _, rfl, q.2⟩
def gTp (γs : DTGs) : DTG := fun d δ P => ∃ ds, d = .tuple ds ∧ γs ds δ P
theorem gs_tup {is : List Nat} {g1 : TGs} {n : Nat} {γs : DTGs} (q1 : GsSem K g1 is n γs) : GSem K (gTup K n g1) is (gTp γs) :=
  fun gh m δ σ H S Vs d v P Q sr hd ⟨ds, e1, hp⟩ k => by
    subst e1
    cases hd with
    | tup h1 h2 =>
      have q := q1 gh m δ σ H S Vs ds _ P Q sr h2 hp k
      exact ⟨_, _, rfl, sqt_mono sr.SH h1, h2.length.trans q.1, q.2⟩

/-! ### comprehensions -/
structure DTs (X : Cx) (ifs : List Expr) (t : DTT) : Prop where
  run : PTs X ifs (lT X.K t)
def dYes : DTT := fun _ n Q => Q true n
theorem dts_nil : DTs X [] dYes := ⟨⟨fun pins s σ H Q I ⟨g, n, δ, S, Vs, P, sr, ht, k⟩ => pts_nil.run pins s σ H Q I (k true n H S Vs ht sr (Same.refl _) (Same.refl _))⟩⟩
theorem dts_one {u : DTT} (h : DT X c u) : DTs X [c] u := ⟨pts_one h.run⟩
/-- the turns of a comprehension: d drawn, what is made so far -/
def compR (γ : DTG) (u : DTT) (t : DTE) (δ : DS) : List D → List D → Nat → (List D → Nat → Prop) → Prop
  | [], acc, n, Q => Q acc n
  | d :: r, acc, n, Q => γ d δ fun δ1 => u δ1 n fun b m => if b = true then t δ1 m fun x k => compR γ u t δ r (acc ++ [x]) k Q else compR γ u t δ r acc m Q
def noOwn (vs : List Nat) (δ : DS) : Bool := vs.all fun i => match δ[i]? with | some (some (.own _)) => false | _ => true
def dComp (s : DTA) (γ : DTG) (u : DTT) (t : DTE) (vs : List Nat) : DTA := fun δ n Q => noOwn vs δ = true ∧ s δ n fun ds m => ds.length ≤ sizeLine ∧ compR γ u t (wipeD δ vs) ds [] m Q
theorem wipe_get {σ : L2.St} {j : Nat} : ∀ {vs : List Nat}, (L2.wipe σ vs)[j]? = if j ∈ vs then (if j < σ.length then some none else none) else σ[j]?
  | [] => by rw [if_neg (by simp)]; rfl
  | v :: vs => by
    show ((L2.wipe σ vs).set v none)[j]? = _
    by_cases h : v = j
    · subst h
      rw [if_pos List.mem_cons_self, List.getElem?_set, if_pos rfl, wipe_length]
    · rw [List.getElem?_set_ne h, wipe_get (vs := vs)]
      by_cases h2 : j ∈ vs
      · rw [if_pos h2, if_pos (List.mem_cons_of_mem _ h2)]
      · rw [if_neg h2, if_neg fun z => (List.mem_cons.mp z).elim (fun q => h q.symm) h2]
theorem wipe_eq {σ σ' : L2.St} {vs : List Nat} (hl : σ'.length = σ.length) (h : ∀ j, j ∉ vs → σ'[j]? = σ[j]?) : L2.wipe σ' vs = L2.wipe σ vs := by
  refine List.ext_getElem? fun j => ?_
  rw [wipe_get, wipe_get, hl]
  by_cases hj : j ∈ vs
  · rw [if_pos hj, if_pos hj]
  · rw [if_neg hj, if_neg hj]; exact h j hj
theorem wipeD_get {δ : DS} {j : Nat} : ∀ {vs : List Nat}, j ∉ vs → (wipeD δ vs)[j]? = δ[j]?
  | [], _ => rfl
  | v :: vs, h => by
    show ((wipeD δ vs).set v none)[j]? = _
    rw [List.getElem?_set_ne fun z => h (by rw [z]; exact List.mem_cons_self)]
    exact wipeD_get fun z => h (List.mem_cons_of_mem _ z)
theorem noOwn_get {vs : List Nat} {δ : DS} (h : noOwn vs δ = true) {i : Nat} {ds : List D} (e : δ[i]? = some (some (.own ds))) : i ∉ vs := fun hi => by
  have := List.all_eq_true.mp h i hi
  rw [e] at this
  exact Bool.false_ne_true this
theorem SR.untmp {g : Gh} {n : Nat} {δ : DS} {σ : L2.St} {H S Vs : Hp} {p : Addr} (h : SR K { g with T := p :: g.T } n δ σ H S Vs) (hT : p ∉ g.T) : SR K g n δ σ H S (fun b => if b = p then none else Vs b) := by
  obtain ⟨q1, ⟨xs, q2⟩, q3⟩ := h.tmps p List.mem_cons_self
  have get : ∀ b o, (if b = p then none else Vs b) = some o → b ≠ p ∧ Vs b = some o := fun b o e => by
    by_cases hb : b = p
    · rw [if_pos hb] at e; cases e
    · rw [if_neg hb] at e; exact ⟨hb, e⟩
  refine ⟨h.S0S, fun b x e => ?_, fun b x e => h.VH b x (get b x e).2, fun b x e => h.VS b x (get b x e).2, h.base, fun b w => ?_, fun b x e => h.fresh b x (get b x e).2, h.rill, h.len, fun j x e => ?_, h.apart, fun b hb => ?_⟩
  · show (if b = p then none else Vs b) = some x
    rw [if_neg (ne_of_none e q1)]; exact h.SV b x e
  · show (if b = p then none else Vs b) = none
    by_cases hb : b = p
    · rw [if_pos hb]
    · rw [if_neg hb]; exact h.nW b w
  · obtain ⟨u, e1, e2⟩ := h.slots j x e
    refine ⟨u, e1, ?_⟩
    cases x with
    | dat d => exact e2
    | own ds =>
      obtain ⟨a, zs, ev, ea, es, eh, ed⟩ := e2
      refine ⟨a, zs, ev, ?_, es, eh, ed⟩
      show (if a = p then none else Vs a) = _
      rw [if_neg fun z => q3 j ds e (by rw [e1, ev, z])]; exact ea
    | rl => exact e2
    | scr _ => exact e2
  · obtain ⟨r1, ⟨zs, r2⟩, r3⟩ := h.tmps b (List.mem_cons_of_mem _ hb)
    refine ⟨r1, ⟨zs, ?_⟩, r3⟩
    show (if b = p then none else Vs b) = _
    rw [if_neg (fun z : b = p => hT (z ▸ hb))]; exact r2
/-- the comprehension's reading, by data -/
theorem comp_ok {wi : TI} {s : DTA} {γ : DTG} {u : DTT} {t : DTE} {g : TG} {vs is : List Nat} {b : Bool} {σ : L2.St} {H : Hp} {Q : VK}
    (hg : GSem K g is γ)
    (hw : ∀ σ H R, lI K b s σ H R → wi σ H R) (his : ∀ i ∈ is, i ∈ vs)
    (h : lL K (dComp s γ u t vs) σ H Q) : tLc wi g (lT K u) (lE K true t) vs σ H Q := by
  obtain ⟨gh, n, δ, S, Vs, P, sr, ⟨no, ht⟩, k⟩ := h
  refine hw _ _ _ ⟨gh, n, δ, S, Vs, _, sr, ht, fun J H1 S1 V1 ds m ⟨z, hp⟩ sr1 s1 s2 w D hD => ?_⟩
  have w : WalkD K J V1 S1 ds := by
    cases b with
    | true => rw [if_pos rfl] at w; exact fun i H s => w i H (sr1.SV.trans s)
    | false => rw [if_neg (by decide)] at w; exact w
  have hV := sr1.vN hD
  have h0 := sr1.h0 hD
  have hW := sr1.notW hD
  have hT : D ∉ gh.T := fun z => by
    obtain ⟨_, ⟨xs, q⟩, _⟩ := sr1.tmps D z
    rw [hV] at q; cases q
  have sr1' : SR K { gh with T := D :: gh.T } m δ σ (upd H1 D (.lst [])) S1 (upd V1 D (.lst [])) := (sr1.temp hD).withTmp upd_same hV h0 hW
  have own : ∀ (i : Nat) es, δ[i]? = some (some (.own es)) → (wipeD δ vs)[i]? = some (some (.own es)) ∧ (L2.wipe σ vs)[i]? = σ[i]? := fun i es e => by
    have hi := noOwn_get no e
    exact ⟨by rw [wipeD_get hi]; exact e, by rw [wipe_get, if_neg hi]⟩
  refine ⟨fun i k' H => k' = ds.length - i ∧ i ≤ ds.length ∧ ∃ S2 V2 m2 acc xs, SR K { gh with T := D :: gh.T } m2 δ σ H S2 V2 ∧ Same S1 S2 ∧ Same V1 V2 ∧ V2 D = some (.lst xs) ∧ DpAll K S2 xs acc ∧ acc.length ≤ i ∧ compR γ u t (wipeD δ vs) (ds.drop i) acc m2 P,
    ⟨ds.length, by simp, Nat.zero_le _, S1, _, m, [], [], sr1', Same.refl _, same_upd hV, upd_same, .nil, Nat.zero_le _, hp⟩, fun i k' H2 ⟨hk', hi, S2, V2, m2, acc, xs, sr2, r1, r2, eD, hd, hl, hc⟩ => ?_⟩
  by_cases hlt : i < ds.length
  · have ed : ds[i]? = some ds[i] := List.getElem?_eq_getElem hlt
    obtain ⟨wg, wy⟩ := (w i H2 (r2.trans sr2.VH)).1 _ ed
    rw [List.drop_eq_getElem_cons hlt] at hc
    refine .inr ⟨wg, fun H' => ∃ S3 V3 m3 acc' xs', SR K { gh with T := D :: gh.T } m3 δ σ H' S3 V3 ∧ Same S1 S3 ∧ Same V1 V3 ∧ V3 D = some (.lst xs') ∧ DpAll K S3 xs' acc' ∧ acc'.length ≤ i + 1 ∧ compR γ u t (wipeD δ vs) (ds.drop (i + 1)) acc' m3 P,
      fun H' ⟨S3, V3, m3, acc', xs', a1, a2, a3, a4, a5, a6, a7⟩ => ⟨ds.length - (i + 1), by omega, rfl, hlt, S3, V3, m3, acc', xs', a1, a2, a3, a4, a5, a6, a7⟩, fun x H3 hy => ?_⟩
    obtain ⟨S3, V3, sr3, p1, p2, p3⟩ := sr2.out (Out.mono r1 (wy x H3 hy))
    refine hg _ m2 (wipeD δ vs) (L2.wipe σ vs) H3 S3 V3 _ x _ _ (sr3.wip vs) p3 hc fun δ1 σ1 hc1 sr4 f l => ?_
    have hcl : ∀ j, j ∉ vs → σ1[j]? = (L2.wipe σ vs)[j]? ∧ δ1[j]? = (wipeD δ vs)[j]? := fun j hj => f j fun z => hj (his j z)
    have own1 : ∀ (i : Nat) es, δ[i]? = some (some (.own es)) → δ1[i]? = some (some (.own es)) ∧ σ1[i]? = σ[i]? := fun i es e => by
      have hi := noOwn_get no e
      exact ⟨(hcl i hi).2.trans (own i es e).1, (hcl i hi).1.trans (own i es e).2⟩
    refine ⟨?_, ⟨_, m2, δ1, S3, V3, _, sr4, hc1, fun c m4 H5 S5 V5 hc5 sr5 t1 t2 => ?_⟩⟩
    · rw [wipe_eq l fun j hj => (hcl j hj).1]
      refine wipe_eq (wipe_length _ _) fun j hj => ?_
      rw [wipe_get, if_neg hj]
    · cases c with
      | false =>
        rw [if_neg Bool.false_ne_true] at hc5 ⊢
        exact ⟨S5, V5, m4, acc, xs, sr3.regrow sr5 t1 t2 own1, r1.trans (p1.trans t1), r2.trans (p2.trans t2), t2 _ _ (p2 _ _ eD), DpAll.mono (p1.trans t1) hd, by omega, hc5⟩
      | true =>
        rw [if_pos rfl] at hc5 ⊢
        refine ⟨_, m4, δ1, S5, V5, _, sr5, hc5, fun d6 m6 v6 H6 S6 V6 hc6 sr6 t3 t4 r6 => ?_⟩
        have eD6 : V6 D = some (.lst xs) := t4 _ _ (t2 _ _ (p2 _ _ eD))
        have sr7 := sr3.regrow sr6 (t1.trans t3) (t2.trans t4) own1
        have hd6 := DpAll.mono (p1.trans (t1.trans t3)) hd
        refine ⟨xs, sr6.VH _ _ eD6, ?_, S6, _, m6, acc ++ [d6], xs ++ [v6], sr7.tmpMut h0 hT, r1.trans (p1.trans (t1.trans t3)), fun b o e => ?_, upd_same, hd6.append (.cons r6 .nil), ?_, hc6⟩
        · rw [hd.length]; omega
        · rw [upd_ne (ne_of_none e hV)]; exact t4 _ _ (t2 _ _ (p2 _ _ (r2 _ _ e)))
        · rw [List.length_append, List.length_singleton]; omega
  · have hge : ds.length ≤ i := Nat.le_of_not_lt hlt
    refine .inl ⟨(w i H2 (r2.trans sr2.VH)).2 hge, ?_⟩
    rw [List.drop_eq_nil_of_le hge] at hc
    have hVV : Same Vs (fun b => if b = D then none else V2 b) := fun b o e => by
      have e1 := s2 _ _ e
      show (if b = D then none else V2 b) = some o
      rw [if_neg (ne_of_none e1 hV)]; exact r2 _ _ e1
    exact k acc m2 D xs H2 S2 _ hc (sr2.untmp hT) (s1.trans r1) hVV (sr2.VH _ _ eD) (if_pos rfl) h0 hW hd
theorem dl_comp {elt tg iter : Expr} {ifs : List Expr} {scope : Scope} {own : List (Str × Nat)} {pos : Pos} {b : Bool} {s : DTA} {g : TG} {is : List Nat} {γ : DTG} {u : DTT} {t : DTE} (hc : X.calm = true) (hN : X.N.Nodup) (hi : DI X b tg iter s) (ok : BlkOk X.N X.env.scope scope own)
    (hg : ∀ (s : Shared) (H : Hp) (C : Addr) (cl : List (Str × Addr)) (fp : List Addr), PG (X.blk s H scope (compEnvC scope cl C X.env) fp) tg g) (sem : GSem X.K g is γ) (his : ∀ i ∈ is, i ∈ own.map (·.2))
    (ht : ∀ (s : Shared) (H : Hp) (C : Addr) (cl : List (Str × Addr)) (fp : List Addr), DTs (X.blk s H scope (compEnvC scope cl C X.env) fp) ifs u)
    (he : ∀ (s : Shared) (H : Hp) (C : Addr) (cl : List (Str × Addr)) (fp : List Addr), DE (X.blk s H scope (compEnvC scope cl C X.env) fp) true elt t) (hs : ∀ x, foldedSetIterable iter X.env x = pure x := by intro _; rfl) :
    DL X (.ListComp elt [⟨tg, iter, ifs, 0⟩] scope pos) (dComp s γ u t (own.map (·.2))) :=
  ⟨PE.imp (pe_lc hc hN hi.run ok hg (fun a b c d e => (ht a b c d e).run) (fun a b c d e => (he a b c d e).run) hs) fun σ H Q h => comp_ok sem (fun _ _ _ h => h) his h⟩
end
end DL
/-! DL5: statements, the body of a def. -/
namespace DL
open PySem PySem.Spec L2

structure DEnds where
  nx : DS → Nat → Prop
  rt : D → Nat → Prop
  bk : DS → Nat → Prop := fun _ _ => False
  ct : DS → Nat → Prop := fun _ _ => False
abbrev DTS := DEnds → DS → Nat → Prop
def EndsOk (K : PySem.W.Frag) (g : Gh) (S : Hp) (E : DEnds) (D : Ends) : Prop :=
  (∀ δ' m σ' H' S' Vs', E.nx δ' m → SR K g m δ' σ' H' S' Vs' → Same S S' → D.nx σ' H') ∧
  (∀ d δ' m v σ' H' S' Vs', E.rt d m → SR K g m δ' σ' H' S' Vs' → Same S S' → Dp K S' v d → D.rt v H') ∧
  (∀ δ' m σ' H' S' Vs', E.bk δ' m → SR K g m δ' σ' H' S' Vs' → Same S S' → D.bk σ' H') ∧
  (∀ δ' m σ' H' S' Vs', E.ct δ' m → SR K g m δ' σ' H' S' Vs' → Same S S' → D.ct σ' H')
def lS (K : PySem.W.Frag) (t : DTS) : TS := fun D σ H => ∃ g n δ S Vs E, g.T = [] ∧ SR K g n δ σ H S Vs ∧ t E δ n ∧ EndsOk K g S E D
structure DSt (X : Cx) (st : Stmt) (t : DTS) : Prop where
  run : PS X st (lS X.K t)
structure DSs (X : Cx) (st : List Stmt) (t : DTS) : Prop where
  run : PSs X st (lS X.K t)

section
variable {X : Cx} {K : PySem.W.Frag} {e a b c : Expr} {es : List Expr} {pos : Pos} {t1 t2 t3 : DTE} {ta : DTA} {u1 : DTT} {s1 s2 : DTS} {st : Stmt} {rest sa sb : List Stmt} {b1 b2 b3 : Bool}
theorem PS.imp {t u : TS} (h : PS X st t) (hi : ∀ D σ H, u D σ H → t D σ H) : PS X st u := ⟨fun pins s σ H D I q => h.run pins s σ H D I (hi D σ H q)⟩
theorem PSs.imp {t u : TS} (h : PSs X rest t) (hi : ∀ D σ H, u D σ H → t D σ H) : PSs X rest u := ⟨fun pins s σ H D I q => h.run pins s σ H D I (hi D σ H q)⟩
theorem EndsOk.less {g : Gh} {S S' : Hp} {E : DEnds} {D : Ends} (h : EndsOk K g S E D) (s : Same S S') : EndsOk K g S' E D :=
  ⟨fun _ _ _ _ _ _ e r q => h.1 _ _ _ _ _ _ e r (s.trans q), fun _ _ _ _ _ _ _ _ e r q d => h.2.1 _ _ _ _ _ _ _ _ e r (s.trans q) d, fun _ _ _ _ _ _ e r q => h.2.2.1 _ _ _ _ _ _ e r (s.trans q), fun _ _ _ _ _ _ e r q => h.2.2.2 _ _ _ _ _ _ e r (s.trans q)⟩
def sNext : DTS := fun E δ n => E.nx δ n
def sSeq (t u : DTS) : DTS := fun E δ n => t { E with nx := u E } δ n
theorem dss_nil : DSs X [] sNext := ⟨PSs.imp pss_nil fun D σ H ⟨g, n, δ, S, Vs, E, hT, sr, ht, ok⟩ => ok.1 _ _ _ _ _ _ ht sr (Same.refl _)⟩
theorem seq_ok {t u : DTS} {D : Ends} {σ : L2.St} {H : Hp} (h : lS K (sSeq t u) D σ H) : tSeq (lS K t) (lS K u) D σ H := by
  obtain ⟨g, n, δ, S, Vs, E, hT, sr, ht, ok⟩ := h
  exact ⟨g, n, δ, S, Vs, _, hT, sr, ht, fun δ' m σ' H' S' Vs' q sr' s => ⟨g, m, δ', S', Vs', E, hT, sr', q, ok.less s⟩, ok.2.1, ok.2.2.1, ok.2.2.2⟩
theorem dss_cons (h1 : DSt X st s1) (h2 : DSs X rest s2) : DSs X (st :: rest) (sSeq s1 s2) := ⟨PSs.imp (pss_cons h1.run h2.run) fun _ _ _ h => seq_ok h⟩
theorem dss_one (h1 : DSt X st s1) : DSs X [st] s1 := ⟨pss_one h1.run⟩
def sBk : DTS := fun E δ n => E.bk δ n
def sCt : DTS := fun E δ n => E.ct δ n
theorem ds_pass : DSt X (.Pass pos) sNext := ⟨PS.imp ps_pass fun D σ H ⟨g, n, δ, S, Vs, E, hT, sr, ht, ok⟩ => ok.1 _ _ _ _ _ _ ht sr (Same.refl _)⟩
theorem ds_break : DSt X (.Break pos) sBk := ⟨PS.imp ps_break fun D σ H ⟨g, n, δ, S, Vs, E, hT, sr, ht, ok⟩ => ok.2.2.1 _ _ _ _ _ _ ht sr (Same.refl _)⟩
theorem ds_continue : DSt X (.Continue pos) sCt := ⟨PS.imp ps_continue fun D σ H ⟨g, n, δ, S, Vs, E, hT, sr, ht, ok⟩ => ok.2.2.2 _ _ _ _ _ _ ht sr (Same.refl _)⟩
def sRet (t : DTE) : DTS := fun E δ n => t δ n E.rt
theorem ds_ret (h : DE X true e t1) : DSt X (.Return (some e) pos) (sRet t1) :=
  ⟨PS.imp (ps_ret h.run) fun D σ H ⟨g, n, δ, S, Vs, E, hT, sr, ht, ok⟩ => ⟨g, n, δ, S, Vs, _, sr, ht, fun d m v H' S' Vs' p sr' q1 q2 r => ok.2.1 d δ m v σ H' S' Vs' p sr' q1 r⟩⟩
def sRetN : DTS := fun E _ n => E.rt .none n
theorem ds_retN : DSt X (.Return none pos) sRetN :=
  ⟨PS.imp ps_retN fun D σ H ⟨g, n, δ, S, Vs, E, hT, sr, ht, ok⟩ => ok.2.1 _ δ n _ σ H S Vs ht sr (Same.refl _) .non⟩
def sIf (u : DTT) (s t : DTS) : DTS := fun E δ n => u δ n fun c m => if c = true then s E δ m else t E δ m
theorem ds_if (hc : DT X c u1) (ha : DSs X sa s1) (hb : DSs X sb s2) : DSt X (.If c sa sb pos) (sIf u1 s1 s2) :=
  ⟨PS.imp (ps_if hc.run ha.run hb.run) fun D σ H ⟨g, n, δ, S, Vs, E, hT, sr, ht, ok⟩ => ⟨g, n, δ, S, Vs, _, sr, ht, fun k m H' S' Vs' p sr' q1 q2 => by
    cases k with
    | true => exact ⟨g, m, δ, S', Vs', E, hT, sr', p, ok.less q1⟩
    | false => exact ⟨g, m, δ, S', Vs', E, hT, sr', p, ok.less q1⟩⟩⟩
/-- x = e -/
def sSet (i : Nat) (t : DTE) : DTS := fun E δ n => t δ n fun d m => i < δ.length ∧ E.nx (δ.set i (some (.dat d))) m
theorem ds_set {i : Nat} (h : ∀ te, PE X e te → PS X st (tAsg te (gName i))) (he : DE X true e t1) : DSt X st (sSet i t1) :=
  ⟨PS.imp (h _ he.run) fun D σ H ⟨g, n, δ, S, Vs, E, hT, sr, ht, ok⟩ => ⟨g, n, δ, S, Vs, _, sr, ht, fun d m v H' S' Vs' ⟨hi, p⟩ sr' q1 q2 r => ok.1 _ m _ H' S' Vs' p (sr'.set hi r) q1⟩⟩
/-- x = a new list -/
def sSetL (i : Nat) (t : DTA) : DTS := fun E δ n => t δ n fun ds m => i < δ.length ∧ E.nx (δ.set i (some (.own ds))) m
theorem ds_setL {i : Nat} (h : ∀ te, PE X e te → PS X st (tAsg te (gName i))) (he : DL X e ta) : DSt X st (sSetL i ta) :=
  ⟨PS.imp (h _ he.run) fun D σ H ⟨g, n, δ, S, Vs, E, hT, sr, ht, ok⟩ => ⟨g, n, δ, S, Vs, _, sr, ht, fun ds m p xs H' S' Vs' ⟨hi, q⟩ sr' q1 q2 e1 e2 e3 e4 r => ok.1 _ m _ H' S' _ q (sr'.setO hi e1 e2 e3 e4 r) q1⟩⟩
/-- x = [.. for ..] at a local of its line -/
theorem ds_setLc {i : Nat} {y : Str} {py : Pos} {elt tg iter : Expr} {ifs : List Expr} {scope : Scope} {own : List (Str × Nat)} {pos spos : Pos} {fl : Bool} {s : DTA} {g : TG} {is : List Nat} {γ : DTG} {u : DTT} {t : DTE} (hc : X.calm = true) (hN : X.N.Nodup) (hy : X.N[i]? = some y) (hyl : X.env.scope.names.lookup y = some .local)
    (hsw : swapsWith (.ListComp elt [⟨tg, iter, ifs, 0⟩] scope pos) (some (.Name y py)) spos.line X.env = pure true) (hi : DI X fl tg iter s) (ok : BlkOk X.N X.env.scope scope own)
    (hg : ∀ (s : Shared) (H : Hp) (C : Addr) (cl : List (Str × Addr)) (fp : List Addr), PG (X.blk s H scope (compEnvC scope cl C X.env) fp) tg g) (sem : GSem X.K g is γ) (his : ∀ i ∈ is, i ∈ own.map (·.2))
    (ht : ∀ (s : Shared) (H : Hp) (C : Addr) (cl : List (Str × Addr)) (fp : List Addr), DTs (X.blk s H scope (compEnvC scope cl C X.env) fp) ifs u)
    (he : ∀ (s : Shared) (H : Hp) (C : Addr) (cl : List (Str × Addr)) (fp : List Addr), DE (X.blk s H scope (compEnvC scope cl C X.env) fp) true elt t) (hs : ∀ x, foldedSetIterable iter X.env x = pure x := by intro _; rfl) :
    DSt X (.Assign [.Name y py] (.ListComp elt [⟨tg, iter, ifs, 0⟩] scope pos) spos) (sSetL i (dComp s γ u t (own.map (·.2)))) :=
  ⟨PS.imp (ps_setLc hc hN hy hyl hsw hi.run ok hg (fun a b c d e => (ht a b c d e).run) (fun a b c d e => (he a b c d e).run) hs) fun D σ H ⟨g, n, δ, S, Vs, E, hT, sr, hr, ok⟩ =>
    comp_ok sem (fun _ _ _ h => h) his ⟨g, n, δ, S, Vs, _, sr, hr, fun ds m p xs H' S' Vs' ⟨hi, q⟩ sr' q1 q2 e1 e2 e3 e4 r => ok.1 _ m _ H' S' _ q (sr'.setO hi e1 e2 e3 e4 r) q1⟩⟩
/-- targets = e -/
def sAsg (γ : DTG) (t : DTE) : DTS := fun E δ n => t δ n fun d m => γ d δ fun δ' => E.nx δ' m
theorem ds_asg {g : TG} {is : List Nat} {γ : DTG} (h : ∀ te, PE X e te → PS X st (tAsg te g)) (sem : GSem X.K g is γ) (he : DE X true e t1) : DSt X st (sAsg γ t1) :=
  ⟨PS.imp (h _ he.run) fun D σ H ⟨gh, n, δ, S, Vs, E, hT, sr, ht, ok⟩ => ⟨gh, n, δ, S, Vs, _, sr, ht, fun d m v H' S' Vs' p sr' q1 q2 r =>
    sem gh m δ σ H' S' Vs' d v _ _ sr' r p fun δ' σ' p' sr2 _ _ => ok.1 _ m _ H' S' Vs' p' sr2 q1⟩⟩
/-- a, b = x, y at locals -/
def sPar (i j : Nat) (t : DTA) : DTS := fun E δ n => t δ n fun ds m => ∃ x y, ds = [x, y] ∧ i < δ.length ∧ j < δ.length ∧ E.nx ((δ.set i (some (.dat x))).set j (some (.dat y))) m
theorem ds_par {i j : Nat} (h : ∀ te, PA X es te → PS X st (tPar i j te)) (he : DA X es ta) : DSt X st (sPar i j ta) :=
  ⟨PS.imp (h _ he.run) fun D σ H ⟨gh, n, δ, S, Vs, E, hT, sr, ht, ok⟩ => ⟨gh, n, δ, S, Vs, _, sr, ht, fun ds m vs H' S' Vs' p sr' q1 q2 r => by
    obtain ⟨x, y, rfl, hi, hj, p⟩ := p
    cases r with
    | cons r1 r =>
      cases r with
      | cons r2 r =>
        cases r
        exact ⟨_, _, rfl, ok.1 _ m _ H' S' Vs' p ((sr'.set hi r1).set (by simpa using hj) r2) q1⟩⟩⟩
/-- an expression whose value is dropped -/
def sDrop (t : DTE) : DTS := fun E δ n => t δ n fun _ m => E.nx δ m
theorem ds_expr (he : DE X b1 e t1) (hs : swapsWith e none pos.line X.env = pure false := by rfl) : DSt X (.Expr e pos) (sDrop t1) :=
  ⟨PS.imp (ps_expr he.run hs) fun D σ H ⟨g, n, δ, S, Vs, E, hT, sr, ht, ok⟩ => ⟨g, n, δ, S, Vs, _, sr, ht, fun d m v H' S' Vs' p sr' q1 q2 r => ok.1 _ m _ H' S' Vs' p sr' q1⟩⟩
theorem ds_doc {x j pos pos'} : DSt X (.Expr (.Constant (.str x) j pos) pos') sNext := ⟨PS.imp ps_doc fun D σ H ⟨g, n, δ, S, Vs, E, hT, sr, ht, ok⟩ => ok.1 _ _ _ _ _ _ ht sr (Same.refl _)⟩
/-- x.append(e), x an own list -/
def sApp (i : Nat) (t : DTE) : DTS := fun E δ n => ∃ ds, δ[i]? = some (some (.own ds)) ∧ ds.length < sizeLine ∧ t δ n fun d m => E.nx (δ.set i (some (.own (ds ++ [d])))) m
theorem ds_append {i : Nat} {x : Str} {p apos cpos spos : Pos} (hx : PE X (.Name x p) (tVar i)) (he : DE X true e t1)
    (h : ∀ {to : TE} {t : TA}, PE X (.Name x p) to → PA X [e] t → PE X (.Call (.Attribute (.Name x p) "append" apos) [e] [] cpos) (tBM X.K "list" rAppend to t))
    (hs : swapsWith (.Call (.Attribute (.Name x p) "append" apos) [e] [] cpos) none spos.line X.env = pure false := by rfl) (hs2 : starEach (e :: []) X.env = (false, eval e X.env) :: starEach [] X.env := by rfl) :
    DSt X (.Expr (.Call (.Attribute (.Name x p) "append" apos) [e] [] cpos) spos) (sApp i t1) :=
  ⟨PS.imp (ps_expr (h hx (pa_cons he.run pa_nil hs2)) hs) fun D σ H ⟨g, n, δ, S, Vs, E, hT, sr, ⟨ds, ei, hz, ht⟩, ok⟩ => by
    obtain ⟨v, ev, a, xs, rfl, ea, es, eh, ed⟩ := sr.slots i _ ei
    refine ⟨_, ev, .inl ⟨rfl, xs, SqL.of (sr.VH _ _ ea)⟩, g, n, δ, S, Vs, _, sr, ht, fun d m w H' S' Vs' q sr' q1 q2 r => ?_⟩
    refine ⟨a, xs, w, rfl, rfl, sr'.VH _ _ (q2 _ _ ea), by rw [ed.length]; exact hz, ?_⟩
    exact ok.1 _ m _ _ S' _ q (sr'.mut ei ev ((DpAll.mono q1 ed).append (.cons r .nil))) q1⟩
/-- x.extend(a new list), x an own list -/
def sExt (i : Nat) (t : DTA) : DTS := fun E δ n => ∃ ds, δ[i]? = some (some (.own ds)) ∧ t δ n fun es m => ds.length + es.length ≤ sizeLine ∧ E.nx (δ.set i (some (.own (ds ++ es)))) m
def lsE (t : DTE) : DTA := fun δ n Q => t δ n fun d m => ∃ ds, d = .list ds ∧ Q ds m
theorem ds_extend {i : Nat} {x : Str} {p apos cpos spos : Pos} (hx : PE X (.Name x p) (tVar i)) (he : DE X true e t1)
    (h : ∀ {to : TE} {t : TA}, PE X (.Name x p) to → PA X [e] t → PE X (.Call (.Attribute (.Name x p) "extend" apos) [e] [] cpos) (tBM X.K "list" rExtend to t))
    (hs : swapsWith (.Call (.Attribute (.Name x p) "extend" apos) [e] [] cpos) none spos.line X.env = pure false := by rfl) (hs2 : starEach (e :: []) X.env = (false, eval e X.env) :: starEach [] X.env := by rfl) :
    DSt X (.Expr (.Call (.Attribute (.Name x p) "extend" apos) [e] [] cpos) spos) (sExt i (lsE t1)) :=
  ⟨PS.imp (ps_expr (h hx (pa_cons he.run pa_nil hs2)) hs) fun D σ H ⟨g, n, δ, S, Vs, E, hT, sr, ⟨ds, ei, ht⟩, ok⟩ => by
    obtain ⟨v, ev, a, xs, rfl, ea, es, eh, ed⟩ := sr.slots i _ ei
    refine ⟨_, ev, .inl ⟨rfl, xs, SqL.of (sr.VH _ _ ea)⟩, g, n, δ, S, Vs, _, sr, ht, fun d m w H' S' Vs' ⟨fs, e1, hz, q⟩ sr' q1 q2 r => ?_⟩
    subst e1
    cases r with
    | lst h1 h2 =>
      refine ⟨a, _, xs, _, rfl, rfl, sr'.VH _ _ (q2 _ _ ea), sr'.SH _ _ h1, by rw [ed.length, h2.length]; exact hz, ?_⟩
      exact ok.1 _ m _ _ S' _ q (sr'.mut ei ev ((DpAll.mono q1 ed).append h2)) q1⟩
/-- y = x, x an own list: it goes over -/
def sMv (i j : Nat) : DTS := fun E δ n => ∃ ds, δ[i]? = some (some (.own ds)) ∧ i ≠ j ∧ j < δ.length ∧ E.nx ((δ.set i none).set j (some (.own ds))) n
theorem SR.move {g : Gh} {n : Nat} {δ : DS} {σ : L2.St} {H S Vs : Hp} {v : V} (h : SR K g n δ σ H S Vs) {i j : Nat} {ds : List D} (hi : δ[i]? = some (some (.own ds))) (hij : i ≠ j) (hj : j < δ.length) (hv : σ[i]? = some (some v)) :
    SR K g n ((δ.set i none).set j (some (.own ds))) (σ.set j (some v)) H S Vs := by
  have hd := h.drop i
  obtain ⟨v', e1, a, xs, e2, e3, e4, e5, e6⟩ := h.slots i _ hi
  rw [hv] at e1
  cases e1
  have hjs : j < σ.length := by rw [h.len]; exact hj
  have other : ∀ (k : Nat) es, (δ.set i none)[k]? = some (some (.own es)) → σ[k]? ≠ some (some v) := fun k es e => by
    obtain ⟨hk, e⟩ := set_none_get e
    have := h.apart i k ds es hk hi e
    rw [hv] at this
    exact fun z => this z.symm
  refine ⟨h.S0S, h.SV, h.VH, h.VS, h.base, h.nW, h.fresh, h.rill, by simp [h.len], fun k x e => ?_, fun k l ds' es' hkl q1 q2 => ?_, fun b hb => ?_⟩
  · rcases set_get e with ⟨rfl, rfl⟩ | ⟨hk, e⟩
    · exact ⟨v, by rw [List.getElem?_set_self hjs], a, xs, e2, e3, e4, e5, e6⟩
    · obtain ⟨u, f1, f2⟩ := hd.slots k x e
      exact ⟨u, by rw [List.getElem?_set_ne hk]; exact f1, f2⟩
  · rcases set_get q1 with ⟨rfl, _⟩ | ⟨hk, q1⟩
    · rcases set_get q2 with ⟨rfl, _⟩ | ⟨hl, q2⟩
      · exact absurd rfl hkl
      · rw [List.getElem?_set_self hjs, List.getElem?_set_ne hl]
        exact fun z => other l _ q2 z.symm
    · rcases set_get q2 with ⟨rfl, _⟩ | ⟨hl, q2⟩
      · rw [List.getElem?_set_self hjs, List.getElem?_set_ne hk]
        exact other k _ q1
      · rw [List.getElem?_set_ne hk, List.getElem?_set_ne hl]
        exact hd.apart k l ds' es' hkl q1 q2
  · obtain ⟨q1, q2, q3⟩ := hd.tmps b hb
    refine ⟨q1, q2, fun k ds' e => ?_⟩
    rcases set_get e with ⟨rfl, _⟩ | ⟨hk, e⟩
    · rw [List.getElem?_set_self hjs]
      have := (h.tmps b hb).2.2 i ds hi
      rw [hv] at this
      exact this
    · rw [List.getElem?_set_ne hk]; exact q3 k ds' e
theorem ds_mv {i j : Nat} (h : PS X st (tAsg (tVar i) (gName j))) : DSt X st (sMv i j) :=
  ⟨PS.imp h fun D σ H ⟨g, n, δ, S, Vs, E, hT, sr, ⟨ds, ei, hij, hj, ht⟩, ok⟩ => by
    obtain ⟨v, ev, _⟩ := sr.slots i _ ei
    exact ⟨v, ev, ok.1 _ n _ H S Vs ht (sr.move ei hij hj ev) (Same.refl _)⟩⟩
/-- an own list is given away, ahead of what follows -/
def sFrz (i : Nat) (t : DTS) : DTS := fun E δ n => ∃ ds, δ[i]? = some (some (.own ds)) ∧ t E (δ.set i (some (.dat (.list ds)))) n
theorem dss_frz {i : Nat} (h : DSs X rest s1) : DSs X rest (sFrz i s1) :=
  ⟨PSs.imp h.run fun D σ H ⟨g, n, δ, S, Vs, E, hT, sr, ⟨ds, ei, ht⟩, ok⟩ => by
    obtain ⟨S', sr', s⟩ := sr.freeze hT ei
    exact ⟨g, n, _, S', Vs, E, hT, sr', ht, ok.less s⟩⟩
/-- .. where it is one -/
def sFz (i : Nat) (t : DTS) : DTS := fun E δ n => (∃ ds, δ[i]? = some (some (.own ds)) ∧ t E (δ.set i (some (.dat (.list ds)))) n) ∨ t E δ n

/-! ### loops -/
def forR (γ : DTG) (tb : DTS) (E : DEnds) : List D → DS → Nat → Prop
  | [], δ, n => E.nx δ n
  | d :: r, δ, n => γ d δ fun δ1 => tb { nx := fun δ2 m => forR γ tb E r δ2 m, ct := fun δ2 m => forR γ tb E r δ2 m, bk := E.nx, rt := E.rt } δ1 n
def sFor (s : DTA) (γ : DTG) (tb : DTS) : DTS := fun E δ n => s δ n fun ds m => forR γ tb E ds δ m
theorem ds_for {tg iter : Expr} {body : List Stmt} {s : DTA} {g : TG} {is : List Nat} {γ : DTG} {tb : DTS} (hp : PassesOwn (model X.prog X.w) X.A X.env X.xe) (hc : X.calm = true) (hi : DI X true tg iter s) (hg : PG X tg g) (sem : GSem X.K g is γ) (hb : DSs X body tb)
    (hs : ∀ x, foldedSetIterable iter X.env x = pure x := by intro _; rfl) : DSt X (.For tg iter body [] pos) (sFor s γ tb) :=
  ⟨PS.imp (ps_for hp hc hi.run hg hb.run hs) fun D σ H ⟨gh, n, δ, S, Vs, E, hT, sr, ht, ok⟩ => by
    refine ⟨gh, n, δ, S, Vs, _, sr, ht, fun J H1 S1 V1 ds m hp sr1 q1 q2 w => ?_⟩
    rw [if_pos rfl] at w
    refine ⟨fun i k σ H => k = ds.length - i ∧ i ≤ ds.length ∧ ∃ δ2 m2 S2 V2, SR X.K gh m2 δ2 σ H S2 V2 ∧ Same S1 S2 ∧ forR γ tb E (ds.drop i) δ2 m2, ⟨ds.length, by simp, Nat.zero_le _, δ, m, S1, V1, sr1, Same.refl _, hp⟩,
      fun i k σ2 H2 ⟨hk, hi, δ2, m2, S2, V2, sr2, r1, hf⟩ => ?_⟩
    by_cases hlt : i < ds.length
    · have ed : ds[i]? = some ds[i] := List.getElem?_eq_getElem hlt
      obtain ⟨wg, wy⟩ := (w i H2 (r1.trans sr2.SH)).1 _ ed
      rw [List.drop_eq_getElem_cons hlt] at hf
      refine .inr ⟨wg, fun σ' H' => ∃ δ3 m3 S3 V3, SR X.K gh m3 δ3 σ' H' S3 V3 ∧ Same S1 S3 ∧ forR γ tb E (ds.drop (i + 1)) δ3 m3, fun σ' H' ⟨δ3, m3, S3, V3, a1, a2, a3⟩ => ⟨ds.length - (i + 1), by omega, rfl, hlt, δ3, m3, S3, V3, a1, a2, a3⟩, fun x H3 hy => ?_⟩
      obtain ⟨S3, V3, sr3, p1, p2, p3⟩ := sr2.out (Out.mono r1 (wy x H3 hy))
      refine sem gh m2 δ2 σ2 H3 S3 V3 _ x _ _ sr3 p3 hf fun δ4 σ4 h4 sr4 _ _ => ?_
      exact ⟨gh, m2, δ4, S3, V3, _, hT, sr4, h4, fun δ' m' σ' H' S' Vs' a1 a2 a3 => ⟨δ', m', S', Vs', a2, r1.trans (p1.trans a3), a1⟩, fun d δ' m' v σ' H' S' Vs' a1 a2 a3 a4 => ok.2.1 d δ' m' v σ' H' S' Vs' a1 a2 (q1.trans (r1.trans (p1.trans a3))) a4,
        fun δ' m' σ' H' S' Vs' a1 a2 a3 => ok.1 δ' m' σ' H' S' Vs' a1 a2 (q1.trans (r1.trans (p1.trans a3))), fun δ' m' σ' H' S' Vs' a1 a2 a3 => ⟨δ', m', S', Vs', a2, r1.trans (p1.trans a3), a1⟩⟩
    · have hge : ds.length ≤ i := Nat.le_of_not_lt hlt
      rw [List.drop_eq_nil_of_le hge] at hf
      exact .inl ⟨(w i H2 (r1.trans sr2.SH)).2 hge, ok.1 δ2 m2 σ2 H2 S2 V2 hf sr2 (q1.trans r1)⟩⟩
def whR (u : DTT) (tb : DTS) (E : DEnds) : Nat → DS → Nat → Prop
  | 0, _, _ => False
  | k + 1, δ, n => u δ n fun c m => if c = true then tb { nx := fun δ2 m => whR u tb E k δ2 m, ct := fun δ2 m => whR u tb E k δ2 m, bk := E.nx, rt := E.rt } δ m else E.nx δ m
def sWhile (u : DTT) (tb : DTS) : DTS := fun E δ n => ∃ k, whR u tb E k δ n
theorem ds_while {body : List Stmt} {tb : DTS} (hp : PassesOwn (model X.prog X.w) X.A X.env X.xe) (hc : DT X c u1) (hb : DSs X body tb) : DSt X (.While c body [] pos) (sWhile u1 tb) :=
  ⟨PS.imp (ps_while hp hc.run hb.run) fun D σ H ⟨gh, n, δ, S, Vs, E, hT, sr, ⟨k0, ht⟩, ok⟩ => by
    refine ⟨fun k σ H => ∃ δ2 m2 S2 V2, SR X.K gh m2 δ2 σ H S2 V2 ∧ Same S S2 ∧ whR u1 tb E k δ2 m2, ⟨k0, δ, n, S, Vs, sr, Same.refl _, ht⟩, fun k σ2 H2 ⟨δ2, m2, S2, V2, sr2, r1, hf⟩ => ?_⟩
    cases k with
    | zero => exact hf.elim
    | succ k =>
      refine ⟨gh, m2, δ2, S2, V2, _, sr2, hf, fun cc m3 H3 S3 V3 h3 sr3 p1 p2 => ?_⟩
      cases cc with
      | false =>
        rw [if_neg Bool.false_ne_true] at h3 ⊢
        exact ok.1 δ2 m3 σ2 H3 S3 V3 h3 sr3 (r1.trans p1)
      | true =>
        rw [if_pos rfl] at h3 ⊢
        refine ⟨fun σ' H' => ∃ δ' m' S' V', SR X.K gh m' δ' σ' H' S' V' ∧ Same S S' ∧ whR u1 tb E k δ' m', fun σ' H' ⟨δ', m', S', V', a1, a2, a3⟩ => ⟨k, Nat.lt_succ_self _, δ', m', S', V', a1, a2, a3⟩, ?_⟩
        exact ⟨gh, m3, δ2, S3, V3, _, hT, sr3, h3, fun δ' m' σ' H' S' Vs' a1 a2 a3 => ⟨δ', m', S', Vs', a2, r1.trans (p1.trans a3), a1⟩, fun d δ' m' v σ' H' S' Vs' a1 a2 a3 a4 => ok.2.1 d δ' m' v σ' H' S' Vs' a1 a2 (r1.trans (p1.trans a3)) a4,
          fun δ' m' σ' H' S' Vs' a1 a2 a3 => ok.1 δ' m' σ' H' S' Vs' a1 a2 (r1.trans (p1.trans a3)), fun δ' m' σ' H' S' Vs' a1 a2 a3 => ⟨δ', m', S', Vs', a2, r1.trans (p1.trans a3), a1⟩⟩⟩

/-! ### a def -/
def arD : Ar → Option DV
  | .d d => some (.dat d)
  | .rl => some .rl
def startD (N : List Str) (as : List Ar) : DS := as.map arD ++ List.replicate (N.length - as.length) none
theorem RpAs.slots {W : Option (Addr × Addr)} {S : Hp} : ∀ {vs : List V} {as : List Ar}, RpAs K W true S S vs as → ∀ (i : Nat) x, (as.map arD)[i]? = some (some x) → ∃ v, vs[i]? = some v ∧ ((∃ d, x = .dat d ∧ Dp K S v d) ∨ (x = .rl ∧ ∃ r f, W = some (r, f) ∧ v = .ref r))
  | _, _, .nil, i, x, e => by simp at e
  | _, _, .cons (a := v) (b := y) h t, 0, x, e => by
    cases y with
    | d d => simp [arD] at e; subst e; exact ⟨v, rfl, .inl ⟨d, rfl, h⟩⟩
    | rl => simp [arD] at e; subst e; exact ⟨v, rfl, .inr ⟨rfl, h⟩⟩
  | _, _, .cons h t, i + 1, x, e => by
    obtain ⟨v, e1, e2⟩ := RpAs.slots t i x (by simpa using e)
    exact ⟨v, by simpa using e1, e2⟩
theorem start_sr {W : Option (Addr × Addr)} {n : Nat} {S0 H : Hp} {vs : List V} {as : List Ar} {N : List Str} (h1 : Same S0 H) (h2 : ∀ b, inW W b → S0 b = none) (h3 : ∀ r f, W = some (r, f) → RillOk H r f n) (h4 : RpAs K W true S0 S0 vs as) :
    SR K ⟨W, H, S0, []⟩ n (startD N as) (L2.start N vs) H S0 S0 := by
  have hl := Paired.len h4
  have key : ∀ (i : Nat) x, (startD N as)[i]? = some (some x) → (as.map arD)[i]? = some (some x) := fun i x e => by
    unfold startD at e
    by_cases hi : i < (as.map arD).length
    · rw [List.getElem?_append_left hi] at e; exact e
    · rw [List.getElem?_append_right (Nat.le_of_not_lt hi), List.getElem?_replicate] at e
      split at e <;> cases e
  refine ⟨Same.refl _, Same.refl _, h1, fun b o e => .inl e, fun b o e _ => e, h2, fun b o e => .inl e, h3, ?_, fun i x e => ?_, fun i j ds es _ e _ => ?_, fun a ha => by cases ha⟩
  · unfold L2.start startD
    simp [hl]
  · obtain ⟨v, e1, e2⟩ := RpAs.slots h4 i x (key i x e)
    refine ⟨v, ?_, ?_⟩
    · have hi := (List.getElem?_eq_some_iff.mp e1).1
      unfold L2.start
      rw [List.getElem?_append_left (by simpa using hi), List.getElem?_map, e1]
      rfl
    · rcases e2 with ⟨d, rfl, h⟩ | ⟨rfl, h⟩
      · exact h
      · exact h
  · obtain ⟨v, e1, e2⟩ := RpAs.slots h4 i _ (key i _ e)
    rcases e2 with ⟨d, z, _⟩ | ⟨z, _⟩ <;> cases z
/-- a def keeps its promise: its body's reading from the arguments -/
theorem dfn {P : Program} {w : World} {mg : Str → Option Value} {base : Heap} {x qual : Str} {fa : Addr} {fd : FuncData} {N ps : List Str} {k ar : Nat} {f : Fn} {t : DTS} (F : Fun K x qual st fa fd) (S : FnScope N ps (defScope st)) (har : ps.length = ar)
    (hb : ∀ (cdv : Value) (A : Around) (outer : List Env) (s : Shared) (H : Hp) (E : XK), A.guards = some [] → Room k (A.deeper (PyProof.Rows.envOfC qual (defScope st) s.heap.objs.size fa cdv)) → DSs (cxOf CX0 P w K mg base N qual (defScope st) fa cdv A outer s H E).nox (defBody st) t)
    (hf : ∀ as n P, as.length = ar → f as n P → t ⟨fun _ m => P .none m, P, fun _ _ => False, fun _ _ => False⟩ (startD N as) n) : FnG P w K mg base CX0 (k + 1) fa fd ps (spD K ar f) := by
  refine fnG_of F S (fun vs H Q E h => (spD_len vs H Q E h).trans har.symm) fun cdv A outer s H vs Q E hgd hr h => ?_
  obtain ⟨W, n, S0, as, P', e, h1, h2, h3, h4, hp, kk⟩ := h
  refine ⟨_, (hb cdv A outer s H E hgd hr).run.nox, ⟨W, H, S0, []⟩, n, startD N as, S0, S0, _, rfl, start_sr h1 h2 h3 h4, hf as n P' e hp, fun δ' m σ' H' S' Vs' q sr' s1 => ?_, fun d δ' m v σ' H' S' Vs' q sr' s1 r => ?_, fun _ _ _ _ _ _ q _ _ => q.elim, fun _ _ _ _ _ _ q _ _ => q.elim⟩
  · exact kk _ m _ H' S' q s1 sr'.SH (fun b hb => sr'.SV.free (sr'.nW b hb)) (fun b o e => sr'.fresh b o (sr'.SV b o e)) sr'.rill sr'.base .non
  · exact kk _ m _ H' S' q s1 sr'.SH (fun b hb => sr'.SV.free (sr'.nW b hb)) (fun b o e => sr'.fresh b o (sr'.SV b o e)) sr'.rill sr'.base r
end
end DL
/-! DL6: sorted over data that are alike. -/
namespace DL
open PySem PySem.Spec L2

/-! ### two data compared by sorting -/
section
variable {prog : Program} {w : World} {A : Around} {E : Value → Shared → Prop} {s : Shared}
theorem call_tuple_lt {Q : Value → Shared → Prop} {l b : Addr} {items items2 : Array Value} {e r : Nat → Bool} (hl : s.heap.IsTuple l items) (hb : s.heap.IsTuple b items2)
    (he : ∀ j (h1 : j < items.size) (h2 : j < items2.size), SeqAt.EqAt A.in1 s items[j] items2[j] (e j)) (hr : ∀ j (h1 : j < items.size) (h2 : j < items2.size), e j = false → SeqAt.RcLt A.in1 s items[j] items2[j] (r j))
    (h : Q (.bool (SeqAt.firstLt e r (decide (items.size < items2.size)) (List.range (min items.size items2.size)))) s) : wpAny (model prog w) A (call (.builtin "tuple.__lt__") [.ref l, .ref b]) Q E s := by
  obtain ⟨⟨c1, d1, x1, s1⟩, ho, hc, n, hd⟩ := id hl
  obtain ⟨⟨c2, d2, x2, s2⟩, ho2, hc2, n2, hd2⟩ := id hb
  simp only at hc hd hc2 hd2
  subst hc hd hc2 hd2
  exact call_meets PySem.F.slot_tuple_lt ⟨_, ho, rfl⟩ PySem.F.entry_tuple_lt (PySem.F.args_tuple_lt_2 _ _) (SeqAt.tuple_ltAt l b items items2 n n2 d1 d2 s1 s2 e r) ⟨ho, ho2, he, hr, h⟩
theorem oneLt_tup {f : Bool} {a b : Value} {xs ys : List D} {as bs : List Addr} {Q : Bool → Shared → Prop} (ra : Reads s.heap a (.tuple xs) as) (rb : Reads s.heap b (.tuple ys) bs) (hal : PySem.W.alikeAll xs ys = true)
    (hu : A.units + min (PyData.tuple xs).depth (PyData.tuple ys).depth < cLine) (hq : Q (PySem.W.dataLt (.tuple xs) (.tuple ys)) s) : wpAny (model prog w) A (PyProof.Rows.oneLt' f a b) Q E s := by
  cases f with
  | false =>
    refine PySem.W.kat_one _ _ (PySem.W.lt_data ra rb (by simpa [PySem.W.alike] using hal) (by intro z; cases z) hu ?_)
    exact hq
  | true =>
    cases ra with
    | @tuple l o vs n _ as₁ h1 h2 h3 h4 =>
      cases rb with
      | @tuple l' o' vs' n' _ bs₁ k1 k2 k3 k4 =>
        have n1 : vs.size = xs.length := by simpa using SeqAt.ReadsAll.length _ _ _ h4
        have n2 : vs'.size = ys.length := by simpa using SeqAt.ReadsAll.length _ _ _ k4
        have hT : s.TypeIs (.ref l) "tuple" := PySem.Heap.IsTuple.typeIs ⟨_, h1, h2, _, h3⟩
        rw [PyProof.Rows.oneLt'_eq]
        simp only [if_true]
        refine wpAny_bind (wpAny_cRoomFor (Nat.lt_of_le_of_lt (Nat.le_add_right _ _) hu) ?_)
        refine wpAny_bind (wpAny_callSpecialIfBound?_slot hT PySem.F.slot_tuple_lt (call_tuple_lt (e := SeqAt.pairEq xs ys) (r := fun j => PySem.W.dataLt (xs.getD j .none) (ys.getD j .none)) ⟨_, h1, h2, _, h3⟩ ⟨_, k1, k2, _, k3⟩ (fun j j1 j2 => ?_) (fun j j1 j2 hj => ?_) ?_))
        · have := PySem.W.eqAt_alikeAll xs ys A.in1 s vs.toList vs'.toList _ _ h4 k4 hal (SeqAt.room_in hu) j (by simpa using j1) (by simpa using j2)
          simpa using this
        · have := PySem.W.rcLt_alikeAll xs ys A.in1 s vs.toList vs'.toList _ _ h4 k4 hal (SeqAt.room_in hu) j (by simpa using j1) (by simpa using j2) hj
          simpa using this
        · rw [n1, n2, PySem.W.firstLt_toks xs ys hal, ← PySem.W.dataLt_tuple]
          exact wpAny_truthy_bool hq
/-- the first items of tuples some of which are empty -/
theorem firsts_mixed {M : Model} : ∀ {vs : List Value} {ds : List D}, PySem.W.EachIs (fun v d => ∃ as, Reads s.heap v d as) vs ds → (∀ d, d ∈ ds → ∃ xs, d = .tuple xs) →
    ∃ fs : List (Option Value), fs.length = vs.length ∧ (.tuple [] ∈ ds → none ∈ fs) ∧ ∀ (E : Value → Shared → Prop) {Q : List (Option Value) → Shared → Prop}, Q fs s → wpAny M A (vs.mapM PyProof.Rows.firstOfTuple') Q E s
  | _, _, .nil, _ => ⟨[], rfl, fun z => absurd z (by simp), fun E {Q} q => by rw [List.mapM_nil]; exact wpAny_pure q⟩
  | _, _, .cons (a := v) (as := vs) (b := d) ⟨as, r⟩ t, ht => by
    obtain ⟨fs, h1, h2, h3⟩ := firsts_mixed (M := M) t fun d hd => ht d (List.mem_cons_of_mem _ hd)
    obtain ⟨xs, rfl⟩ := ht d List.mem_cons_self
    cases r with
    | @tuple a o us n _ _ ho hc hd hr =>
      refine ⟨us[0]? :: fs, by rw [List.length_cons, List.length_cons, h1], fun z => ?_, fun E {Q} q => ?_⟩
      · rcases List.mem_cons.mp z with e | z
        · cases e
          have e0 : us.toList = [] := by cases hq : us.toList with
            | nil => rfl
            | cons x r => rw [hq] at hr; cases hr
          have : us[0]? = none := by rw [← Array.getElem?_toList, e0]; rfl
          rw [this]; exact List.mem_cons_self
        · exact List.mem_cons_of_mem _ (h2 z)
      · rw [List.mapM_cons]
        refine wpAny_bind ?_
        rw [PySem.W.kas_first_eq]
        refine wpAny_bind (PySem.W.Looks.here (show PySem.W.Looks M s.heap (typeOf (.ref a)) o.cls from (PySem.W.Looks.ld ho).andThen .now) ?_)
        rw [hc, if_neg (by first | decide | simp)]
        refine wpAny_bind (PyProof.Rows.listItems_at ho hd (wpAny_pure ?_))
        exact wpAny_bind (h3 E (Q := fun bs s' => wpAny M A (pure (us[0]? :: bs)) Q E s') (wpAny_pure q))
theorem kind_mixed {M : Model} {vs : List Value} {ds : List D} (h2 : 2 ≤ vs.length) (e : PySem.W.EachIs (fun v d => ∃ as, Reads s.heap v d as) vs ds) (ht : ∀ d, d ∈ ds → ∃ xs, d = .tuple xs) (he : .tuple [] ∈ ds) :
    ∃ f : Bool, ∀ {E : Value → Shared → Prop} {Q : PyProof.Rows.SortKind → Shared → Prop}, Q (if f = true then PyProof.Rows.general' else PyProof.Rows.oneType') s → wpAny M A (PyProof.Rows.keyKind' vs.toArray) Q E s := by
  obtain ⟨fs, h3, h4, h5⟩ := firsts_mixed (M := M) (A := A) e ht
  have hn := h4 he
  refine ⟨(fs.toArray[0]?.bind id).isSome, fun {E Q} q => ?_⟩
  rw [PyProof.Rows.keyKind'_eq, List.mapM_toArray, map_eq_pure_bind]
  refine wpAny_bind (wpAny_bind (h5 E (wpAny_pure ?_)))
  have hall : ¬ (fs.toArray.all fun x => x.isSome) = true := by
    rw [List.all_toArray, List.all_eq_true]
    intro z
    exact absurd (z _ hn) (by simp)
  rw [if_neg hall]
  cases q0 : (fs.toArray[0]?.bind id).isSome with
  | true =>
    rw [q0] at q
    simp only [if_true] at q ⊢
    exact wpAny_pure q
  | false =>
    rw [q0] at q
    simp only [Bool.false_eq_true, if_false] at q ⊢
    obtain ⟨v₁, v₂, rest, rfl⟩ : ∃ v₁ v₂ rest, vs = v₁ :: v₂ :: rest := by
      match vs, h2 with
      | [], h2 => simp at h2
      | [_], h2 => simp at h2
      | v₁ :: v₂ :: rest, _ => exact ⟨v₁, v₂, rest, rfl⟩
    rw [PyProof.Rows.oneTypeOnly'_eq, List.mapM_toArray, map_eq_pure_bind]
    refine wpAny_bind (wpAny_bind (wpAny_bind (PySem.W.kas_mapM (r := Value.type "tuple") _ (fun v hv Q' hq => ?_) (wpAny_pure ?_))))
    · obtain ⟨d, hd, as, r⟩ := e.left v hv
      obtain ⟨xs, rfl⟩ := ht d hd
      exact (PySem.W.looks_reads r).here hq
    · have hall2 : ((List.map (fun _ => Value.type "tuple") (v₁ :: v₂ :: rest)).toArray.all fun x => x == Value.type "tuple") = true := by
        simp only [List.all_toArray, List.all_map, List.all_eq_true]
        intro _ _
        rfl
      have h0 : (List.map (fun _ => Value.type "tuple") (v₁ :: v₂ :: rest)).toArray[0]? = some (Value.type "tuple") := by simp
      rw [h0]
      simp only [hall2, if_true]
      exact wpAny_pure (wpAny_pure q)
theorem sorts_mixed {vs : List Value} {ds : List D} (e : PySem.W.EachIs (fun v d => ∃ as, Reads s.heap v d as) vs ds) (hal : PySem.W.AllAlike ds) (ht : ∀ d, d ∈ ds → ∃ xs, d = .tuple xs) (he : .tuple [] ∈ ds) (hu : ∀ d, d ∈ ds → A.units + d.depth < cLine) :
    PySem.W.SortsAt prog w A s (PySem.W.dataKind s.heap ds) vs := by
  have room : ∀ {d d' : D}, d ∈ ds → A.units + min d.depth d'.depth < cLine := fun {d d'} hd => Nat.lt_of_le_of_lt (Nat.add_le_add_left (Nat.min_le_left _ _) _) (hu d hd)
  refine ⟨fun v hv => ?_, ?_⟩
  · obtain ⟨d, hd, as, r⟩ := e.left v hv
    exact ⟨_, PySem.W.dataKind_some hal hd r⟩
  · have lt : ∀ f : Bool, PyProof.Rows.H.LtAt prog w A s (PySem.W.dataKind s.heap ds) (if f = true then PyProof.Rows.general' else PyProof.Rows.oneType') := fun f E x y a b Q ha hb hq => by
      obtain ⟨d, as, hd, ra, rfl⟩ := PySem.W.dataKind_inv ha
      obtain ⟨d', as', hd', rb, rfl⟩ := PySem.W.dataKind_inv hb
      have hdd := hal d hd d' hd'
      have hroom := room (d' := d') hd
      obtain ⟨x1, rfl⟩ := ht d hd
      obtain ⟨x2, rfl⟩ := ht d' hd'
      have hq' : Q (PySem.W.dataLt (.tuple x1) (.tuple x2)) s := hq
      have hal2 : PySem.W.alikeAll x1 x2 = true := by simpa [PySem.W.alike] using hdd
      cases f with
      | true => exact oneLt_tup (f := false) ra rb hal2 hroom hq'
      | false => exact oneLt_tup (f := true) ra rb hal2 hroom hq'
    by_cases h2 : 2 ≤ vs.length
    · obtain ⟨f, hf⟩ := kind_mixed (M := model prog w) (A := A) h2 e ht he
      exact ⟨_, lt f, fun _ E Q q => hf q⟩
    · exact ⟨_, lt true, fun h => absurd h h2⟩
end
/-- what can be sorted -/
def SortOk (ds : List D) : Prop := PySem.W.Sortable ds ∨ ((∀ d, d ∈ ds → ∃ xs, d = .tuple xs) ∧ .tuple [] ∈ ds)
theorem SortOk.tups {ds : List D} (h : ∀ d, d ∈ ds → ∃ xs, d = .tuple xs) : SortOk ds := by
  by_cases he : .tuple [] ∈ ds
  · exact .inr ⟨h, he⟩
  · refine .inl (.inl fun d hd => ?_)
    obtain ⟨xs, rfl⟩ := h d hd
    cases xs with
    | nil => exact absurd hd he
    | cons x r => exact ⟨x, r, rfl⟩
def sortD (ds : List D) : List D := ds.mergeSort fun a b => !PySem.W.dataLt b a
section
variable {prog : Program} {w : World} {A : Around} {E : Value → Shared → Prop} {s : Shared}
theorem sorted_any {l : Addr} {vs : List Value} {ds : List D} {R : Value → D → Prop} {Q : Value → Shared → Prop} (hl : s.heap.IsList l vs.toArray) (e : PySem.W.EachIs R vs ds) (er : PySem.W.EachIs (fun v d => ∃ as, Reads s.heap v d as) vs ds) (hal : PySem.W.AllAlike ds) (hk : SortOk ds) (hL : ds.length ≤ sizeLine)
    (hu : ∀ d, d ∈ ds → A.units + 2 + d.depth < cLine) (h : ∀ out : List Value, out.length = ds.length → PySem.W.EachIs R out (sortD ds) → Q (.ref (s.heap.objs.size + 1)) { s with heap := PyProof.Rows.sortedAll s.heap vs (List.toArray out) }) :
    wpAny (model prog w) A (call (.builtin "sorted") [.ref l]) Q E s := by
  have er' : PySem.W.EachIs (fun v d => ∃ as, Reads (PySem.W.sortingHeap (PySem.W.copyHeap s.heap vs) (s.heap.objs.size + 1) vs) v (id d) as) vs ds := er.mono fun _ _ ⟨as, r⟩ => ⟨as, PyProof.Rows.Reads.keeps (fun _ _ => PySem.W.sorting_copy_old) r⟩
  have hmap : ds.map id = ds := List.map_id ds
  have hlen := e.length
  refine PySem.W.sorted_vals (κ := PySem.W.dataKind (PySem.W.sortingHeap (PySem.W.copyHeap s.heap vs) (s.heap.objs.size + 1) vs) (ds.map id)) hl ?_ (by omega) (h _ ?_ ?_)
  · rw [hmap]
    rcases hk with hk | ⟨h1, h2⟩
    · exact PySem.W.SortsAt.data er' hal hk hu
    · exact sorts_mixed er' hal h1 h2 hu
  · rw [PySem.W.sortVals_length false rfl]; exact hlen
  · have := PySem.W.sortVals_data (enc := id) false e er' (by rw [hmap]; exact hal)
    exact this
end

/-- sorted(xs), xs a list of data that are alike -/
def rSortD (K : PySem.W.Frag) : List V → Hp → VK → Prop := fun vs H Q => ∃ (a : Addr) (xs : List V) (ds : List D) (B : Hp), vs = [V.ref a] ∧ Same B H ∧ (H a = some (.lst xs) ∧ DpAll K B xs ds) ∧ PySem.W.AllAlike ds ∧ SortOk ds ∧ (∀ d, d ∈ ds → d.depth ≤ 60) ∧
  ∀ p ys, H p = none → DpAll K B ys (sortD ds) → Q (.ref p) (upd H p (.lst ys))
theorem each_of {X : Cx} {pins : List (Addr × Obj)} {σ : L2.St} {H B : Hp} {s : Shared} (I : Inv X pins σ H s) (sb : Same B H) : ∀ {xs : List V} {us : List Value} {ds : List D}, Vals xs us → DpAll X.K B xs ds →
    PySem.W.EachIs (fun u d => (∃ v, RelV v u ∧ Dp X.K B v d) ∧ ∃ as, Reads s.heap u d as) us ds
  | _, _, _, .nil, h => by cases h; exact .nil
  | _, _, _, .cons r t, h => by
    cases h with
    | cons h1 h2 => exact .cons ⟨⟨_, r, h1⟩, L2.Dp.reads I _ _ _ (Dp.mono sb h1).to r⟩ (each_of I sb t h2)
theorem of_each {K : PySem.W.Frag} {H : Hp} : ∀ {us : List Value} {ds : List D}, PySem.W.EachIs (fun u d => ∃ v, RelV v u ∧ Dp K H v d) us ds → ∃ ys, Vals ys us ∧ DpAll K H ys ds
  | _, _, .nil => ⟨[], .nil, .nil⟩
  | _, _, .cons ⟨v, r, h⟩ t => by
    obtain ⟨ys, h1, h2⟩ := of_each t
    exact ⟨v :: ys, .cons r h1, .cons h h2⟩
theorem cr_sortD {X : Cx} (hu : X.A.units + 64 < cLine) : CallR X (.builtin "sorted") (rSortD X.K) := by
  intro pins s σ H vs us Q I r h
  obtain ⟨a, xs, ds, B, rfl, sb, ⟨hl, hd⟩, hal, hk, hdep, q⟩ := h
  obtain ⟨its, rv, pl, hz⟩ := I.list (SqL.of hl)
  obtain ⟨u, rfl, ru⟩ := vals1 r
  obtain rfl : u = Value.ref a := ru
  have e := each_of I sb rv hd
  have hlen := rv.length
  have hlen2 := hd.length
  refine sorted_any (R := fun u d => ∃ v, RelV v u ∧ Dp X.K B v d) pl.isList (e.mono fun _ _ z => z.1) (e.mono fun _ _ z => z.2) hal hk (by omega) (fun d hd' => ?_) fun out hlo eo => ?_
  · have := hdep d hd'
    omega
  · obtain ⟨ys, h1, h2⟩ := of_each eo
    have hyl := h1.length
    have hf : H (s.heap.objs.size + 1) = none := I.hok.fresh (Nat.le_succ _)
    obtain ⟨n, hn⟩ := PyProof.Rows.sortedAll_at s.heap its out.toArray
    exact ⟨.ref (s.heap.objs.size + 1), upd H (s.heap.objs.size + 1) (.lst ys), I.laid (t' := s.toks) (fun b o e => PyProof.Rows.sortedAll_old e) (Nat.le_succ _) ⟨by omega, out, n, h1, hn⟩, rfl, q _ ys hf h2⟩
end DL
/-! DL7: built-ins over data. -/
namespace DL
open PySem PySem.Spec L2

section
variable {X : Cx} {K : PySem.W.Frag} {e a b c : Expr} {es : List Expr} {pos p : Pos} {t1 t2 t3 : DTE} {ta : DTA} {b1 b2 b3 : Bool} {x : Str}
/-- a built-in of one argument: the answer hangs on no heap -/
theorem de_fnS {r : List V → Hp → VK → Prop} {g : G1} (hp : ∀ {t : TA}, PA X [a] t → PE X e (tCB r t)) (hs : ∀ (B H : Hp) x dx P (Q : VK), Dp X.K B x dx → Same B H → g dx P → (∀ d v, P d → Sc d v → Q v H) → r [x] H Q) (ha : DE X b1 a t1)
    (hst : starEach (a :: []) X.env = (false, eval a X.env) :: starEach [] X.env := by rfl) : DE X true e (d1 g t1) :=
  ⟨PE.imp (hp (pa_cons ha.run pa_nil hst)) fun σ H Q ⟨gh, n, δ, S, Vs, P, sr, ht, k⟩ => ⟨gh, n, δ, S, Vs, _, sr, ht, fun d m v H' S' Vs' p sr' s1 s2 rp =>
    hs Vs' H' v d _ Q (Rp.dp rp sr'.SV) sr'.VH p fun d2 v2 p2 sc => k d2 m v2 H' S' Vs' p2 sr' s1 s2 (sc _ _)⟩⟩
/-- a new list of a list's or tuple's items -/
def itemsOf : D → Option (List D)
  | .list ds => some ds
  | .tuple ds => some ds
  | _ => none
theorem brep_items {S Vs : Hp} {v : V} {d : D} {ds : List D} (h : BRep K S Vs v d) (e : itemsOf d = some ds) : ∃ l xs, v = .ref l ∧ DpAll K S xs ds ∧ ((∃ es, d = .list es ∧ (S l = some (.lst xs) ∨ Vs l = some (.lst xs))) ∨ (∃ es, d = .tuple es ∧ SqT K S l xs)) := by
  rcases h with h | ⟨l, xs, es, e1, e2, h1, h2⟩
  · cases h with
    | lst h1 h2 => cases e; exact ⟨_, _, rfl, h2, .inl ⟨_, rfl, .inl h1⟩⟩
    | tup h1 h2 => cases e; exact ⟨_, _, rfl, h2, .inr ⟨_, rfl, h1⟩⟩
    | _ => cases e
  · subst e1
    cases e
    exact ⟨l, xs, e2, h2, .inl ⟨_, rfl, .inr h1⟩⟩
/-- len -/
def gLen : G1 := fun d P => match d with
  | .list ds => P (.int ds.length)
  | .tuple ds => P (.int ds.length)
  | .str z => z.length ≤ sizeLine ∧ P (.int z.length)
  | _ => False
theorem de_len (hg : Gl X "len") (hm : X.mg "len" = none) (ha : DE X b1 a t1) (he : starEach (a :: []) X.env = (false, eval a X.env) :: starEach [] X.env := by rfl) (hpl : (backTo pos (starEach [] X.env)).any (·.1) = false := by rfl) :
    DE X true (.Call (.Name "len" p) [a] [] pos) (d1 gLen t1) :=
  de_fnS (fun h => pe_callB (CallR.or call_len_seq call_len_str) hg hm PySem.boot_len h (by decide) (by decide) he hpl) (by
    intro B H x dx P Q hx sb g k
    cases hx with
    | lst h1 h2 => exact .inl ⟨_, _, rfl, .inl (SqL.of (sb _ _ h1)), k _ _ g (by rw [h2.length]; exact sc_int _)⟩
    | tup h1 h2 => exact .inl ⟨_, _, rfl, .inr (sqt_mono sb h1), k _ _ g (by rw [h2.length]; exact sc_int _)⟩
    | str z => exact .inr ⟨_, rfl, g.1, k _ _ g.2 (sc_int _)⟩
    | _ => exact g.elim) ha he
/-- abs, int of ints -/
def gAbs : G1 := fun d P => ∃ i, d = .int i ∧ P (.int (if i < 0 then -i else i))
theorem de_abs (hg : Gl X "abs") (hm : X.mg "abs" = none) (ha : DE X b1 a t1) (he : starEach (a :: []) X.env = (false, eval a X.env) :: starEach [] X.env := by rfl) (hpl : (backTo pos (starEach [] X.env)).any (·.1) = false := by rfl) :
    DE X true (.Call (.Name "abs" p) [a] [] pos) (d1 gAbs t1) :=
  de_fnS (fun h => pe_callB call_abs hg hm (by decide +kernel) h (by decide) (by decide) he hpl) (by
    intro B H x dx P Q hx sb ⟨i, e, g⟩ k
    subst e
    cases hx
    exact ⟨i, rfl, k _ _ g (sc_int _)⟩) ha he
def gInt : G1 := fun d P => match d with
  | .int i => P (.int i)
  | .bool c => P (.int (if c then 1 else 0))
  | _ => False
theorem de_int1 (hg : Gl X "int") (hm : X.mg "int" = none) (ha : DE X b1 a t1) (he : starEach (a :: []) X.env = (false, eval a X.env) :: starEach [] X.env := by rfl) (hpl : (backTo pos (starEach [] X.env)).any (·.1) = false := by rfl) :
    DE X true (.Call (.Name "int" p) [a] [] pos) (d1 gInt t1) :=
  de_fnS (fun h => pe_callTy call_int1 hg hm (by decide +kernel) h (by decide) (by decide) he hpl) (by
    intro B H x dx P Q hx sb g k
    cases hx with
    | int i => exact .inl ⟨_, rfl, k _ _ g (sc_int _)⟩
    | bl c => exact .inr ⟨_, rfl, k _ _ g (sc_int _)⟩
    | _ => exact g.elim) ha he
/-- any, all of a list of bools -/
def bools : List D → Option (List Bool)
  | [] => some []
  | .bool c :: r => (bools r).map (c :: ·)
  | _ :: _ => none
theorem bools_vals {H : Hp} : ∀ {ds : List D} {xs : List V} {cs : List Bool}, DpAll K H xs ds → bools ds = some cs → xs = cs.map V.bl
  | [], _, _, h, e => by cases h; cases e; rfl
  | d :: ds, _, cs, h, e => by
    cases h with
    | cons h1 h2 =>
      cases h1 with
      | bl c =>
        unfold bools at e
        cases q : bools ds with
        | none => rw [q] at e; cases e
        | some r => rw [q] at e; cases e; rw [bools_vals h2 q]; rfl
      | _ => cases e
def gAny : G1 := fun d P => ∃ ds cs, d = .list ds ∧ bools ds = some cs ∧ P (.bool (cs.any id))
def gAll : G1 := fun d P => ∃ ds cs, d = .list ds ∧ bools ds = some cs ∧ P (.bool (cs.all id))
theorem de_any (hc : X.calm = true) (hg : Gl X "any") (hm : X.mg "any" = none) (ha : DE X b1 a t1) (he : starEach (a :: []) X.env = (false, eval a X.env) :: starEach [] X.env := by rfl) (hpl : (backTo pos (starEach [] X.env)).any (·.1) = false := by rfl) :
    DE X true (.Call (.Name "any" p) [a] [] pos) (d1 gAny t1) :=
  de_fnS (fun h => pe_callB (cr_any hc) hg hm PyProof.Rows.boot_any h (by decide) (by decide) he hpl) (by
    intro B H x dx P Q hx sb ⟨ds, cs, e, q, g⟩ k
    subst e
    cases hx with
    | lst h1 h2 =>
      have := bools_vals h2 q
      subst this
      exact ⟨_, cs, rfl, SqL.of (sb _ _ h1), k _ _ g (sc_bl _)⟩) ha he
theorem de_all (hc : X.calm = true) (hg : Gl X "all") (hm : X.mg "all" = none) (ha : DE X b1 a t1) (he : starEach (a :: []) X.env = (false, eval a X.env) :: starEach [] X.env := by rfl) (hpl : (backTo pos (starEach [] X.env)).any (·.1) = false := by rfl) :
    DE X true (.Call (.Name "all" p) [a] [] pos) (d1 gAll t1) :=
  de_fnS (fun h => pe_callB (cr_all hc) hg hm PyProof.Rows.boot_all h (by decide) (by decide) he hpl) (by
    intro B H x dx P Q hx sb ⟨ds, cs, e, q, g⟩ k
    subst e
    cases hx with
    | lst h1 h2 =>
      have := bools_vals h2 q
      subst this
      exact ⟨_, cs, rfl, SqL.of (sb _ _ h1), k _ _ g (sc_bl _)⟩) ha he
/-- tuple(x) -/
def gTuple : G1 := fun d P => ∃ ds, itemsOf d = some ds ∧ P (.tuple ds)
theorem de_tuple (hg : Gl X "tuple") (hm : X.mg "tuple" = none) (ha : DE X b1 a t1) (he : starEach (a :: []) X.env = (false, eval a X.env) :: starEach [] X.env := by rfl) (hpl : (backTo pos (starEach [] X.env)).any (·.1) = false := by rfl) :
    DE X true (.Call (.Name "tuple" p) [a] [] pos) (d1 gTuple t1) :=
  ⟨PE.imp (pe_callTy call_tuple_of hg hm PyProof.Rows.boot_tuple (pa_cons ha.run pa_nil he) (by decide) (by decide) he hpl) fun σ H Q ⟨gh, n, δ, S, Vs, P, sr, ht, k⟩ => ⟨gh, n, δ, S, Vs, _, sr, ht, fun d m v H' S' Vs' ⟨ds, e1, pp⟩ sr' s1 s2 rp => by
    obtain ⟨l, xs, rfl, hd, q⟩ := brep_items (Rp.br rp) e1
    rcases q with ⟨es, _, q⟩ | ⟨es, e2, q⟩
    · refine ⟨l, xs, rfl, .inl ⟨SqL.of (q.elim (fun z => sr'.SH _ _ z) fun z => sr'.VH _ _ z), fun l2 hl => ?_⟩⟩
      obtain ⟨S2, V2, sr2, q1, q2, q3⟩ := sr'.out (K := X.K) (.tup hl hd)
      exact k _ m _ _ S2 V2 pp sr2 (s1.trans q1) (s2.trans q2) q3
    · exact ⟨l, xs, rfl, .inr ⟨sqt_mono sr'.SH q, k _ m _ H' S' Vs' pp sr' s1 s2 (.tup q hd)⟩⟩⟩⟩
/-- list(x) -/
def aList (t : DTE) : DTA := fun δ n Q => t δ n fun d m => ∃ ds, itemsOf d = some ds ∧ Q ds m
theorem dl_list (hg : Gl X "list") (hm : X.mg "list" = none) (ha : DE X b1 a t1) (he : starEach (a :: []) X.env = (false, eval a X.env) :: starEach [] X.env := by rfl) (hpl : (backTo pos (starEach [] X.env)).any (·.1) = false := by rfl) :
    DL X (.Call (.Name "list" p) [a] [] pos) (aList t1) :=
  ⟨PE.imp (pe_callTy call_list_of hg hm PyProof.Rows.boot_list (pa_cons ha.run pa_nil he) (by decide) (by decide) he hpl) fun σ H Q ⟨gh, n, δ, S, Vs, P, sr, ht, k⟩ => ⟨gh, n, δ, S, Vs, _, sr, ht, fun d m v H' S' Vs' ⟨ds, e1, pp⟩ sr' s1 s2 rp => by
    obtain ⟨l, xs, rfl, hd, q⟩ := brep_items (Rp.br rp) e1
    refine ⟨l, xs, rfl, ?_, fun l2 hl => k ds m l2 xs _ S' Vs' pp (sr'.temp hl) s1 s2 upd_same (sr'.vN hl) (sr'.h0 hl) (sr'.notW hl) hd⟩
    rcases q with ⟨es, _, q⟩ | ⟨es, e2, q⟩
    · exact .inl (SqL.of (q.elim (fun z => sr'.SH _ _ z) fun z => sr'.VH _ _ z))
    · exact .inr (sqt_mono sr'.SH q)⟩⟩
/-- list(range(..)), tuple(range(..)) -/
structure DRg (X : Cx) (e : Expr) (t : DS → Nat → (Int → Int → Nat → Prop) → Prop) : Prop where
  run : PRg X e fun σ H Q => ∃ g n δ S Vs P, SR X.K g n δ σ H S Vs ∧ t δ n P ∧ ∀ i j m H' S' Vs', P i j m → SR X.K g m δ σ H' S' Vs' → Same S S' → Same Vs Vs' → Q i j H'
theorem PRg.imp {t u : L2.St → Hp → (Int → Int → Hp → Prop) → Prop} (h : PRg X e t) (hi : ∀ σ H Q, u σ H Q → t σ H Q) : PRg X e u := fun pins s σ H Q I q => h pins s σ H Q I (hi _ _ _ q)
def rg1 (t : DTE) : DS → Nat → (Int → Int → Nat → Prop) → Prop := fun δ n Q => t δ n fun d m => ∃ j, d = .int j ∧ Q 0 j m
def rg2 (t u : DTE) : DS → Nat → (Int → Int → Nat → Prop) → Prop := fun δ n Q => t δ n fun d m => u δ m fun d2 m2 => ∃ i j, d = .int i ∧ d2 = .int j ∧ Q i j m2
theorem dr_1 (hg : Gl X "range") (hm : X.mg "range" = none) (ha : DE X b1 a t1) (na : starEach [a] X.env = (false, eval a X.env) :: starEach [] X.env := by rfl) : DRg X (.Call (.Name "range" p) [a] [] pos) (rg1 t1) :=
  ⟨PRg.imp (prg_1 hg hm ha.run na) fun σ H Q ⟨g, n, δ, S, Vs, P, sr, ht, k⟩ => ⟨g, n, δ, S, Vs, _, sr, ht, fun d m v H' S' Vs' ⟨j, e1, pp⟩ sr' s1 s2 r => by
    subst e1
    have r' := Rp.dp r sr'.SV
    cases r'
    exact ⟨j, rfl, k 0 j m H' S' Vs' pp sr' s1 s2⟩⟩⟩
theorem dr_2 (hg : Gl X "range") (hm : X.mg "range" = none) (ha : DE X b1 a t1) (hb : DE X b2 b t2) (na : starEach [a, b] X.env = (false, eval a X.env) :: starEach [b] X.env := by rfl) (nb : starEach [b] X.env = (false, eval b X.env) :: starEach [] X.env := by rfl) (hp : (backTo pos (starEach [b] X.env)).any (fun x => x.fst) = false := by rfl) :
    DRg X (.Call (.Name "range" p) [a, b] [] pos) (rg2 t1 t2) :=
  ⟨PRg.imp (prg_2 hg hm ha.run hb.run na nb (hp := hp)) fun σ H Q ⟨g, n, δ, S, Vs, P, sr, ht, k⟩ => ⟨g, n, δ, S, Vs, _, sr, ht, fun d m v H' S' Vs' pq sr' s1 s2 r =>
    ⟨g, m, δ, S', Vs', _, sr', pq, fun d2 m2 v2 H2 S2 V2 ⟨i, j, e1, e2, pp⟩ sr2 q1 q2 r2 => by
      subst e1 e2
      have r' := Rp.dp r sr'.SV
      have r'' := Rp.dp r2 sr2.SV
      cases r'
      cases r''
      exact ⟨i, j, rfl, rfl, k i j m2 H2 S2 V2 pp sr2 (s1.trans q1) (s2.trans q2)⟩⟩⟩⟩
theorem dp_range {B : Hp} (i j : Int) : DpAll K B (rgV i j) (rangeD i (j - i).toNat) := by
  unfold rgV rangeD
  generalize List.range (j - i).toNat = l
  induction l with
  | nil => exact .nil
  | cons x r ih => exact .cons (.int _) ih
def aRg (t : DS → Nat → (Int → Int → Nat → Prop) → Prop) : DTA := fun δ n Q => t δ n fun i j m => RgOk i j ∧ Q (rangeD i (j - i).toNat) m
theorem dl_listRg {tr : DS → Nat → (Int → Int → Nat → Prop) → Prop} (hc : X.calm = true) (hg : Gl X "list") (hm : X.mg "list" = none) (he : DRg X a tr) (na : starEach [a] X.env = (false, eval a X.env) :: starEach [] X.env := by rfl) :
    DL X (.Call (.Name "list" p) [a] [] pos) (aRg tr) :=
  ⟨PE.imp (pe_listRg hc hg hm he.run na) fun σ H Q ⟨g, n, δ, S, Vs, P, sr, ht, k⟩ => ⟨g, n, δ, S, Vs, _, sr, ht, fun i j m H' S' Vs' ⟨ok, pp⟩ sr' s1 s2 => ⟨ok, fun q hq =>
    k _ m q _ _ S' Vs' pp (sr'.temp hq) s1 s2 upd_same (sr'.vN hq) (sr'.h0 hq) (sr'.notW hq) (dp_range i j)⟩⟩⟩
theorem de_tupRg {tr : DS → Nat → (Int → Int → Nat → Prop) → Prop} (hc : X.calm = true) (hg : Gl X "tuple") (hm : X.mg "tuple" = none) (he : DRg X a tr) (na : starEach [a] X.env = (false, eval a X.env) :: starEach [] X.env := by rfl) :
    DE X true (.Call (.Name "tuple" p) [a] [] pos) (fun δ n Q => aRg tr δ n fun ds m => Q (.tuple ds) m) :=
  ⟨PE.imp (pe_tupRg hc hg hm he.run na) fun σ H Q ⟨g, n, δ, S, Vs, P, sr, ht, k⟩ => ⟨g, n, δ, S, Vs, _, sr, ht, fun i j m H' S' Vs' ⟨ok, pp⟩ sr' s1 s2 => ⟨ok, fun q hq => by
    obtain ⟨S2, V2, sr2, q1, q2, q3⟩ := sr'.out (K := X.K) (.tup hq (dp_range i j))
    exact k _ m _ _ S2 V2 pp sr2 (s1.trans q1) (s2.trans q2) q3⟩⟩⟩
/-- sorted(x), x a list -/
def aSort (t : DTE) : DTA := fun δ n Q => t δ n fun d m => ∃ ds, d = .list ds ∧ PySem.W.AllAlike ds ∧ SortOk ds ∧ (∀ z ∈ ds, z.depth ≤ 60) ∧ Q (sortD ds) m
theorem sort_mem {ds : List D} {z : D} : z ∈ sortD ds ↔ z ∈ ds := (List.mergeSort_perm ds _).mem_iff
theorem dl_sorted (hu : X.A.units + 64 < cLine) (hg : Gl X "sorted") (hm : X.mg "sorted" = none) (ha : DE X b1 a t1) (he : starEach (a :: []) X.env = (false, eval a X.env) :: starEach [] X.env := by rfl) (hpl : (backTo pos (starEach [] X.env)).any (·.1) = false := by rfl) :
    DL X (.Call (.Name "sorted" p) [a] [] pos) (aSort t1) :=
  ⟨PE.imp (pe_callB (cr_sortD hu) hg hm PyProof.Rows.boot_sorted (pa_cons ha.run pa_nil he) (by decide) (by decide) he hpl) fun σ H Q ⟨gh, n, δ, S, Vs, P, sr, ht, k⟩ => ⟨gh, n, δ, S, Vs, _, sr, ht, fun d m v H' S' Vs' ⟨ds, e1, h1, h2, h3, pp⟩ sr' s1 s2 rp => by
    subst e1
    obtain ⟨l, xs, rfl, hd, q⟩ := brep_items (Rp.br rp) rfl
    rcases q with ⟨es, _, q⟩ | ⟨es, e2, q⟩
    · have hl := q.elim (fun z => sr'.SH _ _ z) fun z => sr'.VH _ _ z
      exact ⟨l, xs, ds, S', rfl, sr'.SH, ⟨hl, hd⟩, h1, h2, h3, fun p2 ys hp hy => k (sortD ds) m p2 ys _ S' Vs' pp (sr'.temp hp) s1 s2 upd_same (sr'.vN hp) (sr'.h0 hp) (sr'.notW hp) hy⟩
    · cases e2⟩⟩
/-- repr -/
def dshow (d : D) : Str := d.shown
def gRepr : G1 := fun d P => itemsOf d ≠ none ∧ d.showable = true ∧ d.depth ≤ 60 ∧ d.shown.length ≤ sizeLine ∧ P (.str (dshow d))
mutual
theorem noDict_dp' {H : Hp} : ∀ (d : D) (v : V), Dp K H v d → d.hasDict = false
  | .none, _, _ => by simp only [PyData.hasDict]
  | .bool _, _, _ => by simp only [PyData.hasDict]
  | .int _, _, _ => by simp only [PyData.hasDict]
  | .str _, _, _ => by simp only [PyData.hasDict]
  | .list ds, _, h => by
    cases h with
    | lst h1 h2 => simp only [PyData.hasDict]; exact noDict_dps' ds _ h2
  | .tuple ds, _, h => by
    cases h with
    | tup h1 h2 => simp only [PyData.hasDict]; exact noDict_dps' ds _ h2
  | .dict _, _, h => by cases h
theorem noDict_dps' {H : Hp} : ∀ (ds : List D) (vs : List V), DpAll K H vs ds → PyData.hasDictAll ds = false
  | [], _, _ => by simp only [PyData.hasDictAll]
  | d :: ds, _, h => by
    cases h with
    | cons h1 h2 => simp only [PyData.hasDictAll, noDict_dp' d _ h1, noDict_dps' ds _ h2, Bool.or_self]
end
def rReprD (K : PySem.W.Frag) : List V → Hp → VK → Prop := fun vs H Q => ∃ v d, vs = [v] ∧ Dp K H v d ∧ itemsOf d ≠ none ∧ d.showable = true ∧ d.depth ≤ 60 ∧ d.shown.length ≤ sizeLine ∧ Q (.str (dshow d)) H
theorem cr_repr (hgd : X.A.guards = some []) (hu : X.A.units + 64 < cLine) : CallR X (.builtin "repr") (rReprD X.K) := by
  intro pins s σ H vs us Q I r h
  obtain ⟨v, d, rfl, hd, hi, hs, hdp, hz, q⟩ := h
  obtain ⟨u, rfl, ru⟩ := vals1 r
  obtain ⟨as, rr⟩ := L2.Dp.reads I d v u hd.to ru
  have nd := noDict_dp' d v hd
  have ha : ∃ a, u = Value.ref a := by
    cases hd with
    | lst _ _ => exact ⟨_, ru⟩
    | tup _ _ => exact ⟨_, ru⟩
    | _ => exact absurd rfl hi
  obtain ⟨a, rfl⟩ := ha
  refine repr_of_reads' rr hs (PyData.noDict_hsm nd) hgd (by omega) (fun _ _ e => e) (fun h' u tk hk => ?_) hz
  exact ⟨.str (dshow d), H, I.kept (t' := tk) hk, ⟨u, rfl⟩, q⟩
theorem boot_repr : bootBuiltins "repr" = some (.builtin "repr") := by decide +kernel
theorem de_repr (hgd : X.A.guards = some []) (hu : X.A.units + 64 < cLine) (hg : Gl X "repr") (hm : X.mg "repr" = none) (ha : DE X b1 a t1) (he : starEach (a :: []) X.env = (false, eval a X.env) :: starEach [] X.env := by rfl) (hpl : (backTo pos (starEach [] X.env)).any (·.1) = false := by rfl) :
    DE X true (.Call (.Name "repr" p) [a] [] pos) (d1 gRepr t1) :=
  de_fnS (fun h => pe_callB (cr_repr hgd hu) hg hm boot_repr h (by decide) (by decide) he hpl) (by
    intro B H x dx P Q hx sb ⟨h1, h2, h3, h4, g⟩ k
    exact ⟨x, dx, rfl, Dp.mono sb hx, h1, h2, h3, h4, k _ _ g (sc_str _)⟩) ha he
/-- isinstance(x, T), T a built-in class -/
def tyName : D → String
  | .none => "NoneType"
  | .bool _ => "bool"
  | .int _ => "int"
  | .str _ => "str"
  | .list _ => "list"
  | .tuple _ => "tuple"
  | .dict _ => "dict"
def gIsi (T : String) : G1 := fun d P => ∃ c, kitB (tyName d) T = some c ∧ P (.bool c)
theorem ty_of {H : Hp} {v : V} {d : D} (h : Dp K H v d) : TyX K H v (.type (tyName d)) := by
  cases h with
  | non => exact .base (.non)
  | bl c => exact .base (.bl c)
  | int i => exact .base (.int i)
  | str z => exact .base (.str z)
  | lst h1 _ => exact .base (.lst h1)
  | tup h1 _ =>
    rcases h1 with (h | ⟨o, h⟩) | ⟨o, its, n, hk, hc, _⟩
    · exact .base (.tup h)
    · exact .fTuple h
    · exact .kTuple hk hc
theorem de_isi {T : String} {x2 : Str} {p2 : Pos} (hg : Gl X "isinstance") (hm : X.mg "isinstance" = none) (ha : DE X b1 a t1) (hT : PE X (.Name x2 p2) (tC (.ty T)))
    (he : starEach (a :: [.Name x2 p2]) X.env = (false, eval a X.env) :: starEach [.Name x2 p2] X.env := by rfl) (he2 : starEach (.Name x2 p2 :: []) X.env = (false, eval (.Name x2 p2) X.env) :: starEach [] X.env := by rfl)
    (hpl : (backTo pos (starEach [.Name x2 p2] X.env)).any (·.1) = false := by rfl) : DE X true (.Call (.Name "isinstance" p) [a, .Name x2 p2] [] pos) (d1 (gIsi T) t1) :=
  ⟨PE.imp (pe_callB call_isi hg hm (by decide +kernel) (pa_cons ha.run (pa_cons hT pa_nil he2) he) (by decide) (by decide) he hpl) fun σ H Q ⟨gh, n, δ, S, Vs, P, sr, ht, k⟩ => ⟨gh, n, δ, S, Vs, _, sr, ht, fun d m v H' S' Vs' ⟨c, e1, pp⟩ sr' s1 s2 rp =>
    ⟨v, .ty T, _, _, c, rfl, .ty T, ty_of (Dp.mono sr'.VH (Rp.dp rp sr'.SV)), kit_ty e1, k _ m _ H' S' Vs' pp sr' s1 s2 (Rp.of (.bl c))⟩⟩⟩
end
end DL
/-! DL8: enumerate, zip, slices over data. -/
namespace PySem
open Sem (wp)
open AutoSeq1 (wpAny_loadPart')
theorem meets_enumT (l : Addr) (items : Array Value) (n : Nat) (dct : Option Addr) (sl : Array (Option Value)) :
    Meets (Builtin.«enumerate.__new__» ⟨[.type "enumerate", .ref l], []⟩) (fun _ R s => s.heap.get? l = some { cls := .type "tuple", dict := dct, data := .seq items n, slots := sl } ∧
      R (.ok (.ret (.ref (s.heap.push { cls := .type "tuple_iterator", data := .fields #[.ref l, .int 0 0] }).objs.size)))
        { s with heap := (s.heap.push { cls := .type "tuple_iterator", data := .fields #[.ref l, .int 0 0] }).push { cls := .type "enumerate", data := .fields #[.none, .bool false, .ref s.heap.objs.size, rawInt 0, .none, .none] } }) :=
  .of_wp fun prog w A R s h => by
    obtain ⟨hp, g, d, tk, os⟩ := s
    obtain ⟨hl, h⟩ := h
    have hsub := sub_enumerate
    have hL : Heap.IsTuple (Shared.heap ⟨hp, g, d, tk, os⟩) l items := ⟨_, hl, rfl, n, rfl⟩
    wp_walk using wpAny_loadPart' hl
    refine wpAny_stack_any fun st => wpAny_pure ?_
    split
    · rename_i c _ _ _ _ _
      cases (c == Value.type "enumerate") <;> (wp_walk using wpAny_loadPart' hl, wpAny_pyIter_tuple hL; exact ⟨_, rfl, h⟩)
    · wp_walk using wpAny_loadPart' hl, wpAny_pyIter_tuple hL
      exact ⟨_, rfl, h⟩
end PySem
namespace DL
open PySem PySem.Spec L2

section
variable {prog : Program} {w : World} {A : Around} {E : Value → Shared → Prop} {s : Shared}
theorem call_enumT {l : Addr} {items : Array Value} {Q : Value → Shared → Prop} (hL : s.heap.IsTuple l items)
    (h : ∀ h', IsEnum h' (s.heap.objs.size + 1) s.heap.objs.size 0 .none → h'.IsTupleIter s.heap.objs.size l 0 → h'.objs.size = s.heap.objs.size + 2 →
      (∀ b o, s.heap.get? b = some o → h'.get? b = some o) → Q (.ref (s.heap.objs.size + 1)) { s with heap := h' }) : wpAny (model prog w) A (call (.type "enumerate") [.ref l]) Q E s := by
  obtain ⟨⟨c, dct, dt, sl⟩, hl, hc, n, hd⟩ := hL
  simp only at hc hd
  subst hc hd
  refine callType_new F.called_enumerate (by decide) (F.typeCall_enumerate_1 _) (F.newCall_enumerate_1 _) (fun obj => F.args_object_init_2 obj _) F.entry_enumerate_new (meets_enumT l items n dct sl) ⟨hl, ?_⟩
  generalize hh1 : s.heap.push { cls := .type "tuple_iterator", data := .fields #[.ref l, .int 0 0] } = h1
  have hz : h1.objs.size = s.heap.objs.size + 1 := by rw [← hh1]; exact Heap.size_push ..
  show _ ∧ _
  rw [hz]
  have he : IsEnum (h1.push { cls := .type "enumerate", data := .fields #[.none, .bool false, .ref s.heap.objs.size, rawInt 0, .none, .none] }) (s.heap.objs.size + 1) s.heap.objs.size 0 .none := by
    have := Heap.get?_push_size h1 (o := { cls := .type "enumerate", data := .fields #[.none, .bool false, .ref s.heap.objs.size, rawInt 0, .none, .none] }) rfl
    rw [hz] at this
    exact this
  have k1 : ∀ b o, s.heap.get? b = some o → h1.get? b = some o := fun b o x => by rw [← hh1]; exact Heap.get?_push_of_some _ x
  have e1 : h1.get? s.heap.objs.size = some { cls := .type "tuple_iterator", data := .fields #[.ref l, .int 0 0] } := by rw [← hh1]; exact Heap.get?_push_size _ rfl
  exact ⟨⟨_, he, rfl⟩, h _ he ⟨_, Heap.get?_push_of_some _ e1, rfl, rfl⟩ (by rw [Heap.size_push, hz]) fun b o x => Heap.get?_push_of_some _ (k1 b o x)⟩
end
section
variable {prog : Program} {w : World} {A : Around} {E : Value → Shared → Prop} {s : Shared}
theorem next_enumT_end {e it l : Addr} {i : Nat} {items : Array Value} {old : Value} {Q : Option Value → Shared → Prop} (hh : A.handled = none) (he : IsEnum s.heap e it i old) (hit : s.heap.IsTupleIter it l i) (hl : s.heap.IsTuple l items) (hx : items[i]? = none)
    (hQ : ∀ h', Heap.ExtBut it s.heap h' → Q none { s with heap := h' }) : wpAny (model prog w) A (pyNext (.ref e)) Q E s := by
  have hT : s.TypeIs (.ref e) "enumerate" := ⟨_, he, rfl⟩
  unfold pyNext
  refine wpAny_bind (wpAny_attempt (wpAny_callSpecial?_slot (name := Str.ofString "__next__") hT F.slot_enumerate_next (wpAny_call_entry F.slot_enumerate_next hT F.entry_enumerate_next ?_ (F.args_enumerate_next_1 _))))
  show wpAny _ _ (field (.ref e) 2 >>= _) _ _ _
  refine wpAny_bind (wpAny_field he rfl (x := .ref it) rfl (wpAny_bind (wpAny_nextOf_tuple_end hh hit hl hx fun h' x e' hx' => ?_)))
  obtain ⟨o, ho, hc⟩ := hx'
  exact wpAny_bind (wpAny_isInstance (T := "StopIteration") (b := true) ⟨o, ho, hc⟩ isSubtype_stop (wpAny_pure (hQ _ e')))
end
/-- the tuple at a as it stands, its items with their places in new pairs -/
def IteT (K : PySem.W.Frag) (a : Addr) : It :=
  ⟨fun i H => ∃ (xs : List V) (x : V), SqT K H a xs ∧ xs[i]? = some x, fun i H v H' => ∃ T x, v = .ref T ∧ H T = none ∧ H' = upd H T (.tup [.int (i : Nat), x]) ∧ ∀ xs, SqT K H a xs → xs[i]? = some x, fun i H => ∃ xs : List V, SqT K H a xs ∧ xs.length ≤ i⟩
theorem turn_enumT {P : Program} {w : World} {K : PySem.W.Frag} {elts : List Expr} {kk : Nat} {tpos : Pos} (a e it : Addr) :
    Turn P w K (.Tuple elts kk tpos) (IteT K a) [e, it] e (fun i h => (∃ old, IsEnum h e it ((i : Nat) : Int) old) ∧ h.IsTupleIter it a i ∧ e ≠ it ∧ a ≠ e ∧ a ≠ it) where
  mem := by simp
  obj := fun i h st b hb => by
    obtain ⟨⟨old, he⟩, ⟨o, ho, hc, hd⟩, _⟩ := st
    rcases (show b = e ∨ b = it by simpa using hb) with z | z
    · rw [z]; exact ⟨_, he, fun v q => nomatch q⟩
    · rw [z]; exact ⟨o, ho, fun v q => by rw [hd] at q; cases q⟩
  keep := fun i h h' st k => let ⟨⟨old, he⟩, hi, r⟩ := st; ⟨⟨old, k e (by simp) _ he⟩, hi.at fun o q => k it (by simp) o q, r⟩
  item := by
    intro X hP hw hK hc i pins s σ H E I hf st hg
    subst hP hw hK
    obtain ⟨⟨old, he⟩, hit, hne, hae, hai⟩ := st
    obtain ⟨xs, x, hq, hx⟩ := hg
    obtain ⟨its, rv, p, hz⟩ := I.tuple hq
    obtain ⟨u, hu, ru⟩ := rv.get hx
    have hlt : i < its.toArray.size := by
      have := (List.getElem?_eq_some_iff.mp hu).1
      simpa using this
    have hel : e < s.heap.objs.size := Heap.lt_size he
    have hil : it < s.heap.objs.size := by obtain ⟨_, q, _⟩ := hit; exact Heap.lt_size q
    have hfp : e ∉ [it, a] := by
      intro z
      rcases (show e = it ∨ e = a by simpa using z) with z | z
      · exact hne z
      · exact hae z.symm
    refine wpAny_pyNext_enum_itemD (Draws.tuple (A := X.A.in1) (I.ok.hd hc) it a hai its.toArray) he ⟨hit, p⟩ hlt hne hfp fun x' h' tk hp ho hst hT hsz hk => ?_
    have ex : x' = u := by
      have q : its.toArray[i]? = some x' := hp
      have q2 : its.toArray[i]? = some u := by simpa using hu
      rw [q] at q2
      exact Option.some.inj q2
    subst ex
    refine ⟨_, rfl, wpAny_letOwnedTupleGo_enum (s := { s with heap := h', toks := tk + 1 }) ho fun h'' he' sb => ?_⟩
    have hT2 : h''.get? s.heap.objs.size = some { cls := .type "tuple", data := .seq #[.int i tk, x'] } := (sb.2 _ (Nat.ne_of_gt hel)).trans hT
    have new : ObjOk X.prog X.w (upd H s.heap.objs.size (.tup [.int (i : Nat), x])) h'' s.heap.objs.size (.tup [.int (i : Nat), x]) :=
      ⟨by show 2 ≤ sizeLine; decide, [.int i tk, x'], .cons ⟨_, rfl⟩ (.cons ru .nil), ⟨_, hT2, rfl, _, rfl⟩⟩
    have I1 : Inv X pins σ (upd H s.heap.objs.size (.tup [.int (i : Nat), x])) { s with heap := h'', toks := tk + 1 } :=
      I.turnedNew (ch := [e, it]) (fun b ob hb q => (sb.2 b (fun z => hb (by simp [z]))).trans (hk b ob (fun z => hb (by simp [z])) (fun z => hb (by simp [z])) q)) hf (Nat.le_refl _) new
    refine ⟨.ref s.heap.objs.size, _, I1, rfl, ⟨_, x, rfl, I.hok.fresh (Nat.le_refl _), rfl, fun ys hy => by rw [I.tuple_inj hy hq]; exact hx⟩, ⟨⟨x', ?_⟩, hst.1.at fun o q => (sb.2 it (Ne.symm hne)).trans q, hne, hae, hai⟩, fun b hb => ?_⟩
    · have e1 : ((i + 1 : Nat) : Int) = (i : Int) + 1 := by omega
      rw [e1]; exact he'
    · have hb' : b < s.heap.objs.size := by
        rcases (show b = e ∨ b = it by simpa using hb) with z | z
        · rw [z]; exact hel
        · rw [z]; exact hil
      rw [upd_ne (Nat.ne_of_lt hb')]
      exact (hf b hb).1
  done := by
    intro X hP hw hK hc i pins s σ H E I hf st hg
    subst hP hw hK
    obtain ⟨⟨old, he⟩, hit, hne, hae, hai⟩ := st
    obtain ⟨xs, hq, hx⟩ := hg
    obtain ⟨its, rv, p, hz⟩ := I.tuple hq
    obtain ⟨f0, f1, f2, f3, f4, f5⟩ := hf it (by simp)
    have hl := rv.length
    have hend : its.toArray[i]? = none := by simp; omega
    exact next_enumT_end (I.ok.hd hc) he hit p hend fun h' eb => ⟨rfl, I.turned (t' := s.toks) (fun b o hb q => eb b o hb q) f0 f1 f3 f4 f5⟩
  self := fun A i s Q E st h => let ⟨⟨_, he⟩, _⟩ := st; wpAny_pyIter_enum he h
def iEnumT (K : PySem.W.Frag) (ta : TA) : TI := fun σ H R => ta σ H fun vs H1 => ∃ a xs, vs = [.ref a] ∧ SqT K H1 a xs ∧ R (IteT K a) H1
theorem pi_enumT {X : Cx} {e : Expr} {ta : TA} {p pos tpos : Pos} {elts : List Expr} {kk : Nat} (hg : Gl X "enumerate") (hm : X.mg "enumerate" = none) (ha : PA X [e] ta) (hs : starEach [e] X.env = [(false, eval e X.env)] := by rfl) :
    PI X (.Tuple elts kk tpos) (.Call (.Name "enumerate" p) [e] [] pos) (iEnumT X.K ta) :=
  ⟨fun pins s σ H R I h => PyProof.Rows.Call_ (ld_blt I hg hm PyProof.Rows.boot_enumerate (PyProof.Rows.callWith_type1 (thn (ha.run pos pins s σ H _ I h) fun us s1 ⟨vs, H1, I1, r1, a, xs, ex, hq, q⟩ => by
    subst ex
    obtain ⟨u, rfl, r⟩ := vals1 r1
    cases r
    obtain ⟨its, rv, p', hz⟩ := I1.tuple hq
    have hal : a < s1.heap.objs.size := by obtain ⟨o, ho, _⟩ := p'; exact Heap.lt_size ho
    refine call_enumT (show s1.heap.IsTuple a its.toArray from p') fun h' he hit hsz hk => wpAny_pyIter_enum he ?_
    refine ⟨s1.heap.objs.size + 1, [s1.heap.objs.size + 1, s1.heap.objs.size], _, _, H1, rfl, I1.kept (t' := s1.toks) hk, turn_enumT a (s1.heap.objs.size + 1) s1.heap.objs.size,
      ⟨⟨.none, he⟩, hit, Nat.succ_ne_self _, Nat.ne_of_lt (Nat.lt_succ_of_lt hal), Nat.ne_of_lt hal⟩, fun b hb => ?_, q⟩
    have hle : s1.heap.objs.size ≤ b := by
      rcases (show b = s1.heap.objs.size + 1 ∨ b = s1.heap.objs.size by simpa using hb) with z | z
      · rw [z]; exact Nat.le_add_right _ _
      · rw [z]; exact Nat.le_refl _
    exact I1.fpOk hle (I1.hok.fresh hle)) hs rfl))⟩

section
variable {X : Cx} {K : PySem.W.Frag} {tg e a b c : Expr} {es elts : List Expr} {pos p tpos : Pos} {t1 t2 t3 : DTE} {ta : DTA} {b1 b2 b3 : Bool} {kk : Nat}
def enumD : Nat → List D → List D
  | _, [] => []
  | i, d :: r => .tuple [.int (i : Nat), d] :: enumD (i + 1) r
theorem enumD_length : ∀ (i : Nat) (ds : List D), (enumD i ds).length = ds.length
  | _, [] => rfl
  | i, d :: r => by simp only [enumD, List.length_cons, enumD_length (i + 1) r]
theorem enumD_get : ∀ (i j : Nat) (ds : List D), (enumD i ds)[j]? = (ds[j]?).map fun d => .tuple [.int ((i + j : Nat) : Int), d]
  | _, _, [] => by simp [enumD]
  | i, 0, d :: r => by simp [enumD]
  | i, j + 1, d :: r => by
    simp only [enumD, List.getElem?_cons_succ, enumD_get (i + 1) j r]
    rw [show i + 1 + j = i + (j + 1) by omega]
theorem walk_e {B S : Hp} {l : Addr} {xs : List V} {ds : List D} (h : B l = some (.lst xs)) (hd : DpAll K S xs ds) : WalkD K (Ite K l) B S (enumD 0 ds) := fun i H s => by
  have q : SqL K H l xs := SqL.of (s _ _ h)
  refine ⟨fun d e => ?_, fun hl => ⟨xs, q, by rw [hd.length]; rw [enumD_length] at hl; exact hl⟩⟩
  rw [enumD_get] at e
  cases ed : ds[i]? with
  | none => rw [ed] at e; cases e
  | some d0 =>
    rw [ed] at e
    obtain ⟨v, e1, r⟩ := hd.get' ed
    refine ⟨⟨xs, v, q, e1⟩, fun x H' ⟨T, y, e2, e3, e4, f⟩ => ?_⟩
    subst e2 e4
    have := f _ q
    rw [e1] at this
    cases this
    have e' : d = .tuple [.int (i : Nat), d0] := by
      have := Option.some.inj e
      rw [← this, Nat.zero_add]
    rw [e']
    exact .tup e3 (.cons (.int _) (.cons r .nil))
theorem walk_eT {B S : Hp} {l : Addr} {xs : List V} {ds : List D} (h : SqT K B l xs) (hd : DpAll K S xs ds) : WalkD K (IteT K l) B S (enumD 0 ds) := fun i H s => by
  have q : SqT K H l xs := sqt_mono s h
  refine ⟨fun d e => ?_, fun hl => ⟨xs, q, by rw [hd.length]; rw [enumD_length] at hl; exact hl⟩⟩
  rw [enumD_get] at e
  cases ed : ds[i]? with
  | none => rw [ed] at e; cases e
  | some d0 =>
    rw [ed] at e
    obtain ⟨v, e1, r⟩ := hd.get' ed
    refine ⟨⟨xs, v, q, e1⟩, fun x H' ⟨T, y, e2, e3, e4, f⟩ => ?_⟩
    subst e2 e4
    have := f _ q
    rw [e1] at this
    cases this
    have e' : d = .tuple [.int (i : Nat), d0] := by
      have := Option.some.inj e
      rw [← this, Nat.zero_add]
    rw [e']
    exact .tup e3 (.cons (.int _) (.cons r .nil))
/-- enumerate(x) of a list or a tuple -/
def iEn (t : DTE) : DTA := fun δ n Q => (t δ n fun d m => ∃ ds, d = .list ds ∧ Q (enumD 0 ds) m) ∨ (t δ n fun d m => ∃ ds, d = .tuple ds ∧ Q (enumD 0 ds) m)
theorem di_enum (hg : Gl X "enumerate") (hm : X.mg "enumerate" = none) (h : DE X b1 e t1) (hs : starEach [e] X.env = [(false, eval e X.env)] := by rfl) (hs2 : starEach (e :: []) X.env = (false, eval e X.env) :: starEach [] X.env := by rfl) :
    DI X b1 (.Tuple elts kk tpos) (.Call (.Name "enumerate" p) [e] [] pos) (iEn t1) :=
  ⟨PI.imp (PI.or (pi_enum hg hm (pa_cons h.run pa_nil hs2) hs) (pi_enumT hg hm (pa_cons h.run pa_nil hs2) hs)) fun σ H R ⟨g, n, δ, S, Vs, P, sr, ht, k⟩ => by
    rcases ht with ht | ht
    · refine .inl ⟨g, n, δ, S, Vs, _, sr, ht, fun d m v H' S' Vs' ⟨ds, e1, p⟩ sr' s1 s2 r => ?_⟩
      subst e1
      unfold Rp at r
      cases b1 with
      | true =>
        rw [if_pos rfl] at r
        cases r with
        | lst h1 h2 => exact ⟨_, _, rfl, SqL.of (sr'.SH _ _ h1), k _ H' S' Vs' _ m p sr' s1 s2 (by rw [if_pos rfl]; exact walk_e h1 h2)⟩
      | false =>
        rw [if_neg (by decide)] at r
        rcases r with r | ⟨l, xs, ds', q1, q2, h1, h2⟩
        · cases r with
          | lst h1 h2 => exact ⟨_, _, rfl, SqL.of (sr'.SH _ _ h1), k _ H' S' Vs' _ m p sr' s1 s2 (by rw [if_neg (by decide)]; exact walk_e (sr'.SV _ _ h1) h2)⟩
        · cases q1
          subst q2
          exact ⟨_, _, rfl, SqL.of (sr'.VH _ _ h1), k _ H' S' Vs' _ m p sr' s1 s2 (by rw [if_neg (by decide)]; exact walk_e h1 h2)⟩
    · refine .inr ⟨g, n, δ, S, Vs, _, sr, ht, fun d m v H' S' Vs' ⟨ds, e1, p⟩ sr' s1 s2 r => ?_⟩
      subst e1
      rcases Rp.br r with r | ⟨l, xs, ds', q1, q2, h1, h2⟩
      · cases r with
        | tup h1 h2 =>
          refine ⟨_, _, rfl, sqt_mono sr'.SH h1, k _ H' S' Vs' _ m p sr' s1 s2 ?_⟩
          cases b1 with
          | true => rw [if_pos rfl]; exact walk_eT h1 h2
          | false => rw [if_neg (by decide)]; exact walk_eT (sqt_mono sr'.SV h1) h2
      · cases q1⟩
end
end DL
/-! DP: plain facts about data: sizes, shapes, order. -/
namespace DL
open PySem

/-- data that are small: depth m, weight w at most; whole numbers below 10^12, short texts -/
structure Sm (m w : Nat) (d : D) : Prop where
  lay : d.canLay0 = true
  dep : d.depth ≤ m
  wt : d.weight + 1 ≤ w
  short : d.leavesShort 13 = true
  show' : d.showable = true
structure SmAll (m w : Nat) (ds : List D) : Prop where
  lay : PyData.canLayAll0 ds = true
  dep : PyData.depthAll ds ≤ m
  wt : PyData.weightAll ds ≤ w
  short : PyData.leavesShortAll 13 ds = true
  show' : PyData.showableAll ds = true
section
variable {m w m' w' : Nat} {d : D} {ds : List D}
theorem Sm.mono (h : Sm m w d) (h1 : m ≤ m') (h2 : w ≤ w') : Sm m' w' d := ⟨h.lay, Nat.le_trans h.dep h1, Nat.le_trans h.wt h2, h.short, h.show'⟩
theorem Sm.shaped (h : Sm m w d) (hm : m ≤ 64) : SeqAt.shaped d = true := by
  unfold SeqAt.shaped
  rw [h.lay, decide_eq_true (Nat.le_trans h.dep hm)]; rfl
theorem Sm.fits (h : Sm m w d) (hw : w ≤ 1048576) : d.shown.length ≤ sizeLine := PyData.shown_fits (B := 13) (by decide) (by decide) h.short (by have := h.wt; omega)
theorem SmAll.nil : SmAll m w [] := ⟨rfl, by simp [PyData.depthAll], by simp [PyData.weightAll], rfl, rfl⟩
theorem SmAll.cons (h : Sm m w d) (t : SmAll m w' ds) : SmAll m (w + w') (d :: ds) := by
  refine ⟨?_, ?_, ?_, ?_, ?_⟩
  · rw [PyData.canLayAll0, h.lay, t.lay]; rfl
  · rw [PyData.depthAll]; exact Nat.max_le.mpr ⟨h.dep, t.dep⟩
  · rw [PyData.weightAll]; exact Nat.add_le_add h.wt t.wt
  · rw [PyData.leavesShortAll, h.short, t.short]; rfl
  · rw [PyData.showableAll, h.show', t.show']; rfl
theorem SmAll.mono (h : SmAll m w ds) (h1 : m ≤ m') (h2 : w ≤ w') : SmAll m' w' ds := ⟨h.lay, Nat.le_trans h.dep h1, Nat.le_trans h.wt h2, h.short, h.show'⟩
theorem SmAll.of : ∀ {ds : List D}, (∀ d ∈ ds, Sm m w d) → SmAll m (ds.length * w) ds
  | [], _ => .nil
  | d :: r, h => (SmAll.cons (h d List.mem_cons_self) (SmAll.of fun x hx => h x (List.mem_cons_of_mem _ hx))).mono (Nat.le_refl _) (by rw [List.length_cons, Nat.add_mul, Nat.one_mul, Nat.add_comm]; exact Nat.le_refl _)
theorem SmAll.of' {L : Nat} (h : ∀ d ∈ ds, Sm m w d) (hl : ds.length ≤ L) : SmAll m (L * w) ds := (SmAll.of h).mono (Nat.le_refl _) (Nat.mul_le_mul_right _ hl)
theorem SmAll.tup (h : SmAll m w ds) : Sm (m + 1) (w + 1) (.tuple ds) := by
  refine ⟨?_, ?_, ?_, ?_, ?_⟩
  · rw [PyData.canLay0]; exact h.lay
  · rw [PyData.depth]; exact Nat.succ_le_succ h.dep
  · rw [PyData.weight]; have := h.wt; omega
  · rw [PyData.leavesShort]; exact h.short
  · rw [PyData.showable]; exact h.show'
theorem SmAll.lst (h : SmAll m w ds) : Sm (m + 1) (w + 1) (.list ds) := by
  refine ⟨?_, ?_, ?_, ?_, ?_⟩
  · rw [PyData.canLay0]; exact h.lay
  · rw [PyData.depth]; exact Nat.succ_le_succ h.dep
  · rw [PyData.weight]; have := h.wt; omega
  · rw [PyData.leavesShort]; exact h.short
  · rw [PyData.showable]; exact h.show'
theorem Sm.bool (b : Bool) : Sm 0 1 (.bool b) := ⟨rfl, by simp [PyData.depth], by simp [PyData.weight], by cases b <;> decide, rfl⟩
theorem Sm.none : Sm 0 1 .none := ⟨rfl, by simp [PyData.depth], by simp [PyData.weight], by decide, rfl⟩
theorem Sm.int {i : Int} (h : i.natAbs < 10 ^ 12) : Sm 0 41 (.int i) := by
  have h1 : i.natAbs.log2 < 40 := PySem.Flt.log2_lt_of (by decide) (Nat.lt_of_lt_of_le h (by decide))
  refine ⟨rfl, by simp [PyData.depth], by rw [PyData.weight]; split <;> omega, ?_, ?_⟩
  · rw [PyData.leavesShort]; exact decide_eq_true (PyData.shown_int_le h)
  · rw [PyData.showable]
    refine decide_eq_true ?_
    omega
end
end DL
/-! DL9: the drawing dict. -/
namespace DL
open PySem PySem.Spec L2

abbrev kFar : Key := .inr (Str.ofString "far")
abbrev kFlow : Key := .inr (Str.ofString "flow")
abbrev kTurn : Key := .inr (Str.ofString "turn")
def rdic (f : Addr) (flow turn : Int) : List (Key × V) := [(kFar, .ref f), (kFlow, .int flow), (kTurn, .int turn)]
theorem k1 : decide (kFar = kFlow) = false := by decide +kernel
theorem k2 : decide (kFar = kTurn) = false := by decide +kernel
theorem k3 : decide (kFlow = kTurn) = false := by decide +kernel
theorem k4 : decide (kFlow = kFar) = false := by decide +kernel
theorem k5 : decide (kTurn = kFar) = false := by decide +kernel
theorem k6 : decide (kTurn = kFlow) = false := by decide +kernel
theorem rd_far (f : Addr) (a b : Int) : valV (rdic f a b) kFar = some (.ref f) := by
  unfold valV rdic
  rw [List.find?_cons_of_pos (by exact decide_eq_true rfl)]; rfl
theorem rd_flow (f : Addr) (a b : Int) : valV (rdic f a b) kFlow = some (.int a) := by
  unfold valV rdic
  rw [List.find?_cons_of_neg (by rw [k1]; exact Bool.false_ne_true), List.find?_cons_of_pos (by exact decide_eq_true rfl)]; rfl
theorem rd_turn (f : Addr) (a b : Int) : valV (rdic f a b) kTurn = some (.int b) := by
  unfold valV rdic
  rw [List.find?_cons_of_neg (by rw [k2]; exact Bool.false_ne_true), List.find?_cons_of_neg (by rw [k3]; exact Bool.false_ne_true), List.find?_cons_of_pos (by exact decide_eq_true rfl)]; rfl
theorem any_of {α : Type} {p : α → Bool} {l : List α} {x : α} (h : x ∈ l) (hp : p x = true) : l.any p = true := List.any_eq_true.mpr ⟨x, h, hp⟩
theorem rp_turn (f : Addr) (a b c : Int) : putK (rdic f a b) kTurn (.int c) = rdic f a c := by
  unfold putK
  rw [if_pos (any_of (x := (kTurn, V.int b)) (by simp [rdic]) (decide_eq_true rfl))]
  unfold rdic
  rw [List.map_cons, List.map_cons, List.map_cons, List.map_nil, if_neg (of_decide_eq_false k2), if_neg (of_decide_eq_false k3), if_pos rfl]
theorem rp_flow (f : Addr) (a b c : Int) : putK (rdic f a b) kFlow (.int c) = rdic f c b := by
  unfold putK
  rw [if_pos (any_of (x := (kFlow, V.int a)) (by simp [rdic]) (decide_eq_true rfl))]
  unfold rdic
  rw [List.map_cons, List.map_cons, List.map_cons, List.map_nil, if_neg (of_decide_eq_false k1), if_pos rfl, if_neg (of_decide_eq_false k6)]
theorem rm_disp (f : Addr) (a b : Int) : mergeK [] (rdic f a b) = rdic f a b := by
  have e1 : putK ([] : List (Key × V)) kFar (.ref f) = [(kFar, .ref f)] := rfl
  have e2 : putK [(kFar, V.ref f)] kFlow (.int a) = [(kFar, .ref f), (kFlow, .int a)] := by
    unfold putK
    rw [if_neg (by rw [List.any_cons, k1]; decide)]; rfl
  have e3 : putK [(kFar, V.ref f), (kFlow, V.int a)] kTurn (.int b) = rdic f a b := by
    unfold putK
    rw [if_neg (by rw [List.any_cons, List.any_cons, k2, k3]; decide)]; rfl
  show putK (putK (putK [] kFar (.ref f)) kFlow (.int a)) kTurn (.int b) = _
  rw [e1, e2, e3]
theorem emod_lt {a : Int} {m : Int} (h : 0 < m) : 0 ≤ a % m ∧ a % m < m := ⟨Int.emod_nonneg _ (by omega), Int.emod_lt_of_pos _ h⟩

/-- a number below many -/
def fDraw : Fn := fun as n P => ∃ many : Int, as = [.rl, .d (.int many)] ∧ 0 < many ∧ many < 1073741824 ∧ 1 ≤ n ∧ ∀ k : Int, 0 ≤ k → k < many → P (.int k) (n - 1)
def D0 (K : PySem.W.Frag) (H : Hp) (l : Addr) (ns : List Int) (h : H l = some (.lst (ns.map V.int))) : L2.Dp K H (.ref l) (.list (ns.map PyData.int)) := by
  refine .lst (SqL.of h) ?_
  clear h
  induction ns with
  | nil => exact .nil
  | cons x r ih => exact .cons (.int x) ih
theorem shaped_ints {ns : List Int} : SeqAt.shaped (.list (ns.map PyData.int)) = true := by
  have h1 : PyData.canLayAll0 (ns.map PyData.int) = true := by
    induction ns with
    | nil => rfl
    | cons x r ih => rw [List.map_cons, PyData.canLayAll0, ih, PyData.canLay0]; rfl
  have h2 : PyData.depthAll (ns.map PyData.int) = 0 := by
    induction ns with
    | nil => simp [PyData.depthAll]
    | cons x r ih => rw [List.map_cons, PyData.depthAll, ih (by
        rw [List.map_cons, PyData.canLayAll0] at h1
        exact (Bool.and_eq_true_iff.mp h1).2)]; simp [PyData.depth]
  unfold SeqAt.shaped
  rw [PyData.canLay0, h1, PyData.depth, h2]; rfl
theorem eqv_nil {ns : List Int} : PyData.eqv (.list (ns.map PyData.int)) (.list []) = decide (ns = []) := by
  cases ns with
  | nil => simp [PyData.eqv, PyData.eqvAll]
  | cons x r => simp [PyData.eqv, PyData.eqvAll]
theorem rdic_len (f : Addr) (a b : Int) : (rdic f a b).length < sizeLine := by
  show 3 < sizeLine
  decide
theorem seq0 (n : Nat) : seqIndex? 0 (n + 1) = some 0 := by
  have := (ixN_seq (n := n + 1) (i := 0) (j := 0) (by unfold ixN; rw [if_pos (by decide), if_pos (by omega)]; rfl)).1
  exact this
def N0 : Nat := 2305843009213693952
/-- what the def that makes the drawing dict promises -/
def spRl (K : PySem.W.Frag) : Sp := fun vs H Q _ => ∃ (a : Addr) (ns : List Int), vs = [.ref a] ∧ SqL K H a (ns.map V.int) ∧ ns.length ≤ 63 ∧ ∀ r f H', Same H H' → H r = none → H f = none → RillOk H' r f N0 → Q (.ref r) H'
end DL
/-! DL10: small things for printed texts. -/
namespace DL
open PySem PySem.Spec L2
abbrev gSub : G2 := gI fun i j => .int (i - j)
abbrev gMul : G2 := gIC CMul fun i j => .int (i * j)
abbrev gMod : G2 := gIC (fun _ j => 0 < j) fun i j => .int (i % j)
abbrev gFdiv : G2 := gIC CDiv fun i j => .int (i / j)
abbrev gPow : G2 := gIC CPow fun i j => .int (i ^ j.toNat)
abbrev gLt : G2 := gCmp fun x y => PySem.W.dataLt x y
abbrev gGt : G2 := gCmp fun x y => PySem.W.dataLt y x
abbrev gLe : G2 := gCmp fun x y => !PySem.W.dataLt y x
abbrev gGe : G2 := gCmp fun x y => !PySem.W.dataLt x y
theorem hu5_of {A : Around} {k : Nat} (hr : Room k A) : A.units + 65 < cLine := by have := hr.un; omega
theorem hu_of5 {A : Around} (h : A.units + 65 < cLine) : A.units + 64 < cLine := by omega
theorem blkD {N : List Str} {sc scope : Scope} {own : List (Str × Nat)} (h1 : scope.kind = .function) (h2 : ∀ y ∈ scope.names, scope.names.lookup y.1 = some y.2) (h3 : ∀ p ∈ own, N[p.2]? = some p.1)
    (h4 : ∀ y ∈ scope.names, y.2 = .free → sc.names.lookup y.1 = some .cell ∨ sc.names.lookup y.1 = some .free) (h5 : ∀ y ∈ scope.names, y.2 = .local ∨ y.2 = .cell → y.1 ∈ own.map (·.1) ∨ y.1 ∉ N) : BlkOk N sc scope own := ⟨h1, h2, h3, h4, h5⟩
def gConsL (l : Nat) (γ : DTG) (γs : DTGs) : DTGs := fun ds δ P => ∃ d r, ds = d :: r ∧ r.length = l ∧ γ d δ fun δ' => γs r δ' P
theorem gs_consG {K : PySem.W.Frag} {g1 : TG} {is js : List Nat} {g2 : TGs} {l : Nat} {γ1 : DTG} {γs : DTGs} (q1 : GSem K g1 is γ1) (q2 : GsSem K g2 js l γs) : GsSem K (gCons g1 g2) (is ++ js) (l + 1) (gConsL l γ1 γs) :=
  fun gh n δ σ H S Vs ds vs P Q sr hd ⟨d, r, e1, hl, hp⟩ k => by
    subst e1
    cases hd with
    | cons h1 h3 =>
      refine ⟨by rw [List.length_cons, hl], _, _, rfl, q1 gh n δ σ H S Vs d _ _ _ sr h1 hp fun δ1 σ1 p1 sr1 f1 l1 => ?_⟩
      exact (q2 gh n δ1 σ1 H S Vs r _ _ Q sr1 h3 p1 fun δ2 σ2 p2 sr2 f2 l2 => k δ2 σ2 p2 sr2 (fun j hj => by
        have a1 := f1 j fun z => hj (List.mem_append_left _ z)
        have a2 := f2 j fun z => hj (List.mem_append_right _ z)
        exact ⟨a2.1.trans a1.1, a2.2.trans a1.2⟩) (l2.trans l1)).2
/-! ### comparisons as tests -/
section
variable {X : Cx} {a b : Expr} {pos : Pos} {t1 t2 : DTE} {b1 b2 : Bool}
structure CmpD (X : Cx) (op : CmpOp) (g : G2) : Prop where
  ex : ∃ r, OpR X (compareOp op) r ∧ Sem2S X.K r g
theorem cd_eq (hu : X.A.units + 64 < cLine) : CmpD X .Eq gEq := ⟨_, OpR.or (op_eqD hu) op_eq, sem_eq⟩
theorem cd_ne (hu : X.A.units + 64 < cLine) : CmpD X .NotEq gNe := ⟨_, OpR.or (op_neD hu) op_ne, sem_ne⟩
theorem cd_lt (hu : X.A.units + 64 < cLine) : CmpD X .Lt gLt := ⟨_, op_cmp (fun s a b da db as bs Q E r1 r2 c1 c2 u q => PySem.W.lt_data r1 r2 c1 c2 u q) hu, sem_cmp⟩
theorem cd_gt (hu : X.A.units + 64 < cLine) : CmpD X .Gt gGt := ⟨_, op_cmp (fun s a b da db as bs Q E r1 r2 c1 c2 u q => PySem.W.gt_data r1 r2 c1 c2 u q) hu, sem_cmp⟩
theorem cd_le (hu : X.A.units + 64 < cLine) : CmpD X .LtE gLe := ⟨_, op_cmp (fun s a b da db as bs Q E r1 r2 c1 c2 u q => PySem.W.le_data r1 r2 c1 c2 u q) hu, sem_cmp⟩
theorem cd_ge (hu : X.A.units + 64 < cLine) : CmpD X .GtE gGe := ⟨_, op_cmp (fun s a b da db as bs Q E r1 r2 c1 c2 u q => PySem.W.ge_data r1 r2 c1 c2 u q) hu, sem_cmp⟩
theorem cd_in (hu : X.A.units + 65 < cLine) : CmpD X .In gIn := ⟨_, op_inA hu, by
    intro B H x y dx dy P Q hx hy sb ⟨s1, s2, cc, hc, p⟩ k
    exact ⟨dx, dy, cc, (Dp.mono sb hx).to, (Dp.mono sb hy).to, s1, s2, hc, k _ _ p (sc_bl _)⟩⟩
theorem cd_notIn (hu : X.A.units + 65 < cLine) : CmpD X .NotIn gNotIn := ⟨_, op_notInA hu, by
    intro B H x y dx dy P Q hx hy sb ⟨s1, s2, cc, hc, p⟩ k
    exact ⟨dx, dy, cc, (Dp.mono sb hx).to, (Dp.mono sb hy).to, s1, s2, hc, k _ _ p (sc_bl _)⟩⟩
theorem cd_is : CmpD X .Is gIs := ⟨_, OpR.or op_isN op_isBl, by
    intro B H x y dx dy P Q hx hy sb ⟨cc, hc, p⟩ k
    cases hy with
    | non =>
      refine .inl ⟨rfl, ?_⟩
      have e : Sc (.bool cc) (.bl (decide (x = .non))) := by
        cases hx <;> cases hc <;> exact sc_bl _
      exact k _ _ p e
    | bl j =>
      cases hx with
      | bl i => cases hc; exact .inr ⟨i, j, rfl, rfl, k _ _ p (sc_bl _)⟩
      | _ => cases hc
    | _ => cases hx <;> cases hc⟩
theorem cd_isNot : CmpD X .IsNot gIsNot := ⟨_, OpR.or op_notN op_notBl, by
    intro B H x y dx dy P Q hx hy sb ⟨cc, hc, p⟩ k
    cases hy with
    | non =>
      refine .inl ⟨rfl, ?_⟩
      have e : Sc (.bool (!cc)) (.bl (!decide (x = .non))) := by
        cases hx <;> cases hc <;> exact sc_bl _
      exact k _ _ p e
    | bl j =>
      cases hx with
      | bl i => cases hc; exact .inr ⟨i, j, rfl, rfl, k _ _ p (sc_bl _)⟩
      | _ => cases hc
    | _ => cases hx <;> cases hc⟩
theorem dt_cp {op : CmpOp} {g : G2} (hg : CmpD X op g) (ha : DE X b1 a t1) (hb : DE X b2 b t2) (hm : behindInMarks op b = false := by first | exact nomark _ | with_unfolding_all rfl) : DT X (.Compare a [op] [b] pos) (dB (d2 g t1 t2)) := by
  obtain ⟨r, ho, hs⟩ := hg.ex
  exact ⟨PT.imp (pt_cmpR ho ha.run hb.run hm) fun σ H Q ⟨gh, n, δ, S, Vs, P, sr, ht, k⟩ => ⟨gh, n, δ, S, Vs, _, sr, ht, fun d m v H' S' Vs' p sr' s1 s2 rp =>
    ⟨gh, m, δ, S', Vs', _, sr', p, fun d2 m2 v2 H2 S2 V2 p2 sr2 t1 t2 rp2 =>
      hs V2 H2 v v2 d d2 _ _ (Dp.mono t2 (Rp.dp rp sr'.SV)) (Rp.dp rp2 sr2.SV) sr2.VH p2 fun d3 v3 ⟨c, e3, p3⟩ o => by
        subst e3
        cases o X.K H2
        exact ⟨c, rfl, k c m2 H2 S2 V2 p3 sr2 (s1.trans t1) (s2.trans t2)⟩⟩⟩⟩
end
/-! ### a list times an int -/
section
variable {X : Cx} {K : PySem.W.Frag} {a b : Expr} {pos : Pos} {t1 t2 : DTE} {b1 b2 : Bool}
theorem dpAll_rep {H : Hp} {xs : List V} {ds : List D} (h : DpAll K H xs ds) : ∀ k : Nat, DpAll K H (List.replicate k xs).flatten (List.replicate k ds).flatten
  | 0 => .nil
  | k + 1 => by
    rw [List.replicate_succ, List.replicate_succ, List.flatten_cons, List.flatten_cons]
    exact h.append (dpAll_rep h k)
def gRep : G2 := fun x y P => ∃ ds k, x = .list ds ∧ y = .int k ∧ -(2 ^ 63) ≤ k ∧ k < 2 ^ 63 ∧ ds.length * k.toNat ≤ sizeLine ∧ P (.list (List.replicate k.toNat ds).flatten)
theorem de_rep (ha : DE X true a t1) (hb : DE X true b t2) : DE X true (.BinOp a .Mult b pos) (d2 gRep t1 t2) :=
  de_bin (fun _ _ h1 h2 => pe_op op_rep h1 h2) (by
    intro B H x y dx dy P Q hx hy sb ⟨ds, k, e1, e2, c1, c2, z, p⟩ q
    subst e1 e2
    cases hy
    cases hx with
    | lst h1 h2 => exact ⟨_, k, _, rfl, rfl, sb _ _ h1, c1, c2, by rw [h2.length]; exact z, fun p' hp => q _ _ _ p (.lst hp (dpAll_rep h2 _))⟩) ha hb
end
end DL
/-! DL11: slices. -/
namespace DL
open PySem PySem.Spec L2
abbrev DTO := DS → Nat → (Option Int → Nat → Prop) → Prop
section
variable {X : Cx} {K : PySem.W.Frag} {e a b : Expr} {pos p2 : Pos} {t1 t2 : DTE} {b1 b2 : Bool} {lo hi : Option Expr} {tl th : DTO}
def lO (K : PySem.W.Frag) (t : DTO) : TO := fun σ H Q => ∃ g n δ S Vs P, SR K g n δ σ H S Vs ∧ t δ n P ∧
  ∀ o m H' S' Vs', P o m → SR K g m δ σ H' S' Vs' → Same S S' → Same Vs Vs' → Q o H'
structure DO (X : Cx) (e : Option Expr) (t : DTO) : Prop where
  run : PO X e (lO X.K t)
theorem PO.imp {o : Option Expr} {t u : TO} (h : PO X o t) (hi : ∀ σ H Q, u σ H Q → t σ H Q) : PO X o u := ⟨fun pins s σ H Q I q => h.run pins s σ H Q I (hi σ H Q q)⟩
def oNone : DTO := fun _ n Q => Q none n
def oSome (t : DTE) : DTO := fun δ n Q => t δ n fun d m => ∃ i, d = .int i ∧ Q (some i) m
theorem do_none : DO X none oNone := ⟨PO.imp po_none fun σ H Q ⟨g, n, δ, S, Vs, P, sr, ht, k⟩ => k none n H S Vs ht sr (Same.refl _) (Same.refl _)⟩
theorem do_some (h : DE X b1 e t1) : DO X (some e) (oSome t1) := ⟨PO.imp (po_some h.run) fun σ H Q ⟨g, n, δ, S, Vs, P, sr, ht, k⟩ => ⟨g, n, δ, S, Vs, _, sr, ht, fun d m v H' S' Vs' p sr' s1 s2 r => by
  obtain ⟨i, rfl, p⟩ := p
  have r' := Rp.dp r sr'.SV
  cases r'
  exact ⟨i, rfl, k _ m H' S' Vs' p sr' s1 s2⟩⟩⟩
def cutD (ds : List D) (lo hi : Option Int) : List D := (ds.drop (HT.sIx ds.length 0 lo)).take (HT.sIx ds.length ds.length hi - HT.sIx ds.length 0 lo)
theorem DpAll.cut {H : Hp} {xs : List V} {ds : List D} (h : DpAll K H xs ds) (lo hi : Option Int) : DpAll K H (cutV xs lo hi) (cutD ds lo hi) := by
  unfold cutV cutD
  rw [h.length]
  exact (h.drop _).take _
def gSl (d : D) (lo hi : Option Int) (P : D → Prop) : Prop := match d with
  | .list ds => P (.list (cutD ds lo hi))
  | .tuple ds => P (.tuple (cutD ds lo hi))
  | .str z => z.length ≤ sizeLine ∧ P (.str (cutS z lo hi))
  | _ => False
def dSl (t : DTE) (tl th : DTO) : DTE := fun δ n Q => t δ n fun d m => tl δ m fun l k => th δ k fun u j => gSl d l u fun x => Q x j
def lsl (K : PySem.W.Frag) : V → Option Int → Option Int → Hp → VK → Prop := fun x lo hi H Q => (rSlL K x lo hi H Q ∨ rSlA K x lo hi H Q) ∨ rSlS x lo hi H Q
theorem de_slice (ha : DE X b1 a t1) (hl : DO X lo tl) (hh : DO X hi th) : DE X true (.Subscript a (.Slice lo hi none p2) pos) (dSl t1 tl th) :=
  ⟨PE.imp (pe_slice (SlR.or (SlR.or sl_list sl_tupA) sl_str) ha.run hl.run hh.run) fun σ H Q ⟨g, n, δ, S, Vs, P, sr, ht, k⟩ => ⟨g, n, δ, S, Vs, _, sr, ht, fun d m v H' S' Vs' p sr' s1 s2 r =>
    ⟨g, m, δ, S', Vs', _, sr', p, fun l m2 H2 S2 V2 p2 sr2 q1 q2 => ⟨g, m2, δ, S2, V2, _, sr2, p2, fun u m3 H3 S3 V3 p3 sr3 r1 r2 => by
      have rr := (Rp.mono r (q1.trans r1) (q2.trans r2)).br
      have fin : ∀ d2 v2 H4, P d2 m3 → Out X.K S3 H3 d2 v2 H4 → Q v2 H4 := fun d2 v2 H4 p4 o => by
        obtain ⟨S4, V4, sr4, z1, z2, z3⟩ := sr3.out o
        exact k d2 m3 v2 H4 S4 V4 p4 sr4 (((s1.trans q1).trans r1).trans z1) (((s2.trans q2).trans r2).trans z2) z3
      cases d with
      | list ds =>
        obtain ⟨a', xs, rfl, hd, h | h⟩ := brep_items rr rfl
        · obtain ⟨es, e1, h⟩ := h
          cases e1
          refine .inl (.inl ⟨a', xs, rfl, SqL.of (h.elim (sr3.SH _ _) (sr3.VH _ _)), fun q hq => fin _ _ _ p3 (.lst hq (hd.cut _ _))⟩)
        · obtain ⟨es, e1, h⟩ := h
          cases e1
      | tuple ds =>
        obtain ⟨a', xs, rfl, hd, h | h⟩ := brep_items rr rfl
        · obtain ⟨es, e1, h⟩ := h
          cases e1
        · obtain ⟨es, e1, h⟩ := h
          cases e1
          refine .inl (.inr ⟨a', xs, rfl, sqt_mono sr3.SH h, fun w => fin _ _ _ p3 ?_, fun w q hq => fin _ _ _ p3 (.tup hq (hd.cut _ _))⟩)
          have ec : cutD ds l u = ds := by
            unfold cutD
            rw [hd.length] at w
            rw [w.1, w.2, List.drop_zero, Nat.sub_zero, List.take_length]
          rw [ec]
          exact .same (.tup h hd)
      | str z =>
        have r' := BRep.dp rr sr3.SV
        cases r'
        exact .inr ⟨z, rfl, p3.1, fin _ _ _ p3.2 (sc_str _).out⟩
      | _ => exact (show False from p3).elim⟩⟩⟩⟩
/-- a slice of a list as a new list -/
def aSl (t : DTE) (tl th : DTO) : DTA := fun δ n Q => t δ n fun d m => tl δ m fun l k => th δ k fun u j => ∃ ds, d = .list ds ∧ Q (cutD ds l u) j
theorem dl_slice (ha : DE X b1 a t1) (hl : DO X lo tl) (hh : DO X hi th) : DL X (.Subscript a (.Slice lo hi none p2) pos) (aSl t1 tl th) :=
  ⟨PE.imp (pe_slice sl_list ha.run hl.run hh.run) fun σ H Q ⟨g, n, δ, S, Vs, P, sr, ht, k⟩ => ⟨g, n, δ, S, Vs, _, sr, ht, fun d m v H' S' Vs' p sr' s1 s2 r =>
    ⟨g, m, δ, S', Vs', _, sr', p, fun l m2 H2 S2 V2 p2 sr2 q1 q2 => ⟨g, m2, δ, S2, V2, _, sr2, p2, fun u m3 H3 S3 V3 p3 sr3 r1 r2 => by
      have rr := (Rp.mono r (q1.trans r1) (q2.trans r2)).br
      obtain ⟨ds, rfl, p3⟩ := p3
      obtain ⟨a', xs, rfl, hd, h | h⟩ := brep_items rr rfl
      · obtain ⟨es, e1, h⟩ := h
        cases e1
        exact ⟨a', xs, rfl, SqL.of (h.elim (sr3.SH _ _) (sr3.VH _ _)), fun q hq => k _ m3 q _ _ S3 V3 p3 (sr3.temp hq) ((s1.trans q1).trans r1) ((s2.trans q2).trans r2) upd_same (sr3.vN hq) (sr3.h0 hq) (sr3.notW hq) (hd.cut _ _)⟩
      · obtain ⟨es, e1, h⟩ := h
        cases e1⟩⟩⟩⟩
end
end DL
/-! DL12: the script; the drawing dict's making. -/
namespace DL
open PySem PySem.Spec L2
section
variable {X : Cx} {K : PySem.W.Frag} {e a b tg : Expr} {pos p p2 : Pos} {t1 t2 : DTE} {b1 b2 : Bool} {lo hi : Option Expr} {tl th : DTO}
def intsD (ns : List Int) : List D := ns.map PyData.int
theorem intsD_dp {H : Hp} : ∀ ns : List Int, DpAll K H (ns.map V.int) (intsD ns)
  | [] => .nil
  | x :: r => .cons (.int x) (intsD_dp r)
theorem intsD_inv {S : Hp} : ∀ {far : List Int} {xs : List V}, DpAll K S xs (intsD far) → xs = far.map V.int
  | [], _, .nil => rfl
  | x :: r, _, .cons h t => by
    cases h
    rw [intsD_inv t]
    rfl
def aScr (i : Nat) (tl th : DTO) : DTA := fun δ n Q => ∃ ns, δ[i]? = some (some (.scr ns)) ∧ tl δ n fun l m => th δ m fun u k => Q (cutD (intsD ns) l u) k
theorem SR.scr {g : Gh} {n : Nat} {δ : DS} {σ : L2.St} {H S Vs : Hp} (sr : SR K g n δ σ H S Vs) {i : Nat} {ns : List Int} (h : δ[i]? = some (some (.scr ns))) : ∃ a, σ[i]? = some (some (.ref a)) ∧ SqL K H a (ns.map V.int) := by
  obtain ⟨v, e1, a, rfl, hs⟩ := sr.slots i _ h
  exact ⟨a, e1, (sr.S0S.trans sr.SH).seq hs⟩
theorem dl_scrSl {i : Nat} (ha : PE X a (tVar i)) (hl : DO X lo tl) (hh : DO X hi th) : DL X (.Subscript a (.Slice lo hi none p2) pos) (aScr i tl th) :=
  ⟨PE.imp (pe_slice sl_list ha hl.run hh.run) fun σ H Q ⟨g, n, δ, S, Vs, P, sr, ⟨ns, ei, ht⟩, k⟩ => by
    obtain ⟨a, ea, hs⟩ := sr.scr ei
    exact ⟨_, ea, g, n, δ, S, Vs, _, sr, ht, fun l m H1 S1 V1 p1 sr1 q1 q2 => ⟨g, m, δ, S1, V1, _, sr1, p1, fun u j H2 S2 V2 p2 sr2 r1 r2 => by
      obtain ⟨a2, ea2, hs2⟩ := sr2.scr ei
      rw [ea] at ea2
      cases ea2
      exact ⟨a, _, rfl, hs2, fun q hq => k _ j q _ _ S2 V2 p2 (sr2.temp hq) (q1.trans r1) (q2.trans r2) upd_same (sr2.vN hq) (sr2.h0 hq) (sr2.notW hq) ((intsD_dp ns).cut _ _)⟩⟩⟩⟩
def dScrLen (i : Nat) : DTE := fun δ n Q => ∃ ns, δ[i]? = some (some (.scr ns)) ∧ Q (.int ns.length) n
theorem de_scrLen {i : Nat} (hg : Gl X "len") (hm : X.mg "len" = none) (ha : PE X a (tVar i)) (he : starEach (a :: []) X.env = (false, eval a X.env) :: starEach [] X.env := by rfl) (hpl : (backTo pos (starEach [] X.env)).any (·.1) = false := by rfl) :
    DE X true (.Call (.Name "len" p) [a] [] pos) (dScrLen i) :=
  ⟨PE.imp (pe_callB call_len_seq hg hm PySem.boot_len (pa_cons ha pa_nil he) (by decide) (by decide) he hpl) fun σ H Q ⟨g, n, δ, S, Vs, P, sr, ⟨ns, ei, ht⟩, k⟩ => by
    obtain ⟨a, ea, hs⟩ := sr.scr ei
    refine ⟨_, ea, a, ns.map V.int, rfl, .inl hs, ?_⟩
    rw [List.length_map]
    exact k _ n _ H S Vs ht sr (Same.refl _) (Same.refl _) (sc_int _ _ _)⟩
theorem walk_s {B S : Hp} {l : Addr} {xs : List V} {ds : List D} (h : SqL K B l xs) (hd : DpAll K S xs ds) : WalkD K (Itl K l) B S ds := fun i H s => by
  have q : SqL K H l xs := s.seq h
  refine ⟨fun d e => ?_, fun hl => ⟨xs, q, by rw [hd.length]; exact hl⟩⟩
  obtain ⟨v, e1, r⟩ := hd.get' e
  refine ⟨⟨xs, v, q, e1⟩, fun x H' ⟨e2, f⟩ => ?_⟩
  subst e2
  have := f _ q
  rw [e1] at this
  cases this
  exact .same r
def iScr (i : Nat) : DTA := fun δ n Q => ∃ ns, δ[i]? = some (some (.scr ns)) ∧ Q (intsD ns) n
theorem di_scr {i : Nat} (ha : PE X a (tVar i)) : DI X true tg a (iScr i) :=
  ⟨PI.imp (pi_list ha) fun σ H R ⟨g, n, δ, S, Vs, P, sr, ⟨ns, ei, ht⟩, k⟩ => by
    obtain ⟨v, e1, a, rfl, hs⟩ := sr.slots _ _ ei
    have hs1 := sr.S0S.seq hs
    refine ⟨_, e1, a, rfl, ⟨_, sr.SH.seq hs1⟩, k _ H S Vs (intsD ns) n ht sr (Same.refl _) (Same.refl _) ?_⟩
    rw [if_pos rfl]
    exact walk_s hs1 (intsD_dp ns)⟩
/-! ### the drawing dict made -/
theorem start_scr {H : Hp} {a : Addr} {ns : List Int} {n : Nat} {N : List Str} (hS : SqL K H a (ns.map V.int)) (hN : 1 ≤ N.length) :
    SR K ⟨none, H, H, []⟩ n (some (.scr ns) :: List.replicate (N.length - 1) none) (L2.start N [.ref a]) H H H := by
  have key : ∀ (i : Nat) x, (some (DV.scr ns) :: List.replicate (N.length - 1) none)[i]? = some (some x) → i = 0 ∧ x = .scr ns := fun i x e => by
    cases i with
    | zero => simp at e; exact ⟨rfl, e.symm⟩
    | succ i =>
      rw [List.getElem?_cons_succ, List.getElem?_replicate] at e
      split at e <;> cases e
  refine ⟨Same.refl _, Same.refl _, Same.refl _, fun b o e => .inl e, fun b o e _ => e, fun b ⟨r, f, e, _⟩ => (by cases e), fun b o e => .inl e, fun r f e => (by cases e), ?_, fun i x e => ?_, fun i j ds es _ e _ => ?_, fun a ha => by cases ha⟩
  · unfold L2.start
    simp
  · obtain ⟨rfl, rfl⟩ := key i x e
    exact ⟨.ref a, by unfold L2.start; rfl, a, rfl, hS⟩
  · obtain ⟨_, z⟩ := key i _ e
    cases z
theorem rl_mk {g : Gh} {n : Nat} {δ : DS} {σ : L2.St} {H S Vs : Hp} (hg : g.W = none) (sr : SR K g n δ σ H S Vs) {i : Nat} {flow : Int} (hf : δ[i]? = some (some (.dat (.int flow)))) (h0 : 0 ≤ flow) (h1 : flow < 4294967296)
    {ta : DTA} (hta : ta δ n fun ds _ => ∃ far : List Int, ds = intsD far ∧ (∀ x ∈ far, 0 ≤ x) ∧ far.length ≤ 64) {Q : VK} (hQ : ∀ r f H', Same g.H0 H' → g.H0 r = none → g.H0 f = none → RillOk H' r f N0 → Q (.ref r) H') :
    tDisp [(tC (.str (Str.ofString "far")), lL K ta), (tC (.str (Str.ofString "flow")), tVar i), (tC (.str (Str.ofString "turn")), tC (.int 0))] σ H Q := by
  intro p hp
  refine ⟨g, n, δ, upd S p (.dK []), upd Vs p (.dK []), _, sr.alloc hp, hta, fun ds m q xs H1 S1 V1 ⟨far, e1, e2, e3⟩ sr1 q1 q2 e4 e5 e6 e7 e8 => ?_⟩
  obtain ⟨v, ev, dv⟩ := sr1.slots i _ hf
  cases (show DL.Dp K S1 v (.int flow) from dv)
  refine ⟨_, ev, ?_⟩
  have hpS : S1 p = some (.dK []) := q1 _ _ upd_same
  have hpH : H1 p = some (.dK []) := sr1.SH _ _ hpS
  refine ⟨hpH, rdic q flow 0, rfl, by show 3 ≤ 15; decide, ?_⟩
  rw [rm_disp]
  have np : g.H0 p = none := sr.h0 hp
  have npq : p ≠ q := fun z => by subst z; rw [hpH] at e4; cases e4
  have hx : xs = far.map V.int := intsD_inv (e1 ▸ e8)
  subst hx
  refine hQ p q _ (fun b o e => ?_) np e6 ⟨npq, far, flow, 0, upd_same, ?_, e2, e3, h0, by omega, by decide, ?_⟩
  · rw [upd_ne (ne_of_none e np)]
    exact sr1.base b o e fun ⟨r, f, z, _⟩ => by rw [hg] at z; cases z
  · rw [upd_ne npq.symm]; exact e4
  · unfold N0; decide
end
/-- two statements by data, then what is raw -/
theorem lS_two {K : PySem.W.Frag} {t u : DTS} {raw : TS} {D : Ends} {σ : L2.St} {H : Hp} (g : Gh) (n : Nat) (δ : DS) (S Vs : Hp) (C : DS → Nat → Prop) (hT : g.T = []) (sr : SR K g n δ σ H S Vs)
    (h : t ⟨fun δ n => u ⟨C, fun _ _ => False, fun _ _ => False, fun _ _ => False⟩ δ n, fun _ _ => False, fun _ _ => False, fun _ _ => False⟩ δ n)
    (hC : ∀ δ' m σ' H' S' Vs', C δ' m → SR K g m δ' σ' H' S' Vs' → Same S S' → raw D σ' H') : tSeq (lS K t) (tSeq (lS K u) raw) D σ H :=
  ⟨g, n, δ, S, Vs, _, hT, sr, h, fun δ' m σ' H' S' Vs' q sr' s => ⟨g, m, δ', S', Vs', _, hT, sr', q, fun δ2 m2 σ2 H2 S2 V2 q2 sr2 s2 => hC δ2 m2 σ2 H2 S2 V2 q2 sr2 (s.trans s2), fun _ _ _ _ _ _ _ _ q => q.elim, fun _ _ _ _ _ _ q => q.elim, fun _ _ _ _ _ _ q => q.elim⟩,
    fun _ _ _ _ _ _ _ _ q => q.elim, fun _ _ _ _ _ _ q => q.elim, fun _ _ _ _ _ _ q => q.elim⟩
theorem cut_all {l : List Int} {k : Nat} (h : l.length ≤ k) : cutD (intsD l) none (some (k : Int)) = intsD l := by
  unfold cutD intsD
  rw [List.length_map, HT.sIx_none, HT.sIx_nat, List.drop_zero, Nat.sub_zero, Nat.min_eq_right h]
  exact List.take_of_length_le (by simp)
end DL
/-! DM: readings evaluated: loops, comprehensions, equality and membership of typed data. -/
namespace DL
open PySem PySem.Spec L2
section
variable {α β : Type} {γ : DTG} {u : DTT} {t : DTE} {δ : DS} {tb : DTS} {E : DEnds}
/-- a comprehension that draws nothing -/
theorem compR_map {e : α → D} (p : α → Bool) (f : α → D) {m : Nat} {Q : List D → Nat → Prop} : ∀ (l : List α) (acc : List D),
    (∀ x ∈ l, ∀ (A : D → Nat → Prop) (B : Nat → Prop), (p x = true → A (f x) m) → (p x = false → B m) → γ (e x) δ fun δ1 => u δ1 m fun b k => if b = true then t δ1 k A else B k) →
    Q (acc ++ (l.filter p).map f) m → compR γ u t δ (l.map e) acc m Q
  | [], acc, h, q => by simpa [compR] using q
  | x :: r, acc, h, q => by
    rw [List.map_cons, compR]
    refine h x List.mem_cons_self _ _ (fun hp => ?_) fun hp => ?_
    · refine compR_map p f r _ (fun y hy => h y (List.mem_cons_of_mem _ hy)) ?_
      rw [List.filter_cons_of_pos hp, List.map_cons] at q
      rw [List.append_assoc]
      exact q
    · refine compR_map p f r _ (fun y hy => h y (List.mem_cons_of_mem _ hy)) ?_
      rw [List.filter_cons_of_neg (by simp [hp])] at q
      exact q
/-- each turn may draw, at most c times; what comes out keeps I -/
theorem compR_inv {e : α → D} (I : List α → List D → Nat → Prop) {Q : List D → Nat → Prop} : ∀ (l : List α) (acc : List D) (m : Nat), I l acc m →
    (∀ x r acc m, x ∈ l → I (x :: r) acc m → ∀ (A : D → Nat → Prop) (B : Nat → Prop), (∀ d k, I r (acc ++ [d]) k → A d k) → (∀ k, I r acc k → B k) → γ (e x) δ fun δ1 => u δ1 m fun b k => if b = true then t δ1 k A else B k) →
    (∀ acc m, I [] acc m → Q acc m) → compR γ u t δ (l.map e) acc m Q
  | [], acc, m, hi, h, q => by
    rw [List.map_nil, compR]
    exact q acc m hi
  | x :: r, acc, m, hi, h, q => by
    rw [List.map_cons, compR]
    exact h x r acc m List.mem_cons_self hi _ _ (fun d k hk => compR_inv I r _ k hk (fun y s a b hy => h y s a b (List.mem_cons_of_mem _ hy)) q) fun k hk => compR_inv I r _ k hk (fun y s a b hy => h y s a b (List.mem_cons_of_mem _ hy)) q
/-- a loop by what holds ahead of what is left -/
theorem forR_inv {e : α → D} (I : List α → DS → Nat → Prop) : ∀ (l : List α) (δ : DS) (n : Nat), I l δ n →
    (∀ x r δ n, x ∈ l → I (x :: r) δ n → ∀ N : DS → Nat → Prop, (∀ δ2 m, I r δ2 m → N δ2 m) → γ (e x) δ fun δ1 => tb { nx := N, ct := N, bk := E.nx, rt := E.rt } δ1 n) →
    (∀ δ n, I [] δ n → E.nx δ n) → forR γ tb E (l.map e) δ n
  | [], δ, n, hi, h, q => by
    rw [List.map_nil, forR]
    exact q δ n hi
  | x :: r, δ, n, hi, h, q => by
    rw [List.map_cons, forR]
    exact h x r δ n List.mem_cons_self hi _ fun δ2 m hm => forR_inv I r δ2 m hm (fun y s a b hy => h y s a b (List.mem_cons_of_mem _ hy)) q
/-- a while loop by a measure -/
theorem whR_inv {c : DTT} (I : DS → Nat → Prop) (μ : DS → Nat) (h : ∀ δ n, I δ n → ∀ N : DS → Nat → Prop, (∀ δ2 m, I δ2 m → μ δ2 < μ δ → N δ2 m) → c δ n fun b m => if b = true then tb { nx := N, ct := N, bk := E.nx, rt := E.rt } δ m else E.nx δ m) :
    ∀ (k : Nat) (δ : DS) (n : Nat), μ δ < k → I δ n → whR c tb E k δ n
  | 0, δ, n, hk, _ => absurd hk (Nat.not_lt_zero _)
  | k + 1, δ, n, hk, hi => by
    rw [whR]
    exact h δ n hi _ fun δ2 m hm hl => whR_inv I μ h k δ2 m (Nat.lt_of_lt_of_le hl (Nat.le_of_lt_succ hk)) hm
end
/-! ### equality of typed data -/
structure EqE {α : Type} [DecidableEq α] (e : α → D) : Prop where
  eq : ∀ x y, PyData.eqv (e x) (e y) = decide (x = y)
section
variable {α β : Type} [DecidableEq α] [DecidableEq β] {e : α → D} {f : β → D}
theorem eqvAll_map (h : EqE e) : ∀ x y : List α, PyData.eqvAll (x.map e) (y.map e) = decide (x = y)
  | [], [] => rfl
  | [], _ :: _ => by simp [PyData.eqvAll]
  | _ :: _, [] => by simp [PyData.eqvAll]
  | a :: x, b :: y => by
    rw [List.map_cons, List.map_cons, PyData.eqvAll, h.eq, eqvAll_map h x y]
    simp
theorem eqe_int : EqE PyData.int := ⟨fun x y => by rw [PyData.eqv]; by_cases h : x = y <;> simp [h]⟩
theorem eqe_str : EqE PyData.str := ⟨fun x y => by rw [PyData.eqv]; by_cases h : x = y <;> simp [h]⟩
theorem eqe_tup (h : EqE e) : EqE fun l : List α => PyData.tuple (l.map e) := ⟨fun x y => by rw [PyData.eqv]; exact eqvAll_map h x y⟩
theorem eqe_lst (h : EqE e) : EqE fun l : List α => PyData.list (l.map e) := ⟨fun x y => by rw [PyData.eqv]; exact eqvAll_map h x y⟩
theorem eqe_pair (h : EqE e) (k : EqE f) : EqE fun p : α × β => PyData.tuple [e p.1, f p.2] := ⟨fun x y => by
  rw [PyData.eqv, PyData.eqvAll, PyData.eqvAll, PyData.eqvAll, h.eq, k.eq]
  obtain ⟨a, b⟩ := x
  obtain ⟨c, d⟩ := y
  simp⟩
theorem any_map (h : EqE e) (x : α) : ∀ l : List α, (l.map e).any (fun z => PyData.eqv z (e x)) = decide (x ∈ l)
  | [] => rfl
  | y :: r => by
    rw [List.map_cons, List.any_cons, any_map h x r, h.eq]
    by_cases q : y = x
    · simp [q]
    · have q' : ¬ x = y := fun z => q z.symm
      simp [q, q']
theorem dIn_tup (h : EqE e) (x : α) (l : List α) : dIn (e x) (.tuple (l.map e)) = some (decide (x ∈ l)) := congrArg some (any_map h x l)
theorem dIn_lst (h : EqE e) (x : α) (l : List α) : dIn (e x) (.list (l.map e)) = some (decide (x ∈ l)) := congrArg some (any_map h x l)
end
/-! ### shapes -/
/-- lays, and no deeper than m -/
structure Shp (m : Nat) (d : D) : Prop where
  lay : d.canLay0 = true
  dep : d.depth ≤ m
structure ShpAll (m : Nat) (ds : List D) : Prop where
  lay : PyData.canLayAll0 ds = true
  dep : PyData.depthAll ds ≤ m
section
variable {m m' : Nat} {d : D} {ds : List D}
theorem Shp.mono (h : Shp m d) (h1 : m ≤ m') : Shp m' d := ⟨h.lay, Nat.le_trans h.dep h1⟩
theorem Shp.sh (h : Shp m d) (hm : m ≤ 64 := by decide) : SeqAt.shaped d = true := by
  unfold SeqAt.shaped
  rw [h.lay, decide_eq_true (Nat.le_trans h.dep hm)]; rfl
theorem shp_int (i : Int) : Shp m (.int i) := ⟨rfl, by simp [PyData.depth]⟩
theorem shp_str (i : Str) (h : PyData.strOk i = true) : Shp m (.str i) := ⟨by rw [PyData.canLay0]; exact h, by simp [PyData.depth]⟩
theorem shp_bool (i : Bool) : Shp m (.bool i) := ⟨rfl, by simp [PyData.depth]⟩
theorem shp_none : Shp m .none := ⟨rfl, by simp [PyData.depth]⟩
theorem ShpAll.nil : ShpAll m [] := ⟨rfl, by simp [PyData.depthAll]⟩
theorem ShpAll.cons (h : Shp m d) (t : ShpAll m ds) : ShpAll m (d :: ds) := ⟨by rw [PyData.canLayAll0, h.lay, t.lay]; rfl, by rw [PyData.depthAll]; exact Nat.max_le.mpr ⟨h.dep, t.dep⟩⟩
theorem ShpAll.tup (h : ShpAll m ds) : Shp (m + 1) (.tuple ds) := ⟨by rw [PyData.canLay0]; exact h.lay, by rw [PyData.depth]; exact Nat.succ_le_succ h.dep⟩
theorem ShpAll.lst (h : ShpAll m ds) : Shp (m + 1) (.list ds) := ⟨by rw [PyData.canLay0]; exact h.lay, by rw [PyData.depth]; exact Nat.succ_le_succ h.dep⟩
theorem ShpAll.map {α : Type} {e : α → D} {l : List α} (h : ∀ x ∈ l, Shp m (e x)) : ShpAll m (l.map e) := by
  induction l with
  | nil => exact .nil
  | cons x r ih =>
    rw [List.map_cons]
    exact .cons (h x List.mem_cons_self) (ih fun y hy => h y (List.mem_cons_of_mem _ hy))
end
def rowD (r : List Int) : D := .tuple (intsD r)
theorem eqe_row : EqE rowD := eqe_tup eqe_int
theorem shp_row (r : List Int) : Shp 1 (rowD r) := (ShpAll.map (m := 0) fun x _ => shp_int x).tup
theorem rangeD_ints (lo : Int) (n : Nat) : rangeD lo n = intsD ((List.range n).map fun i : Nat => lo + i) := by
  unfold rangeD intsD
  rw [List.map_map]
  rfl
theorem atI_nat' {α : Type} (xs : List α) (k : Nat) : L2.atI xs (k : Int) = xs[k]? := by
  unfold L2.atI ixN
  rw [if_pos (by omega)]
  by_cases h : k < xs.length
  · rw [if_pos (by omega)]
    simp
  · rw [if_neg (by omega)]
    simp at h
    simp [h]
theorem atI0 {α : Type} (xs : List α) : L2.atI xs 0 = xs[0]? := atI_nat' xs 0
theorem atI1 {α : Type} (xs : List α) : L2.atI xs 1 = xs[1]? := atI_nat' xs 1
theorem atI2 {α : Type} (xs : List α) : L2.atI xs 2 = xs[2]? := atI_nat' xs 2
theorem atI3 {α : Type} (xs : List α) : L2.atI xs 3 = xs[3]? := atI_nat' xs 3
theorem atI4 {α : Type} (xs : List α) : L2.atI xs 4 = xs[4]? := atI_nat' xs 4
theorem atI5 {α : Type} (xs : List α) : L2.atI xs 5 = xs[5]? := atI_nat' xs 5
theorem atIm {α : Type} (xs : List α) (h : xs ≠ []) : L2.atI xs (-1) = xs.getLast? := by
  unfold L2.atI ixN
  have hl : 0 < xs.length := List.length_pos_iff.mpr h
  rw [if_neg (by decide), if_pos (by omega), List.getLast?_eq_getElem?]
  have : (-1 + (xs.length : Int)).toNat = xs.length - 1 := by omega
  show xs[(-1 + (xs.length : Int)).toNat]? = _
  rw [this]
end DL
/-! DS: rewriting rules of readings. -/
namespace DL
open PySem PySem.Spec L2
section
variable {d x y : D} {ds es : List D} {δ : DS} {n i k : Nat} {Q : D → Nat → Prop} {P : D → Prop} {a b : Int} {z : Option DV} {f : Int → Int → D} {C : Int → Int → Prop} {c : Bool}
theorem x_dVar : dVar i δ n Q = ∃ d, δ[i]? = some (some (.dat d)) ∧ Q d n := rfl
theorem x_var0 : dVar 0 (some (.dat d) :: δ) n Q = Q d n := by simp [dVar]
theorem x_varS : dVar (i + 1) (z :: δ) n Q = dVar i δ n Q := by simp [dVar]
theorem x_own0 : dOwn 0 (some (.own ds) :: δ) n Q = Q (.list ds) n := by simp [dOwn]
theorem x_ownS : dOwn (i + 1) (z :: δ) n Q = dOwn i δ n Q := by simp [dOwn]
theorem x_ixT : gIx (.tuple ds) (.int a) P = ∃ d, L2.atI ds a = some d ∧ P d := rfl
theorem x_ixL : gIx (.list ds) (.int a) P = ∃ d, L2.atI ds a = some d ∧ P d := rfl
theorem x_addI : gAdd (.int a) (.int b) P = P (.int (a + b)) := rfl
theorem x_addT : gAdd (.tuple ds) (.tuple es) P = (ds.length + es.length ≤ sizeLine ∧ P (.tuple (ds ++ es))) := rfl
theorem x_addL : gAdd (.list ds) (.list es) P = (ds.length + es.length ≤ sizeLine ∧ P (.list (ds ++ es))) := rfl
theorem x_gI : gI f (.int a) (.int b) P = P (f a b) := by simp [gI]
theorem x_gIC : gIC C f (.int a) (.int b) P = (C a b ∧ P (f a b)) := by simp [gIC]
theorem x_neg : gNeg (.int a) P = P (.int (-a)) := by simp [gNeg]
theorem x_abs : gAbs (.int a) P = P (.int (if a < 0 then -a else a)) := by simp [gAbs]
theorem x_intI : gInt (.int a) P = P (.int a) := rfl
theorem x_intB : gInt (.bool c) P = P (.int (if c = true then 1 else 0)) := rfl
theorem x_lenT : gLen (.tuple ds) P = P (.int ds.length) := rfl
theorem x_lenL : gLen (.list ds) P = P (.int ds.length) := rfl
theorem x_tupL : gTuple (.list ds) P = P (.tuple ds) := by simp [gTuple, itemsOf]
theorem x_tupT : gTuple (.tuple ds) P = P (.tuple ds) := by simp [gTuple, itemsOf]
theorem x_rep : gRep (.list ds) (.int a) P = (-(2 ^ 63) ≤ a ∧ a < 2 ^ 63 ∧ ds.length * a.toNat ≤ sizeLine ∧ P (.list (List.replicate a.toNat ds).flatten)) := by simp [gRep]
end
section
variable {d x y : D} {ds es : List D} {δ : DS} {n i j k l : Nat} {Q : D → Nat → Prop} {P : D → Prop} {R : DS → Prop} {QA : List D → Nat → Prop} {QR : List Ar → Nat → Prop} {QB : Bool → Nat → Prop} {QO : Option Int → Nat → Prop} {QG : Int → Int → Nat → Prop} {E : DEnds}
  {s s1 s2 tb : DTS} {t t1 t2 : DTE} {ta tb' : DTA} {tr tk : DTR} {u v : DTT} {γ : DTG} {γs : DTGs} {g1 : G1} {g2 : G2} {f : Fn} {lo hi : DTO} {tg : DS → Nat → (Int → Int → Nat → Prop) → Prop} {vs : List Nat} {pm : List Nat}
theorem x_seq : sSeq s1 s2 E δ n = s1 { E with nx := s2 E } δ n := rfl
theorem x_next : sNext E δ n = E.nx δ n := rfl
theorem x_set : sSet i t E δ n = t δ n fun d m => i < δ.length ∧ E.nx (δ.set i (some (.dat d))) m := rfl
theorem x_setL : sSetL i ta E δ n = ta δ n fun ds m => i < δ.length ∧ E.nx (δ.set i (some (.own ds))) m := rfl
theorem x_par : sPar i j ta E δ n = ta δ n fun ds m => ∃ x y, ds = [x, y] ∧ i < δ.length ∧ j < δ.length ∧ E.nx ((δ.set i (some (.dat x))).set j (some (.dat y))) m := rfl
theorem x_asg : sAsg γ t E δ n = t δ n fun d m => γ d δ fun δ' => E.nx δ' m := rfl
theorem x_drop : sDrop t E δ n = t δ n fun _ m => E.nx δ m := rfl
theorem x_app : sApp i t E δ n = ∃ ds, δ[i]? = some (some (.own ds)) ∧ ds.length < sizeLine ∧ t δ n fun d m => E.nx (δ.set i (some (.own (ds ++ [d])))) m := rfl
theorem x_ext : sExt i ta E δ n = ∃ ds, δ[i]? = some (some (.own ds)) ∧ ta δ n fun es m => ds.length + es.length ≤ sizeLine ∧ E.nx (δ.set i (some (.own (ds ++ es)))) m := rfl
theorem x_ret : sRet t E δ n = t δ n E.rt := rfl
theorem x_retN : sRetN E δ n = E.rt .none n := rfl
theorem x_if : sIf u s1 s2 E δ n = u δ n fun c m => if c = true then s1 E δ m else s2 E δ m := rfl
theorem x_frz : sFrz i s E δ n = ∃ ds, δ[i]? = some (some (.own ds)) ∧ s E (δ.set i (some (.dat (.list ds)))) n := rfl
theorem x_for : sFor ta γ tb E δ n = ta δ n fun ds m => forR γ tb E ds δ m := rfl
theorem x_bk : sBk E δ n = E.bk δ n := rfl
theorem x_ct : sCt E δ n = E.ct δ n := rfl
theorem x_d1 : d1 g1 t δ n Q = t δ n fun x m => g1 x fun d => Q d m := rfl
theorem x_d2 : d2 g2 t1 t2 δ n Q = t1 δ n fun x m => t2 δ m fun y k => g2 x y fun d => Q d k := rfl
theorem x_dC : dC d δ n Q = Q d n := rfl
theorem x_dL : dL ta δ n Q = ta δ n fun ds m => Q (.list ds) m := rfl
theorem x_tup : dTup ta δ n Q = ta δ n fun ds m => ds.length ≤ sizeLine ∧ Q (.tuple ds) m := rfl
theorem x_and : dAndV t1 t2 δ n Q = t1 δ n fun d m => ∃ c, d = .bool c ∧ if c = true then t2 δ m Q else Q (.bool false) m := rfl
theorem x_or : dOrV t1 t2 δ n Q = t1 δ n fun d m => ∃ c, d = .bool c ∧ if c = true then Q (.bool true) m else t2 δ m Q := rfl
theorem x_not : dNotV t δ n Q = t δ n fun d m => ∃ c, d = .bool c ∧ Q (.bool (!c)) m := rfl
theorem x_ife : dIf u t1 t2 δ n Q = u δ n fun c m => if c = true then t1 δ m Q else t2 δ m Q := rfl
theorem x_dB : dB t δ n QB = t δ n fun d m => ∃ k, d = .bool k ∧ QB k m := rfl
theorem x_dTr : dTr t δ n QB = t δ n fun d m => (∀ s, d = .str s → s.length ≤ sizeLine) ∧ ∃ k, dTru d = some k ∧ QB k m := rfl
theorem x_dNot : dNot u δ n QB = u δ n fun c m => QB (!c) m := rfl
theorem x_dAnd : dAnd u v δ n QB = u δ n fun c m => if c = true then v δ m QB else QB false m := rfl
theorem x_dOr : dOr u v δ n QB = u δ n fun c m => if c = true then QB true m else v δ m QB := rfl
theorem x_yes : dYes δ n QB = QB true n := rfl
theorem x_aC : aCons t ta δ n QA = t δ n fun d m => ta δ m fun as k => QA (d :: as) k := rfl
theorem x_aN : aNil δ n QA = QA [] n := rfl
theorem x_aSz : aSz ta δ n QA = ta δ n fun ds m => ds.length ≤ sizeLine ∧ QA ds m := rfl
theorem x_aRg : aRg tg δ n QA = tg δ n fun i j m => RgOk i j ∧ QA (rangeD i (j - i).toNat) m := rfl
theorem x_rg1 : rg1 t δ n QG = t δ n fun d m => ∃ j, d = .int j ∧ QG 0 j m := rfl
theorem x_rg2 : rg2 t1 t2 δ n QG = t1 δ n fun d m => t2 δ m fun d2 m2 => ∃ i j, d = .int i ∧ d2 = .int j ∧ QG i j m2 := rfl
theorem x_aList : aList t δ n QA = t δ n fun d m => ∃ ds, itemsOf d = some ds ∧ QA ds m := rfl
theorem x_aSort : aSort t δ n QA = t δ n fun d m => ∃ ds, d = .list ds ∧ PySem.W.AllAlike ds ∧ SortOk ds ∧ (∀ z ∈ ds, z.depth ≤ 60) ∧ QA (sortD ds) m := rfl
theorem x_aSl : aSl t lo hi δ n QA = t δ n fun d m => lo δ m fun l k => hi δ k fun u j => ∃ ds, d = .list ds ∧ QA (cutD ds l u) j := rfl
theorem x_dSl : dSl t lo hi δ n Q = t δ n fun d m => lo δ m fun l k => hi δ k fun u j => gSl d l u fun x => Q x j := rfl
theorem x_aScr : aScr i lo hi δ n QA = ∃ ns, δ[i]? = some (some (.scr ns)) ∧ lo δ n fun l m => hi δ m fun u k => QA (cutD (intsD ns) l u) k := rfl
theorem x_scrLen : dScrLen i δ n Q = ∃ ns, δ[i]? = some (some (.scr ns)) ∧ Q (.int ns.length) n := rfl
theorem x_oN : oNone δ n QO = QO none n := rfl
theorem x_oS : oSome t δ n QO = t δ n fun d m => ∃ i, d = .int i ∧ QO (some i) m := rfl
theorem x_rN : rNil δ n QR = QR [] n := rfl
theorem x_rC : rCons t tr δ n QR = t δ n fun d m => tr δ m fun as k => QR (.d d :: as) k := rfl
theorem x_rRl : rRl i tr δ n QR = (δ[i]? = some (some .rl) ∧ tr δ n fun as k => QR (.rl :: as) k) := rfl
theorem x_call : dCall f tr δ n Q = tr δ n fun as m => f as m Q := rfl
theorem x_callB : dCallB f tr δ n Q = tr δ n fun as m => f as m fun d k => noList d = true ∧ Q d k := rfl
theorem x_callK : dCallK f i j pm tr tk δ n Q = tr δ n fun as m => tk δ m fun bs k => f (gP i j pm as bs) k Q := rfl
theorem x_iSeq : iSeq t δ n QA = ((t δ n fun d m => ∃ ds, d = .list ds ∧ QA ds m) ∨ (t δ n fun d m => ∃ ds, d = .tuple ds ∧ QA ds m)) := rfl
theorem x_iRg1 : iRg1 t δ n QA = t δ n fun d m => ∃ j : Int, d = .int j ∧ -(2 ^ 62) ≤ j ∧ j < 2 ^ 62 ∧ QA (rangeD 0 j.toNat) m := rfl
theorem x_iRg2 : iRg2 t1 t2 δ n QA = t1 δ n fun d m => t2 δ m fun d2 m2 => ∃ i j : Int, d = .int i ∧ d2 = .int j ∧ (-(2 ^ 62) ≤ i ∧ i < 2 ^ 62 ∧ -(2 ^ 62) ≤ j ∧ j < 2 ^ 62) ∧ QA (rangeD i (j - i).toNat) m2 := rfl
theorem x_iEn : iEn t δ n QA = ((t δ n fun d m => ∃ ds, d = .list ds ∧ QA (enumD 0 ds) m) ∨ (t δ n fun d m => ∃ ds, d = .tuple ds ∧ QA (enumD 0 ds) m)) := rfl
theorem x_gNm : gNm i d δ R = (i < δ.length ∧ R (δ.set i (some (.dat d)))) := rfl
theorem x_gTp : gTp γs (.tuple ds) δ R = γs ds δ R := by simp [gTp]
theorem x_gC : gCons' γ γs (d :: ds) δ R = γ d δ fun δ' => γs ds δ' R := propext ⟨fun ⟨_, _, e, h⟩ => by cases e; exact h, fun h => ⟨_, _, rfl, h⟩⟩
theorem x_gN : gNil' [] δ R = R δ := by simp [gNil']
theorem x_gL : gConsL l γ γs (d :: ds) δ R = (ds.length = l ∧ γ d δ fun δ' => γs ds δ' R) := propext ⟨fun ⟨_, _, e, h⟩ => by cases e; exact h, fun h => ⟨_, _, rfl, h⟩⟩
theorem x_comp : dComp ta γ u t vs δ n QA = (noOwn vs δ = true ∧ ta δ n fun ds m => ds.length ≤ sizeLine ∧ compR γ u t (wipeD δ vs) ds [] m QA) := rfl
end
end DL
/-! DT: typed data: equality, order, sorting. -/
namespace DL
open PySem PySem.Spec L2
/-- a type of data: equality is equality, all are alike, of depth m at most -/
structure Enc {α : Type} [DecidableEq α] (m : Nat) (e : α → D) : Prop where
  eq : ∀ x y, PyData.eqv (e x) (e y) = decide (x = y)
  shp : ∀ x, Shp m (e x)
  al : ∀ x y, PySem.W.alike (e x) (e y) = true
  nn : ∀ x, e x ≠ .none
section
variable {α β : Type} [DecidableEq α] [DecidableEq β] {m k : Nat} {e : α → D} {f : β → D}
theorem Enc.E (h : Enc m e) : EqE e := ⟨h.eq⟩
theorem Enc.mono (h : Enc m e) (hk : m ≤ k) : Enc k e := ⟨h.eq, fun x => (h.shp x).mono hk, h.al, h.nn⟩
theorem enc_int : Enc 0 PyData.int := ⟨eqe_int.eq, fun x => shp_int x, fun _ _ => by simp only [PySem.W.alike], fun _ z => by cases z⟩
theorem alAll (h : Enc m e) : ∀ x y : List α, PySem.W.alikeAll (x.map e) (y.map e) = true
  | [], _ => by rw [List.map_nil, PySem.W.alikeAll]
  | _ :: _, [] => by rw [List.map_nil, List.map_cons, PySem.W.alikeAll]
  | x :: xs, y :: ys => by
    rw [List.map_cons, List.map_cons, PySem.W.alikeAll, h.al x y, alAll h xs ys]
    rfl
theorem enc_tup (h : Enc m e) : Enc (m + 1) fun l : List α => PyData.tuple (l.map e) := ⟨(eqe_tup h.E).eq, fun l => (ShpAll.map fun x _ => h.shp x).tup, fun x y => by
  show PySem.W.alike (.tuple _) (.tuple _) = true
  simp only [PySem.W.alike]
  exact alAll h x y, fun _ z => by cases z⟩
theorem enc_pair (h : Enc m e) (q : Enc m f) : Enc (m + 1) fun p : α × β => PyData.tuple [e p.1, f p.2] := ⟨(eqe_pair h.E q.E).eq, fun p => (ShpAll.cons (h.shp p.1) (ShpAll.cons (q.shp p.2) ShpAll.nil)).tup, fun x y => by
  show PySem.W.alike (.tuple _) (.tuple _) = true
  simp only [PySem.W.alike, PySem.W.alikeAll, h.al, q.al, Bool.and_self], fun _ z => by cases z⟩
/-! ### rewriting -/
theorem Enc.sh (h : Enc m e) (x : α) (hm : m ≤ 64 := by decide) : SeqAt.shaped (e x) = true := (h.shp x).sh hm
theorem Enc.shT (h : Enc m e) (l : List α) (hm : m + 1 ≤ 64 := by decide) : SeqAt.shaped (.tuple (l.map e)) = true := ((enc_tup h).shp l).sh hm
theorem Enc.shL (h : Enc m e) (l : List α) (hm : m + 1 ≤ 64 := by decide) : SeqAt.shaped (.list (l.map e)) = true := ((ShpAll.map fun x _ => h.shp x).lst).sh hm
theorem y_eq (h : Enc m e) (x y : α) (P : D → Prop) (hm : m ≤ 64 := by decide) : gEq (e x) (e y) P = P (.bool (decide (x = y))) := by
  show (eqOk _ _ ∧ P (.bool (PyData.eqv _ _))) = _
  rw [h.eq]
  exact propext ⟨fun z => z.2, fun z => ⟨.inl ⟨h.sh x hm, h.sh y hm⟩, z⟩⟩
theorem y_ne (h : Enc m e) (x y : α) (P : D → Prop) (hm : m ≤ 64 := by decide) : gNe (e x) (e y) P = P (.bool (!decide (x = y))) := by
  show (eqOk _ _ ∧ P (.bool (!PyData.eqv _ _))) = _
  rw [h.eq]
  exact propext ⟨fun z => z.2, fun z => ⟨.inl ⟨h.sh x hm, h.sh y hm⟩, z⟩⟩
theorem y_eqL (h : Enc m e) (x y : List α) (P : D → Prop) (hm : m + 1 ≤ 64 := by decide) : gEq (.list (x.map e)) (.list (y.map e)) P = P (.bool (decide (x = y))) := by
  show (eqOk _ _ ∧ P (.bool (PyData.eqv _ _))) = _
  rw [(eqe_lst h.E).eq]
  exact propext ⟨fun z => z.2, fun z => ⟨.inl ⟨h.shL x hm, h.shL y hm⟩, z⟩⟩
theorem y_neL (h : Enc m e) (x y : List α) (P : D → Prop) (hm : m + 1 ≤ 64 := by decide) : gNe (.list (x.map e)) (.list (y.map e)) P = P (.bool (!decide (x = y))) := by
  show (eqOk _ _ ∧ P (.bool (!PyData.eqv _ _))) = _
  rw [(eqe_lst h.E).eq]
  exact propext ⟨fun z => z.2, fun z => ⟨.inl ⟨h.shL x hm, h.shL y hm⟩, z⟩⟩
theorem y_eqLn (h : Enc m e) (x : List α) (P : D → Prop) (hm : m + 1 ≤ 64 := by decide) : gEq (.list (x.map e)) (.list []) P = P (.bool (decide (x = []))) := y_eqL h x [] P hm
theorem y_inT (h : Enc m e) (x : α) (l : List α) (P : D → Prop) (hm : m + 1 ≤ 64 := by decide) : gIn (e x) (.tuple (l.map e)) P = P (.bool (decide (x ∈ l))) := by
  show (_ ∧ _ ∧ ∃ c, dIn (e x) (.tuple (l.map e)) = some c ∧ P (.bool c)) = _
  rw [dIn_tup h.E]
  exact propext ⟨fun ⟨_, _, c, z1, z2⟩ => by cases z1; exact z2, fun z => ⟨h.sh x (by omega), h.shT l hm, _, rfl, z⟩⟩
theorem y_notInT (h : Enc m e) (x : α) (l : List α) (P : D → Prop) (hm : m + 1 ≤ 64 := by decide) : gNotIn (e x) (.tuple (l.map e)) P = P (.bool (!decide (x ∈ l))) := by
  show (_ ∧ _ ∧ ∃ c, dIn (e x) (.tuple (l.map e)) = some c ∧ P (.bool (!c))) = _
  rw [dIn_tup h.E]
  exact propext ⟨fun ⟨_, _, c, z1, z2⟩ => by cases z1; exact z2, fun z => ⟨h.sh x (by omega), h.shT l hm, _, rfl, z⟩⟩
theorem y_inL (h : Enc m e) (x : α) (l : List α) (P : D → Prop) (hm : m + 1 ≤ 64 := by decide) : gIn (e x) (.list (l.map e)) P = P (.bool (decide (x ∈ l))) := by
  show (_ ∧ _ ∧ ∃ c, dIn (e x) (.list (l.map e)) = some c ∧ P (.bool c)) = _
  rw [dIn_lst h.E]
  exact propext ⟨fun ⟨_, _, c, z1, z2⟩ => by cases z1; exact z2, fun z => ⟨h.sh x (by omega), h.shL l hm, _, rfl, z⟩⟩
theorem y_notInL (h : Enc m e) (x : α) (l : List α) (P : D → Prop) (hm : m + 1 ≤ 64 := by decide) : gNotIn (e x) (.list (l.map e)) P = P (.bool (!decide (x ∈ l))) := by
  show (_ ∧ _ ∧ ∃ c, dIn (e x) (.list (l.map e)) = some c ∧ P (.bool (!c))) = _
  rw [dIn_lst h.E]
  exact propext ⟨fun ⟨_, _, c, z1, z2⟩ => by cases z1; exact z2, fun z => ⟨h.sh x (by omega), h.shL l hm, _, rfl, z⟩⟩
theorem y_eqI (a b : Int) (P : D → Prop) : gEq (.int a) (.int b) P = P (.bool (decide (a = b))) := y_eq enc_int a b P
theorem y_neI (a b : Int) (P : D → Prop) : gNe (.int a) (.int b) P = P (.bool (!decide (a = b))) := y_ne enc_int a b P
theorem y_neB (a b : Bool) (P : D → Prop) : gNe (.bool a) (.bool b) P = P (.bool (a != b)) := by
  show (eqOk _ _ ∧ P (.bool (!PyData.eqv _ _))) = _
  rw [PyData.eqv]
  exact propext ⟨fun z => z.2, fun z => ⟨.inl ⟨(shp_bool (m := 0) a).sh, (shp_bool (m := 0) b).sh⟩, z⟩⟩
theorem y_eqB (a b : Bool) (P : D → Prop) : gEq (.bool a) (.bool b) P = P (.bool (a == b)) := by
  show (eqOk _ _ ∧ P (.bool (PyData.eqv _ _))) = _
  rw [PyData.eqv]
  exact propext ⟨fun z => z.2, fun z => ⟨.inl ⟨(shp_bool (m := 0) a).sh, (shp_bool (m := 0) b).sh⟩, z⟩⟩
theorem y_eqS (a b : Str) (P : D → Prop) : gEq (.str a) (.str b) P = P (.bool (decide (a = b))) := by
  show (eqOk _ _ ∧ P (.bool (PyData.eqv _ _))) = _
  rw [eqe_str.eq]
  exact propext ⟨fun z => z.2, fun z => ⟨.inr ⟨_, _, rfl, rfl⟩, z⟩⟩
theorem y_neS (a b : Str) (P : D → Prop) : gNe (.str a) (.str b) P = P (.bool (!decide (a = b))) := by
  show (eqOk _ _ ∧ P (.bool (!PyData.eqv _ _))) = _
  rw [eqe_str.eq]
  exact propext ⟨fun z => z.2, fun z => ⟨.inr ⟨_, _, rfl, rfl⟩, z⟩⟩
theorem cmpI (a b : Int) : cmpOk (PyData.int a) (PyData.int b) := by
  refine ⟨by simp only [PySem.W.alike], ?_, ?_⟩
  · intro z; cases z
  · simp [PyData.depth]
theorem y_ltI (a b : Int) (P : D → Prop) : gLt (.int a) (.int b) P = P (.bool (decide (a < b))) := by
  show (cmpOk _ _ ∧ P (.bool (PySem.W.dataLt _ _))) = _
  rw [PySem.W.dataLt_int]
  exact propext ⟨fun z => z.2, fun z => ⟨cmpI _ _, z⟩⟩
theorem y_gtI (a b : Int) (P : D → Prop) : gGt (.int a) (.int b) P = P (.bool (decide (b < a))) := by
  show (cmpOk _ _ ∧ P (.bool (PySem.W.dataLt _ _))) = _
  rw [PySem.W.dataLt_int]
  exact propext ⟨fun z => z.2, fun z => ⟨cmpI _ _, z⟩⟩
theorem y_leI (a b : Int) (P : D → Prop) : gLe (.int a) (.int b) P = P (.bool (!decide (b < a))) := by
  show (cmpOk _ _ ∧ P (.bool (!PySem.W.dataLt _ _))) = _
  rw [PySem.W.dataLt_int]
  exact propext ⟨fun z => z.2, fun z => ⟨cmpI _ _, z⟩⟩
theorem y_geI (a b : Int) (P : D → Prop) : gGe (.int a) (.int b) P = P (.bool (!decide (a < b))) := by
  show (cmpOk _ _ ∧ P (.bool (!PySem.W.dataLt _ _))) = _
  rw [PySem.W.dataLt_int]
  exact propext ⟨fun z => z.2, fun z => ⟨cmpI _ _, z⟩⟩
/-! ### order -/
def ltE (e : α → D) (x y : α) : Bool := PySem.W.dataLt (e x) (e y)
theorem ltE_irr (x : α) : ltE e x x = false := PyProof.Rows.lex_irrefl _
theorem ltE_tr {x y z : α} (h1 : ltE e x y = true) (h2 : ltE e y z = true) : ltE e x z = true := PyProof.Rows.lex_trans _ _ _ h1 h2
theorem ltE_as {x y : α} (h1 : ltE e x y = true) : ltE e y x = false := by
  cases q : ltE e y x with
  | false => rfl
  | true => have := ltE_tr h1 q; rw [ltE_irr] at this; cases this
theorem ltE_tot (h : Enc m e) {x y : α} (ne : x ≠ y) : ltE e x y = true ∨ ltE e y x = true := by
  by_cases h1 : ltE e x y = true
  · exact .inl h1
  by_cases h2 : ltE e y x = true
  · exact .inr h2
  exfalso
  have k : PySem.W.keyToks (e x) = PySem.W.keyToks (e y) := PyProof.Rows.lex_total _ _ (by simpa [ltE, PySem.W.dataLt] using h1) (by simpa [ltE, PySem.W.dataLt] using h2)
  have hf : PyData.eqv (e x) (e y) = false := by rw [h.eq]; exact decide_eq_false ne
  have q := (PySem.W.toks_eqv (e x) (e y) (h.al x y)).2 hf [] [.inl 0]
  rw [k, PySem.W.lex_pre, PyProof.Rows.lex_irrefl] at q
  cases q
def sortE (e : α → D) (l : List α) : List α := l.mergeSort fun a b => !ltE e b a
theorem sortD_map (l : List α) : sortD (l.map e) = (sortE e l).map e := by
  unfold sortD sortE ltE
  rw [List.map_mergeSort]
  intro a _ b _
  rfl
theorem sortE_mem {l : List α} {x : α} : x ∈ sortE e l ↔ x ∈ l := (List.mergeSort_perm l _).mem_iff
theorem sortE_perm (l : List α) : (sortE e l).Perm l := List.mergeSort_perm l _
theorem sortE_asc (l : List α) : (sortE e l).Pairwise fun a b => ltE e b a = false := by
  have q := List.pairwise_mergeSort (le := fun a b : α => !ltE e b a) (fun a b c h1 h2 => by
    simp at h1 h2 ⊢
    cases z : ltE e c a with
    | false => rfl
    | true =>
      rcases PyProof.Rows.lex_negTrans (O := PyProof.Rows.itemOrd) (PySem.W.keyToks (e c)) (PySem.W.keyToks (e b)) (PySem.W.keyToks (e a)) z with y | y
      · rw [show ltE e c b = true from y] at h2; cases h2
      · rw [show ltE e b a = true from y] at h1; cases h1) (fun a b => by
    cases z : ltE e b a with
    | false => simp
    | true => simp [ltE_as z]) l
  exact q.imp fun h => by simpa using h
theorem sortE_lt (h : Enc m e) {l : List α} (nd : l.Nodup) : (sortE e l).Pairwise fun a b => ltE e a b = true := by
  have nd2 : (sortE e l).Nodup := (sortE_perm l).nodup_iff.mpr nd
  refine (List.pairwise_and_iff.mpr ⟨sortE_asc (e := e) l, nd2⟩).imp fun ⟨a, b⟩ => ?_
  rcases ltE_tot h b with q | q
  · exact q
  · rw [a] at q; cases q
/-- ascending lists of the same items are one -/
theorem asc_ext {R : α → α → Prop} (irr : ∀ x, ¬ R x x) (as : ∀ x y, R x y → ¬ R y x) : ∀ l k : List α, l.Pairwise R → k.Pairwise R → (∀ x, x ∈ l ↔ x ∈ k) → l = k
  | [], [], _, _, _ => rfl
  | [], y :: k, _, _, h => by have := (h y).mpr List.mem_cons_self; cases this
  | x :: l, [], _, _, h => by have := (h x).mp List.mem_cons_self; cases this
  | x :: l, y :: k, h1, h2, h => by
    rw [List.pairwise_cons] at h1 h2
    have e1 : x = y := by
      rcases List.mem_cons.mp ((h x).mp List.mem_cons_self) with z | z
      · exact z
      rcases List.mem_cons.mp ((h y).mpr List.mem_cons_self) with w | w
      · exact w.symm
      exact absurd (h2.1 x z) (as _ _ (h1.1 y w))
    subst e1
    rw [asc_ext irr as l k h1.2 h2.2 fun z => ?_]
    constructor
    · intro hz
      rcases List.mem_cons.mp ((h z).mp (List.mem_cons_of_mem _ hz)) with w | w
      · subst w; exact absurd (h1.1 z hz) (irr z)
      · exact w
    · intro hz
      rcases List.mem_cons.mp ((h z).mpr (List.mem_cons_of_mem _ hz)) with w | w
      · subst w; exact absurd (h2.1 z hz) (irr z)
      · exact w
theorem asc_extE {l k : List α} (h1 : l.Pairwise fun a b => ltE e a b = true) (h2 : k.Pairwise fun a b => ltE e a b = true) (h : ∀ x, x ∈ l ↔ x ∈ k) : l = k :=
  asc_ext (fun x => by rw [ltE_irr]; decide) (fun x y q => by rw [ltE_as q]; decide) l k h1 h2 h
theorem allAlike_map (h : Enc m e) (l : List α) : PySem.W.AllAlike (l.map e) := PySem.W.AllAlike.of h.al
theorem sortOk_tup (l : List (List α)) : SortOk (l.map fun x => PyData.tuple (x.map e)) := SortOk.tups fun d hd => by
  obtain ⟨x, _, rfl⟩ := List.mem_map.mp hd
  exact ⟨_, rfl⟩
theorem dep_map (h : Enc m e) (hm : m ≤ 60) (l : List α) : ∀ z ∈ l.map e, z.depth ≤ 60 := fun z hz => by
  obtain ⟨x, _, rfl⟩ := List.mem_map.mp hz
  exact Nat.le_trans (h.shp x).dep hm
/-! ### each once, of a sorted list -/
def stepE (acc : List α) (x : α) : List α := if acc.getLast? = some x then acc else acc ++ [x]
theorem foldE (h : Enc m e) : ∀ (l acc : List α), acc.Pairwise (fun a b => ltE e a b = true) → (∀ a ∈ acc, ∀ x ∈ l, a = x ∨ ltE e a x = true) → l.Pairwise (fun a b => ltE e b a = false) →
    (l.foldl stepE acc).Pairwise (fun a b => ltE e a b = true) ∧ ∀ x, x ∈ l.foldl stepE acc ↔ x ∈ acc ∨ x ∈ l
  | [], acc, h1, h2, h3 => ⟨h1, fun x => by simp⟩
  | y :: l, acc, h1, h2, h3 => by
    rw [List.pairwise_cons] at h3
    rw [List.foldl_cons]
    by_cases c : acc.getLast? = some y
    · have e1 : stepE acc y = acc := if_pos c
      rw [e1]
      obtain ⟨q1, q2⟩ := foldE h l acc h1 (fun a ha x hx => h2 a ha x (List.mem_cons_of_mem _ hx)) h3.2
      refine ⟨q1, fun x => (q2 x).trans ?_⟩
      have hy : y ∈ acc := List.mem_of_getLast? c
      constructor
      · rintro (z | z)
        · exact .inl z
        · exact .inr (List.mem_cons_of_mem _ z)
      · rintro (z | z)
        · exact .inl z
        · rcases List.mem_cons.mp z with rfl | z
          · exact .inl hy
          · exact .inr z
    · have e1 : stepE acc y = acc ++ [y] := if_neg c
      rw [e1]
      have hlt : ∀ a ∈ acc, ltE e a y = true := fun a ha => by
        rcases h2 a ha y List.mem_cons_self with z | z
        · subst z
          exfalso
          obtain ⟨b, hb⟩ : ∃ b, acc.getLast? = some b := by
            cases q : acc.getLast? with
            | none => rw [List.getLast?_eq_none_iff] at q; subst q; cases ha
            | some b => exact ⟨b, rfl⟩
          have hbm : b ∈ acc := List.mem_of_getLast? hb
          have nb : b ≠ a := fun z => c (by rw [hb, z])
          have l1 : ltE e b a = true := (h2 b hbm a List.mem_cons_self).resolve_left nb
          obtain ⟨pre, rfl⟩ := List.getLast?_eq_some_iff.mp hb
          rcases List.mem_append.mp ha with z | z
          · have l2 := (List.pairwise_append.mp h1).2.2 a z b (by simp)
            rw [ltE_as l2] at l1; cases l1
          · simp at z; exact nb z.symm
        · exact z
      obtain ⟨q1, q2⟩ := foldE h l (acc ++ [y]) (List.pairwise_append.mpr ⟨h1, by simp, fun a ha b hb => by simp at hb; subst hb; exact hlt a ha⟩) (fun a ha x hx => by
        rcases List.mem_append.mp ha with z | z
        · exact h2 a z x (List.mem_cons_of_mem _ hx)
        · simp at z
          subst z
          by_cases q : a = x
          · exact .inl q
          · rcases ltE_tot h q with w | w
            · exact .inr w
            · rw [h3.1 x hx] at w; cases w) h3.2
      refine ⟨q1, fun x => (q2 x).trans ?_⟩
      rw [List.mem_append, List.mem_singleton, List.mem_cons, or_assoc]
def onceE (e : α → D) (l : List α) : List α := (sortE e l).foldl stepE []
theorem onceE_asc (h : Enc m e) (l : List α) : (onceE e l).Pairwise (fun a b => ltE e a b = true) ∧ ∀ x, x ∈ onceE e l ↔ x ∈ l := by
  obtain ⟨q1, q2⟩ := foldE h (sortE e l) [] List.Pairwise.nil (fun a ha => by cases ha) (sortE_asc l)
  exact ⟨q1, fun x => (q2 x).trans (by rw [sortE_mem]; simp)⟩
end
/-! ### rows of whole numbers -/
theorem enc_row : Enc 1 rowD := enc_tup enc_int
theorem y_inR (o : Int) (r : List Int) (P : D → Prop) : gIn (.int o) (rowD r) P = P (.bool (decide (o ∈ r))) := y_inT enc_int o r P
theorem y_notInR (o : Int) (r : List Int) (P : D → Prop) : gNotIn (.int o) (rowD r) P = P (.bool (!decide (o ∈ r))) := y_notInT enc_int o r P
theorem y_eqR (x y : List Int) (P : D → Prop) : gEq (rowD x) (rowD y) P = P (.bool (decide (x = y))) := y_eq enc_row x y P
theorem y_neR (x y : List Int) (P : D → Prop) : gNe (rowD x) (rowD y) P = P (.bool (!decide (x = y))) := y_ne enc_row x y P
theorem y_lenR (r : List Int) (P : D → Prop) : gLen (rowD r) P = P (.int r.length) := by
  show P (.int (intsD r).length) = _
  unfold intsD
  rw [List.length_map]
theorem y_tupR (r : List Int) (P : D → Prop) : gTuple (rowD r) P = P (rowD r) := x_tupT
theorem row_tup (r : List Int) (ds : List D) : (rowD r = .tuple ds) = (intsD r = ds) := propext ⟨fun z => PyData.tuple.inj z, fun z => congrArg PyData.tuple z⟩
theorem row_lst (r : List Int) (ds : List D) : (rowD r = PyData.list ds) = False := eq_false PyData.noConfusion
theorem tup_lst (r ds : List D) : (PyData.tuple r = PyData.list ds) = False := eq_false PyData.noConfusion
theorem lst_tup (r ds : List D) : (PyData.list r = PyData.tuple ds) = False := eq_false PyData.noConfusion
theorem ifc {c : Bool} {A B : Prop} (h1 : c = true → A) (h2 : c = false → B) : if c = true then A else B := by
  cases c with
  | true => exact h1 rfl
  | false => exact h2 rfl
theorem andP {c d : Bool} (P : D → Prop) (h : P (.bool (c && d))) : if c = true then P (.bool d) else P (.bool false) := by cases c <;> exact h
theorem orP {c d : Bool} (P : D → Prop) (h : P (.bool (c || d))) : if c = true then P (.bool true) else P (.bool d) := by cases c <;> exact h
theorem atI_map {α β : Type} (f : α → β) (xs : List α) (i : Int) : L2.atI (xs.map f) i = (L2.atI xs i).map f := by
  unfold L2.atI
  rw [List.length_map]
  cases L2.ixN xs.length i with
  | none => rfl
  | some j => simp
theorem bools_map : ∀ l : List Bool, bools (l.map PyData.bool) = some l
  | [] => rfl
  | x :: r => by rw [List.map_cons, bools, bools_map r]; rfl
theorem x_all (l : List Bool) (P : D → Prop) : gAll (.list (l.map PyData.bool)) P = P (.bool (l.all id)) := propext ⟨fun ⟨ds, cs, e1, e2, h⟩ => by cases e1; rw [bools_map] at e2; cases e2; exact h, fun h => ⟨_, _, rfl, bools_map _, h⟩⟩
theorem x_any (l : List Bool) (P : D → Prop) : gAny (.list (l.map PyData.bool)) P = P (.bool (l.any id)) := propext ⟨fun ⟨ds, cs, e1, e2, h⟩ => by cases e1; rw [bools_map] at e2; cases e2; exact h, fun h => ⟨_, _, rfl, bools_map _, h⟩⟩
def rng (n : Int) : List Int := (List.range n.toNat).map fun i : Nat => (0 : Int) + i
theorem rangeD_rng (n : Int) : rangeD 0 n.toNat = intsD (rng n) := rangeD_ints 0 n.toNat
theorem rng_mem {n o : Int} : o ∈ rng n ↔ 0 ≤ o ∧ o < n := by
  unfold rng
  simp only [List.mem_map, List.mem_range]
  constructor
  · rintro ⟨i, h1, rfl⟩; omega
  · intro h; exact ⟨o.toNat, by omega, by omega⟩
theorem rng_asc (n : Int) : (rng n).Pairwise (· < ·) := by
  unfold rng
  rw [List.pairwise_map]
  exact List.pairwise_lt_range.imp fun h => by omega
theorem rng_len (n : Int) : (rng n).length = n.toNat := by unfold rng; simp
theorem small (n : Nat) (h : n ≤ 16777216) : n ≤ sizeLine := Nat.le_trans h (by decide)
theorem smallLt (n : Nat) (h : n < 16777216) : n < sizeLine := Nat.lt_of_lt_of_le h (by decide)
theorem compR_each {α : Type} {γ : DTG} {u : DTT} {t : DTE} {δ : DS} {e : α → D} (f : α → D) {m : Nat} {Q : List D → Nat → Prop} (l : List α) (acc : List D)
    (h : ∀ x ∈ l, ∀ (A : D → Nat → Prop) (B : Nat → Prop), A (f x) m → γ (e x) δ fun δ1 => u δ1 m fun b k => if b = true then t δ1 k A else B k) (q : Q (acc ++ l.map f) m) : compR γ u t δ (l.map e) acc m Q := by
  refine compR_map (fun _ => true) f l acc (fun x hx A B ha hb => h x hx A B (ha rfl)) ?_
  rw [List.filter_eq_self.mpr fun _ _ => rfl]
  exact q
/-! ### enumerate, typed -/
def enumL {α : Type} : Nat → List α → List (Int × α)
  | _, [] => []
  | i, x :: r => ((i : Int), x) :: enumL (i + 1) r
theorem enumD_map {α : Type} (e : α → D) : ∀ (i : Nat) (l : List α), enumD i (l.map e) = (enumL i l).map fun p => .tuple [.int p.1, e p.2]
  | _, [] => rfl
  | i, x :: r => by rw [List.map_cons, enumD, enumL, List.map_cons, enumD_map e (i + 1) r]
theorem enumL_snd {α : Type} : ∀ (i : Nat) (l : List α), (enumL i l).map (·.2) = l
  | _, [] => rfl
  | i, x :: r => by rw [enumL, List.map_cons, enumL_snd (i + 1) r]
theorem enumL_mem {α : Type} : ∀ {i : Nat} {l : List α} {p : Int × α}, p ∈ enumL i l → ∃ j : Nat, l[j]? = some p.2 ∧ p.1 = ((i + j : Nat) : Int)
  | i, x :: r, p, h => by
    rw [enumL] at h
    rcases List.mem_cons.mp h with rfl | h
    · exact ⟨0, rfl, by simp⟩
    · obtain ⟨j, h1, h2⟩ := enumL_mem h
      exact ⟨j + 1, h1, by rw [h2]; omega⟩
theorem enumL_len {α : Type} : ∀ (i : Nat) (l : List α), (enumL i l).length = l.length
  | _, [] => rfl
  | i, x :: r => by rw [enumL, List.length_cons, List.length_cons, enumL_len (i + 1) r]
theorem enumL_filter {α : Type} (p : α → Bool) (q : Int × α → Bool) : ∀ (i : Nat) (l : List α), (∀ z ∈ enumL i l, q z = p z.2) → ((enumL i l).filter q).map (·.2) = l.filter p
  | _, [], _ => rfl
  | i, x :: r, h => by
    rw [enumL] at h ⊢
    have h1 := h _ List.mem_cons_self
    have ih := enumL_filter p q (i + 1) r fun z hz => h z (List.mem_cons_of_mem _ hz)
    by_cases c : p x = true
    · rw [List.filter_cons_of_pos (by rw [h1]; exact c), List.filter_cons_of_pos c, List.map_cons, ih]
    · rw [List.filter_cons_of_neg (by rw [h1]; exact c), List.filter_cons_of_neg c, ih]
def nthI {α : Type} [Inhabited α] (l : List α) (i : Int) : α := l.getD i.toNat default
theorem atI_nth {α : Type} [Inhabited α] {l : List α} {i : Int} (h0 : 0 ≤ i) (h1 : i < l.length) : L2.atI l i = some (nthI l i) := by
  obtain ⟨k, rfl⟩ : ∃ k : Nat, i = (k : Int) := ⟨i.toNat, by omega⟩
  rw [atI_nat']
  unfold nthI
  have hk : k < l.length := by omega
  simp [List.getD, hk]
theorem x_truB (k : Bool) (P : Bool → Prop) : ((∀ s, PyData.bool k = .str s → s.length ≤ sizeLine) ∧ ∃ c, dTru (.bool k) = some c ∧ P c) = P k :=
  propext ⟨fun ⟨_, c, e, h⟩ => by cases e; exact h, fun h => ⟨fun _ z => (by cases z), _, rfl, h⟩⟩
theorem rng_nth {α : Type} [Inhabited α] (l : List α) : (rng l.length).map (nthI l) = l := by
  refine List.ext_getElem? fun i => ?_
  unfold rng
  rw [List.map_map, List.getElem?_map]
  by_cases h : i < l.length
  · rw [List.getElem?_range (by simpa using h)]
    simp [nthI, List.getD, h]
  · rw [List.getElem?_eq_none (by simpa using h), List.getElem?_eq_none (by simpa using h)]
    rfl
theorem rng_nth_map {α β : Type} [Inhabited α] (l : List α) (f : α → β) : (rng l.length).map (fun o => f (nthI l o)) = l.map f := by
  have e : (rng l.length).map (fun o => f (nthI l o)) = ((rng l.length).map (nthI l)).map f := by rw [List.map_map]; rfl
  rw [e, rng_nth]
/-! ### items that are new -/
section
variable {α : Type} [DecidableEq α]
def stepN (acc : List α) (x : α) : List α := if x ∈ acc then acc else acc ++ [x]
theorem foldN : ∀ (l acc : List α), acc.Nodup → (l.foldl stepN acc).Nodup ∧ ∀ x, x ∈ l.foldl stepN acc ↔ x ∈ acc ∨ x ∈ l
  | [], acc, h => ⟨h, fun x => by simp⟩
  | y :: l, acc, h => by
    rw [List.foldl_cons]
    by_cases c : y ∈ acc
    · rw [show stepN acc y = acc from if_pos c]
      obtain ⟨q1, q2⟩ := foldN l acc h
      refine ⟨q1, fun x => (q2 x).trans ⟨fun z => z.imp id (List.mem_cons_of_mem _), fun z => ?_⟩⟩
      rcases z with z | z
      · exact .inl z
      · rcases List.mem_cons.mp z with rfl | z
        · exact .inl c
        · exact .inr z
    · rw [show stepN acc y = acc ++ [y] from if_neg c]
      obtain ⟨q1, q2⟩ := foldN l (acc ++ [y]) (List.nodup_append.mpr ⟨h, by simp, fun a ha b hb => by simp at hb; subst hb; exact fun z => c (z ▸ ha)⟩)
      refine ⟨q1, fun x => (q2 x).trans ?_⟩
      rw [List.mem_append, List.mem_singleton, List.mem_cons, or_assoc]
end
theorem y_isB (a b : Bool) (P : D → Prop) : gIs (.bool a) (.bool b) P = P (.bool (decide (a = b))) := propext ⟨fun ⟨_, e, h⟩ => by cases e; exact h, fun h => ⟨_, rfl, h⟩⟩
theorem foldE_len {α : Type} [DecidableEq α] : ∀ (l acc : List α), (l.foldl stepE acc).length ≤ acc.length + l.length
  | [], acc => Nat.le_refl _
  | x :: l, acc => by
    rw [List.foldl_cons, List.length_cons]
    refine Nat.le_trans (foldE_len l _) ?_
    unfold stepE
    split <;> simp <;> omega
theorem onceE_len {α : Type} [DecidableEq α] (e : α → D) (l : List α) : (onceE e l).length ≤ l.length := by
  have := foldE_len (sortE e l) []
  rw [(sortE_perm l).length_eq] at this
  simpa [onceE] using this
end DL
/-! DN: a law's end: its def promises True of every script. -/
namespace DL
open PySem PySem.Spec L2
/-- one address alone is tracked, if any -/
def one (a : Addr) (o : Option HO) : Hp := fun b => if b = a then o else none
theorem one_off {a b : Addr} {o : Option HO} (h : b ≠ a) : one a o b = none := if_neg h
theorem one_on {a : Addr} {o : Option HO} : one a o a = o := if_pos rfl
theorem one_inv {a b : Addr} {o : Option HO} {u : HO} (h : one a o b = some u) : b = a ∧ o = some u := by
  by_cases e : b = a
  · subst e; rw [one_on] at h; exact ⟨rfl, h⟩
  · rw [one_off e] at h; cases h
def lsO (vs : List Value) : Obj := { cls := .type "list", data := .seq vs.toArray }
/-- what law promises: True of a script -/
def spTrue (K : PySem.W.Frag) (n : Nat) : Sp := fun vs H Q _ => ∃ (a : Addr) (ns : List Int), vs = [.ref a] ∧ SqL K H a (ns.map V.int) ∧ ns.length ≤ n ∧ ∀ H', Q (.bl true) H'
section
variable {P : Program} {w : World} {K : PySem.W.Frag} {mg mb : Str → Option Value} {k n : Nat} {fa a : Addr} {fd : FuncData} {x : Str} {s : Shared} {vs : List Value} {ns : List Int} {o : Option HO}
theorem dict_not_list {h : Heap} {b m : Addr} {ob : Obj} {es : Array DictEntry} {i : Nat} (hm : h.get? m = some (lsO vs)) (hb : h.get? b = some ob) (hd : ob.data = .dict es i) : b ≠ m := fun e => by
  subst e
  rw [hm] at hb
  cases hb
  cases (show Data.seq vs.toArray _ = Data.dict es i from hd)
theorem ns_hid {b : Addr} {m : Str → Option Value} (ha : s.heap.get? a = some (lsO vs)) (h : s.heap.Ns b m) : (hidT s.heap (one a o)).Ns b m := by
  obtain ⟨ob, es, i, h1, h2, h3⟩ := h
  exact ⟨ob, es, i, hidT_get h1 (one_off (dict_not_list ha h1 h2)), h2, h3⟩
theorem end_run (hK : K.In s.heap) (n1 : s.heap.Ns mainGlobals mg) (n2 : s.heap.Ns builtinsNs mb) (n3 : ∀ x : Str, x ≠ "__name__" → mb x = bootBuiltins x) (n4 : s.heap.NoLimit) (gs : s.gens = #[]) (ha : s.heap.get? a = some (lsO vs))
    (room : Room k callerA) (bind : ∀ (s : Shared) (u : Value), BindsTo s fd ⟨[u], []⟩ [(x, u)]) (hl : ns.length ≤ n)
    (G : ∀ base : Heap, K.In base → base.Ns mainGlobals mg → FnG P w K mg base CX0 k fa fd [x] (spTrue K n))
    (hok : HOk P w (one a o) s.heap) (seq : SqL K (one a o) a (ns.map V.int)) (free : o ≠ none → K.lookup a = none) (frz : ∀ u, o = some u → ∃ ob xs, u = .frz ob (.lst xs)) :
    codeAny (model P w) callerA (.call (.ref fa) ⟨[.ref a], []⟩) (fun r s' => r = .ok (.ret (.bool true)) ∧ OldK s.heap s'.heap ∧ s'.os = s.os ∧ PyProof.Rows.AllBare s'.gens) s := by
  have kin : K.In (hidT s.heap (one a o)) := by
    intro b ob hb
    refine hidT_get (hK b ob hb) ?_
    by_cases e : b = a
    · subst e
      rw [one_on]
      cases z : o with
      | none => rfl
      | some u => rw [free (by rw [z]; exact Option.some_ne_none u)] at hb; cases hb
    · exact one_off e
  obtain ⟨mc, l1, l2⟩ := n4
  have env : Env0 P w K mg (hidT s.heap (one a o)) callerA [] s (one a o) :=
    { frames := rfl
      mod := { kin := kin, glob := ns_hid ha n1, blt := ⟨mb, ns_hid ha n2, n3⟩, nolimit := ⟨mc, ns_hid ha l1, l2⟩ }
      bs := fun _ _ q => of_hidT q
      bsz := by rw [hidT_size]; exact Nat.le_refl _
      funs := trivial
      frf := fun _ hb => nomatch hb
      hok := hok
      bare := .of_eq gs }
  have main := (G _ kin (ns_hid ha n1)).go callerA [] s (one a o) ⟨[.ref a], []⟩ [.ref a] [.ref a] (fun v _ => v = .bl true) (fun _ _ _ => False) rfl room env (bind s (.ref a)) (.cons rfl .nil) ⟨a, ns, rfl, seq, hl, fun _ => rfl⟩
  refine codeAny_mono main ?_
  rintro (er | fl) t q
  · exact q.elim
  cases fl with
  | ret u =>
    obtain ⟨v, H2, q1, q2, q3, q4, q5, q6⟩ := q
    cases (show v = .bl true from q6)
    cases (show u = .bool true from q5)
    refine ⟨rfl, OldK.of_keep ?_, q1, q2⟩
    intro b ob hb
    cases z : one a o b with
    | none => exact q3.keep b ob hb z (fun m => nomatch m) (fun m => nomatch m)
    | some u =>
      obtain ⟨e1, e2⟩ := one_inv z
      subst e1
      obtain ⟨ob2, xs, rfl⟩ := frz u e2
      have y1 := (hok b _ z).1
      have y2 := (q4 b _ (q3.frzs b _ _ z)).1
      rw [hb] at y1
      cases y1
      exact y2
  | next => exact False.elim q
  | brk => exact False.elim q
  | cont => exact False.elim q
/-- the goal that the head leaves -/
theorem law_end {l : PySem.W.OpenLaw} {n k : Nat} {q : Program} {loose : List Str} {XP : (Str → Option Value) → Heap → Prop} {YP : World → Heap → Prop} {d : DefRec} {K : Params → PySem.W.Frag} {x : Str}
    (most : l.most = some n) (mostle : n ≤ sizeLine) (dfl : d.params.defaults = []) (room : Room k callerA) (inK : ∀ (w : World) (h : Heap), YP w h → (K w.params).In h)
    (G : ∀ (w : World) (mg : Str → Option Value) (fa : Addr) (h : Heap), (K w.params).In h → h.Ns mainGlobals mg → mg d.name = some (.ref fa) →
      ∃ fd : FuncData, (∀ (s : Shared) (u : Value), BindsTo s fd ⟨[u], []⟩ [(x, u)]) ∧ ∀ base : Heap, (K w.params).In base → base.Ns mainGlobals mg → FnG l.prog w (K w.params) mg base CX0 k fa fd [x] (spTrue (K w.params) n)) :
    PySem.W.WalkO q loose XP YP l.row.toRowW d [] (fun f vs => PySem.call f vs) := by
  apply Att.attach_call most dfl
  intro w s₀ s mg mb fa ob pm cd doc a vs ns gr yp g1 g2 g3 g4 g5 g6 g7 g8
  have hK := inK w _ yp
  obtain ⟨fd, bind, G⟩ := G w mg fa _ hK gr.T.g g4
  have hv := vals_ints g6
  have lv := g6.length
  have le : ns.length ≤ sizeLine := Nat.le_trans g7 mostle
  by_cases c : ∃ ob, (K w.params).lookup a = some ob
  · obtain ⟨ob, c⟩ := c
    have e := hK a ob c
    rw [show s.heap.get? a = some (lsO vs) from g5] at e
    cases e
    refine end_run (o := none) hK gr.T.g gr.T.b gr.T.builtins gr.T.nolimit g8 g5 room bind g7 G (fun b u z => by cases (one_inv z).2) (.inr ⟨_, vs.toArray, _, c, rfl, rfl, rfl, ?_, by simpa using hv⟩) (fun z => absurd rfl z) fun u z => nomatch z
    rw [List.size_toArray, lv]
    exact le
  · refine end_run (o := some (.frz (lsO vs) (.lst (ns.map V.int)))) hK gr.T.g gr.T.b gr.T.builtins gr.T.nolimit g8 g5 room bind g7 G (fun b u z => ?_) (.inl (.inr ⟨lsO vs, one_on⟩)) (fun _ => ?_) fun u z => ⟨_, _, (Option.some.inj z).symm⟩
    · obtain ⟨rfl, e⟩ := one_inv z
      cases e
      exact ⟨g5, by rw [List.length_map]; exact le, vs, _, hv, g5⟩
    · cases z : (K w.params).lookup a with
      | none => rfl
      | some ob => exact absurd ⟨ob, z⟩ c
end
end DL
namespace DL
open PySem PySem.Spec L2
/-- rill = _law_rill(script), then what is by data -/
theorem law_go {K : PySem.W.Frag} {N : List Str} {t : DTS} {D : Ends} {Ex : XK} {H : Hp} {a : Addr} {ns : List Int} {j : Nat} (hN : N.length = j + 2) (hS : SqL K H a (ns.map V.int)) (hl : ns.length ≤ 63)
    (hf : t ⟨fun _ _ => False, fun d _ => d = .bool true, fun _ _ => False, fun _ _ => False⟩ (none :: some .rl :: List.replicate j none) N0) (hD : ∀ H', D.rt (.bl true) H') :
    tSeq (tAsg (gCall (spRl K) Ex (tCons (tVar 0) tNil)) (gName 1)) (lS K t) D (L2.start N [.ref a]) H := by
  have hst : L2.start N [.ref a] = some (.ref a) :: List.replicate (j + 1) none := by
    unfold L2.start
    rw [hN]
    rfl
  rw [hst]
  refine ⟨.ref a, rfl, a, ns, rfl, hS, hl, fun r f H' same nr nf ok => ?_⟩
  show lS K t D ((some (V.ref a) :: List.replicate (j + 1) none).set 1 (some (.ref r))) H'
  have nW : ∀ b, inW (some (r, f)) b → H b = none := fun b ⟨r', f', e, h⟩ => by
    cases e
    rcases h with rfl | rfl
    · exact nr
    · exact nf
  refine ⟨⟨some (r, f), H', H, []⟩, N0, none :: some .rl :: List.replicate j none, H, H, _, rfl, ⟨Same.refl _, Same.refl _, same, fun b o e => .inl e, fun b o e _ => e, nW, fun b o e => .inl e, fun r' f' e => ?_, ?_, fun i x e => ?_, fun i k ds es _ e _ => ?_, fun a ha => by cases ha⟩, hf, fun _ _ _ _ _ _ q => q.elim, fun d δ' m v σ' H2 S2 V2 q _ _ rv => ?_, fun _ _ _ _ _ _ q => q.elim, fun _ _ _ _ _ _ q => q.elim⟩
  · cases e; exact ok
  · simp
  · match i, e with
    | 0, e => cases e
    | 1, e => cases e; exact ⟨.ref r, rfl, r, f, rfl, rfl⟩
    | i + 2, e =>
      rw [List.getElem?_cons_succ, List.getElem?_cons_succ, List.getElem?_replicate] at e
      split at e <;> cases e
  · match i, e with
    | 0, e => cases e
    | 1, e => cases e
    | i + 2, e =>
      rw [List.getElem?_cons_succ, List.getElem?_cons_succ, List.getElem?_replicate] at e
      split at e <;> cases e
  · cases q
    cases rv
    exact hD H2
end DL
/-! DL13: a, b = x, y with new lists; x.append(y.pop(e)); a, b = a list. -/
namespace DL
open PySem PySem.Spec L2
section
variable {K : PySem.W.Frag} {g : Gh} {n m : Nat} {δ : DS} {σ : L2.St} {H S Vs : Hp} {p a : Addr} {o : HO}
/-- a list of no slot goes into one -/
theorem SR.tmpOwn {W : Option (Addr × Addr)} {H0 S0 : Hp} {T : List Addr} {xs : List V} {ds : List D} {i : Nat} (h : SR K ⟨W, H0, S0, p :: T⟩ n δ σ H S Vs) (hV : Vs p = some (.lst xs)) (h0 : H0 p = none) (hi : i < δ.length) (hd : DpAll K S xs ds) (hT : p ∉ T) :
    SR K ⟨W, H0, S0, T⟩ n (δ.set i (some (.own ds))) (σ.set i (some (.ref p))) H S Vs := by
  obtain ⟨t1, t2, t3⟩ := h.tmps p List.mem_cons_self
  have hl : i < σ.length := by rw [h.len]; exact hi
  refine ⟨h.S0S, h.SV, h.VH, h.VS, h.base, h.nW, h.fresh, h.rill, by simp [h.len], fun j x e => ?_, fun j k es fs ne e1 e2 => ?_, fun b hb => ?_⟩
  · rcases set_get e with ⟨rfl, rfl⟩ | ⟨hj, e⟩
    · exact ⟨.ref p, by simp [hl], p, xs, rfl, hV, t1, h0, hd⟩
    · obtain ⟨u, q1, q2⟩ := h.slots j x e
      exact ⟨u, by rw [List.getElem?_set_ne hj]; exact q1, by cases x <;> exact q2⟩
  · rcases set_get e1 with ⟨rfl, q1⟩ | ⟨hj, e1⟩
    · rcases set_get e2 with ⟨rfl, q2⟩ | ⟨hk, e2⟩
      · exact absurd rfl ne
      · rw [List.getElem?_set_self hl, List.getElem?_set_ne hk]
        exact fun z => t3 k fs e2 z.symm
    · rcases set_get e2 with ⟨rfl, q2⟩ | ⟨hk, e2⟩
      · rw [List.getElem?_set_self hl, List.getElem?_set_ne hj]
        exact t3 j es e1
      · rw [List.getElem?_set_ne hj, List.getElem?_set_ne hk]
        exact h.apart j k es fs ne e1 e2
  · obtain ⟨q1, q2, q3⟩ := h.tmps b (List.mem_cons_of_mem _ hb)
    refine ⟨q1, q2, fun j fs e => ?_⟩
    rcases set_get e with ⟨rfl, _⟩ | ⟨hj, e⟩
    · rw [List.getElem?_set_self hl]
      intro z
      have : p = b := by cases z; rfl
      exact hT (this ▸ hb)
    · rw [List.getElem?_set_ne hj]
      exact q3 j fs e
end
section
variable {X : Cx} {e a b : Expr} {pos : Pos} {t1 t2 : DTE} {ta tb : DTA} {st : Stmt} {i j : Nat} {b1 b2 : Bool}
def sParEL (i j : Nat) (t : DTE) (u : DTA) : DTS := fun E δ n => t δ n fun d m => u δ m fun es k => i < δ.length ∧ j < δ.length ∧ E.nx ((δ.set i (some (.dat d))).set j (some (.own es))) k
def sParLE (i j : Nat) (u : DTA) (t : DTE) : DTS := fun E δ n => u δ n fun es m => t δ m fun d k => i < δ.length ∧ j < δ.length ∧ E.nx ((δ.set i (some (.own es))).set j (some (.dat d))) k
def sParLL (i j : Nat) (u v : DTA) : DTS := fun E δ n => u δ n fun es m => v δ m fun fs k => i < δ.length ∧ j < δ.length ∧ E.nx ((δ.set i (some (.own es))).set j (some (.own fs))) k
theorem ds_parEL (h : ∀ te, PA X [a, b] te → PS X st (tPar i j te)) (ha : DE X true a t1) (hb : DL X b tb) (hs : starEach (a :: [b]) X.env = (false, eval a X.env) :: starEach [b] X.env := by rfl) (hs2 : starEach (b :: []) X.env = (false, eval b X.env) :: starEach [] X.env := by rfl) : DSt X st (sParEL i j t1 tb) :=
  ⟨PS.imp (h _ (pa_cons ha.run (pa_cons hb.run pa_nil hs2) hs)) fun D σ H ⟨g, n, δ, S, Vs, E, hT, sr, ht, ok⟩ => ⟨g, n, δ, S, Vs, _, sr, ht, fun d m v H1 S1 V1 p1 sr1 q1 q2 r1 =>
    ⟨g, m, δ, S1, V1, _, sr1, p1, fun es k p xs H2 S2 V2 p2 sr2 w1 w2 e1 e2 e3 e4 r2 => ⟨v, .ref p, rfl, ok.1 _ k _ H2 S2 _ p2.2.2 ((sr2.set p2.1 (Dp.mono w1 (show Dp X.K S1 v d from r1))).setO (by rw [List.length_set]; exact p2.2.1) e1 e2 e3 e4 r2) (q1.trans w1)⟩⟩⟩⟩
theorem ds_parLE (h : ∀ te, PA X [a, b] te → PS X st (tPar i j te)) (ha : DL X a ta) (hb : DE X true b t2) (hs : starEach (a :: [b]) X.env = (false, eval a X.env) :: starEach [b] X.env := by rfl) (hs2 : starEach (b :: []) X.env = (false, eval b X.env) :: starEach [] X.env := by rfl) : DSt X st (sParLE i j ta t2) :=
  ⟨PS.imp (h _ (pa_cons ha.run (pa_cons hb.run pa_nil hs2) hs)) fun D σ H ⟨⟨W, H0, S0, T⟩, n, δ, S, Vs, E, hT, sr, ht, ok⟩ => by
    cases (show T = [] from hT)
    exact ⟨_, n, δ, S, Vs, _, sr, ht, fun es m p xs H1 S1 V1 p1 sr1 q1 q2 e1 e2 e3 e4 r1 =>
      ⟨⟨W, H0, S0, [p]⟩, m, δ, S1, upd V1 p (.lst xs), _, sr1.withTmp e1 e2 e3 e4, p1, fun d k v H2 S2 V2 p2 sr2 w1 w2 r2 => ⟨.ref p, v, rfl, ok.1 _ k _ H2 S2 _ p2.2.2 ((sr2.tmpOwn (w2 _ _ upd_same) e3 p2.1 (DpAll.mono w1 r1) (by simp)).set (by rw [List.length_set]; exact p2.2.1) (show Dp X.K S2 v d from r2)) (q1.trans w1)⟩⟩⟩⟩
theorem ds_parLL (h : ∀ te, PA X [a, b] te → PS X st (tPar i j te)) (ha : DL X a ta) (hb : DL X b tb) (hs : starEach (a :: [b]) X.env = (false, eval a X.env) :: starEach [b] X.env := by rfl) (hs2 : starEach (b :: []) X.env = (false, eval b X.env) :: starEach [] X.env := by rfl) : DSt X st (sParLL i j ta tb) :=
  ⟨PS.imp (h _ (pa_cons ha.run (pa_cons hb.run pa_nil hs2) hs)) fun D σ H ⟨⟨W, H0, S0, T⟩, n, δ, S, Vs, E, hT, sr, ht, ok⟩ => by
    cases (show T = [] from hT)
    exact ⟨_, n, δ, S, Vs, _, sr, ht, fun es m p xs H1 S1 V1 p1 sr1 q1 q2 e1 e2 e3 e4 r1 =>
      ⟨⟨W, H0, S0, [p]⟩, m, δ, S1, upd V1 p (.lst xs), _, sr1.withTmp e1 e2 e3 e4, p1, fun fs k p' ys H2 S2 V2 p2 sr2 w1 w2 f1 f2 f3 f4 r2 => ⟨.ref p, .ref p', rfl, ok.1 _ k _ H2 S2 _ p2.2.2 ((sr2.tmpOwn (w2 _ _ upd_same) e3 p2.1 (DpAll.mono w1 r1) (by simp)).setO (by rw [List.length_set]; exact p2.2.1) f1 f2 f3 f4 r2) (q1.trans w1)⟩⟩⟩⟩
/-- x.append(y.pop(e)), both own lists -/
def sAppPop (i j : Nat) (t : DTE) : DTS := fun E δ n => ∃ ds es, δ[i]? = some (some (.own ds)) ∧ δ[j]? = some (some (.own es)) ∧ i ≠ j ∧ ds.length < sizeLine ∧
  t δ n fun d m => ∃ k : Nat, d = .int (k : Int) ∧ k < 1073741824 ∧ ∃ z, es[k]? = some z ∧ E.nx ((δ.set j (some (.own (es.eraseIdx k)))).set i (some (.own (ds ++ [z])))) m
theorem DpAll.erase {K : PySem.W.Frag} {H : Hp} : ∀ {ds : List D} {vs : List V} (k : Nat), DpAll K H vs ds → DpAll K H (vs.eraseIdx k) (ds.eraseIdx k)
  | _, _, _, .nil => .nil
  | _, _, 0, .cons _ t => t
  | _, _, k + 1, .cons h t => by
    rw [List.eraseIdx_cons_succ, List.eraseIdx_cons_succ]
    exact .cons h (DpAll.erase k t)
theorem seqK {n k : Nat} (h : k < n) : seqIndex? (k : Int) n = some k := (ixN_seq (n := n) (i := (k : Int)) (j := k) (by unfold ixN; rw [if_pos (by omega), if_pos (by omega)]; rfl)).1
theorem ds_appPop {x y : Str} {p p2 apos cpos spos bpos dpos : Pos} (hx : PE X (.Name x p) (tVar i)) (hy : PE X (.Name y p2) (tVar j)) (he : DE X b1 e t1)
    (h : ∀ {to : TE} {t : TA}, PE X (.Name x p) to → PA X [.Call (.Attribute (.Name y p2) "pop" bpos) [e] [] dpos] t → PE X (.Call (.Attribute (.Name x p) "append" apos) [.Call (.Attribute (.Name y p2) "pop" bpos) [e] [] dpos] [] cpos) (tBM X.K "list" rAppend to t))
    (h2 : ∀ {to : TE} {t : TA}, PE X (.Name y p2) to → PA X [e] t → PE X (.Call (.Attribute (.Name y p2) "pop" bpos) [e] [] dpos) (tBM X.K "list" rPopAt to t))
    (hs : swapsWith (.Call (.Attribute (.Name x p) "append" apos) [.Call (.Attribute (.Name y p2) "pop" bpos) [e] [] dpos] [] cpos) none spos.line X.env = pure false := by rfl)
    (hs2 : starEach (e :: []) X.env = (false, eval e X.env) :: starEach [] X.env := by rfl) (hs3 : starEach ((.Call (.Attribute (.Name y p2) "pop" bpos) [e] [] dpos) :: []) X.env = (false, eval (.Call (.Attribute (.Name y p2) "pop" bpos) [e] [] dpos) X.env) :: starEach [] X.env := by rfl) :
    DSt X (.Expr (.Call (.Attribute (.Name x p) "append" apos) [.Call (.Attribute (.Name y p2) "pop" bpos) [e] [] dpos] [] cpos) spos) (sAppPop i j t1) :=
  ⟨PS.imp (ps_expr (h hx (pa_cons (h2 hy (pa_cons he.run pa_nil hs2)) pa_nil hs3)) hs) fun D σ H ⟨g, n, δ, S, Vs, E, hT, sr, ⟨ds, es, ei, ej, ne, hz, ht⟩, ok⟩ => by
    obtain ⟨v, ev, a, xs, rfl, ea, as, ah, ad⟩ := sr.slots i _ ei
    obtain ⟨w, ew, b, ys, rfl, eb, bs, bh, bd⟩ := sr.slots j _ ej
    have nab : a ≠ b := fun z => sr.apart i j ds es ne ei ej (by rw [ev, ew, z])
    refine ⟨_, ev, .inl ⟨rfl, xs, SqL.of (sr.VH _ _ ea)⟩, _, ew, .inl ⟨rfl, ys, SqL.of (sr.VH _ _ eb)⟩, g, n, δ, S, Vs, _, sr, ht, fun d m u H' S' Vs' q sr' q1 q2 r => ?_⟩
    obtain ⟨k, rfl, hk, z, hzk, q⟩ := q
    have r' := Rp.dp r sr'.SV
    cases r'
    have bd' := DpAll.mono q1 bd
    obtain ⟨zv, z1, z2⟩ := bd'.get' hzk
    have hkl : k < ys.length := (List.getElem?_eq_some_iff.mp z1).1
    refine ⟨b, ys, k, k, zv, rfl, rfl, sr'.VH _ _ (q2 _ _ eb), by omega, by omega, seqK hkl, z1, ?_⟩
    have sr2 := sr'.mut (es := es.eraseIdx k) ej ew (bd'.erase k)
    have ei2 : (δ.set j (some (.own (es.eraseIdx k))))[i]? = some (some (.own ds)) := by rw [List.getElem?_set_ne (Ne.symm ne)]; exact ei
    have hxs : (upd H' b (.lst (ys.eraseIdx k))) a = some (.lst xs) := by rw [upd_ne nab]; exact sr'.VH _ _ (q2 _ _ ea)
    refine ⟨a, xs, zv, rfl, rfl, hxs, by rw [ad.length]; exact hz, ?_⟩
    exact ok.1 _ m _ _ S' _ q (sr2.mut ei2 ev ((DpAll.mono q1 ad).append (.cons z2 .nil))) q1⟩
/-! ### a list taken apart -/
def gLs (γs : DTGs) : DTG := fun d δ P => ∃ ds, d = .list ds ∧ γs ds δ P
theorem gs_lst {K : PySem.W.Frag} {is : List Nat} {g1 : TGs} {n : Nat} {γs : DTGs} (q1 : GsSem K g1 is n γs) : GSem K (gLst K n g1) is (gLs γs) :=
  fun gh m δ σ H S Vs d v P Q sr hd ⟨ds, e1, hp⟩ k => by
    subst e1
    cases hd with
    | lst h1 h2 =>
      have q := q1 gh m δ σ H S Vs ds _ P Q sr h2 hp k
      exact ⟨_, _, rfl, SqL.of (sr.SH _ _ h1), h2.length.trans q.1, q.2⟩
end
end DL
/-! DL14: index; chained comparisons; constants; sums, least and greatest of whole numbers. -/
namespace DL
open PySem PySem.Spec L2
section
variable {X : Cx} {K : PySem.W.Frag} {e a b c : Expr} {pos p2 p : Pos} {t1 t2 t3 : DTE} {b1 b2 b3 : Bool}
/-- the first place of an equal one -/
def firstAt (ds : List D) (x : D) : Nat := (ds.map fun z => PyData.eqv z x).idxOf true
def rIdxT (K : PySem.W.Frag) : V → List V → Hp → VK → Prop := fun x xs H Q => ∃ (a : Addr) (y : V) (d : D) (ds : List D), x = V.ref a ∧ xs = [y] ∧ L2.Dp K H (V.ref a) (.tuple ds) ∧ L2.Dp K H y d ∧
  SeqAt.shaped (.tuple ds) = true ∧ SeqAt.shaped d = true ∧ true ∈ (ds.map fun z => PyData.eqv z d) ∧ Q (.int (firstAt ds d : Nat)) H
theorem mt_idxT (hu : X.A.units + 65 < cLine) : MtR X "tuple.index" (rIdxT X.K) := by
  intro pins s σ H x xs v us Q I rx rxs h
  obtain ⟨a, y, d, ds, rfl, rfl, hl, hy, sl, sd, hm, q⟩ := h
  cases rx
  cases rxs with
  | cons ry rt =>
    rename_i uy ut
    cases rt
    obtain ⟨bs, r1⟩ := L2.Dp.reads I d y uy hy ry
    have hxs : PyData.canLayAll0 ds = true := shaped_tl sl
    have hroom : X.A.units + 1 + min (PyData.depthAll ds) d.depth < cLine := by
      unfold SeqAt.shaped at sd
      have h2 := of_decide_eq_true (Bool.and_eq_true_iff.mp sd).2
      have h3 : min (PyData.depthAll ds) d.depth ≤ d.depth := Nat.min_le_right _ _
      omega
    cases hl with
    | tup hs ha =>
      obtain ⟨its, rv, pl, hz⟩ := I.tuple hs
      obtain ⟨as, h4⟩ := L2.Dp.readsAll I ds _ its ha rv
      have hmap : its.map (SeqAt.readOf s.heap) = ds := SeqAt.readsAll_map ds its as hxs h4
      have hlen : its.length = (ds.map fun z => PyData.eqv z d).length := by rw [List.length_map, ← hmap, List.length_map]
      refine SeqAt.call_tuple_index (ks := ds.map fun z => PyData.eqv z d) (k := true) pl ⟨hlen, fun j h1 h2 => ?_⟩ hm ⟨.int (firstAt ds d : Nat), H, I.tok _, ⟨_, rfl⟩, q⟩
      have hq := SeqAt.items_eqAt (vs := its.toArray) (show ReadsAll s.heap its.toArray.toList ds as from h4) r1 hxs (SeqAt.canLay_of_shaped sd) hroom its[j] (by simp)
      have e1 : decide ((ds.map fun z => PyData.eqv z d)[j] = true) = PyData.eqv (SeqAt.readOf s.heap its[j]) d := by
        have : ds[j]'(by simpa using h2) = SeqAt.readOf s.heap its[j] := by
          have := congrArg (fun l => l[j]?) hmap
          simp only [List.getElem?_map, List.getElem?_eq_getElem h1, Option.map_some] at this
          rw [List.getElem?_eq_getElem (by simpa using h2)] at this
          exact (Option.some.inj this).symm
        rw [List.getElem_map, this]
        cases PyData.eqv (SeqAt.readOf s.heap its[j]) d <;> rfl
      rw [e1]
      exact hq
/-! ### constants of the module -/
theorem de_glob {x : Str} {v : V} {u : Value} {d : D} (hg : Gl X x) (hm : X.mg x = some u) (r : RelV v u) (sc : Sc d v) (hd : (x == ("__debug__" : Str)) = false := by decide) : DE X true (.Name x pos) (dC d) := de_c (pe_glob hg hm r hd) sc
theorem de_globI {x : Str} {i : Int} {t : Tok} (hg : Gl X x) (hm : X.mg x = some (.int i t)) (hd : (x == ("__debug__" : Str)) = false := by decide) : DE X true (.Name x pos) (dC (.int i)) := de_glob (v := .int i) hg hm ⟨t, rfl⟩ (sc_int i) hd
theorem de_globS {x : Str} {i : Str} {t : Tok} (hg : Gl X x) (hm : X.mg x = some (.str i t)) (hd : (x == ("__debug__" : Str)) = false := by decide) : DE X true (.Name x pos) (dC (.str i)) := de_glob (v := .str i) hg hm ⟨t, rfl⟩ (sc_str i) hd
/-! ### a < b < c -/
def dChain (g g' : G2) (t1 t2 t3 : DTE) : DTE := fun δ n Q => t1 δ n fun x m => t2 δ m fun y k => g x y fun d => ∃ c, d = .bool c ∧ if c = true then t3 δ k fun z l => g' y z fun d => Q d l else Q (.bool false) k
theorem chain_imp {g g' : G2} {r r' : R2} (hs : Sem2S X.K r g) (hs' : Sem2S X.K r' g') {σ : L2.St} {H : Hp} {Q : VK} (h : lE X.K true (dChain g g' t1 t2 t3) σ H Q) : tChain r r' (lE X.K b1 t1) (lE X.K b2 t2) (lE X.K b3 t3) σ H Q := by
  obtain ⟨gh, n, δ, S, Vs, P, sr, ht, k⟩ := h
  refine ⟨gh, n, δ, S, Vs, _, sr, ht, fun d m v H' S' Vs' p sr' s1 s2 rp => ⟨gh, m, δ, S', Vs', _, sr', p, fun d2 m2 v2 H2 S2 V2 p2 sr2 q1 q2 rp2 => ?_⟩⟩
  refine hs V2 H2 v v2 d d2 _ _ (Dp.mono q2 (Rp.dp rp sr'.SV)) (Rp.dp rp2 sr2.SV) sr2.VH p2 fun d3 v3 ⟨c, e3, p3⟩ o => ?_
  subst e3
  cases o X.K H2
  refine ⟨c, rfl, ?_⟩
  cases c with
  | false =>
    rw [if_neg Bool.false_ne_true] at p3 ⊢
    exact k _ m2 _ H2 S2 V2 p3 sr2 (s1.trans q1) (s2.trans q2) (.bl false)
  | true =>
    rw [if_pos rfl] at p3 ⊢
    refine ⟨gh, m2, δ, S2, V2, _, sr2, p3, fun d4 m4 v4 H4 S4 V4 p4 sr4 w1 w2 rp4 => ?_⟩
    exact hs' V4 H4 v2 v4 d2 d4 _ Q (Dp.mono w2 (Rp.dp rp2 sr2.SV)) (Rp.dp rp4 sr4.SV) sr4.VH p4 fun d5 v5 p5 o => k d5 m4 v5 H4 S4 V4 p5 sr4 ((s1.trans q1).trans w1) ((s2.trans q2).trans w2) (o _ _)
theorem de_chain {op op' : CmpOp} {g g' : G2} (hg : CmpD X op g) (hg' : CmpD X op' g') (ha : DE X b1 a t1) (hb : DE X b2 b t2) (hc : DE X b3 c t3) (hm : lastMarks [op, op'] [b, c] = false := by with_unfolding_all rfl) : DE X true (.Compare a [op, op'] [b, c] pos) (dChain g g' t1 t2 t3) := by
  obtain ⟨r, ho, hs⟩ := hg.ex
  obtain ⟨r', ho', hs'⟩ := hg'.ex
  exact ⟨PE.imp (pe_chain ho ho' ha.run hb.run hc.run hm) fun σ H Q h => chain_imp hs hs' h⟩
theorem dt_chain {op op' : CmpOp} {g g' : G2} (hg : CmpD X op g) (hg' : CmpD X op' g') (ha : DE X b1 a t1) (hb : DE X b2 b t2) (hc : DE X b3 c t3) (hm : lastMarks [op, op'] [b, c] = false := by with_unfolding_all rfl) : DT X (.Compare a [op, op'] [b, c] pos) (dB (dChain g g' t1 t2 t3)) := by
  obtain ⟨r, ho, hs⟩ := hg.ex
  obtain ⟨r', ho', hs'⟩ := hg'.ex
  refine ⟨PT.imp (pt_chain ho ho' ha.run hb.run hc.run hm) fun σ H Q ⟨gh, n, δ, S, Vs, P, sr, ht, k⟩ => ?_⟩
  exact chain_imp hs hs' ⟨gh, n, δ, S, Vs, _, sr, ht, fun d m v H' S' Vs' ⟨c, e, p⟩ sr' s1 s2 rp => by
    subst e
    cases (show Dp X.K S' v (.bool c) from rp)
    exact ⟨c, rfl, k c m H' S' Vs' p sr' s1 s2⟩⟩
/-! ### tuple(range(..)) -/
def dTRg (tr : DS → Nat → (Int → Int → Nat → Prop) → Prop) : DTE := fun δ n Q => aRg tr δ n fun ds m => Q (.tuple ds) m
theorem de_tRg {tr : DS → Nat → (Int → Int → Nat → Prop) → Prop} (hc : X.calm = true) (hg : Gl X "tuple") (hm : X.mg "tuple" = none) (he : DRg X a tr) (na : starEach [a] X.env = (false, eval a X.env) :: starEach [] X.env := by rfl) :
    DE X true (.Call (.Name "tuple" p) [a] [] pos) (dTRg tr) := de_tupRg hc hg hm he na
end
section
variable {g g' : G2} {t1 t2 t3 : DTE} {δ : DS} {n : Nat} {Q : D → Nat → Prop} {tr : DS → Nat → (Int → Int → Nat → Prop) → Prop} {i j : Nat} {u v : DTA} {t : DTE} {E : DEnds} {γs : DTGs} {ds : List D} {R : DS → Prop}
theorem x_chain : dChain g g' t1 t2 t3 δ n Q = t1 δ n fun x m => t2 δ m fun y k => g x y fun d => ∃ c, d = .bool c ∧ if c = true then t3 δ k fun z l => g' y z fun d => Q d l else Q (.bool false) k := rfl
theorem x_tRg : dTRg tr δ n Q = aRg tr δ n fun ds m => Q (.tuple ds) m := rfl
theorem x_parEL : sParEL i j t u E δ n = t δ n fun d m => u δ m fun es k => i < δ.length ∧ j < δ.length ∧ E.nx ((δ.set i (some (.dat d))).set j (some (.own es))) k := rfl
theorem x_parLE : sParLE i j u t E δ n = u δ n fun es m => t δ m fun d k => i < δ.length ∧ j < δ.length ∧ E.nx ((δ.set i (some (.own es))).set j (some (.dat d))) k := rfl
theorem x_parLL : sParLL i j u v E δ n = u δ n fun es m => v δ m fun fs k => i < δ.length ∧ j < δ.length ∧ E.nx ((δ.set i (some (.own es))).set j (some (.own fs))) k := rfl
theorem x_gLs : gLs γs (.list ds) δ R = γs ds δ R := propext ⟨fun ⟨_, e, h⟩ => by cases e; exact h, fun h => ⟨_, rfl, h⟩⟩
end
end DL
/-! DX: own exceptions whose maker hands its argument on to the base's and keeps it. -/
namespace DX
open PySem PySem.W PySem.Calls PyProof.Rows PySem.HandSPX
/-- the maker's text: self and p; super().__init__(p); self.f = p -/
def mkA (p : Str) (a1 a2 : Pos) : Arguments := { posonlyargs := [], args := [{ arg := "self", annotation := none, pos := a1 }, { arg := p, annotation := none, pos := a2 }], vararg := none, kwonlyargs := [], kw_defaults := [], kwarg := none, defaults := [] }
def mkB (p f : Str) (b1 b2 b3 b4 b5 b6 b7 b8 b9 b0 : Pos) : List Stmt := [.Expr (.Call (.Attribute (.Call (.Name "super" b1) [] [] b2) "__init__" b3) [.Name p b4] [] b5) b6, .Assign [.Attribute (.Name "self" b7) f b8] (.Name p b9) b0]
def mkS (p : Str) : Scope := { kind := .function, names := [("self", .local), (p, .local), ("__class__", .free), ("super", .globalImplicit)], isGenerator := false, isCoroutine := false, more := [] }
/-- what the written part says of the class at C, its maker at fI; p the maker's argument, f the field -/
structure ExT (P : Program) (K : Frag) (mg : Str → Option Value) (C fI : Addr) (nm p f : Str) : Prop where
  gC : mg nm = some (.ref C)
  gs : mg "super" = none
  cls : ∃ n q N bs bm sn sub ab col dd k0 k1 k2 k3 k5, K.lookup C = some (excClassObj n q C N bs bm true sn sub ab col dd k0 k1 k2 k3 k5 "ValueError.__new__") ∧ refsVE bm = true ∧ alongIn K "__init__" bm = some (some (.builtin "ValueError.__init__"))
  q0 : excInitIn K C [.type "ValueError", .type "Exception", .type "BaseException", .type "object"] "ValueError.__new__" = true
  sa : findIn K (.ref C) "__setattr__" = some (some (.builtin "object.__setattr__"))
  noN : findIn K (.ref C) f = some none
  iC : findIn K (.ref C) "__init__" = some (some (.ref fI))
  tC : typeIn K (.ref fI) = some (.type "function")
  kC : keepIn K (.ref C) = true
  op : nsIn K cStatics "thirdparty.any" = some none
  sB : subIn K (.ref C) (.type "ValueError") = some true
  sC : mroIn K C (.ref C) = some true
  top : (P.main.scope.names.lookup ("super" : Str)).isSome = false
  ls : (mkS p).names.lookup ("super" : Str) = some .globalImplicit
  lc : (mkS p).names.lookup ("__class__" : Str) = some .free
  lp : (mkS p).names.lookup p = some .local
  nc : ∀ x ∈ (mkS p).names, x.2 ≠ .cell
  np : p ≠ "self"
  nd : (p == ("__debug__" : Str)) = false
  fn : ∃ (oc : Value) (od : Option Addr) (q : Str) (doc pm : Value) (an : Option Addr) (cda cc : Addr) (ct : Value) (osl : Array (Option Value)) (a1 a2 b1 b2 b3 b4 b5 b6 b7 b8 b9 b0 : Pos),
    K.lookup fI = some ⟨oc, od, .func (fnX "__init__" q (mkA p a1 a2) (mkB p f b1 b2 b3 b4 b5 b6 b7 b8 b9 b0) (mkS p) [("__class__", cc)] .none .none doc pm an (.ref cda) ct), osl⟩ ∧ codeIn K (.ref cda) q = true ∧
      (∀ a b : Value, bindArgs (fnX "__init__" q (mkA p a1 a2) (mkB p f b1 b2 b3 b4 b5 b6 b7 b8 b9 b0) (mkS p) [("__class__", cc)] .none .none doc pm an (.ref cda) ct) ⟨[a, b], []⟩ = pure [(("self" : Str), a), (p, b)]) ∧
      (∀ env : Env, ∃ pl : Sem Bool, eval (.Call (.Attribute (.Call (.Name "super" b1) [] [] b2) "__init__" b3) [.Name p b4] [] b5) env = (do
        let ov ← attributeBase (.Call (.Name "super" b1) [] [] b2) "__init__" env (eval (.Call (.Name "super" b1) [] [] b2) env)
        standAt b3.atName
        let (g, first) ← holding [ov] (getMethod ov "__init__" pl)
        callWith b5 g first (backTo b5 (starEach [.Name p b4] env)) [])) ∧
      (∃ ccl cdd vs ccs file tf, K.lookup cda = some ⟨ccl, cdd, .fields vs, ccs⟩ ∧ vs[2]? = some (.str file tf) ∧ ((P.main.file : Str) == file) = true) ∧ ∃ cl cld csl, K.lookup cc = some ⟨cl, cld, .cell (some (.ref C)), csl⟩
structure InitEnd (h h' : Heap) (x C dx t1 : Addr) (f : Str) (v : Value) : Prop where
  keep : ∀ b o, b ≠ x → h.get? b = some o → h'.get? b = some o
  obj : h'.get? x = some { cls := .ref C, dict := some dx, data := .fields #[.ref t1, .none, .none, .none, .bool false, .none] }
  dbig : h.objs.size ≤ dx
  dne : dx ≠ x
  ns : h'.Ns1 dx (fun y => if y = f then some v else none)
section
variable {prog : Program} {w : World} {A : Around} {E : Value → Shared → Prop} {R : Result → Shared → Prop} {s : Shared} {K : Frag} {mg mb : Str → Option Value} {C fI : Addr} {nm p f : Str}
theorem init_run (T : ExT prog K mg C fI nm p f) {hp : Heap} {x t0 : Addr} {v : Value} (X : K.In hp) (k0 : ∀ b o, hp.get? b = some o → s.heap.get? b = some o) (hpn : hp.get? x = none) (hz : hp.objs.size ≤ s.heap.objs.size) (n1 : hp.Ns mainGlobals mg) (n2 : hp.Ns builtinsNs mb) (n3 : ∀ x : Str, x ≠ "__name__" → mb x = bootBuiltins x) (n4 : hp.NoLimit)
    (hx : s.heap.get? x = some (excO C t0)) (hroom : A.depth < recursionLimit)
    (hq : ∀ h' tk dx t1, InitEnd hp h' x C dx t1 f v → R (.ok (.ret .none)) { s with heap := h', toks := tk }) :
    codeAny (model prog w) A (.call (.ref fI) ⟨[.ref x, v], []⟩) R s := by
  obtain ⟨oc, od, q, doc, pm, an, cda, cc, ct, osl, a1, a2, b1, b2, b3, b4, b5, b6, b7, b8, b9, b0, ho, hcd, hbind, hev, ⟨ccl, cdd, vs, ccs, file, tf, hco, hvs, hfile⟩, cl, cld, csl, hcell⟩ := T.fn
  obtain ⟨n, q', N, bs, bm, sn, sub, ab, col, dd, y0, y1, y2, y3, y5, hC, hbm, hal⟩ := T.cls
  have Xs : K.In s.heap := X.keeps k0
  have hcl : clsIn K C = some { name := n, bases := bs, mro := .ref C :: bm, ns := N, qualname := q', hasDict := true, slotNames := sn, subclasses := sub, abstract := ab, collection := col, hasDel := false } := by unfold clsIn; rw [hC] <;> rfl
  refine ks_codeAny_call_defAt (binds := [(("self" : Str), .ref x), (p, v)]) hroom (Xs _ _ ho) rfl (n4.keeps k0) (codeRec_of Xs hcd) rfl (.of_eq (hbind _ _)) T.nc (fun y hy => ?_) (fun h₁ hns hk₁ => ?_)
  · rcases List.mem_cons.mp hy with rfl | hy
    · rfl
    · rw [List.mem_singleton.mp hy]; exact T.lp
  have k1 : ∀ b o, hp.get? b = some o → h₁.get? b = some o := fun b o e => hk₁ b o (k0 b o e)
  have X1 : K.In h₁ := X.keeps k1
  have hx1 := hk₁ _ _ hx
  have xne : x ≠ s.heap.objs.size := Nat.ne_of_lt (Heap.lt_size hx)
  have I1 : InstAt h₁ x (excO C t0) C none := ⟨hx1, rfl, rfl, trivial⟩
  have mself : (fun y => [(("self" : Str), Value.ref x), (p, v)].reverse.lookup y) "self" = some (.ref x) := by
    show List.lookup ("self" : Str) [(p, v), ("self", .ref x)] = _
    have : (("self" : Str) == p) = false := beq_eq_false_iff_ne.mpr (Ne.symm T.np)
    simp [List.lookup, this]
  have mp : (fun y => [(("self" : Str), Value.ref x), (p, v)].reverse.lookup y) p = some v := by
    show List.lookup p [(p, v), ("self", .ref x)] = _
    simp [List.lookup]
  obtain ⟨oD, hD1, hD2⟩ : ∃ oD, h₁.get? C = some oD ∧ ∃ cd, oD.data = .cls cd := ⟨_, X1 _ _ hC, _, rfl⟩
  obtain ⟨cdD, hD2⟩ := hD2
  -- super().__init__(p)
  obtain ⟨pl, hev⟩ := hev (callEnv (fnX "__init__" q (mkA p a1 a2) (mkB p f b1 b2 b3 b4 b5 b6 b7 b8 b9 b0) (mkS p) [("__class__", cc)] .none .none doc pm an (.ref cda) ct) s.heap.objs.size fI)
  refine ks_wpAt_execs_cons (ks_wpAt_Expr_any (ks_wpAt_MethodCall (pl := pl) (ks_wpAt_super_base T.ls T.lc rfl rfl (X1 _ _ ho) rfl rfl rfl (X1 _ _ hco) rfl hvs hfile T.top ?_) hev))
  refine ks_loadName_global rfl T.ls (loadGlobal_builtin (n1.keeps k1) T.gs (n2.keeps k1) ((n3 _ (by decide +kernel)).trans (by decide +kernel)) ⟨rfl, ?_⟩)
  refine wpAny_loadName_free rfl T.lc rfl ⟨_, X1 _ _ hcell, rfl⟩ ?_
  refine wpAny_loadName_local rfl rfl hns mself ?_
  refine ks_wpAny_isType_cls hD1 hD2 ⟨rfl, ?_⟩
  refine ks_wpAny_call_super hD1 hD2 hx1 rfl (fun c e => by cases e) (looks_mroIn X1 T.sC) (fun h2 hso k2 => ?_)
  have X2 : K.In h2 := X1.keeps k2
  have hx2 := k2 _ _ hx1
  have I2 : InstAt h2 x (excO C t0) C none := ⟨hx2, rfl, rfl, trivial⟩
  have hxC : x ≠ C := fun z => by rw [z, X _ _ hC] at hpn; cases hpn
  have hL : s.heap.objs.size < h2.objs.size := by
    obtain ⟨oL, _, _, e, _⟩ := hns
    exact Heap.lt_size (k2 _ _ e)
  refine kxs_getMethod kxs_ValueError hso (looks_opaque X2 T.op) (l₀ := .ref C :: bm) (fun A Q E s k q => wpAny_bind ((looks_clsIn X2 hcl) A _ E s k (wpAny_pure q))) (l := bm) (by simp [List.dropWhile_cons]) X2 hal (I2.type.andThen (looks_subIn X2 T.sB)) hxC rfl ?_
  have k3 : ∀ b o, h2.get? b = some o → (h2.push (kxs_mw "ValueError.__init__" x)).get? b = some o := fun b o e => Heap.get?_push_of_some _ e
  have hmw : (h2.push (kxs_mw "ValueError.__init__" x)).get? h2.objs.size = some (kxs_mw "ValueError.__init__" x) := Heap.get?_push_size _ rfl
  generalize hh3 : h2.push (kxs_mw "ValueError.__init__" x) = h3 at k3 hmw
  have hns3 : h3.Ns s.heap.objs.size (fun y => [(("self" : Str), Value.ref x), (p, v)].reverse.lookup y) := hns.keeps fun b o e => k3 b o (k2 b o e)
  have kp3 : ∀ b o, hp.get? b = some o → h3.get? b = some o := fun b o e => k3 b o (k2 b o (k1 b o e))
  have F3 : Fr hp s.heap.objs.size h3 (fun y => [(("self" : Str), Value.ref x), (p, v)].reverse.lookup y) := ⟨hns3, kp3, hz⟩
  have none_of : ∀ b, hp.objs.size ≤ b → hp.get? b = none := fun b hb => by
    cases z : hp.get? b with
    | none => rfl
    | some o => exact absurd (Heap.lt_size z) (Nat.not_lt.mpr hb)
  have N3 : News hp s.heap.objs.size h3 [(h2.objs.size, kxs_mw "ValueError.__init__" x), (x, excObj C t0 none .none)] := by
    intro r hr
    rcases List.mem_cons.mp hr with rfl | hr
    · exact ⟨hmw, Nat.ne_of_gt hL, none_of _ (Nat.le_trans hz (Nat.le_of_lt hL))⟩
    · rw [List.mem_singleton.mp hr]
      exact ⟨k3 _ _ hx2, xne, hpn⟩
  have xu : h2.objs.size ≠ x := Nat.ne_of_gt (Heap.lt_size hx2)
  refine kxs_callWith1 N3 List.mem_cons_self ?_
  refine spliced_cons (wpAny_Name (wpAny_loadName_local rfl T.lp hns3 mp (spliced_nil ⟨hmw, ?_⟩)) T.nd)
  refine kxs_call (rest := [v]) F3 X N3 F.excBase_ValueError T.q0 List.mem_cons_self (.tail xu (.head fun r hr => by cases hr)) (by rw [sizeLine_eq]; exact (by decide : 1 ≤ 16777216)) fun t1 h4 F4 N4 l4 => ?_
  -- self.f = p
  refine ks_wpAt_execs_cons (ks_wpAt_Assign_Attr ?_)
  have X4 : K.In h4 := X.keeps F4.keep
  have hx4 : h4.get? x = some (excO C t1) := (N4 (x, excObj C t1 none .none) (by simp)).1
  refine wpAt_of_wpAny (wpAny_Name (wpAny_loadName_local rfl T.lp F4.ns mp ?_) T.nd)
  refine wpAny_Name (wpAny_loadName_local rfl rfl F4.ns mself ?_) (by decide)
  refine set_plain X4 (ox := excO C t1) (od := none) ⟨hx4, rfl, rfl, trivial⟩ T.sa ?_
  refine exc_osa X4 hx4 hcl (show refsVE (.ref C :: bm) = true from hbm) rfl T.noN (fun h5 tk5 dx k5 dn dne hx5 hn5 => ?_)
  refine wpAt_of_wpAny (wpAny_execs_nil ?_)
  exact hq h5 tk5 dx t1 ⟨fun b o hb e => k5 b o hb (F4.keep b o e), hx5, Nat.le_trans hz (Nat.le_trans (Nat.le_of_lt F4.ns.lt) dn), dne, hn5⟩
structure OwnMade (h h' : Heap) (e C d : Addr) (f : Str) (v : Value) : Prop where
  keep : ∀ b o, h.get? b = some o → h'.get? b = some o
  new : h.objs.size ≤ e
  obj : ∃ oe vs, h'.get? e = some oe ∧ oe.cls = .ref C ∧ oe.dict = some d ∧ oe.data = .fields vs ∧ vs[1]? = some .none
  dbig : h.objs.size ≤ d
  dne : d ≠ e
  ns : h'.Ns1 d (fun y => if y = f then some v else none)
/-- the class called -/
theorem made (T : ExT prog K mg C fI nm p f) {v : Value} (X : K.In s.heap) (n1 : s.heap.Ns mainGlobals mg) (n2 : s.heap.Ns builtinsNs mb) (n3 : ∀ x : Str, x ≠ "__name__" → mb x = bootBuiltins x) (n4 : s.heap.NoLimit) (hroom : A.depth + 1 < recursionLimit)
    (hq : ∀ h' tk e d, OwnMade s.heap h' e C d f v → R (.ok (.ret (.ref e))) { s with heap := h', toks := tk }) :
    codeAny (model prog w) A (.call (.ref C) ⟨[v], []⟩) R s := by
  obtain ⟨n, q', N, bs, bm, sn, sub, ab, col, dd, y0, y1, y2, y3, y5, hC, hbm, hal⟩ := T.cls
  obtain ⟨hp, g, dr, tk, os⟩ := s
  have k : ∀ b o, hp.get? b = some o → ((hp.push (kdv_tup [v])).push (excO C hp.objs.size)).get? b = some o := fun b o e => Heap.get?_push_of_some _ (Heap.get?_push_of_some _ e)
  have hget : ((hp.push (kdv_tup [v])).push (excO C hp.objs.size)).get? (hp.objs.size + 1) = some (excO C hp.objs.size) := by heap_get
  have big : ∀ b, hp.objs.size ≤ b → hp.get? b = none := fun b hb => by
    cases z : hp.get? b with
    | none => rfl
    | some o => exact absurd (Heap.lt_size z) (Nat.not_lt.mpr hb)
  refine call_own F.excBase_ValueError (fun X => refsVE_contains X bm hbm) (X _ _ hC) (looks_findIn X T.iC) (fun self => bind_fn X self T.tC) (by rw [sizeLine_eq]; exact (by decide : 1 ≤ 16777216)) ?_
  refine init_run (s := ⟨(hp.push (kdv_tup [v])).push (excO C hp.objs.size), g, dr, tk, os⟩) T X k (big _ (Nat.le_succ _)) (by simp only [Heap.size_push]; omega) n1 n2 n3 n4 hget hroom fun h' tk' dx t1 M => ?_
  exact ⟨rfl, hq h' tk' (hp.objs.size + 1) dx ⟨fun b o e => M.keep b o (Nat.ne_of_lt (Nat.lt_succ_of_lt (Heap.lt_size e))) e, Nat.le_succ _, ⟨_, _, M.obj, rfl, rfl, rfl, rfl⟩, M.dbig, M.dne, M.ns⟩⟩
end
end DX
/-! DX2: own exceptions in the hand layer: made, raised, read in a suite. -/
namespace DX
open PySem PySem.Spec PyProof.Rows L2
theorem relO_one {v : V} {v' : Value} (f : Str) (r : RelV v v') (g : Str) : RelO (List.lookup g [(f, v)]) (if g = f then some v' else none) := by
  by_cases hw : g = f
  · subst hw
    rw [if_pos rfl, show List.lookup g [(g, v)] = some v from by simp [List.lookup]]
    exact r
  · rw [if_neg hw, show List.lookup g [(f, v)] = none from by simp [List.lookup, beq_eq_false_iff_ne.mpr hw]]
    trivial
section
variable {X : Cx} {C fI : Addr} {nm p f : Str}
/-- nm(e) -/
def tMk (C : Addr) (f : Str) (ta : TA) : L2.St → Hp → XK → Prop := fun σ H Q => ta σ H fun vs H1 => ∃ v, vs = [v] ∧ ∀ d, H1 d = none → Q (.ref C) (some d) (upd H1 d (.xd [(f, v)]))
theorem pmk_own {a : Expr} {ta : TA} {q pos : Pos} {k : Nat} (T : ExT X.prog X.K X.mg C fI nm p f) (exC : PySem.W.subIn X.K (.ref C) (.type "BaseException") = some true) (tyC : PySem.W.typeIn X.K (.ref C) = some (.type "type")) (hr : Room k X.A) (ha : PA X [a] ta) (hg : Gl X nm)
    (hdb : (nm == ("__debug__" : Str)) = false := by decide) (he : starEach (a :: []) X.env = (false, eval a X.env) :: starEach [] X.env := by rfl) (hpl : (backTo pos (starEach [] X.env)).any (·.1) = false := by rfl) :
    PMk X (.Call (.Name nm q) [a] [] pos) (tMk C f ta) := by
  intro pins s σ H Q I h
  refine wpAny_Call_Name_kw (ld_glob I hg T.gC ?_ hdb)
  refine PySem.W.callWith_K (h₀ := X.base) I.ok.mod.kin T.kC (thn (ha.run pos pins s σ H _ I h) fun us s1 ⟨vs, H1, I1, r1, v, ev, q1⟩ => ?_) he hpl
  subst ev
  refine ⟨I1.kIn, ?_⟩
  cases r1 with
  | cons rv rn =>
    cases rn
    have hlim := I1.nolimit
    obtain ⟨mb, b1, b2⟩ := I1.mod.blt
    have g1 := I1.mod.glob.keeps I1.bk
    have g2 := b1.keeps I1.bk
    obtain ⟨hp, g, dr, tk, os⟩ := s1
    refine wpAny_call (made T I1.kIn g1 g2 b2 hlim (by have := hr.dp; omega) fun h' tk' e d M => ?_)
    show MkP X pins σ Q (.ref e) ⟨h', g, dr, tk', os⟩
    obtain ⟨oe, fv, hoe, hc, hd, hdat, h1⟩ := M.obj
    have hns := M.ns
    obtain ⟨G', r1, r2⟩ := restrict h' fun b => decide (b ≠ e)
    have gk : ∀ b, b ≠ e → G'.get? b = h'.get? b := fun b hb => r1 b (decide_eq_true hb)
    have ge : G'.get? e = none := r2 e (by simp)
    have old : ∀ b o, hp.get? b = some o → G'.get? b = some o := fun b o z => (gk b (Nat.ne_of_lt (Nat.lt_of_lt_of_le (Heap.lt_size z) M.new))).trans (M.keep b o z)
    have ob : ObjOk X.prog X.w (upd H1 d (.xd [(f, v)])) G' d (.xd [(f, v)]) := ⟨_, hns.at (fun o z => (gk d M.dne).trans z), relO_one f rv⟩
    have J : Inv X pins σ (upd H1 d (.xd [(f, v)])) ⟨G', g, dr, tk', os⟩ := I1.laid (t' := tk') old M.dbig ob
    refine ⟨e, oe, fv, ⟨G', g, dr, tk', os⟩, _, .ref C, some d, rfl, J, fun b o z => ?_, ge, hoe, ⟨hc, hd⟩, hdat, h1, ?_, rfl, I1.bare, raises_own exC tyC, q1 d (I1.hok.fresh M.dbig)⟩
    · by_cases hb : b = e
      · subst hb
        rw [show G'.get? b = none from ge] at z
        cases z
      · exact (gk b hb).symm.trans z
    · rw [upd_ne (Ne.symm M.dne)]
      exact I1.hok.fresh M.new
end
end DX
/-! DX3: statements and expressions that an own exception may leave. -/
namespace DL
open PySem PySem.Spec L2
/-- which exceptions may leave: class name, what it bears, the slots, draws left -/
abbrev XC := Str → D → DS → Nat → Prop
/-- class name: the class, its field -/
abbrev XT := Str → Option (Addr × Str)
abbrev DTX := XC → DTE
abbrev DTSX := XC → DTS
/-- what is due where an exception leaves -/
def XOk (K : PySem.W.Frag) (g : Gh) (S : Hp) (ct : XT) (xc : XC) (W : WX) : Prop := ∀ nm x δ m σ H S' Vs C f d v, ct nm = some (C, f) → xc nm x δ m → SR K g m δ σ H S' Vs → Same S S' → H d = some (.xd [(f, v)]) → Dp K S' v x → W (.ref C) (some d) σ H
theorem XOk.less {K : PySem.W.Frag} {g : Gh} {S S' : Hp} {ct : XT} {xc : XC} {W : WX} (h : XOk K g S ct xc W) (s : Same S S') : XOk K g S' ct xc W :=
  fun nm x δ m σ H S2 Vs C f d v e p r q => h nm x δ m σ H S2 Vs C f d v e p r (s.trans q)
def lEX (K : PySem.W.Frag) (ct : XT) (W : WX) (b : Bool) (t : DTX) : TE := fun σ H Q => ∃ g n δ S Vs P xc, SR K g n δ σ H S Vs ∧ t xc δ n P ∧ XOk K g S ct xc W ∧
  ∀ d m v H' S' Vs', P d m → SR K g m δ σ H' S' Vs' → Same S S' → Same Vs Vs' → Rp K b S' Vs' v d → Q v H'
structure DEX (X : Cx) (ct : XT) (W : WX) (e : Expr) (t : DTX) : Prop where
  run : PE X e (lEX X.K ct W true t)
def lSX (K : PySem.W.Frag) (ct : XT) (W : WX) (t : DTSX) : TS := fun D σ H => ∃ g n δ S Vs E xc, g.T = [] ∧ SR K g n δ σ H S Vs ∧ t xc E δ n ∧ EndsOk K g S E D ∧ XOk K g S ct xc W
structure DSX (X : Cx) (ct : XT) (W : WX) (st : Stmt) (t : DTSX) : Prop where
  run : PS X st (lSX X.K ct W t)
structure DSsX (X : Cx) (ct : XT) (W : WX) (st : List Stmt) (t : DTSX) : Prop where
  run : PSs X st (lSX X.K ct W t)
section
variable {X : Cx} {ct : XT} {W : WX} {e a b c : Expr} {es : List Expr} {pos : Pos} {t1 t2 : DTE} {x1 x2 : DTX} {u1 : DTT} {s1 s2 : DTSX} {st : Stmt} {rest sa sb : List Stmt} {b1 b2 : Bool}
theorem lE_of {b : Bool} {t : DTE} {K : PySem.W.Frag} {σ : L2.St} {H : Hp} {Q : VK} (h : lEX K ct W b (fun _ => t) σ H Q) : lE K b t σ H Q := by
  obtain ⟨g, n, δ, S, Vs, P, xc, sr, ht, _, k⟩ := h
  exact ⟨g, n, δ, S, Vs, P, sr, ht, k⟩
theorem dex_of (h : DE X true e t1) : DEX X ct W e (fun _ => t1) := ⟨PE.imp h.run fun _ _ _ q => lE_of q⟩
theorem dsx_of {t : DTS} (h : DSt X st t) : DSX X ct W st (fun _ => t) := ⟨PS.imp h.run fun _ _ _ ⟨g, n, δ, S, Vs, E, xc, hT, sr, ht, ok, _⟩ => ⟨g, n, δ, S, Vs, E, hT, sr, ht, ok⟩⟩
theorem dssx_of {t : DTS} (h : DSs X rest t) : DSsX X ct W rest (fun _ => t) := ⟨PSs.imp h.run fun _ _ _ ⟨g, n, δ, S, Vs, E, xc, hT, sr, ht, ok, _⟩ => ⟨g, n, δ, S, Vs, E, hT, sr, ht, ok⟩⟩
def qSeq (t u : DTSX) : DTSX := fun xc E δ n => t xc { E with nx := u xc E } δ n
theorem dssx_cons (h1 : DSX X ct W st s1) (h2 : DSsX X ct W rest s2) : DSsX X ct W (st :: rest) (qSeq s1 s2) := ⟨PSs.imp (pss_cons h1.run h2.run) fun D σ H ⟨g, n, δ, S, Vs, E, xc, hT, sr, ht, ok, xk⟩ =>
  ⟨g, n, δ, S, Vs, _, xc, hT, sr, ht, ⟨fun δ' m σ' H' S' Vs' q sr' s => ⟨g, m, δ', S', Vs', E, xc, hT, sr', q, ok.less s, xk.less s⟩, ok.2.1, ok.2.2.1, ok.2.2.2⟩, xk⟩⟩
theorem dssx_one (h1 : DSX X ct W st s1) : DSsX X ct W [st] s1 := ⟨pss_one h1.run⟩
def qIf (u : DTT) (s t : DTSX) : DTSX := fun xc E δ n => u δ n fun c m => if c = true then s xc E δ m else t xc E δ m
theorem dsx_if (hc : DT X c u1) (ha : DSsX X ct W sa s1) (hb : DSsX X ct W sb s2) : DSX X ct W (.If c sa sb pos) (qIf u1 s1 s2) :=
  ⟨PS.imp (ps_if hc.run ha.run hb.run) fun D σ H ⟨g, n, δ, S, Vs, E, xc, hT, sr, ht, ok, xk⟩ => ⟨g, n, δ, S, Vs, _, sr, ht, fun k m H' S' Vs' p sr' q1 q2 => by
    cases k with
    | true => exact ⟨g, m, δ, S', Vs', E, xc, hT, sr', p, ok.less q1, xk.less q1⟩
    | false => exact ⟨g, m, δ, S', Vs', E, xc, hT, sr', p, ok.less q1, xk.less q1⟩⟩⟩
def qRet (t : DTX) : DTSX := fun xc E δ n => t xc δ n E.rt
theorem dsx_ret (h : DEX X ct W e x1) : DSX X ct W (.Return (some e) pos) (qRet x1) :=
  ⟨PS.imp (ps_ret h.run) fun D σ H ⟨g, n, δ, S, Vs, E, xc, hT, sr, ht, ok, xk⟩ => ⟨g, n, δ, S, Vs, _, xc, sr, ht, xk, fun d m v H' S' Vs' p sr' q1 q2 r => ok.2.1 d δ m v σ H' S' Vs' p sr' q1 r⟩⟩
def qSet (i : Nat) (t : DTX) : DTSX := fun xc E δ n => t xc δ n fun d m => i < δ.length ∧ E.nx (δ.set i (some (.dat d))) m
theorem dsx_set {i : Nat} (h : ∀ te, PE X e te → PS X st (tAsg te (gName i))) (he : DEX X ct W e x1) : DSX X ct W st (qSet i x1) :=
  ⟨PS.imp (h _ he.run) fun D σ H ⟨g, n, δ, S, Vs, E, xc, hT, sr, ht, ok, xk⟩ => ⟨g, n, δ, S, Vs, _, xc, sr, ht, xk, fun d m v H' S' Vs' ⟨hi, p⟩ sr' q1 q2 r => ok.1 _ m _ H' S' Vs' p (sr'.set hi r) q1⟩⟩
def qIfE (u : DTT) (t v : DTX) : DTX := fun xc δ n Q => u δ n fun c m => if c = true then t xc δ m Q else v xc δ m Q
theorem dex_if (hc : DT X c u1) (h : DEX X ct W a x1) (h2 : DEX X ct W b x2) : DEX X ct W (.IfExp c a b pos) (qIfE u1 x1 x2) :=
  ⟨PE.imp (pe_ifExp hc.run h.run h2.run) fun σ H Q ⟨g, n, δ, S, Vs, P, xc, sr, ht, xk, k⟩ => ⟨g, n, δ, S, Vs, _, sr, ht, fun c m H' S' Vs' p sr' q1 q2 => by
    cases c with
    | true => exact ⟨g, m, δ, S', Vs', P, xc, sr', p, xk.less q1, fun d m2 v H2 S2 V2 p2 sr2 w1 w2 r => k d m2 v H2 S2 V2 p2 sr2 (q1.trans w1) (q2.trans w2) r⟩
    | false => exact ⟨g, m, δ, S', Vs', P, xc, sr', p, xk.less q1, fun d m2 v H2 S2 V2 p2 sr2 w1 w2 r => k d m2 v H2 S2 V2 p2 sr2 (q1.trans w1) (q2.trans w2) r⟩⟩⟩
/-- raise nm(e) -/
def qRaise (nm : Str) (t : DTE) : DTSX := fun xc _ δ n => t δ n fun d m => xc nm d δ m
theorem dsx_raise {C fI : Addr} {nm p f : Str} {k : Nat} {q cpos : Pos} (hct : ct nm = some (C, f)) (hc : X.calm = true) (T : DX.ExT X.prog X.K X.mg C fI nm p f) (exC : PySem.W.subIn X.K (.ref C) (.type "BaseException") = some true) (tyC : PySem.W.typeIn X.K (.ref C) = some (.type "type")) (hr : Room k X.A) (tk : Takes X W) (ha : DE X true e t1) (hg : Gl X nm)
    (hdb : (nm == ("__debug__" : Str)) = false := by decide) (he : starEach (e :: []) X.env = (false, eval e X.env) :: starEach [] X.env := by rfl) (hpl : (backTo cpos (starEach [] X.env)).any (·.1) = false := by rfl) :
    DSX X ct W (.Raise (some (.Call (.Name nm q) [e] [] cpos)) none pos) (qRaise nm t1) :=
  ⟨PS.imp (ps_raise hc tk (DX.pmk_own T exC tyC hr (pa_cons ha.run pa_nil he) hg hdb he hpl)) fun D σ H ⟨g, n, δ, S, Vs, E, xc, hT, sr, ht, ok, xk⟩ => ⟨g, n, δ, S, Vs, _, sr, ht, fun d m v H' S' Vs' p sr' q1 q2 r =>
    ⟨v, rfl, fun dd hd => xk nm d δ m σ _ S' Vs' C f dd v hct p (sr'.temp hd) q1 upd_same r⟩⟩⟩
end
end DL
/-! DX4: defs that own exceptions leave: promised, called; caught. -/
namespace DL
open PySem PySem.Spec L2
abbrev FnX := List Ar → Nat → (Str → D → Nat → Prop) → (D → Nat → Prop) → Prop
def spDX (K : PySem.W.Frag) (ar : Nat) (ct : XT) (f : FnX) : Sp := fun vs H Q E => ∃ (W : Option (Addr × Addr)) (n : Nat) (S0 : Hp) (as : List Ar) (P : D → Nat → Prop) (px : Str → D → Nat → Prop), as.length = ar ∧ Same S0 H ∧ (∀ b, inW W b → S0 b = none) ∧ (∀ r f, W = some (r, f) → RillOk H r f n) ∧
  RpAs K W true S0 S0 vs as ∧ f as n px P ∧
  (∀ d m v H' S', P d m → Same S0 S' → Same S' H' → (∀ b, inW W b → S' b = none) → (∀ b o, S' b = some o → S0 b = some o ∨ H b = none) → (∀ r f, W = some (r, f) → RillOk H' r f m) →
    (∀ b o, H b = some o → ¬ inW W b → H' b = some o) → Dp K S' v d → Q v H') ∧
  ∀ nm x m v H' S' C fl d, ct nm = some (C, fl) → px nm x m → Same S0 S' → Same S' H' → (∀ b, inW W b → S' b = none) → (∀ b o, S' b = some o → S0 b = some o ∨ H b = none) → (∀ r f, W = some (r, f) → RillOk H' r f m) →
    (∀ b o, H b = some o → ¬ inW W b → H' b = some o) → H' d = some (.xd [(fl, v)]) → Dp K S' v x → E (.ref C) (some d) H'
theorem spDX_len {K : PySem.W.Frag} {ar : Nat} {ct : XT} {f : FnX} : ∀ vs H Q E, spDX K ar ct f vs H Q E → vs.length = ar := fun vs H Q E ⟨_, _, _, as, _, _, e, _, _, _, r, _⟩ => (Paired.len r).trans e
theorem dfnX {P : Program} {w : World} {K : PySem.W.Frag} {mg : Str → Option Value} {base : Heap} {x qual : Str} {fa : Addr} {fd : FuncData} {N ps : List Str} {st : Stmt} {k ar : Nat} {ct : XT} {f : FnX} {t : DTSX} (F : Fun K x qual st fa fd) (S : FnScope N ps (defScope st)) (har : ps.length = ar)
    (hb : ∀ (cdv : Value) (A : Around) (outer : List Env) (s : Shared) (H : Hp) (E : XK), A.guards = some [] → Room k (A.deeper (PyProof.Rows.envOfC qual (defScope st) s.heap.objs.size fa cdv)) → DSsX (cxOf (L2.CX P w) P w K mg base N qual (defScope st) fa cdv A outer s H E) ct (fun cls d _ H => E cls d H) (defBody st) t)
    (hf : ∀ as n px P, as.length = ar → f as n px P → t (fun nm x _ m => px nm x m) ⟨fun _ m => P .none m, P, fun _ _ => False, fun _ _ => False⟩ (startD N as) n) : FnG P w K mg base (L2.CX P w) (k + 1) fa fd ps (spDX K ar ct f) := by
  refine fnG_of F S (fun vs H Q E h => (spDX_len vs H Q E h).trans har.symm) fun cdv A outer s H vs Q E hgd hr h => ?_
  obtain ⟨W, n, S0, as, P', px, e, h1, h2, h3, h4, hp, kk, kx⟩ := h
  refine ⟨_, (hb cdv A outer s H E hgd hr).run, ⟨W, H, S0, []⟩, n, startD N as, S0, S0, _, _, rfl, start_sr h1 h2 h3 h4, hf as n px P' e hp, ⟨fun δ' m σ' H' S' Vs' q sr' s1 => ?_, fun d δ' m v σ' H' S' Vs' q sr' s1 r => ?_, fun _ _ _ _ _ _ q _ _ => q.elim, fun _ _ _ _ _ _ q _ _ => q.elim⟩, fun nm x δ' m σ' H' S' Vs' C fl d v hc q sr' s1 hd r => ?_⟩
  · exact kk _ m _ H' S' q s1 sr'.SH (fun b hb => sr'.SV.free (sr'.nW b hb)) (fun b o e => sr'.fresh b o (sr'.SV b o e)) sr'.rill sr'.base .non
  · exact kk _ m _ H' S' q s1 sr'.SH (fun b hb => sr'.SV.free (sr'.nW b hb)) (fun b o e => sr'.fresh b o (sr'.SV b o e)) sr'.rill sr'.base r
  · exact kx nm x m v H' S' C fl d hc q s1 sr'.SH (fun b hb => sr'.SV.free (sr'.nW b hb)) (fun b o e => sr'.fresh b o (sr'.SV b o e)) sr'.rill sr'.base hd r
section
variable {X : Cx} {CX : CXT} {k : Nat} {fa : Addr} {fd : FuncData} {ps ks : List Str} {sp : Sp} {x : Str} {p pos : Pos} {e a b : Expr} {es : List Expr} {t : TA} {W : WX} {g : {α : Type} → List α → List α → List α} {kws : List Keyword}
theorem go_fnS {pins : List (Addr × Obj)} {σ : L2.St} {H : Hp} {s : Shared} {Q : VK} {us : List Value} {vs : List V} (F : FnG X.prog X.w X.K X.mg X.base (L2.CX X.prog X.w) k fa fd ps sp) (hg : X.A.guards = some []) (hr : Room k X.A) (hb : Binds X.K fd ps []) (tk : Takes X W)
    (I : Inv X pins σ H s) (r : Vals vs us) (h : sp vs H Q (WE W σ)) : wpAny (model X.prog X.w) X.A (call (.ref fa) us) (EP X pins σ Q) X.xe s := by
  have hl : (us ++ []).length = ps.length := by rw [List.append_nil, ← r.length]; exact F.ar _ _ _ _ h
  have hb' := hb s us I.kIn hl
  rw [List.append_nil] at hb'
  refine wpAny_call (codeAny_mono (F.go X.A X.stack s H ⟨us, []⟩ us vs Q _ hg hr I.env0 hb' r h) fun r s' q => ?_)
  rcases r with er | fl
  · exact passAt tk σ pins H s er s' I q
  · rcases fl with u | _ | _ | _
    all_goals first | exact I.after q | exact q.elim
theorem go_fnKS {pins : List (Addr × Obj)} {σ : L2.St} {H : Hp} {s : Shared} {Q : VK} {us ws : List Value} {vs zs : List V} (F : FnG X.prog X.w X.K X.mg X.base (L2.CX X.prog X.w) k fa fd ps sp) (hg : X.A.guards = some []) (hr : Room k X.A) (hb : KwB X.K fd ps ks g) (tk : Takes X W)
    (I : Inv X pins σ H s) (r : Vals vs us) (rz : Vals zs ws) (h : sp (g vs zs) H Q (WE W σ)) : wpAny (model X.prog X.w) X.A (call (.ref fa) us (ks.zip ws)) (EP X pins σ Q) X.xe s := by
  have r2 := hb.rel r rz
  have hl : (g us ws).length = ps.length := by rw [← r2.length]; exact F.ar _ _ _ _ h
  refine wpAny_call (codeAny_mono (F.go X.A X.stack s H ⟨us, ks.zip ws⟩ (g us ws) (g vs zs) Q _ hg hr I.env0 (hb.to s us ws I.kIn hl) r2 h) fun r s' q => ?_)
  rcases r with er | fl
  · exact passAt tk σ pins H s er s' I q
  · rcases fl with u | _ | _ | _
    all_goals first | exact I.after q | exact q.elim
theorem pg_callS (F : FnG X.prog X.w X.K X.mg X.base (L2.CX X.prog X.w) k fa fd ps sp) (hgd : X.A.guards = some []) (hr : Room k X.A) (hg : Gl X x) (hm : X.mg x = some (.ref fa)) (hk : PySem.W.keepIn X.K (.ref fa) = true) (hb : Binds X.K fd ps []) (tk : Takes X W)
    (ha : PA X (e :: es) t) (hdb : (x == ("__debug__" : Str)) = false := by decide) (he : starEach (e :: es) X.env = (false, eval e X.env) :: starEach es X.env := by rfl) (hpl : (backTo pos (starEach es X.env)).any (·.1) = false := by rfl) :
    PE X (.Call (.Name x p) (e :: es) [] pos) (fun σ H Q => t σ H fun vs H1 => sp vs H1 Q (WE W σ)) :=
  ⟨fun pins s σ H Q I h => wpAny_Call_Name_kw (ld_glob I hg hm (PySem.W.callWith_K (h₀ := X.base) I.ok.mod.kin hk (thn (ha.run pos pins s σ H _ I h) fun us s1 ⟨vs, H1, I1, r, q⟩ => ⟨I1.kIn, go_fnS F hgd hr hb tk I1 r q⟩) he hpl) hdb)⟩
theorem pg_callKS0 (F : FnG X.prog X.w X.K X.mg X.base (L2.CX X.prog X.w) k fa fd ps sp) (hgd : X.A.guards = some []) (hr : Room k X.A) (hg : Gl X x) (hm : X.mg x = some (.ref fa)) (hk : PySem.W.keepIn X.K (.ref fa) = true) (hb : KwB X.K fd ps ks g) (tk : Takes X W) {tk' : TA}
    (hkw : PK X kws tk') (hall : (backToKw pos (keywordEach kws X.env)).all (·.1.isSome) = true := by rfl) (hks : (backToKw pos (keywordEach kws X.env)).filterMap (·.1) = ks := by rfl)
    (hdb : (x == ("__debug__" : Str)) = false := by decide)
    (hpl : ((backTo pos (starEach [] X.env)).any (·.1) || (backToKw pos (keywordEach kws X.env)).any (·.1.isNone)) = false := by rfl) : PE X (.Call (.Name x p) [] kws pos) (fun σ H Q => tk' σ H fun zs H1 => sp (g [] zs) H1 Q (WE W σ)) :=
  ⟨fun pins s σ H Q I h => wpAny_Call_Name_kw (ld_glob I hg hm (PySem.W.callWith_KW0 (h₀ := X.base) I.ok.mod.kin hk hall (thn (hkw.run pos pins s σ H _ I h) fun ws s2 ⟨zs, H2, I2, rz, q2⟩ =>
    ⟨I2.kIn, by rw [hks, List.append_nil]; exact go_fnKS (us := []) (vs := []) F hgd hr hb tk I2 .nil rz q2⟩) hpl) hdb)⟩
end
section
variable {X : Cx} {ct : XT} {k : Nat} {fa : Addr} {fd : FuncData} {ps ks : List Str} {x : Str} {p pos : Pos} {e : Expr} {es : List Expr} {W : WX} {f : FnX} {tr : DTR} {ar : Nat}
def dCallX (f : FnX) (tr : DTR) : DTX := fun xc δ n Q => tr δ n fun as m => f as m (fun nm x m' => xc nm x δ m') Q
theorem dex_call (F : FnG X.prog X.w X.K X.mg X.base (L2.CX X.prog X.w) k fa fd ps (spDX X.K ar ct f)) (hgd : X.A.guards = some []) (hr : Room k X.A) (hg : Gl X x) (hm : X.mg x = some (.ref fa)) (hk : PySem.W.keepIn X.K (.ref fa) = true) (hb : Binds X.K fd ps []) (tk : Takes X W)
    (har : (e :: es).length = ar) (ha : DR X true (e :: es) tr) (hdb : (x == ("__debug__" : Str)) = false := by decide)
    (he : starEach (e :: es) X.env = (false, eval e X.env) :: starEach es X.env := by rfl) (hpl : (backTo pos (starEach es X.env)).any (·.1) = false := by rfl) :
    DEX X ct W (.Call (.Name x p) (e :: es) [] pos) (dCallX f tr) :=
  ⟨PE.imp (pg_callS F hgd hr hg hm hk hb tk ha.run hdb he hpl) fun σ H Q ⟨g, n, δ, S, Vs, P, xc, sr, ht, xk, kk⟩ => ⟨g, n, δ, S, Vs, _, sr, ht, fun as m vs H' S' Vs' p hl sr' s1 s2 r =>
    ⟨g.W, m, S', as, P, _, hl.trans har, sr'.SH, fun b w => sr'.SV.free (sr'.nW b w), sr'.rill, RpAs.st r, p, fun d m2 v H2 S2 p2 h1 h2 h3 h4 h5 h6 hd => by
      obtain ⟨V2, sr2, hv⟩ := sr'.called h1 h2 h3 h4 h5 h6
      exact kk d m2 v H2 S2 V2 p2 sr2 (s1.trans h1) (s2.trans hv) hd, fun nm x m2 v H2 S2 C fl d hc px h1 h2 h3 h4 h5 h6 hd hv => by
      obtain ⟨V2, sr2, _⟩ := sr'.called h1 h2 h3 h4 h5 h6
      exact xk nm x δ m2 σ H2 S2 V2 C fl d v hc px sr2 (s1.trans h1) hd hv⟩⟩⟩
def dCallKX (f : FnX) (nb : Nat) (perm : List Nat) (tk : DTR) : DTX := fun xc δ n Q => tk δ n fun bs m => f (gP 0 nb perm [] bs) m (fun nm x m' => xc nm x δ m') Q
theorem dex_callK0 {kws : List Keyword} {tr : DTR} {nb : Nat} {perm : List Nat} (F : FnG X.prog X.w X.K X.mg X.base (L2.CX X.prog X.w) k fa fd ps (spDX X.K ar ct f)) (hgd : X.A.guards = some []) (hr : Room k X.A) (hg : Gl X x) (hm : X.mg x = some (.ref fa)) (hk : PySem.W.keepIn X.K (.ref fa) = true)
    (hb : KwB X.K fd ps ks (gP 0 nb perm)) (tk : Takes X W) (hkw : DK X true kws tr) (hnb : kws.length = nb) (har : ∀ (α : Type) (us ws : List α), us.length = 0 → ws.length = nb → (gP 0 nb perm us ws).length = ar)
    (hall : (backToKw pos (keywordEach kws X.env)).all (·.1.isSome) = true := by rfl) (hks : (backToKw pos (keywordEach kws X.env)).filterMap (·.1) = ks := by rfl)
    (hdb : (x == ("__debug__" : Str)) = false := by decide)
    (hpl : ((backTo pos (starEach [] X.env)).any (·.1) || (backToKw pos (keywordEach kws X.env)).any (·.1.isNone)) = false := by rfl) :
    DEX X ct W (.Call (.Name x p) [] kws pos) (dCallKX f nb perm tr) :=
  ⟨PE.imp (pg_callKS0 F hgd hr hg hm hk hb tk hkw.run hall hks hdb hpl) fun σ H Q ⟨g, n, δ, S, Vs, P, xc, sr, ht, xk, kk⟩ => ⟨g, n, δ, S, Vs, _, sr, ht, fun bs m zs H' S' Vs' p hl sr' s1 s2 rz =>
    ⟨g.W, m, S', gP 0 nb perm [] bs, P, _, har _ _ _ rfl (hl.trans hnb), sr'.SH, fun b w => sr'.SV.free (sr'.nW b w), sr'.rill, paired_gP .nil (RpAs.st rz), p, fun d m2 v H2 S2 p2 h1 h2 h3 h4 h5 h6 hd => by
      obtain ⟨V2, sr2, hv⟩ := sr'.called h1 h2 h3 h4 h5 h6
      exact kk d m2 v H2 S2 V2 p2 sr2 (s1.trans h1) (s2.trans hv) hd, fun nm x m2 v H2 S2 C fl d hc px h1 h2 h3 h4 h5 h6 hd hv => by
      obtain ⟨V2, sr2, _⟩ := sr'.called h1 h2 h3 h4 h5 h6
      exact xk nm x δ m2 σ H2 S2 V2 C fl d v hc px sr2 (s1.trans h1) hd hv⟩⟩⟩
end
end DL
/-! DX5: own exceptions caught: the suite answers with a list of what it reads off the exception. -/
namespace DL
open PySem PySem.Spec L2 PyProof.Rows
/-- what a suite wants of the class that it catches -/
structure XcT (K : PySem.W.Frag) (C : Addr) (f : Str) : Prop where
  xf : XfC K C
  noN : PySem.W.findIn K (.ref C) f = some none
  cls : (PySem.W.clsIn K C).isSome = true
  ca : PySem.W.findIn K (.ref C) "__class__" = some (some (.builtin "object.__class__"))
  cn : PySem.W.specialIn K (.builtin "object.__class__") "__get__" = some (some (.builtin "getset_descriptor.__get__"))
  ct : PySem.W.takesIn K (.builtin "object.__class__") = some true
  cm : PySem.W.mroIn K C (.type "object") = some true
  te : PySem.W.exmOne K (.ref C) (.ref C) = some true
def rIsX (K : PySem.W.Frag) (C a d : Addr) : List V → Hp → VK → Prop := fun xs H Q => ∃ (c : V) (cv : Value) (b : Bool) (fs : List (Str × V)), xs = [.ref a, c] ∧ (∀ u, RelV c u → u = cv) ∧ PySem.W.kitOne K (.ref C) cv = some b ∧ H d = some (.xd fs) ∧ Q (.bl b) H
section
variable {X : Cx} {C a d : Addr} {f : Str} {oe : Obj} {pn : List (Addr × Obj)}
theorem call_isX (T : XcT X.K C f) (hz : Zc (.ref C) (some d) oe) (hf : ∃ vs, oe.data = .fields vs) : CallR (X.suite a ((a, oe) :: pn)) (.builtin "isinstance") (rIsX X.K C a d) := by
  intro pins s σ H xs us Q I r h
  obtain ⟨c, cv, b, fs, rfl, hcv, e, hd, q⟩ := h
  cases r with
  | cons rx rr =>
    cases rr with
    | cons rt rr =>
      cases rr
      cases rx
      have ec := hcv _ rt
      subst ec
      obtain ⟨hget, _⟩ := I.pin (a, oe) (List.mem_append.mpr (.inl List.mem_cons_self))
      obtain ⟨vs, hv⟩ := hf
      have hx : ObjOk X.prog X.w H s.heap d (.xd fs) := I.hok d _ hd
      obtain ⟨mA, hns, hr⟩ := hx
      obtain ⟨od, ho, hl⟩ := lookIn_ns hns
      have J : PySem.W.InstAt s.heap a oe C (some od) := ⟨hget, hz.1, by unfold PySem.W.notCls; rw [hv] <;> rfl, by rw [hz.2]; exact ho⟩
      exact PySem.W.kia_one (PySem.W.kitx_exc T.cls T.xf.ga T.xf.gg T.xf.exC T.ca T.cn T.ct T.cm) I.kIn J e (fun z => nomatch z) fun tk => ⟨.bl b, H, I.kept (t' := tk) fun _ _ z => z, rfl, q⟩
end
/-- one reading in a suite: the exception in slot i, x what its field bears -/
def XI (X : Cx) (C : Addr) (f : Str) (i : Nat) (e : Expr) (r : D → D) : Prop :=
  ∃ te : Addr → Addr → TE, (∀ a d oe pn, Zc (.ref C) (some d) oe → (∃ vs, oe.data = .fields vs) → PE (X.suite a ((a, oe) :: pn)) e (te a d)) ∧
    ∀ a d σ H v x Q, σ[i]? = some (some (.ref a)) → H d = some (.xd [(f, v)]) → (∀ u, (∀ S, Dp X.K S v x → Dp X.K S u (r x)) → Q u H) → te a d σ H Q
def XIs (X : Cx) (C : Addr) (f : Str) (i : Nat) (es : List Expr) (r : D → List D) : Prop :=
  ∃ te : Addr → Addr → TA, (∀ a d oe pn, Zc (.ref C) (some d) oe → (∃ vs, oe.data = .fields vs) → PA (X.suite a ((a, oe) :: pn)) es (te a d)) ∧
    ∀ a d σ H v x Q, σ[i]? = some (some (.ref a)) → H d = some (.xd [(f, v)]) → (∀ us, (∀ S, Dp X.K S v x → DpAll X.K S us (r x)) → Q us H) → te a d σ H Q
section
variable {X : Cx} {C : Addr} {f : Str} {i : Nat} {e : Expr} {es : List Expr} {r : D → D} {rs : D → List D} {pos p : Pos}
theorem xi_c {v0 : V} {d0 : D} (h : ∀ a d oe (pn : List (Addr × Obj)), Zc (.ref C) (some d) oe → PE (X.suite a ((a, oe) :: pn)) e (tC v0)) (hs : ∀ S, Dp X.K S v0 d0) : XI X C f i e (fun _ => d0) :=
  ⟨fun _ _ => tC v0, fun a d oe pn hz _ => h a d oe pn hz, fun a d σ H v x Q _ _ k => k _ fun S _ => hs S⟩
theorem xi_str {z : Str} {j} : XI X C f i (.Constant (.str z) j pos) (fun _ => .str z) := xi_c (fun _ _ _ _ _ => pe_str) fun _ => .str z
theorem xi_f (T : XcT X.K C f) (hv : ∀ (a d : Addr) oe (pn : List (Addr × Obj)), PE (X.suite a ((a, oe) :: pn)) e (tVar i)) (hb : attributeBase e f X.env (eval e X.env) = eval e X.env := by rfl) : XI X C f i (.Attribute e f pos) (fun x => x) :=
  ⟨fun a d => tXf a (.ref C) (some d) C f (tVar i), fun a d oe pn hz hf => pe_xf T.xf T.noN hz hf (hv a d oe pn) hb, fun a d σ H v x Q hσ hd k =>
    ⟨_, hσ, rfl, rfl, d, _, v, rfl, hd, by simp [List.lookup], k v fun S h => h⟩⟩
theorem xi_is {c : V} {cv : Value} {b : Bool} {e2 : Expr} (T : XcT X.K C f) (hg : Gl X "isinstance") (hm : X.mg "isinstance" = none) (hv : ∀ (a d : Addr) oe (pn : List (Addr × Obj)), PE (X.suite a ((a, oe) :: pn)) e (tVar i)) (hc : ∀ (a d : Addr) oe (pn : List (Addr × Obj)), PE (X.suite a ((a, oe) :: pn)) e2 (tC c))
    (hcv : ∀ u, RelV c u → u = cv) (hk : PySem.W.kitOne X.K (.ref C) cv = some b)
    (he : starEach (e :: [e2]) X.env = (false, eval e X.env) :: starEach [e2] X.env := by rfl) (he2 : starEach (e2 :: []) X.env = (false, eval e2 X.env) :: starEach [] X.env := by rfl)
    (hpl : (backTo pos (starEach [e2] X.env)).any (·.1) = false := by rfl) : XI X C f i (.Call (.Name "isinstance" p) [e, e2] [] pos) (fun _ => .bool b) :=
  ⟨fun a d => tCB (rIsX X.K C a d) (tCons (tVar i) (tCons (tC c) tNil)), fun a d oe pn hz hf => pe_callB (call_isX T hz hf) hg hm (by decide +kernel) (pa_cons (hv a d oe pn) (pa_cons (hc a d oe pn) pa_nil he2) he) (by decide) (by decide) he hpl, fun a d σ H v x Q hσ hd k =>
    ⟨_, hσ, c, cv, b, _, rfl, hcv, hk, hd, k _ fun S _ => .bl b⟩⟩
theorem xis_nil : XIs X C f i [] (fun _ => []) := ⟨fun _ _ => tNil, fun _ _ _ _ _ _ => pa_nil, fun a d σ H v x Q _ _ k => k _ fun _ _ => .nil⟩
theorem xis_cons (h : XI X C f i e r) (hr : XIs X C f i es rs) (hs : starEach (e :: es) X.env = (false, eval e X.env) :: starEach es X.env := by rfl) : XIs X C f i (e :: es) (fun x => r x :: rs x) := by
  obtain ⟨t1, p1, q1⟩ := h
  obtain ⟨t2, p2, q2⟩ := hr
  exact ⟨fun a d => tCons (t1 a d) (t2 a d), fun a d oe pn hz hf => pa_cons (p1 a d oe pn hz hf) (p2 a d oe pn hz hf) hs, fun a d σ H v x Q hσ hd k =>
    q1 a d σ H v x _ hσ hd fun u hu => q2 a d σ H v x _ hσ hd fun us hus => k _ fun S hS => .cons (hu S hS) (hus S hS)⟩
/-- try: .. except nm as n: return [..] -/
def sTry (nm : Str) (i : Nat) (t : DTSX) (rs : D → List D) : DTS := fun E δ n => t (fun nm' x δ' m => nm' = nm ∧ i < δ'.length ∧ (rs x).length ≤ sizeLine ∧ E.rt (.list (rs x)) m) E δ n
theorem dst_try {ct : XT} {nm n : Str} {np tpos pos' lp rp : Pos} {body : List Stmt} {t : DTSX} (hs : X.stack = X.env :: X.outer) (hf : X.env.frame = some X.env.locals) (hN : X.N.Nodup) (hi : X.N[i]? = some n) (hln : X.env.kindOf n = some .local) (hct : ∀ nm' C' f', ct nm' = some (C', f') → nm' = nm ∧ C' = C ∧ f' = f) (hc : Names X nm (.ref C)) (T : XcT X.K C f)
    (hb : ∀ (W : WX) (pn : List (Addr × Obj)) (xe : Value → Shared → Prop), Takes (X.tr pn xe) W → PassesOwn (model X.prog X.w) X.A X.env xe → DSsX (X.tr pn xe) ct W body t)
    (hx : XIs X C f i es rs) : DSt X (.Try body [.ExceptHandler (some (.Name nm np)) (some n) [.Return (some (.List es lp)) rp] pos'] [] [] tpos) (sTry nm i t rs) := by
  obtain ⟨ta, p1, q1⟩ := hx
  refine ⟨PS.imp (ps_try_as (i := i) (c := .ref C) (Wout := fun _ _ _ _ => False) (tb := fun W => lSX X.K ct W t) (ts := fun a cls d D σ H => ∃ dd, cls = .ref C ∧ d = some dd ∧ tRet (tLst (ta a dd)) D σ H) hs hf hN hi hln hc takes0 (fun W pn xe tk hp => (hb W pn xe tk hp).run) (fun a oe cls d pn hz hv => ⟨fun pins s σ H D I ⟨dd, e1, e2, h⟩ => by
    subst e1 e2
    exact (pss_one (ps_ret (pe_lst (p1 a dd oe pn hz hv)))).run pins s σ H D I h⟩)) fun D σ H ⟨g, m, δ, S, Vs, E, hT, sr, ht, ok⟩ => ?_⟩
  refine ⟨g, m, δ, S, Vs, E, _, hT, sr, ht, ok, fun nm' x δ' m' σ' H' S' Vs' C' f' d v hc' ⟨hn, hlt, hz, hr⟩ sr' s1 hd hv => ?_⟩
  obtain ⟨_, rfl, rfl⟩ := hct _ _ _ hc'
  refine ⟨true, T.te, fun _ a ha => ⟨d, rfl, rfl, ?_⟩, fun z => Bool.noConfusion z⟩
  refine q1 a d _ H' v x _ ?_ hd fun us hus => ⟨?_, fun p hp => ?_⟩
  · have : i < σ'.length := by rw [sr'.len]; exact hlt
    simp [this]
  · rw [(hus S' hv).length]; exact hz
  · have r1 : DpAll X.K S' us (rs x) := hus S' hv
    obtain ⟨S2, V2, sr2, w1, w2, w3⟩ := sr'.out (K := X.K) (.lst hp r1)
    exact ok.2.1 _ δ' m' _ _ _ S2 V2 hr sr2 (s1.trans w1) w3
end
/-! ### items that may raise -/
abbrev DTAX := XC → DTA
def lAsX (K : PySem.W.Frag) (ct : XT) (W : WX) (t : DTAX) : TA := fun σ H Q => ∃ g n δ S Vs P xc, SR K g n δ σ H S Vs ∧ t xc δ n P ∧ XOk K g S ct xc W ∧
  ∀ ds m vs H' S' Vs', P ds m → SR K g m δ σ H' S' Vs' → Same S S' → Same Vs Vs' → DpAll K S' vs ds → Q vs H'
structure DAX (X : Cx) (ct : XT) (W : WX) (es : List Expr) (t : DTAX) : Prop where
  run : PA X es (lAsX X.K ct W t)
section
variable {X : Cx} {ct : XT} {W : WX} {e : Expr} {es : List Expr} {pos : Pos} {x1 : DTX} {xa : DTAX}
def qNil : DTAX := fun _ _ n Q => Q [] n
def qCons (t : DTX) (u : DTAX) : DTAX := fun xc δ n Q => t xc δ n fun d m => u xc δ m fun as k => Q (d :: as) k
theorem dax_nil : DAX X ct W [] qNil := ⟨PA.imp pa_nil fun σ H Q ⟨g, n, δ, S, Vs, P, xc, sr, ht, xk, k⟩ => k [] n [] H S Vs ht sr (Same.refl _) (Same.refl _) .nil⟩
theorem dax_cons (h : DEX X ct W e x1) (hr : DAX X ct W es xa) (hs : starEach (e :: es) X.env = (false, eval e X.env) :: starEach es X.env := by rfl) : DAX X ct W (e :: es) (qCons x1 xa) :=
  ⟨PA.imp (pa_cons h.run hr.run hs) fun σ H Q ⟨g, n, δ, S, Vs, P, xc, sr, ht, xk, k⟩ => ⟨g, n, δ, S, Vs, _, xc, sr, ht, xk, fun d m v H' S' Vs' p sr' s1 s2 r =>
    ⟨g, m, δ, S', Vs', _, xc, sr', p, xk.less s1, fun as m2 vs H2 S2 V2 p2 sr2 q1 q2 r2 => k _ m2 (v :: vs) H2 S2 V2 p2 sr2 (s1.trans q1) (s2.trans q2) (.cons (Dp.mono q1 r) r2)⟩⟩⟩
def qLst (t : DTAX) : DTX := fun xc δ n Q => t xc δ n fun ds m => ds.length ≤ sizeLine ∧ Q (.list ds) m
def qTup (t : DTAX) : DTX := fun xc δ n Q => t xc δ n fun ds m => ds.length ≤ sizeLine ∧ Q (.tuple ds) m
theorem dex_lst (h : DAX X ct W es xa) : DEX X ct W (.List es pos) (qLst xa) :=
  ⟨PE.imp (pe_lst h.run) fun σ H Q ⟨g, n, δ, S, Vs, P, xc, sr, ht, xk, k⟩ => ⟨g, n, δ, S, Vs, _, xc, sr, ht, xk, fun ds m vs H' S' Vs' ⟨z, p⟩ sr' s1 s2 r =>
    ⟨by rw [r.length]; exact z, fun q hq => by
      obtain ⟨S2, V2, sr2, q1, q2, q3⟩ := sr'.out (K := X.K) (.lst hq r)
      exact k _ m _ _ S2 V2 p sr2 (s1.trans q1) (s2.trans q2) q3⟩⟩⟩
theorem dex_tup {j : Nat} (h : DAX X ct W es xa) : DEX X ct W (.Tuple es j pos) (qTup xa) :=
  ⟨PE.imp (pe_tup h.run) fun σ H Q ⟨g, n, δ, S, Vs, P, xc, sr, ht, xk, k⟩ => ⟨g, n, δ, S, Vs, _, xc, sr, ht, xk, fun ds m vs H' S' Vs' ⟨z, p⟩ sr' s1 s2 r =>
    ⟨by rw [r.length]; exact z, fun q hq => by
      obtain ⟨S2, V2, sr2, q1, q2, q3⟩ := sr'.out (K := X.K) (.tup hq r)
      exact k _ m _ _ S2 V2 p sr2 (s1.trans q1) (s2.trans q2) q3⟩⟩⟩
end
/-- one class that may leave -/
def ct1 (nm : Str) (C : Addr) (f : Str) : XT := fun n => if n = nm then some (C, f) else none
theorem ct1_self {nm : Str} {C : Addr} {f : Str} : ct1 nm C f nm = some (C, f) := if_pos rfl
theorem ct1_inv {nm : Str} {C : Addr} {f : Str} : ∀ nm' C' f', ct1 nm C f nm' = some (C', f') → nm' = nm ∧ C' = C ∧ f' = f := by
  intro nm' C' f' h
  unfold ct1 at h
  split at h
  · rename_i e
    cases h
    exact ⟨e, rfl, rfl⟩
  · cases h
end DL
/-! DX6: the readings of what may raise, step by step. -/
namespace DL
open PySem PySem.Spec L2
section
variable {xc : XC} {E : DEnds} {δ : DS} {n : Nat} {Q : D → Nat → Prop} {QA : List D → Nat → Prop} {s t : DTSX} {u : DTT} {x y : DTX} {xa : DTAX} {e : DTE} {f : FnX} {tr : DTR} {i nb : Nat} {nm : Str} {perm : List Nat} {rs : D → List D} {st : DTS}
theorem x_qSeq : qSeq s t xc E δ n = s xc { nx := t xc E, rt := E.rt, bk := E.bk, ct := E.ct } δ n := rfl
theorem x_qIf : qIf u s t xc E δ n = u δ n fun c m => if c = true then s xc E δ m else t xc E δ m := rfl
theorem x_qRet : qRet x xc E δ n = x xc δ n E.rt := rfl
theorem x_qSet : qSet i x xc E δ n = x xc δ n fun d m => i < δ.length ∧ E.nx (δ.set i (some (.dat d))) m := rfl
theorem x_qIfE : qIfE u x y xc δ n Q = u δ n fun c m => if c = true then x xc δ m Q else y xc δ m Q := rfl
theorem x_qRaise : qRaise nm e xc E δ n = e δ n fun d m => xc nm d δ m := rfl
theorem x_qNil : qNil xc δ n QA = QA [] n := rfl
theorem x_qCons : qCons x xa xc δ n QA = x xc δ n fun d m => xa xc δ m fun as k => QA (d :: as) k := rfl
theorem x_qLst : qLst xa xc δ n Q = xa xc δ n fun ds m => ds.length ≤ sizeLine ∧ Q (.list ds) m := rfl
theorem x_qTup : qTup xa xc δ n Q = xa xc δ n fun ds m => ds.length ≤ sizeLine ∧ Q (.tuple ds) m := rfl
theorem x_callX : dCallX f tr xc δ n Q = tr δ n fun as m => f as m (fun nm x m' => xc nm x δ m') Q := rfl
theorem x_callKX : dCallKX f nb perm tr xc δ n Q = tr δ n fun bs m => f (gP 0 nb perm [] bs) m (fun nm x m' => xc nm x δ m') Q := rfl
theorem x_try : sTry nm i s rs E δ n = s (fun nm' x δ' m => nm' = nm ∧ i < δ'.length ∧ (rs x).length ≤ sizeLine ∧ E.rt (.list (rs x)) m) E δ n := rfl
end
end DL
namespace DL
open PySem PySem.Spec L2
/-- an own class is caught by its own name -/
theorem exm_own {K : PySem.W.Frag} {C : Addr} (b : PySem.W.subIn K (.ref C) (.type "BaseException") = some true) (i : PySem.W.isClsIn K C = true) (t : PySem.W.typeIn K (.ref C) = some (.type "type")) (r : PySem.W.subIn K (.ref C) (.ref C) = some true) : PySem.W.exmOne K (.ref C) (.ref C) = some true := by
  have j : (PySem.W.clsIn K C).isSome = true := i
  unfold PySem.W.exmOne PySem.W.kitCls
  simp only [b, j, t, r, BEq.rfl, Bool.and_self, if_true]
end DL
namespace My
open PySem PySem.Spec L2 DL
def topS (i : Nat) : Stmt := PySem.Challenge.pw_stormhouses_k04_whole_known_skies.main.body.getD i (.Pass ⟨0, 0, 0, 0⟩)
abbrev s_is_whole : Stmt := topS 6
abbrev s_is_ascending : Stmt := topS 7
abbrev s_is_row : Stmt := topS 8
abbrev s_is_within : Stmt := topS 9
abbrev s_common : Stmt := topS 10
abbrev s_without : Stmt := topS 11
abbrev s_choices : Stmt := topS 12
abbrev s_storm_by : Stmt := topS 14
abbrev s_known_sky : Stmt := topS 15
abbrev s_is_storm : Stmt := topS 17
abbrev s_storms_error : Stmt := topS 18
abbrev s_sky_error : Stmt := topS 19
abbrev s_left : Stmt := topS 20
abbrev s_firm : Stmt := topS 21
abbrev s_taken : Stmt := topS 22
abbrev s_papers : Stmt := topS 24
abbrev s_unlawful : Stmt := topS 25
abbrev s__law_rill : Stmt := topS 27
abbrev s__law_draw : Stmt := topS 28
abbrev s__law_one : Stmt := topS 29
abbrev s__law_lots_of : Stmt := topS 30
abbrev s__law_known_sky : Stmt := topS 31
abbrev s__law_told : Stmt := topS 32
abbrev s__law_is_let : Stmt := topS 33
abbrev s_law : Stmt := topS 34
theorem sc_is_whole : FnScope ["value", "low", "high"] ["value", "low", "high"] (defScope s_is_whole) := ⟨rfl, rfl, rfl, by decide +kernel, rfl, by decide +kernel, by decide +kernel⟩
theorem sc_is_ascending : FnScope ["items", "place"] ["items"] (defScope s_is_ascending) := ⟨rfl, rfl, rfl, by decide +kernel, rfl, by decide +kernel, by decide +kernel⟩
theorem sc_is_row : FnScope ["value", "many", "item"] ["value", "many"] (defScope s_is_row) := ⟨rfl, rfl, rfl, by decide +kernel, rfl, by decide +kernel, by decide +kernel⟩
theorem sc_is_within : FnScope ["one", "other", "machine"] ["one", "other"] (defScope s_is_within) := ⟨rfl, rfl, rfl, by decide +kernel, rfl, by decide +kernel, by decide +kernel⟩
theorem sc_common : FnScope ["one", "other", "machine"] ["one", "other"] (defScope s_common) := ⟨rfl, rfl, rfl, by decide +kernel, rfl, by decide +kernel, by decide +kernel⟩
theorem sc_without : FnScope ["one", "other", "machine"] ["one", "other"] (defScope s_without) := ⟨rfl, rfl, rfl, by decide +kernel, rfl, by decide +kernel, by decide +kernel⟩
theorem sc_choices : FnScope ["row", "few", "found", "turn", "longer", "some", "machine"] ["row", "few"] (defScope s_choices) := ⟨rfl, rfl, rfl, by decide +kernel, rfl, by decide +kernel, by decide +kernel⟩
theorem sc_storm_by : FnScope ["word", "choice"] ["word", "choice"] (defScope s_storm_by) := ⟨rfl, rfl, rfl, by decide +kernel, rfl, by decide +kernel, by decide +kernel⟩
theorem sc_known_sky : FnScope ["word", "many", "few", "machines", "found", "choice"] ["word", "many", "few"] (defScope s_known_sky) := ⟨rfl, rfl, rfl, by decide +kernel, rfl, by decide +kernel, by decide +kernel⟩
theorem sc_is_storm : FnScope ["value", "many"] ["value", "many"] (defScope s_is_storm) := ⟨rfl, rfl, rfl, by decide +kernel, rfl, by decide +kernel, by decide +kernel⟩
theorem sc_storms_error : FnScope ["many", "storms", "place", "storm"] ["many", "storms"] (defScope s_storms_error) := ⟨rfl, rfl, rfl, by decide +kernel, rfl, by decide +kernel, by decide +kernel⟩
theorem sc_sky_error : FnScope ["value", "many", "bells", "storms"] ["value"] (defScope s_sky_error) := ⟨rfl, rfl, rfl, by decide +kernel, rfl, by decide +kernel, by decide +kernel⟩
theorem sc_left : FnScope ["sky", "s", "gone", "machine"] ["sky", "s"] (defScope s_left) := ⟨rfl, rfl, rfl, by decide +kernel, rfl, by decide +kernel, by decide +kernel⟩
theorem sc_firm : FnScope ["sky", "s", "blank", "machine"] ["sky", "s"] (defScope s_firm) := ⟨rfl, rfl, rfl, by decide +kernel, rfl, by decide +kernel, by decide +kernel⟩
theorem sc_taken : FnScope ["sky", "s", "machine"] ["sky", "s"] (defScope s_taken) := ⟨rfl, rfl, rfl, by decide +kernel, rfl, by decide +kernel, by decide +kernel⟩
theorem sc_papers : FnScope ["sky", "is_joining", "numbers", "found", "lefts", "takes", "s", "t", "calm", "under", "r"] ["sky", "is_joining"] (defScope s_papers) := ⟨rfl, rfl, rfl, by decide +kernel, rfl, by decide +kernel, by decide +kernel⟩
theorem sc_unlawful : FnScope ["sky", "is_joining", "found"] ["sky", "is_joining"] (defScope s_unlawful) := ⟨rfl, rfl, rfl, by decide +kernel, rfl, by decide +kernel, by decide +kernel⟩
theorem sc__law_rill : FnScope ["script", "cells", "flow", "cell"] ["script"] (defScope s__law_rill) := ⟨rfl, rfl, rfl, by decide +kernel, rfl, by decide +kernel, by decide +kernel⟩
theorem sc__law_draw : FnScope ["rill", "many", "far", "digits", "turn", "mixed"] ["rill", "many"] (defScope s__law_draw) := ⟨rfl, rfl, rfl, by decide +kernel, rfl, by decide +kernel, by decide +kernel⟩
theorem sc__law_one : FnScope ["rill", "some"] ["rill", "some"] (defScope s__law_one) := ⟨rfl, rfl, rfl, by decide +kernel, rfl, by decide +kernel, by decide +kernel⟩
theorem sc__law_lots_of : FnScope ["rest", "size", "found", "turn", "longer", "lot", "own"] ["rest", "size"] (defScope s__law_lots_of) := ⟨rfl, rfl, rfl, by decide +kernel, rfl, by decide +kernel, by decide +kernel⟩
theorem sc__law_known_sky : FnScope ["word", "many", "few", "some", "storms", "lot"] ["word", "many", "few"] (defScope s__law_known_sky) := ⟨rfl, rfl, rfl, by decide +kernel, rfl, by decide +kernel, by decide +kernel⟩
theorem sc__law_told : FnScope ["word", "many", "few", "is_named", "raised"] ["word", "many", "few", "is_named"] (defScope s__law_told) := ⟨rfl, rfl, rfl, by decide +kernel, rfl, by decide +kernel, by decide +kernel⟩
theorem sc__law_is_let : FnScope ["word", "many", "few", "is_joining"] ["word", "many", "few", "is_joining"] (defScope s__law_is_let) := ⟨rfl, rfl, rfl, by decide +kernel, rfl, by decide +kernel, by decide +kernel⟩
theorem sc_law : FnScope ["script", "rill", "words", "asked", "turn", "many", "word", "k", "few", "sky", "due", "told"] ["script"] (defScope s_law) := ⟨rfl, rfl, rfl, by decide +kernel, rfl, by decide +kernel, by decide +kernel⟩
/-- what the top has written -/
structure Tops (P : Program) (K : PySem.W.Frag) (mg : Str → Option Value) where
  a_is_whole : Addr
  d_is_whole : FuncData
  F_is_whole : Fun K "is_whole" "is_whole" s_is_whole a_is_whole d_is_whole
  g_is_whole : mg "is_whole" = some (.ref a_is_whole)
  a_is_ascending : Addr
  d_is_ascending : FuncData
  F_is_ascending : Fun K "is_ascending" "is_ascending" s_is_ascending a_is_ascending d_is_ascending
  g_is_ascending : mg "is_ascending" = some (.ref a_is_ascending)
  a_is_row : Addr
  d_is_row : FuncData
  F_is_row : Fun K "is_row" "is_row" s_is_row a_is_row d_is_row
  g_is_row : mg "is_row" = some (.ref a_is_row)
  a_is_within : Addr
  d_is_within : FuncData
  F_is_within : Fun K "is_within" "is_within" s_is_within a_is_within d_is_within
  g_is_within : mg "is_within" = some (.ref a_is_within)
  a_common : Addr
  d_common : FuncData
  F_common : Fun K "common" "common" s_common a_common d_common
  g_common : mg "common" = some (.ref a_common)
  a_without : Addr
  d_without : FuncData
  F_without : Fun K "without" "without" s_without a_without d_without
  g_without : mg "without" = some (.ref a_without)
  a_choices : Addr
  d_choices : FuncData
  F_choices : Fun K "choices" "choices" s_choices a_choices d_choices
  g_choices : mg "choices" = some (.ref a_choices)
  a_storm_by : Addr
  d_storm_by : FuncData
  F_storm_by : Fun K "storm_by" "storm_by" s_storm_by a_storm_by d_storm_by
  g_storm_by : mg "storm_by" = some (.ref a_storm_by)
  a_known_sky : Addr
  d_known_sky : FuncData
  F_known_sky : Fun K "known_sky" "known_sky" s_known_sky a_known_sky d_known_sky
  g_known_sky : mg "known_sky" = some (.ref a_known_sky)
  a_is_storm : Addr
  d_is_storm : FuncData
  F_is_storm : Fun K "is_storm" "is_storm" s_is_storm a_is_storm d_is_storm
  g_is_storm : mg "is_storm" = some (.ref a_is_storm)
  a_storms_error : Addr
  d_storms_error : FuncData
  F_storms_error : Fun K "storms_error" "storms_error" s_storms_error a_storms_error d_storms_error
  g_storms_error : mg "storms_error" = some (.ref a_storms_error)
  a_sky_error : Addr
  d_sky_error : FuncData
  F_sky_error : Fun K "sky_error" "sky_error" s_sky_error a_sky_error d_sky_error
  g_sky_error : mg "sky_error" = some (.ref a_sky_error)
  a_left : Addr
  d_left : FuncData
  F_left : Fun K "left" "left" s_left a_left d_left
  g_left : mg "left" = some (.ref a_left)
  a_firm : Addr
  d_firm : FuncData
  F_firm : Fun K "firm" "firm" s_firm a_firm d_firm
  g_firm : mg "firm" = some (.ref a_firm)
  a_taken : Addr
  d_taken : FuncData
  F_taken : Fun K "taken" "taken" s_taken a_taken d_taken
  g_taken : mg "taken" = some (.ref a_taken)
  a_papers : Addr
  d_papers : FuncData
  F_papers : Fun K "papers" "papers" s_papers a_papers d_papers
  g_papers : mg "papers" = some (.ref a_papers)
  a_unlawful : Addr
  d_unlawful : FuncData
  F_unlawful : Fun K "unlawful" "unlawful" s_unlawful a_unlawful d_unlawful
  g_unlawful : mg "unlawful" = some (.ref a_unlawful)
  a__law_rill : Addr
  d__law_rill : FuncData
  F__law_rill : Fun K "_law_rill" "_law_rill" s__law_rill a__law_rill d__law_rill
  g__law_rill : mg "_law_rill" = some (.ref a__law_rill)
  a__law_draw : Addr
  d__law_draw : FuncData
  F__law_draw : Fun K "_law_draw" "_law_draw" s__law_draw a__law_draw d__law_draw
  g__law_draw : mg "_law_draw" = some (.ref a__law_draw)
  a__law_one : Addr
  d__law_one : FuncData
  F__law_one : Fun K "_law_one" "_law_one" s__law_one a__law_one d__law_one
  g__law_one : mg "_law_one" = some (.ref a__law_one)
  a__law_lots_of : Addr
  d__law_lots_of : FuncData
  F__law_lots_of : Fun K "_law_lots_of" "_law_lots_of" s__law_lots_of a__law_lots_of d__law_lots_of
  g__law_lots_of : mg "_law_lots_of" = some (.ref a__law_lots_of)
  a__law_known_sky : Addr
  d__law_known_sky : FuncData
  F__law_known_sky : Fun K "_law_known_sky" "_law_known_sky" s__law_known_sky a__law_known_sky d__law_known_sky
  g__law_known_sky : mg "_law_known_sky" = some (.ref a__law_known_sky)
  a__law_told : Addr
  d__law_told : FuncData
  F__law_told : Fun K "_law_told" "_law_told" s__law_told a__law_told d__law_told
  g__law_told : mg "_law_told" = some (.ref a__law_told)
  a__law_is_let : Addr
  d__law_is_let : FuncData
  F__law_is_let : Fun K "_law_is_let" "_law_is_let" s__law_is_let a__law_is_let d__law_is_let
  g__law_is_let : mg "_law_is_let" = some (.ref a__law_is_let)
  z_abs : mg "abs" = none
  z_all : mg "all" = none
  z_bool : mg "bool" = none
  z_enumerate : mg "enumerate" = none
  z_int : mg "int" = none
  z_isinstance : mg "isinstance" = none
  z_len : mg "len" = none
  z_list : mg "list" = none
  z_range : mg "range" = none
  z_repr : mg "repr" = none
  z_tuple : mg "tuple" = none
  t_MAX_MACHINES : Tok
  v_MAX_MACHINES : mg "MAX_MACHINES" = some (.int 6 t_MAX_MACHINES)
  t_MAX_STORMS : Tok
  v_MAX_STORMS : mg "MAX_STORMS" = some (.int 10 t_MAX_STORMS)
  C_TooMany : Addr
  I_TooMany : Addr
  x_TooMany : DX.ExT P K mg C_TooMany I_TooMany "TooMany" "limit" "limit"
  e_TooMany : PySem.W.subIn K (.ref C_TooMany) (.type "BaseException") = some true
  y_TooMany : PySem.W.typeIn K (.ref C_TooMany) = some (.type "type")
  c_TooMany : XcT K C_TooMany "limit"
  C_StormError : Addr
  g_StormError : mg "StormError" = some (.ref C_StormError)
  k_TooMany_StormError : PySem.W.kitOne K (.ref C_TooMany) (.ref C_StormError) = some true
/-! readings -/
def rd_is_whole : DTS :=
  sRet (dAndV (d1 (gIsi "int") (dVar 0)) (dAndV (dNotV (d1 (gIsi "bool") (dVar 0))) (dChain gLe gLe (dVar 1) (dVar 0) (dVar 2))))
def rd_is_ascending : DTS :=
  sRet (d1 gAll (dL (dComp (iRg1 (d2 gSub (d1 gLen (dVar 0)) (dC (.int 1)))) (gNm 1) (dYes) (d2 gLt (d2 gIx (dVar 0) (dVar 1)) (d2 gIx (dVar 0) (d2 gAdd (dVar 1) (dC (.int 1))))) [1])))
def rd_is_row (f_is_whole : Fn) (f_is_ascending : Fn) : DTS :=
  sSeq (sIf (dOr (dNot (dB (d1 (gIsi "tuple") (dVar 0)))) (dNot (dB (d1 gAll (dL (dComp (iSeq (dVar 0)) (gNm 2) (dYes) (dCall f_is_whole (rCons (dVar 2) (rCons (dC (.int 0)) (rCons (d2 gSub (dVar 1) (dC (.int 1))) (rNil))))) [2])))))) (sRet (dC (.bool false))) (sNext))
      (sRet (dCall f_is_ascending (rCons (dVar 0) (rNil))))
def rd_is_within : DTS :=
  sRet (d1 gAll (dL (dComp (iSeq (dVar 0)) (gNm 2) (dYes) (d2 gIn (dVar 2) (dVar 1)) [2])))
def rd_common : DTS :=
  sRet (d1 gTuple (dL (dComp (iSeq (dVar 0)) (gNm 2) (dB (d2 gIn (dVar 2) (dVar 1))) (dVar 2) [2])))
def rd_without : DTS :=
  sRet (d1 gTuple (dL (dComp (iSeq (dVar 0)) (gNm 2) (dB (d2 gNotIn (dVar 2) (dVar 1))) (dVar 2) [2])))
def rd_choices : DTS :=
  sSeq (sSet 2 (dL (aSz (aCons (dTup (aNil)) (aNil)))))
      (sSeq (sFor (iRg1 (dVar 1)) (gNm 3) (sSeq (sSetL 4 (aSz (aNil)))
      (sSeq (sFor (iSeq (dVar 2)) (gNm 5) (sExt 4 (lsE (dL (dComp (iSeq (dVar 0)) (gNm 6) (dOr (dB (d2 gEq (dVar 5) (dTup (aNil)))) (dB (d2 gGt (dVar 6) (d2 gIx (dVar 5) (d1 gNeg (dC (.int 1))))))) (d2 gAdd (dVar 5) (dTup (aCons (dVar 6) (aNil)))) [6])))))
      (sFrz 4 (sSet 2 (dVar 4))))))
      (sRet (dVar 2)))
def rd_storm_by : DTS :=
  sSeq (sIf (dB (d2 gEq (dVar 0) (dC (.str "forgetting")))) (sRet (dTup (aCons (dTup (aNil)) (aCons (dVar 1) (aNil))))) (sNext))
      (sRet (dTup (aCons (dVar 1) (aCons (dIf (dB (d2 gEq (dVar 0) (dC (.str "falling")))) (dVar 1) (dTup (aNil))) (aNil)))))
def rd_known_sky (f_choices : Fn) (f_storm_by : Fn) : DTSX :=
  qSeq ((fun _ => sSet 3 (dTRg (rg1 (dVar 1)))))
      (qSeq ((fun _ => sSet 4 (dCall f_choices (rCons (dVar 3) (rCons (dVar 2) (rNil))))))
      (qSeq (qIf (dB (d2 gGt (d1 gLen (dVar 4)) (dC (.int 10)))) (qRaise "TooMany" (dC (.int 10))) ((fun _ => sNext)))
      ((fun _ => sRet (dTup (aCons (dVar 1) (aCons (dIf (dB (d2 gEq (dVar 0) (dC (.str "belled")))) (dVar 3) (dTup (aNil))) (aCons (d1 gTuple (dL (dComp (iSeq (dVar 4)) (gNm 5) (dYes) (dCall f_storm_by (rCons (dVar 0) (rCons (dVar 5) (rNil)))) [5]))) (aNil)))))))))
def rd_is_storm (f_is_row : Fn) : DTS :=
  sRet (dAndV (d1 (gIsi "tuple") (dVar 0)) (dAndV (d2 gEq (d1 gLen (dVar 0)) (dC (.int 2))) (dAndV (dCall f_is_row (rCons (d2 gIx (dVar 0) (dC (.int 0))) (rCons (dVar 1) (rNil)))) (dCall f_is_row (rCons (d2 gIx (dVar 0) (dC (.int 1))) (rCons (dVar 1) (rNil)))))))
def rd_storms_error (f_is_storm : Fn) (f_is_ascending : Fn) : DTS :=
  sSeq (sFor (iEn (dVar 1)) (gTp (gCons' (gNm 2) (gCons' (gNm 3) (gNil')))) (sIf (dNot (dTr (dCall f_is_storm (rCons (dVar 3) (rCons (dVar 0) (rNil)))))) (sRet (dTup (aCons (dC (.str "storm")) (aCons (dVar 2) (aNil))))) (sNext)))
      (sSeq (sFor (iRg2 (dC (.int 1)) (d1 gLen (dVar 1))) (gNm 2) (sIf (dNot (dTr (dCall f_is_ascending (rCons (dSl (dVar 1) (oSome (d2 gSub (dVar 2) (dC (.int 1)))) (oSome (d2 gAdd (dVar 2) (dC (.int 1))))) (rNil))))) (sRet (dTup (aCons (dC (.str "order")) (aCons (dVar 2) (aNil))))) (sNext)))
      (sRet (dC .none)))
def rd_sky_error (f_is_whole : Fn) (f_is_row : Fn) (f_storms_error : Fn) : DTS :=
  sSeq (sIf (dOr (dNot (dB (d1 (gIsi "tuple") (dVar 0)))) (dB (d2 gNe (d1 gLen (dVar 0)) (dC (.int 3))))) (sRet (dC (.str "form"))) (sNext))
      (sSeq (sAsg (gTp (gCons' (gNm 1) (gCons' (gNm 2) (gCons' (gNm 3) (gNil'))))) (dVar 0))
      (sSeq (sIf (dNot (dTr (dCall f_is_whole (rCons (dVar 1) (rCons (dC (.int 1)) (rCons (dC (.int 6)) (rNil))))))) (sRet (dC (.str "many"))) (sNext))
      (sSeq (sIf (dNot (dTr (dCall f_is_row (rCons (dVar 2) (rCons (dVar 1) (rNil)))))) (sRet (dC (.str "bells"))) (sNext))
      (sSeq (sIf (dOr (dNot (dB (d1 (gIsi "tuple") (dVar 3)))) (dNot (dB (dChain gLe gLe (dC (.int 1)) (d1 gLen (dVar 3)) (dC (.int 10)))))) (sRet (dC (.str "storms"))) (sNext))
      (sRet (dCall f_storms_error (rCons (dVar 1) (rCons (dVar 3) (rNil)))))))))
def rd_left : DTS :=
  sSeq (sSet 2 (d2 gIx (d2 gIx (d2 gIx (dVar 0) (dC (.int 2))) (dVar 1)) (dC (.int 0))))
      (sRet (d1 gTuple (dL (dComp (iRg1 (d2 gIx (dVar 0) (dC (.int 0)))) (gNm 3) (dB (d2 gNotIn (dVar 3) (dVar 2))) (dVar 3) [3]))))
def rd_firm (f_left : Fn) : DTS :=
  sSeq (sSet 2 (d2 gIx (d2 gIx (d2 gIx (dVar 0) (dC (.int 2))) (dVar 1)) (dC (.int 1))))
      (sRet (d1 gTuple (dL (dComp (iSeq (dCall f_left (rCons (dVar 0) (rCons (dVar 1) (rNil))))) (gNm 3) (dB (d2 gNotIn (dVar 3) (dVar 2))) (dVar 3) [3]))))
def rd_taken : DTS :=
  sRet (d1 gTuple (dL (dComp (iSeq (d2 gIx (d2 gIx (d2 gIx (dVar 0) (dC (.int 2))) (dVar 1)) (dC (.int 0)))) (gNm 2) (dB (d2 gIn (dVar 2) (d2 gIx (dVar 0) (dC (.int 1))))) (dVar 2) [2])))
def rd_papers (f_taken : Fn) (f_left : Fn) (f_is_within : Fn) (f_firm : Fn) (f_common : Fn) (f_without : Fn) : DTS :=
  sSeq (sParEL 2 3 (dL (aRg (rg1 (d1 gLen (d2 gIx (dVar 0) (dC (.int 2))))))) (aSz (aNil)))
      (sSeq (sAsg (gTp (gCons' (gNm 4) (gCons' (gNm 5) (gNil')))) (dTup (aCons (dL (dComp (iSeq (dVar 2)) (gNm 6) (dYes) (dCall f_left (rCons (dVar 0) (rCons (dVar 6) (rNil)))) [6])) (aCons (dL (dComp (iSeq (dVar 2)) (gNm 6) (dYes) (dCall f_taken (rCons (dVar 0) (rCons (dVar 6) (rNil)))) [6])) (aNil)))))
      (sSeq (sFor (iSeq (dVar 2)) (gNm 7) (sSeq (sPar 8 9 (aCons (dCall f_firm (rCons (dVar 0) (rCons (dVar 7) (rNil)))) (aCons (dL (dComp (iSeq (dVar 2)) (gNm 6) (dTr (dCall f_is_within (rCons (d2 gIx (dVar 5) (dVar 6)) (rCons (d2 gIx (dVar 5) (dVar 7)) (rNil))))) (dVar 6) [6])) (aNil))))
      (sFor (iSeq (dVar 9)) (gNm 6) (sSeq (sIf (dAnd (dTr (dVar 1)) (dB (d2 gEq (dCall f_common (rCons (d2 gIx (dVar 4) (dVar 6)) (rCons (dVar 8) (rNil)))) (dTup (aNil))))) (sApp 3 (dTup (aCons (dVar 7) (aCons (dVar 6) (aNil))))) (sNext))
      (sFor (iSeq (dIf (dTr (dVar 1)) (dL (aSz (aNil))) (dVar 9))) (gNm 10) (sIf (dAnd (dTr (dCall f_is_within (rCons (d2 gIx (dVar 5) (dVar 6)) (rCons (d2 gIx (dVar 5) (dVar 10)) (rNil))))) (dB (d2 gEq (dCall f_without (rCons (dCall f_common (rCons (d2 gIx (dVar 4) (dVar 6)) (rCons (d2 gIx (dVar 4) (dVar 10)) (rNil)))) (rCons (d2 gIx (d2 gIx (d2 gIx (dVar 0) (dC (.int 2))) (dVar 7)) (dC (.int 1))) (rNil)))) (dTup (aNil))))) (sApp 3 (dTup (aCons (dVar 7) (aCons (dVar 6) (aCons (dVar 10) (aNil)))))) (sNext)))))))
      (sFrz 3 (sRet (dVar 3)))))
def rd_unlawful (f_papers : Fn) : DTS :=
  sSeq (sSet 2 (dCall f_papers (rCons (dVar 0) (rCons (dVar 1) (rNil)))))
      (sRet (dIf (dB (d2 gNe (dVar 2) (dL (aSz (aNil))))) (d2 gIx (dVar 2) (dC (.int 0))) (dC .none)))
def rd__law_one (f__law_draw : Fn) : DTS :=
  sRet (d2 gIx (dVar 1) (dCall f__law_draw (rRl 0 (rCons (d1 gLen (dVar 1)) (rNil)))))
def rd__law_lots_of : DTS :=
  sSeq (sSet 2 (dL (aSz (aCons (dTup (aNil)) (aNil)))))
      (sSeq (sFor (iRg1 (dVar 1)) (gNm 3) (sSeq (sSetL 4 (aSz (aNil)))
      (sSeq (sFor (iSeq (dVar 2)) (gNm 5) (sExt 4 (lsE (dL (dComp (iSeq (dVar 0)) (gNm 6) (dOr (dB (d2 gEq (dVar 5) (dTup (aNil)))) (dB (d2 gGt (dVar 6) (d2 gIx (dVar 5) (d1 gNeg (dC (.int 1))))))) (d2 gAdd (dVar 5) (dTup (aCons (dVar 6) (aNil)))) [6])))))
      (sFrz 4 (sSet 2 (dVar 4))))))
      (sRet (d1 gTuple (dVar 2))))
def rd__law_known_sky (f__law_lots_of : Fn) : DTS :=
  sSeq (sSet 3 (dCall f__law_lots_of (rCons (dL (aRg (rg1 (dVar 1)))) (rCons (dVar 2) (rNil)))))
      (sSeq (sSetL 4 (dComp (iSeq (dVar 3)) (gNm 5) (dYes) (dTup (aCons (dIf (dB (d2 gNe (dVar 0) (dC (.str "forgetting")))) (dVar 5) (dTup (aNil))) (aCons (dIf (dB (d2 gIn (dVar 0) (dTup (aCons (dC (.str "forgetting")) (aCons (dC (.str "falling")) (aNil)))))) (dVar 5) (dTup (aNil))) (aNil)))) [5]))
      (sFrz 4 (sRet (dTup (aCons (dVar 1) (aCons (dIf (dB (d2 gEq (dVar 0) (dC (.str "belled")))) (dTRg (rg1 (dVar 1))) (dTup (aNil))) (aCons (d1 gTuple (dVar 4)) (aNil))))))))
def rd__law_told (f_known_sky : FnX) : DTS :=
  sTry "TooMany" 4 (qRet (qLst (qCons ((fun _ => dC (.str "sky"))) (qCons (qIfE (dTr (dVar 3)) (dCallKX f_known_sky 3 [2, 1, 0] (rCons (dVar 2) (rCons (dVar 1) (rCons (dVar 0) (rNil))))) (dCallX f_known_sky (rCons (dVar 0) (rCons (dVar 1) (rCons (dVar 2) (rNil)))))) (qNil))))) (fun x => [.str "many", x, .bool true])
def rd__law_is_let : DTS :=
  sSeq (sIf (dB (d2 gIn (dVar 0) (dTup (aCons (dC (.str "forgetting")) (aCons (dC (.str "belled")) (aNil)))))) (sRet (d2 gGt (dVar 1) (dVar 2))) (sNext))
      (sRet (dIf (dOr (dB (d2 gEq (dVar 0) (dC (.str "stopping")))) (dTr (dVar 3))) (d2 gGt (dVar 1) (d2 gMul (dC (.int 2)) (dVar 2))) (d2 gGt (dVar 1) (d2 gMul (dC (.int 3)) (dVar 2)))))
def rd_law (f__law_draw f__law_one f__law_known_sky f__law_told f_sky_error f_unlawful f__law_is_let : Fn) : DTS :=
  sSeq (sParEL 2 3 (dL (aSz (aCons (dC (.str "stopping")) (aCons (dC (.str "forgetting")) (aCons (dC (.str "falling")) (aCons (dC (.str "belled")) (aNil))))))) (aSz (aNil)))
      (sSeq (sFor (iRg1 (dC (.int 8))) (gNm 4) (sSeq (sSet 5 (d2 gAdd (dC (.int 1)) (dCall f__law_draw (rRl 1 (rCons (dC (.int 6)) (rNil))))))
      (sApp 3 (dTup (aCons (dCall f__law_one (rRl 1 (rCons (dVar 2) (rNil)))) (aCons (dVar 5) (aCons (dCall f__law_draw (rRl 1 (rCons (d2 gAdd (dVar 5) (dC (.int 1))) (rNil)))) (aNil))))))))
      (sSeq (sFor (iSeq (dVar 2)) (gNm 6) (sApp 3 (d2 gAdd (dTup (aCons (dVar 6) (aNil))) (dCall f__law_one (rRl 1 (rCons (dL (aSz (aCons (dTup (aCons (dC (.int 5)) (aCons (dC (.int 2)) (aNil)))) (aCons (dTup (aCons (dC (.int 5)) (aCons (dC (.int 3)) (aNil)))) (aCons (dTup (aCons (dC (.int 6)) (aCons (dC (.int 2)) (aNil)))) (aCons (dTup (aCons (dC (.int 6)) (aCons (dC (.int 3)) (aNil)))) (aCons (dTup (aCons (dC (.int 6)) (aCons (dC (.int 4)) (aNil)))) (aCons (dTup (aCons (dC (.int 6)) (aCons (dC (.int 5)) (aNil)))) (aCons (dTup (aCons (dC (.int 6)) (aCons (dC (.int 1)) (aNil)))) (aNil)))))))))) (rNil)))))))
      (sFrz 3 (sSeq (sFor (iEn (dVar 3)) (gTp (gCons' (gNm 7) (gConsL 0 (gTp (gCons' (gNm 6) (gCons' (gNm 5) (gCons' (gNm 8) (gNil'))))) (gNil')))) (sSeq (sSet 9 (dCall f__law_known_sky (rCons (dVar 6) (rCons (dVar 5) (rCons (dVar 8) (rNil))))))
      (sSeq (sSet 10 (dIf (dB (d2 gLe (d1 gLen (d2 gIx (dVar 9) (dC (.int 2)))) (dC (.int 10)))) (dL (aSz (aCons (dC (.str "sky")) (aCons (dVar 9) (aNil))))) (dL (aSz (aCons (dC (.str "many")) (aCons (dC (.int 10)) (aCons (dC (.bool true)) (aNil))))))))
      (sSeq (sIf (dB (d2 gNe (d1 gRepr (dL (aSz (aCons (dCall f__law_told (rCons (dVar 6) (rCons (dVar 5) (rCons (dVar 8) (rCons (d2 gEq (dVar 7) (dC (.int 0))) (rNil)))))) (aCons (dCall f__law_told (rCons (dVar 6) (rCons (dVar 5) (rCons (dVar 8) (rCons (dC (.bool false)) (rNil)))))) (aNil)))))) (d1 gRepr (dL (aSz (aCons (dVar 10) (aCons (dVar 10) (aNil)))))))) (sRet (dC (.bool false))) (sNext))
      (sSeq (sIf (dAnd (dB (d2 gEq (d2 gIx (dVar 10) (dC (.int 0))) (dC (.str "sky")))) (dB (d2 gIsNot (dCall f_sky_error (rCons (dVar 9) (rNil))) (dC .none)))) (sRet (dC (.bool false))) (sNext))
      (sIf (dAnd (dB (d2 gEq (d2 gIx (dVar 10) (dC (.int 0))) (dC (.str "sky")))) (dB (d2 gLt (dVar 7) (dC (.int 4))))) (sSeq (sSet 11 (dL (aSz (aCons (d2 gIs (dCall f_unlawful (rCons (dVar 9) (rCons (dC (.bool false)) (rNil)))) (dC .none)) (aCons (d2 gIs (dCall f_unlawful (rCons (dVar 9) (rCons (dC (.bool true)) (rNil)))) (dC .none)) (aNil))))))
      (sIf (dB (d2 gNe (d1 gRepr (dVar 11)) (d1 gRepr (dL (aSz (aCons (dCall f__law_is_let (rCons (dVar 6) (rCons (dVar 5) (rCons (dVar 8) (rCons (dC (.bool false)) (rNil)))))) (aCons (dCall f__law_is_let (rCons (dVar 6) (rCons (dVar 5) (rCons (dVar 8) (rCons (dC (.bool true)) (rNil)))))) (aNil)))))))) (sRet (dC (.bool false))) (sNext))) (sNext)))))))
      (sRet (dC (.bool true)))))))
/-! the steps -/
section
variable {P : Program} {w : World} {K : PySem.W.Frag} {mg : Str → Option Value} {base : Heap}
theorem st_is_whole (T : Tops P K mg) {f : Fn} (hf : ∀ as n P, as.length = 3 → f as n P → rd_is_whole  ⟨fun _ m => P .none m, P, fun _ _ => False, fun _ _ => False⟩ (startD ["value", "low", "high"] as) n) : FnG P w K mg base CX0 1 T.a_is_whole T.d_is_whole ["value", "low", "high"] (spD K 3 f) :=
  dfn T.F_is_whole sc_is_whole rfl (fun cdv A outer s H E hgd hr => by
    have hu5 := hu5_of hr
    have hu := hu_of5 hu5
    have nd := sc_is_whole.nd
    refine dss_one ?_
    exact ds_ret (de_and (de_isi (T := "int") (by rfl) T.z_isinstance (de_var (pv 0)) (pe_bltn (by rfl) T.z_int (by decide +kernel) rfl)) (de_and (de_not (de_isi (T := "bool") (by rfl) T.z_isinstance (de_var (pv 0)) (pe_bltn (by rfl) T.z_bool (by decide +kernel) rfl))) (de_one (de_chain (cd_le hu) (cd_le hu) (de_var (pv 1)) (de_var (pv 0)) (de_var (pv 2))))))) hf
theorem st_is_ascending (T : Tops P K mg) {f : Fn} (hf : ∀ as n P, as.length = 1 → f as n P → rd_is_ascending  ⟨fun _ m => P .none m, P, fun _ _ => False, fun _ _ => False⟩ (startD ["items", "place"] as) n) : FnG P w K mg base CX0 1 T.a_is_ascending T.d_is_ascending ["items"] (spD K 1 f) :=
  dfn T.F_is_ascending sc_is_ascending rfl (fun cdv A outer s H E hgd hr => by
    have hu5 := hu5_of hr
    have hu := hu_of5 hu5
    have nd := sc_is_ascending.nd
    refine dss_one ?_
    exact ds_ret (de_all rfl (by rfl) T.z_all (DL.DL.de (dl_comp rfl nd (di_range1 (de_sub (de_len (by rfl) T.z_len (de_var (pv 0))) (de_int)) (by rfl) T.z_range) (own := [("place", 1)]) (blkD (N := ["items", "place"]) (sc := defScope s_is_ascending) rfl (by decide +kernel) (by decide +kernel) (by decide +kernel) (by decide +kernel)) (fun _ _ _ _ _ => pg_name (i := 1) nd rfl (by first | exact .inl rfl | exact .inr rfl)) (gs_name) (by decide) (fun _ _ _ _ _ => dts_nil) (fun _ _ _ _ _ => de_lt hu (de_ix (de_var (pv 0)) (de_var (pv 1))) (de_ix (de_var (pv 0)) (de_add (de_var (pv 1)) (de_int)))))))) hf
theorem st_is_row (T : Tops P K mg) {f_is_whole : Fn} {f_is_ascending : Fn} (c_is_whole : FnG P w K mg base CX0 1 T.a_is_whole T.d_is_whole ["value", "low", "high"] (spD K 3 f_is_whole)) (c_is_ascending : FnG P w K mg base CX0 1 T.a_is_ascending T.d_is_ascending ["items"] (spD K 1 f_is_ascending)) {f : Fn} (hf : ∀ as n P, as.length = 2 → f as n P → rd_is_row f_is_whole f_is_ascending ⟨fun _ m => P .none m, P, fun _ _ => False, fun _ _ => False⟩ (startD ["value", "many", "item"] as) n) : FnG P w K mg base CX0 2 T.a_is_row T.d_is_row ["value", "many"] (spD K 2 f) :=
  dfn T.F_is_row sc_is_row rfl (fun cdv A outer s H E hgd hr => by
    have hu5 := hu5_of hr
    have hu := hu_of5 hu5
    have nd := sc_is_row.nd
    refine dss_cons ?_ ?_
    · refine ds_if (DW.dt (dw_or (dt_not (dt_val (de_isi (T := "tuple") (by rfl) T.z_isinstance (de_var (pv 0)) (pe_bltn (by rfl) T.z_tuple (by decide +kernel) rfl)))) (dw_or1 (dt_not (dt_val (de_all rfl (by rfl) T.z_all (DL.DL.de (dl_comp rfl nd (di_seq (de_var (pv 0))) (own := [("item", 2)]) (blkD (N := ["value", "many", "item"]) (sc := defScope s_is_row) rfl (by decide +kernel) (by decide +kernel) (by decide +kernel) (by decide +kernel)) (fun _ _ _ _ _ => pg_name (i := 2) nd rfl (by first | exact .inl rfl | exact .inr rfl)) (gs_name) (by decide) (fun _ _ _ _ _ => dts_nil) (fun _ _ _ _ _ => de_call (c_is_whole.up (by decide)) hgd hr (by rfl) T.g_is_whole T.F_is_whole.kp (T.F_is_whole.binds (ps := ["value", "low", "high"]) fun _ _ _ _ _ _ us hl => match us, hl with | [_, _, _], _ => rfl) rfl (dr_cons (de_var (pv 2)) (dr_cons (de_int) (dr_cons (de_sub (de_var (pv 1)) (de_int)) (dr_nil))))))))))))) ?_ ?_
      · refine dss_one ?_
        exact ds_ret (de_bl)
      · exact dss_nil
    refine dss_one ?_
    exact ds_ret (de_call (c_is_ascending.up (by decide)) hgd hr (by rfl) T.g_is_ascending T.F_is_ascending.kp (T.F_is_ascending.binds (ps := ["items"]) fun _ _ _ _ _ _ us hl => match us, hl with | [_], _ => rfl) rfl (dr_cons (de_var (pv 0)) (dr_nil)))) hf
theorem st_is_within (T : Tops P K mg) {f : Fn} (hf : ∀ as n P, as.length = 2 → f as n P → rd_is_within  ⟨fun _ m => P .none m, P, fun _ _ => False, fun _ _ => False⟩ (startD ["one", "other", "machine"] as) n) : FnG P w K mg base CX0 1 T.a_is_within T.d_is_within ["one", "other"] (spD K 2 f) :=
  dfn T.F_is_within sc_is_within rfl (fun cdv A outer s H E hgd hr => by
    have hu5 := hu5_of hr
    have hu := hu_of5 hu5
    have nd := sc_is_within.nd
    refine dss_one ?_
    exact ds_ret (de_all rfl (by rfl) T.z_all (DL.DL.de (dl_comp rfl nd (di_seq (de_var (pv 0))) (own := [("machine", 2)]) (blkD (N := ["one", "other", "machine"]) (sc := defScope s_is_within) rfl (by decide +kernel) (by decide +kernel) (by decide +kernel) (by decide +kernel)) (fun _ _ _ _ _ => pg_name (i := 2) nd rfl (by first | exact .inl rfl | exact .inr rfl)) (gs_name) (by decide) (fun _ _ _ _ _ => dts_nil) (fun _ _ _ _ _ => de_in hu5 (de_var (pv 2)) (de_var (pv 1))))))) hf
theorem st_common (T : Tops P K mg) {f : Fn} (hf : ∀ as n P, as.length = 2 → f as n P → rd_common  ⟨fun _ m => P .none m, P, fun _ _ => False, fun _ _ => False⟩ (startD ["one", "other", "machine"] as) n) : FnG P w K mg base CX0 1 T.a_common T.d_common ["one", "other"] (spD K 2 f) :=
  dfn T.F_common sc_common rfl (fun cdv A outer s H E hgd hr => by
    have hu5 := hu5_of hr
    have hu := hu_of5 hu5
    have nd := sc_common.nd
    refine dss_one ?_
    exact ds_ret (de_tuple (by rfl) T.z_tuple (DL.DL.de (dl_comp rfl nd (di_seq (de_var (pv 0))) (own := [("machine", 2)]) (blkD (N := ["one", "other", "machine"]) (sc := defScope s_common) rfl (by decide +kernel) (by decide +kernel) (by decide +kernel) (by decide +kernel)) (fun _ _ _ _ _ => pg_name (i := 2) nd rfl (by first | exact .inl rfl | exact .inr rfl)) (gs_name) (by decide) (fun _ _ _ _ _ => dts_one (dt_cp (cd_in hu5) (de_var (pv 2)) (de_var (pv 1)))) (fun _ _ _ _ _ => de_var (pv 2)))))) hf
theorem st_without (T : Tops P K mg) {f : Fn} (hf : ∀ as n P, as.length = 2 → f as n P → rd_without  ⟨fun _ m => P .none m, P, fun _ _ => False, fun _ _ => False⟩ (startD ["one", "other", "machine"] as) n) : FnG P w K mg base CX0 1 T.a_without T.d_without ["one", "other"] (spD K 2 f) :=
  dfn T.F_without sc_without rfl (fun cdv A outer s H E hgd hr => by
    have hu5 := hu5_of hr
    have hu := hu_of5 hu5
    have nd := sc_without.nd
    refine dss_one ?_
    exact ds_ret (de_tuple (by rfl) T.z_tuple (DL.DL.de (dl_comp rfl nd (di_seq (de_var (pv 0))) (own := [("machine", 2)]) (blkD (N := ["one", "other", "machine"]) (sc := defScope s_without) rfl (by decide +kernel) (by decide +kernel) (by decide +kernel) (by decide +kernel)) (fun _ _ _ _ _ => pg_name (i := 2) nd rfl (by first | exact .inl rfl | exact .inr rfl)) (gs_name) (by decide) (fun _ _ _ _ _ => dts_one (dt_cp (cd_notIn hu5) (de_var (pv 2)) (de_var (pv 1)))) (fun _ _ _ _ _ => de_var (pv 2)))))) hf
theorem st_choices (T : Tops P K mg) {f : Fn} (hf : ∀ as n P, as.length = 2 → f as n P → rd_choices  ⟨fun _ m => P .none m, P, fun _ _ => False, fun _ _ => False⟩ (startD ["row", "few", "found", "turn", "longer", "some", "machine"] as) n) : FnG P w K mg base CX0 1 T.a_choices T.d_choices ["row", "few"] (spD K 2 f) :=
  dfn T.F_choices sc_choices rfl (fun cdv A outer s H E hgd hr => by
    have hu5 := hu5_of hr
    have hu := hu_of5 hu5
    have nd := sc_choices.nd
    refine dss_cons ?_ ?_
    · exact ds_set (i := 2) (fun _ h => ps_set (i := 2) nd rfl (.inl rfl) h) (DL.DL.de (dl_lst (da_cons (de_tup (da_nil)) (da_nil))))
    refine dss_cons ?_ ?_
    · refine ds_for PassesOwn.never rfl (di_range1 (de_var (pv 1)) (by rfl) T.z_range) (pg_name (i := 3) nd rfl (by first | exact .inl rfl | exact .inr rfl)) (gs_name) ?_
      refine dss_cons ?_ ?_
      · exact ds_setL (i := 4) (fun _ h => ps_set (i := 4) nd rfl (.inl rfl) h) (dl_lst (da_nil))
      refine dss_cons ?_ ?_
      · refine ds_for PassesOwn.never rfl (di_seq (de_var (pv 2))) (pg_name (i := 5) nd rfl (by first | exact .inl rfl | exact .inr rfl)) (gs_name) ?_
        refine dss_one ?_
        exact ds_extend (i := 4) (pv 4) (DL.DL.de (dl_comp rfl nd (di_seq (de_var (pv 0))) (own := [("machine", 6)]) (blkD (N := ["row", "few", "found", "turn", "longer", "some", "machine"]) (sc := defScope s_choices) rfl (by decide +kernel) (by decide +kernel) (by decide +kernel) (by decide +kernel)) (fun _ _ _ _ _ => pg_name (i := 6) nd rfl (by first | exact .inl rfl | exact .inr rfl)) (gs_name) (by decide) (fun _ _ _ _ _ => dts_one (DW.dt (dw_or (dt_cp (cd_eq hu) (de_var (pv 5)) (de_tup (da_nil))) (dw_or1 (dt_cp (cd_gt hu) (de_var (pv 6)) (de_ix (de_var (pv 5)) (de_neg (de_int)))))))) (fun _ _ _ _ _ => de_add (de_var (pv 5)) (de_tup (da_cons (de_var (pv 6)) (da_nil)))))) (fun hx ha => pe_bm PySem.F.plainAttrs_list PySem.F.slot_list_extend PySem.F.type_list_extend mt_extend hx ha)
      refine dss_frz (i := 4) ?_
      refine dss_one ?_
      exact ds_set (i := 2) (fun _ h => ps_set (i := 2) nd rfl (.inl rfl) h) (de_var (pv 4))
    refine dss_one ?_
    exact ds_ret (de_var (pv 2))) hf
theorem st_storm_by (T : Tops P K mg) {f : Fn} (hf : ∀ as n P, as.length = 2 → f as n P → rd_storm_by  ⟨fun _ m => P .none m, P, fun _ _ => False, fun _ _ => False⟩ (startD ["word", "choice"] as) n) : FnG P w K mg base CX0 1 T.a_storm_by T.d_storm_by ["word", "choice"] (spD K 2 f) :=
  dfn T.F_storm_by sc_storm_by rfl (fun cdv A outer s H E hgd hr => by
    have hu5 := hu5_of hr
    have hu := hu_of5 hu5
    have nd := sc_storm_by.nd
    refine dss_cons ?_ ?_
    · refine ds_if (dt_cp (cd_eq hu) (de_var (pv 0)) (de_str)) ?_ ?_
      · refine dss_one ?_
        exact ds_ret (de_tup (da_cons (de_tup (da_nil)) (da_cons (de_var (pv 1)) (da_nil))))
      · exact dss_nil
    refine dss_one ?_
    exact ds_ret (de_tup (da_cons (de_var (pv 1)) (da_cons (de_ifExp (dt_cp (cd_eq hu) (de_var (pv 0)) (de_str)) (de_var (pv 1)) (de_tup (da_nil))) (da_nil))))) hf
theorem st_known_sky (T : Tops P K mg) {f_choices : Fn} {f_storm_by : Fn} (c_choices : FnG P w K mg base CX0 1 T.a_choices T.d_choices ["row", "few"] (spD K 2 f_choices)) (c_storm_by : FnG P w K mg base CX0 1 T.a_storm_by T.d_storm_by ["word", "choice"] (spD K 2 f_storm_by)) {f : FnX} (hf : ∀ as n px P, as.length = 3 → f as n px P → rd_known_sky f_choices f_storm_by (fun nm x _ m => px nm x m) ⟨fun _ m => P .none m, P, fun _ _ => False, fun _ _ => False⟩ (startD ["word", "many", "few", "machines", "found", "choice"] as) n) : FnG P w K mg base (L2.CX P w) 2 T.a_known_sky T.d_known_sky ["word", "many", "few"] (spDX K 3 (ct1 "TooMany" T.C_TooMany "limit") f) :=
  dfnX T.F_known_sky sc_known_sky rfl (fun cdv A outer s H E hgd hr => by
    have hu5 := hu5_of hr
    have hu := hu_of5 hu5
    have nd := sc_known_sky.nd
    refine dssx_cons ?_ ?_
    · refine dsx_of ?_
      exact ds_set (i := 3) (fun _ h => ps_set (i := 3) nd rfl (.inl rfl) h) (de_tRg rfl (by rfl) T.z_tuple (dr_1 (by rfl) T.z_range (de_var (pv 1))))
    refine dssx_cons ?_ ?_
    · refine dsx_of ?_
      exact ds_set (i := 4) (fun _ h => ps_set (i := 4) nd rfl (.inl rfl) h) (de_call (c_choices.up (by decide)) hgd hr (by rfl) T.g_choices T.F_choices.kp (T.F_choices.binds (ps := ["row", "few"]) fun _ _ _ _ _ _ us hl => match us, hl with | [_, _], _ => rfl) rfl (dr_cons (de_var (pv 3)) (dr_cons (de_var (pv 2)) (dr_nil))))
    refine dssx_cons ?_ ?_
    · refine dsx_if (dt_cp (cd_gt hu) (de_len (by rfl) T.z_len (de_var (pv 4))) (de_globI (by rfl) T.v_MAX_STORMS)) ?_ ?_
      · refine dssx_one ?_
        exact dsx_raise ct1_self rfl T.x_TooMany T.e_TooMany T.y_TooMany hr (takes_of rfl rfl rfl rfl) (de_globI (by rfl) T.v_MAX_STORMS) (by rfl)
      · refine dssx_of ?_
        exact dss_nil
    refine dssx_of ?_
    refine dss_one ?_
    exact ds_ret (de_tup (da_cons (de_var (pv 1)) (da_cons (de_ifExp (dt_cp (cd_eq hu) (de_var (pv 0)) (de_str)) (de_var (pv 3)) (de_tup (da_nil))) (da_cons (de_tuple (by rfl) T.z_tuple (DL.DL.de (dl_comp rfl nd (di_seq (de_var (pv 4))) (own := [("choice", 5)]) (blkD (N := ["word", "many", "few", "machines", "found", "choice"]) (sc := defScope s_known_sky) rfl (by decide +kernel) (by decide +kernel) (by decide +kernel) (by decide +kernel)) (fun _ _ _ _ _ => pg_name (i := 5) nd rfl (by first | exact .inl rfl | exact .inr rfl)) (gs_name) (by decide) (fun _ _ _ _ _ => dts_nil) (fun _ _ _ _ _ => de_call (c_storm_by.up (by decide)) hgd hr (by rfl) T.g_storm_by T.F_storm_by.kp (T.F_storm_by.binds (ps := ["word", "choice"]) fun _ _ _ _ _ _ us hl => match us, hl with | [_, _], _ => rfl) rfl (dr_cons (de_var (pv 0)) (dr_cons (de_var (pv 5)) (dr_nil))))))) (da_nil)))))) hf
theorem st_is_storm (T : Tops P K mg) {f_is_row : Fn} (c_is_row : FnG P w K mg base CX0 2 T.a_is_row T.d_is_row ["value", "many"] (spD K 2 f_is_row)) {f : Fn} (hf : ∀ as n P, as.length = 2 → f as n P → rd_is_storm f_is_row ⟨fun _ m => P .none m, P, fun _ _ => False, fun _ _ => False⟩ (startD ["value", "many"] as) n) : FnG P w K mg base CX0 3 T.a_is_storm T.d_is_storm ["value", "many"] (spD K 2 f) :=
  dfn T.F_is_storm sc_is_storm rfl (fun cdv A outer s H E hgd hr => by
    have hu5 := hu5_of hr
    have hu := hu_of5 hu5
    have nd := sc_is_storm.nd
    refine dss_one ?_
    exact ds_ret (de_and (de_isi (T := "tuple") (by rfl) T.z_isinstance (de_var (pv 0)) (pe_bltn (by rfl) T.z_tuple (by decide +kernel) rfl)) (de_and (de_eq hu (de_len (by rfl) T.z_len (de_var (pv 0))) (de_int)) (de_and (de_call (c_is_row.up (by decide)) hgd hr (by rfl) T.g_is_row T.F_is_row.kp (T.F_is_row.binds (ps := ["value", "many"]) fun _ _ _ _ _ _ us hl => match us, hl with | [_, _], _ => rfl) rfl (dr_cons (de_ix (de_var (pv 0)) (de_int)) (dr_cons (de_var (pv 1)) (dr_nil)))) (de_one (de_call (c_is_row.up (by decide)) hgd hr (by rfl) T.g_is_row T.F_is_row.kp (T.F_is_row.binds (ps := ["value", "many"]) fun _ _ _ _ _ _ us hl => match us, hl with | [_, _], _ => rfl) rfl (dr_cons (de_ix (de_var (pv 0)) (de_int)) (dr_cons (de_var (pv 1)) (dr_nil))))))))) hf
theorem st_storms_error (T : Tops P K mg) {f_is_storm : Fn} {f_is_ascending : Fn} (c_is_storm : FnG P w K mg base CX0 3 T.a_is_storm T.d_is_storm ["value", "many"] (spD K 2 f_is_storm)) (c_is_ascending : FnG P w K mg base CX0 1 T.a_is_ascending T.d_is_ascending ["items"] (spD K 1 f_is_ascending)) {f : Fn} (hf : ∀ as n P, as.length = 2 → f as n P → rd_storms_error f_is_storm f_is_ascending ⟨fun _ m => P .none m, P, fun _ _ => False, fun _ _ => False⟩ (startD ["many", "storms", "place", "storm"] as) n) : FnG P w K mg base CX0 4 T.a_storms_error T.d_storms_error ["many", "storms"] (spD K 2 f) :=
  dfn T.F_storms_error sc_storms_error rfl (fun cdv A outer s H E hgd hr => by
    have hu5 := hu5_of hr
    have hu := hu_of5 hu5
    have nd := sc_storms_error.nd
    refine dss_cons ?_ ?_
    · refine ds_for PassesOwn.never rfl (di_enum (by rfl) T.z_enumerate (de_var (pv 1))) (pg_tup rfl (pgs_cons (pg_name (i := 2) nd rfl (by first | exact .inl rfl | exact .inr rfl)) (pgs_cons (pg_name (i := 3) nd rfl (by first | exact .inl rfl | exact .inr rfl)) (pgs_nil)))) (gs_tup (gs_cons (gs_cons (gs_nil)))) ?_
      refine dss_one ?_
      refine ds_if (dt_not (dt_truth (de_call (c_is_storm.up (by decide)) hgd hr (by rfl) T.g_is_storm T.F_is_storm.kp (T.F_is_storm.binds (ps := ["value", "many"]) fun _ _ _ _ _ _ us hl => match us, hl with | [_, _], _ => rfl) rfl (dr_cons (de_var (pv 3)) (dr_cons (de_var (pv 0)) (dr_nil)))))) ?_ ?_
      · refine dss_one ?_
        exact ds_ret (de_tup (da_cons (de_str) (da_cons (de_var (pv 2)) (da_nil))))
      · exact dss_nil
    refine dss_cons ?_ ?_
    · refine ds_for PassesOwn.never rfl (di_range2 (de_int) (de_len (by rfl) T.z_len (de_var (pv 1))) (by rfl) T.z_range) (pg_name (i := 2) nd rfl (by first | exact .inl rfl | exact .inr rfl)) (gs_name) ?_
      refine dss_one ?_
      refine ds_if (dt_not (dt_truth (de_call (c_is_ascending.up (by decide)) hgd hr (by rfl) T.g_is_ascending T.F_is_ascending.kp (T.F_is_ascending.binds (ps := ["items"]) fun _ _ _ _ _ _ us hl => match us, hl with | [_], _ => rfl) rfl (dr_cons (de_slice (de_var (pv 1)) (do_some (de_sub (de_var (pv 2)) (de_int))) (do_some (de_add (de_var (pv 2)) (de_int)))) (dr_nil))))) ?_ ?_
      · refine dss_one ?_
        exact ds_ret (de_tup (da_cons (de_str) (da_cons (de_var (pv 2)) (da_nil))))
      · exact dss_nil
    refine dss_one ?_
    exact ds_ret (de_non)) hf
theorem st_sky_error (T : Tops P K mg) {f_is_whole : Fn} {f_is_row : Fn} {f_storms_error : Fn} (c_is_whole : FnG P w K mg base CX0 1 T.a_is_whole T.d_is_whole ["value", "low", "high"] (spD K 3 f_is_whole)) (c_is_row : FnG P w K mg base CX0 2 T.a_is_row T.d_is_row ["value", "many"] (spD K 2 f_is_row)) (c_storms_error : FnG P w K mg base CX0 4 T.a_storms_error T.d_storms_error ["many", "storms"] (spD K 2 f_storms_error)) {f : Fn} (hf : ∀ as n P, as.length = 1 → f as n P → rd_sky_error f_is_whole f_is_row f_storms_error ⟨fun _ m => P .none m, P, fun _ _ => False, fun _ _ => False⟩ (startD ["value", "many", "bells", "storms"] as) n) : FnG P w K mg base CX0 5 T.a_sky_error T.d_sky_error ["value"] (spD K 1 f) :=
  dfn T.F_sky_error sc_sky_error rfl (fun cdv A outer s H E hgd hr => by
    have hu5 := hu5_of hr
    have hu := hu_of5 hu5
    have nd := sc_sky_error.nd
    refine dss_cons ?_ ?_
    · refine ds_if (DW.dt (dw_or (dt_not (dt_val (de_isi (T := "tuple") (by rfl) T.z_isinstance (de_var (pv 0)) (pe_bltn (by rfl) T.z_tuple (by decide +kernel) rfl)))) (dw_or1 (dt_cp (cd_ne hu) (de_len (by rfl) T.z_len (de_var (pv 0))) (de_int))))) ?_ ?_
      · refine dss_one ?_
        exact ds_ret (de_str)
      · exact dss_nil
    refine dss_cons ?_ ?_
    · exact ds_asg (fun _ h => ps_asg h (pg_tup rfl (pgs_cons (pg_name (i := 1) nd rfl (by first | exact .inl rfl | exact .inr rfl)) (pgs_cons (pg_name (i := 2) nd rfl (by first | exact .inl rfl | exact .inr rfl)) (pgs_cons (pg_name (i := 3) nd rfl (by first | exact .inl rfl | exact .inr rfl)) (pgs_nil)))))) (gs_tup (gs_cons (gs_cons (gs_cons (gs_nil))))) (de_var (pv 0))
    refine dss_cons ?_ ?_
    · refine ds_if (dt_not (dt_truth (de_call (c_is_whole.up (by decide)) hgd hr (by rfl) T.g_is_whole T.F_is_whole.kp (T.F_is_whole.binds (ps := ["value", "low", "high"]) fun _ _ _ _ _ _ us hl => match us, hl with | [_, _, _], _ => rfl) rfl (dr_cons (de_var (pv 1)) (dr_cons (de_int) (dr_cons (de_globI (by rfl) T.v_MAX_MACHINES) (dr_nil))))))) ?_ ?_
      · refine dss_one ?_
        exact ds_ret (de_str)
      · exact dss_nil
    refine dss_cons ?_ ?_
    · refine ds_if (dt_not (dt_truth (de_call (c_is_row.up (by decide)) hgd hr (by rfl) T.g_is_row T.F_is_row.kp (T.F_is_row.binds (ps := ["value", "many"]) fun _ _ _ _ _ _ us hl => match us, hl with | [_, _], _ => rfl) rfl (dr_cons (de_var (pv 2)) (dr_cons (de_var (pv 1)) (dr_nil)))))) ?_ ?_
      · refine dss_one ?_
        exact ds_ret (de_str)
      · exact dss_nil
    refine dss_cons ?_ ?_
    · refine ds_if (DW.dt (dw_or (dt_not (dt_val (de_isi (T := "tuple") (by rfl) T.z_isinstance (de_var (pv 3)) (pe_bltn (by rfl) T.z_tuple (by decide +kernel) rfl)))) (dw_or1 (dt_not (dt_chain (cd_le hu) (cd_le hu) (de_int) (de_len (by rfl) T.z_len (de_var (pv 3))) (de_globI (by rfl) T.v_MAX_STORMS)))))) ?_ ?_
      · refine dss_one ?_
        exact ds_ret (de_str)
      · exact dss_nil
    refine dss_one ?_
    exact ds_ret (de_call (c_storms_error.up (by decide)) hgd hr (by rfl) T.g_storms_error T.F_storms_error.kp (T.F_storms_error.binds (ps := ["many", "storms"]) fun _ _ _ _ _ _ us hl => match us, hl with | [_, _], _ => rfl) rfl (dr_cons (de_var (pv 1)) (dr_cons (de_var (pv 3)) (dr_nil))))) hf
theorem st_left (T : Tops P K mg) {f : Fn} (hf : ∀ as n P, as.length = 2 → f as n P → rd_left  ⟨fun _ m => P .none m, P, fun _ _ => False, fun _ _ => False⟩ (startD ["sky", "s", "gone", "machine"] as) n) : FnG P w K mg base CX0 1 T.a_left T.d_left ["sky", "s"] (spD K 2 f) :=
  dfn T.F_left sc_left rfl (fun cdv A outer s H E hgd hr => by
    have hu5 := hu5_of hr
    have hu := hu_of5 hu5
    have nd := sc_left.nd
    refine dss_cons ?_ ?_
    · exact ds_set (i := 2) (fun _ h => ps_set (i := 2) nd rfl (.inr rfl) h) (de_ix (de_ix (de_ix (de_var (pv 0)) (de_int)) (de_var (pv 1))) (de_int))
    refine dss_one ?_
    exact ds_ret (de_tuple (by rfl) T.z_tuple (DL.DL.de (dl_comp rfl nd (di_range1 (de_ix (de_var (pv 0)) (de_int)) (by rfl) T.z_range) (own := [("machine", 3)]) (blkD (N := ["sky", "s", "gone", "machine"]) (sc := defScope s_left) rfl (by decide +kernel) (by decide +kernel) (by decide +kernel) (by decide +kernel)) (fun _ _ _ _ _ => pg_name (i := 3) nd rfl (by first | exact .inl rfl | exact .inr rfl)) (gs_name) (by decide) (fun _ _ _ _ _ => dts_one (dt_cp (cd_notIn hu5) (de_var (pv 3)) (de_var (pv 2)))) (fun _ _ _ _ _ => de_var (pv 3)))))) hf
theorem st_firm (T : Tops P K mg) {f_left : Fn} (c_left : FnG P w K mg base CX0 1 T.a_left T.d_left ["sky", "s"] (spD K 2 f_left)) {f : Fn} (hf : ∀ as n P, as.length = 2 → f as n P → rd_firm f_left ⟨fun _ m => P .none m, P, fun _ _ => False, fun _ _ => False⟩ (startD ["sky", "s", "blank", "machine"] as) n) : FnG P w K mg base CX0 2 T.a_firm T.d_firm ["sky", "s"] (spD K 2 f) :=
  dfn T.F_firm sc_firm rfl (fun cdv A outer s H E hgd hr => by
    have hu5 := hu5_of hr
    have hu := hu_of5 hu5
    have nd := sc_firm.nd
    refine dss_cons ?_ ?_
    · exact ds_set (i := 2) (fun _ h => ps_set (i := 2) nd rfl (.inr rfl) h) (de_ix (de_ix (de_ix (de_var (pv 0)) (de_int)) (de_var (pv 1))) (de_int))
    refine dss_one ?_
    exact ds_ret (de_tuple (by rfl) T.z_tuple (DL.DL.de (dl_comp rfl nd (di_seq (de_call (c_left.up (by decide)) hgd hr (by rfl) T.g_left T.F_left.kp (T.F_left.binds (ps := ["sky", "s"]) fun _ _ _ _ _ _ us hl => match us, hl with | [_, _], _ => rfl) rfl (dr_cons (de_var (pv 0)) (dr_cons (de_var (pv 1)) (dr_nil))))) (own := [("machine", 3)]) (blkD (N := ["sky", "s", "blank", "machine"]) (sc := defScope s_firm) rfl (by decide +kernel) (by decide +kernel) (by decide +kernel) (by decide +kernel)) (fun _ _ _ _ _ => pg_name (i := 3) nd rfl (by first | exact .inl rfl | exact .inr rfl)) (gs_name) (by decide) (fun _ _ _ _ _ => dts_one (dt_cp (cd_notIn hu5) (de_var (pv 3)) (de_var (pv 2)))) (fun _ _ _ _ _ => de_var (pv 3)))))) hf
theorem st_taken (T : Tops P K mg) {f : Fn} (hf : ∀ as n P, as.length = 2 → f as n P → rd_taken  ⟨fun _ m => P .none m, P, fun _ _ => False, fun _ _ => False⟩ (startD ["sky", "s", "machine"] as) n) : FnG P w K mg base CX0 1 T.a_taken T.d_taken ["sky", "s"] (spD K 2 f) :=
  dfn T.F_taken sc_taken rfl (fun cdv A outer s H E hgd hr => by
    have hu5 := hu5_of hr
    have hu := hu_of5 hu5
    have nd := sc_taken.nd
    refine dss_one ?_
    exact ds_ret (de_tuple (by rfl) T.z_tuple (DL.DL.de (dl_comp rfl nd (di_seq (de_ix (de_ix (de_ix (de_var (pv 0)) (de_int)) (de_var (pv 1))) (de_int))) (own := [("machine", 2)]) (blkD (N := ["sky", "s", "machine"]) (sc := defScope s_taken) rfl (by decide +kernel) (by decide +kernel) (by decide +kernel) (by decide +kernel)) (fun _ _ _ _ _ => pg_name (i := 2) nd rfl (by first | exact .inl rfl | exact .inr rfl)) (gs_name) (by decide) (fun _ _ _ _ _ => dts_one (dt_cp (cd_in hu5) (de_var (pv 2)) (de_ix (de_var (pv 0)) (de_int)))) (fun _ _ _ _ _ => de_var (pv 2)))))) hf
theorem st_papers (T : Tops P K mg) {f_taken : Fn} {f_left : Fn} {f_is_within : Fn} {f_firm : Fn} {f_common : Fn} {f_without : Fn} (c_taken : FnG P w K mg base CX0 1 T.a_taken T.d_taken ["sky", "s"] (spD K 2 f_taken)) (c_left : FnG P w K mg base CX0 1 T.a_left T.d_left ["sky", "s"] (spD K 2 f_left)) (c_is_within : FnG P w K mg base CX0 1 T.a_is_within T.d_is_within ["one", "other"] (spD K 2 f_is_within)) (c_firm : FnG P w K mg base CX0 2 T.a_firm T.d_firm ["sky", "s"] (spD K 2 f_firm)) (c_common : FnG P w K mg base CX0 1 T.a_common T.d_common ["one", "other"] (spD K 2 f_common)) (c_without : FnG P w K mg base CX0 1 T.a_without T.d_without ["one", "other"] (spD K 2 f_without)) {f : Fn} (hf : ∀ as n P, as.length = 2 → f as n P → rd_papers f_taken f_left f_is_within f_firm f_common f_without ⟨fun _ m => P .none m, P, fun _ _ => False, fun _ _ => False⟩ (startD ["sky", "is_joining", "numbers", "found", "lefts", "takes", "s", "t", "calm", "under", "r"] as) n) : FnG P w K mg base CX0 3 T.a_papers T.d_papers ["sky", "is_joining"] (spD K 2 f) :=
  dfn T.F_papers sc_papers rfl (fun cdv A outer s H E hgd hr => by
    have hu5 := hu5_of hr
    have hu := hu_of5 hu5
    have nd := sc_papers.nd
    refine dss_cons ?_ ?_
    · exact ds_parEL (i := 2) (j := 3) (fun _ h => ps_par rfl nd rfl rfl (by decide) rfl rfl h (by rfl)) (DL.DL.de (dl_listRg rfl (by rfl) T.z_list (dr_1 (by rfl) T.z_range (de_len (by rfl) T.z_len (de_ix (de_var (pv 0)) (de_int)))))) (dl_lst (da_nil))
    refine dss_cons ?_ ?_
    · exact ds_asg (fun _ h => ps_asg h (pg_tup rfl (pgs_cons (pg_name (i := 4) nd rfl (by first | exact .inl rfl | exact .inr rfl)) (pgs_cons (pg_name (i := 5) nd rfl (by first | exact .inl rfl | exact .inr rfl)) (pgs_nil))))) (gs_tup (gs_cons (gs_cons (gs_nil)))) (de_tup (da_cons (DL.DL.de (dl_comp rfl nd (di_seq (de_var (pv 2))) (own := [("s", 6)]) (blkD (N := ["sky", "is_joining", "numbers", "found", "lefts", "takes", "s", "t", "calm", "under", "r"]) (sc := defScope s_papers) rfl (by decide +kernel) (by decide +kernel) (by decide +kernel) (by decide +kernel)) (fun _ _ _ _ _ => pg_name (i := 6) nd rfl (by first | exact .inl rfl | exact .inr rfl)) (gs_name) (by decide) (fun _ _ _ _ _ => dts_nil) (fun _ _ _ _ _ => de_call (c_left.up (by decide)) hgd hr (by rfl) T.g_left T.F_left.kp (T.F_left.binds (ps := ["sky", "s"]) fun _ _ _ _ _ _ us hl => match us, hl with | [_, _], _ => rfl) rfl (dr_cons (de_var (pv 0)) (dr_cons (de_var (pv 6)) (dr_nil)))))) (da_cons (DL.DL.de (dl_comp rfl nd (di_seq (de_var (pv 2))) (own := [("s", 6)]) (blkD (N := ["sky", "is_joining", "numbers", "found", "lefts", "takes", "s", "t", "calm", "under", "r"]) (sc := defScope s_papers) rfl (by decide +kernel) (by decide +kernel) (by decide +kernel) (by decide +kernel)) (fun _ _ _ _ _ => pg_name (i := 6) nd rfl (by first | exact .inl rfl | exact .inr rfl)) (gs_name) (by decide) (fun _ _ _ _ _ => dts_nil) (fun _ _ _ _ _ => de_call (c_taken.up (by decide)) hgd hr (by rfl) T.g_taken T.F_taken.kp (T.F_taken.binds (ps := ["sky", "s"]) fun _ _ _ _ _ _ us hl => match us, hl with | [_, _], _ => rfl) rfl (dr_cons (de_var (pv 0)) (dr_cons (de_var (pv 6)) (dr_nil)))))) (da_nil))))
    refine dss_cons ?_ ?_
    · refine ds_for PassesOwn.never rfl (di_seq (de_var (pv 2))) (pg_name (i := 7) nd rfl (by first | exact .inl rfl | exact .inr rfl)) (gs_name) ?_
      refine dss_cons ?_ ?_
      · exact ds_par (i := 8) (j := 9) (fun _ h => ps_par rfl nd rfl rfl (by decide) rfl rfl h (by rfl)) (da_cons (de_call (c_firm.up (by decide)) hgd hr (by rfl) T.g_firm T.F_firm.kp (T.F_firm.binds (ps := ["sky", "s"]) fun _ _ _ _ _ _ us hl => match us, hl with | [_, _], _ => rfl) rfl (dr_cons (de_var (pv 0)) (dr_cons (de_var (pv 7)) (dr_nil)))) (da_cons (DL.DL.de (dl_comp rfl nd (di_seq (de_var (pv 2))) (own := [("s", 6)]) (blkD (N := ["sky", "is_joining", "numbers", "found", "lefts", "takes", "s", "t", "calm", "under", "r"]) (sc := defScope s_papers) rfl (by decide +kernel) (by decide +kernel) (by decide +kernel) (by decide +kernel)) (fun _ _ _ _ _ => pg_name (i := 6) nd rfl (by first | exact .inl rfl | exact .inr rfl)) (gs_name) (by decide) (fun _ _ _ _ _ => dts_one (dt_truth (de_call (c_is_within.up (by decide)) hgd hr (by rfl) T.g_is_within T.F_is_within.kp (T.F_is_within.binds (ps := ["one", "other"]) fun _ _ _ _ _ _ us hl => match us, hl with | [_, _], _ => rfl) rfl (dr_cons (de_ix (de_var (pv 5)) (de_var (pv 6))) (dr_cons (de_ix (de_var (pv 5)) (de_var (pv 7))) (dr_nil)))))) (fun _ _ _ _ _ => de_var (pv 6)))) (da_nil)))
      refine dss_one ?_
      refine ds_for PassesOwn.never rfl (di_seq (de_var (pv 9))) (pg_name (i := 6) nd rfl (by first | exact .inl rfl | exact .inr rfl)) (gs_name) ?_
      refine dss_cons ?_ ?_
      · refine ds_if (DW.dt (dw_and (dt_truth (de_var (pv 1))) (dw_and1 (dt_cp (cd_eq hu) (de_call (c_common.up (by decide)) hgd hr (by rfl) T.g_common T.F_common.kp (T.F_common.binds (ps := ["one", "other"]) fun _ _ _ _ _ _ us hl => match us, hl with | [_, _], _ => rfl) rfl (dr_cons (de_ix (de_var (pv 4)) (de_var (pv 6))) (dr_cons (de_var (pv 8)) (dr_nil)))) (de_tup (da_nil)))))) ?_ ?_
        · refine dss_one ?_
          exact ds_append (i := 3) (pv 3) (de_tup (da_cons (de_var (pv 7)) (da_cons (de_var (pv 6)) (da_nil)))) (fun hx ha => pe_bm PySem.F.plainAttrs_list PySem.F.slot_list_append PySem.F.type_list_append mt_append hx ha)
        · exact dss_nil
      refine dss_one ?_
      refine ds_for PassesOwn.never rfl (di_seq (de_ifExp (dt_truth (de_var (pv 1))) (DL.DL.de (dl_lst (da_nil))) (de_var (pv 9)))) (pg_name (i := 10) nd rfl (by first | exact .inl rfl | exact .inr rfl)) (gs_name) ?_
      refine dss_one ?_
      refine ds_if (DW.dt (dw_and (dt_truth (de_call (c_is_within.up (by decide)) hgd hr (by rfl) T.g_is_within T.F_is_within.kp (T.F_is_within.binds (ps := ["one", "other"]) fun _ _ _ _ _ _ us hl => match us, hl with | [_, _], _ => rfl) rfl (dr_cons (de_ix (de_var (pv 5)) (de_var (pv 6))) (dr_cons (de_ix (de_var (pv 5)) (de_var (pv 10))) (dr_nil))))) (dw_and1 (dt_cp (cd_eq hu) (de_call (c_without.up (by decide)) hgd hr (by rfl) T.g_without T.F_without.kp (T.F_without.binds (ps := ["one", "other"]) fun _ _ _ _ _ _ us hl => match us, hl with | [_, _], _ => rfl) rfl (dr_cons (de_call (c_common.up (by decide)) hgd hr (by rfl) T.g_common T.F_common.kp (T.F_common.binds (ps := ["one", "other"]) fun _ _ _ _ _ _ us hl => match us, hl with | [_, _], _ => rfl) rfl (dr_cons (de_ix (de_var (pv 4)) (de_var (pv 6))) (dr_cons (de_ix (de_var (pv 4)) (de_var (pv 10))) (dr_nil)))) (dr_cons (de_ix (de_ix (de_ix (de_var (pv 0)) (de_int)) (de_var (pv 7))) (de_int)) (dr_nil)))) (de_tup (da_nil)))))) ?_ ?_
      · refine dss_one ?_
        exact ds_append (i := 3) (pv 3) (de_tup (da_cons (de_var (pv 7)) (da_cons (de_var (pv 6)) (da_cons (de_var (pv 10)) (da_nil))))) (fun hx ha => pe_bm PySem.F.plainAttrs_list PySem.F.slot_list_append PySem.F.type_list_append mt_append hx ha)
      · exact dss_nil
    refine dss_frz (i := 3) ?_
    refine dss_one ?_
    exact ds_ret (de_var (pv 3))) hf
theorem st_unlawful (T : Tops P K mg) {f_papers : Fn} (c_papers : FnG P w K mg base CX0 3 T.a_papers T.d_papers ["sky", "is_joining"] (spD K 2 f_papers)) {f : Fn} (hf : ∀ as n P, as.length = 2 → f as n P → rd_unlawful f_papers ⟨fun _ m => P .none m, P, fun _ _ => False, fun _ _ => False⟩ (startD ["sky", "is_joining", "found"] as) n) : FnG P w K mg base CX0 4 T.a_unlawful T.d_unlawful ["sky", "is_joining"] (spD K 2 f) :=
  dfn T.F_unlawful sc_unlawful rfl (fun cdv A outer s H E hgd hr => by
    have hu5 := hu5_of hr
    have hu := hu_of5 hu5
    have nd := sc_unlawful.nd
    refine dss_cons ?_ ?_
    · exact ds_set (i := 2) (fun _ h => ps_set (i := 2) nd rfl (.inl rfl) h) (de_call (c_papers.up (by decide)) hgd hr (by rfl) T.g_papers T.F_papers.kp (T.F_papers.binds (ps := ["sky", "is_joining"]) fun _ _ _ _ _ _ us hl => match us, hl with | [_, _], _ => rfl) rfl (dr_cons (de_var (pv 0)) (dr_cons (de_var (pv 1)) (dr_nil))))
    refine dss_one ?_
    exact ds_ret (de_ifExp (dt_cp (cd_ne hu) (de_var (pv 2)) (DL.DL.de (dl_lst (da_nil)))) (de_ix (de_var (pv 2)) (de_int)) (de_non))) hf
theorem st__law_one (T : Tops P K mg) {f__law_draw : Fn} (c__law_draw : FnG P w K mg base CX0 1 T.a__law_draw T.d__law_draw ["rill", "many"] (spD K 2 f__law_draw)) {f : Fn} (hf : ∀ as n P, as.length = 2 → f as n P → rd__law_one f__law_draw ⟨fun _ m => P .none m, P, fun _ _ => False, fun _ _ => False⟩ (startD ["rill", "some"] as) n) : FnG P w K mg base CX0 2 T.a__law_one T.d__law_one ["rill", "some"] (spD K 2 f) :=
  dfn T.F__law_one sc__law_one rfl (fun cdv A outer s H E hgd hr => by
    have hu5 := hu5_of hr
    have hu := hu_of5 hu5
    have nd := sc__law_one.nd
    refine dss_one ?_
    exact ds_ret (de_ix (de_var (pv 1)) (de_call (c__law_draw.up (by decide)) hgd hr (by rfl) T.g__law_draw T.F__law_draw.kp (T.F__law_draw.binds (ps := ["rill", "many"]) fun _ _ _ _ _ _ us hl => match us, hl with | [_, _], _ => rfl) rfl (dr_rl (pv 0) (dr_cons (de_len (by rfl) T.z_len (de_var (pv 1))) (dr_nil)))))) hf
theorem st__law_lots_of (T : Tops P K mg) {f : Fn} (hf : ∀ as n P, as.length = 2 → f as n P → rd__law_lots_of  ⟨fun _ m => P .none m, P, fun _ _ => False, fun _ _ => False⟩ (startD ["rest", "size", "found", "turn", "longer", "lot", "own"] as) n) : FnG P w K mg base CX0 1 T.a__law_lots_of T.d__law_lots_of ["rest", "size"] (spD K 2 f) :=
  dfn T.F__law_lots_of sc__law_lots_of rfl (fun cdv A outer s H E hgd hr => by
    have hu5 := hu5_of hr
    have hu := hu_of5 hu5
    have nd := sc__law_lots_of.nd
    refine dss_cons ?_ ?_
    · exact ds_set (i := 2) (fun _ h => ps_set (i := 2) nd rfl (.inl rfl) h) (DL.DL.de (dl_lst (da_cons (de_tup (da_nil)) (da_nil))))
    refine dss_cons ?_ ?_
    · refine ds_for PassesOwn.never rfl (di_range1 (de_var (pv 1)) (by rfl) T.z_range) (pg_name (i := 3) nd rfl (by first | exact .inl rfl | exact .inr rfl)) (gs_name) ?_
      refine dss_cons ?_ ?_
      · exact ds_setL (i := 4) (fun _ h => ps_set (i := 4) nd rfl (.inl rfl) h) (dl_lst (da_nil))
      refine dss_cons ?_ ?_
      · refine ds_for PassesOwn.never rfl (di_seq (de_var (pv 2))) (pg_name (i := 5) nd rfl (by first | exact .inl rfl | exact .inr rfl)) (gs_name) ?_
        refine dss_one ?_
        exact ds_extend (i := 4) (pv 4) (DL.DL.de (dl_comp rfl nd (di_seq (de_var (pv 0))) (own := [("own", 6)]) (blkD (N := ["rest", "size", "found", "turn", "longer", "lot", "own"]) (sc := defScope s__law_lots_of) rfl (by decide +kernel) (by decide +kernel) (by decide +kernel) (by decide +kernel)) (fun _ _ _ _ _ => pg_name (i := 6) nd rfl (by first | exact .inl rfl | exact .inr rfl)) (gs_name) (by decide) (fun _ _ _ _ _ => dts_one (DW.dt (dw_or (dt_cp (cd_eq hu) (de_var (pv 5)) (de_tup (da_nil))) (dw_or1 (dt_cp (cd_gt hu) (de_var (pv 6)) (de_ix (de_var (pv 5)) (de_neg (de_int)))))))) (fun _ _ _ _ _ => de_add (de_var (pv 5)) (de_tup (da_cons (de_var (pv 6)) (da_nil)))))) (fun hx ha => pe_bm PySem.F.plainAttrs_list PySem.F.slot_list_extend PySem.F.type_list_extend mt_extend hx ha)
      refine dss_frz (i := 4) ?_
      refine dss_one ?_
      exact ds_set (i := 2) (fun _ h => ps_set (i := 2) nd rfl (.inl rfl) h) (de_var (pv 4))
    refine dss_one ?_
    exact ds_ret (de_tuple (by rfl) T.z_tuple (de_var (pv 2)))) hf
theorem st__law_known_sky (T : Tops P K mg) {f__law_lots_of : Fn} (c__law_lots_of : FnG P w K mg base CX0 1 T.a__law_lots_of T.d__law_lots_of ["rest", "size"] (spD K 2 f__law_lots_of)) {f : Fn} (hf : ∀ as n P, as.length = 3 → f as n P → rd__law_known_sky f__law_lots_of ⟨fun _ m => P .none m, P, fun _ _ => False, fun _ _ => False⟩ (startD ["word", "many", "few", "some", "storms", "lot"] as) n) : FnG P w K mg base CX0 2 T.a__law_known_sky T.d__law_known_sky ["word", "many", "few"] (spD K 3 f) :=
  dfn T.F__law_known_sky sc__law_known_sky rfl (fun cdv A outer s H E hgd hr => by
    have hu5 := hu5_of hr
    have hu := hu_of5 hu5
    have nd := sc__law_known_sky.nd
    refine dss_cons ?_ ?_
    · exact ds_set (i := 3) (fun _ h => ps_set (i := 3) nd rfl (.inl rfl) h) (de_call (c__law_lots_of.up (by decide)) hgd hr (by rfl) T.g__law_lots_of T.F__law_lots_of.kp (T.F__law_lots_of.binds (ps := ["rest", "size"]) fun _ _ _ _ _ _ us hl => match us, hl with | [_, _], _ => rfl) rfl (dr_cons (DL.DL.de (dl_listRg rfl (by rfl) T.z_list (dr_1 (by rfl) T.z_range (de_var (pv 1))))) (dr_cons (de_var (pv 2)) (dr_nil))))
    refine dss_cons ?_ ?_
    · exact ds_setLc (i := 4) rfl nd rfl rfl (by rfl) (di_seq (de_var (pv 3))) (own := [("lot", 5)]) (blkD (N := ["word", "many", "few", "some", "storms", "lot"]) (sc := defScope s__law_known_sky) rfl (by decide +kernel) (by decide +kernel) (by decide +kernel) (by decide +kernel)) (fun _ _ _ _ _ => pg_name (i := 5) nd rfl (by first | exact .inl rfl | exact .inr rfl)) (gs_name) (by decide) (fun _ _ _ _ _ => dts_nil) (fun _ _ _ _ _ => de_tup (da_cons (de_ifExp (dt_cp (cd_ne hu) (de_var (pv 0)) (de_str)) (de_var (pv 5)) (de_tup (da_nil))) (da_cons (de_ifExp (dt_cp (cd_in hu5) (de_var (pv 0)) (de_tup (da_cons (de_str) (da_cons (de_str) (da_nil))))) (de_var (pv 5)) (de_tup (da_nil))) (da_nil))))
    refine dss_frz (i := 4) ?_
    refine dss_one ?_
    exact ds_ret (de_tup (da_cons (de_var (pv 1)) (da_cons (de_ifExp (dt_cp (cd_eq hu) (de_var (pv 0)) (de_str)) (de_tRg rfl (by rfl) T.z_tuple (dr_1 (by rfl) T.z_range (de_var (pv 1)))) (de_tup (da_nil))) (da_cons (de_tuple (by rfl) T.z_tuple (de_var (pv 4))) (da_nil)))))) hf
theorem st__law_told (T : Tops P K mg) {f_known_sky : FnX} (c_known_sky : FnG P w K mg base (L2.CX P w) 2 T.a_known_sky T.d_known_sky ["word", "many", "few"] (spDX K 3 (ct1 "TooMany" T.C_TooMany "limit") f_known_sky)) {f : Fn} (hf : ∀ as n P, as.length = 4 → f as n P → rd__law_told f_known_sky ⟨fun _ m => P .none m, P, fun _ _ => False, fun _ _ => False⟩ (startD ["word", "many", "few", "is_named", "raised"] as) n) : FnG P w K mg base CX0 3 T.a__law_told T.d__law_told ["word", "many", "few", "is_named"] (spD K 4 f) :=
  dfn T.F__law_told sc__law_told rfl (fun cdv A outer s H E hgd hr => by
    have hu5 := hu5_of hr
    have hu := hu_of5 hu5
    have nd := sc__law_told.nd
    refine dss_one ?_
    refine dst_try (i := 4) (ct := (ct1 "TooMany" T.C_TooMany "limit")) rfl rfl nd rfl rfl ct1_inv ⟨by rfl, by decide, .inl T.x_TooMany.gC⟩ T.c_TooMany (fun W pn xe tk hp => ?_) (xis_cons (xi_str) (xis_cons (xi_f T.c_TooMany (fun _ _ _ _ => pv 4)) (xis_cons (xi_is (b := true) T.c_TooMany (by rfl) T.z_isinstance (fun _ _ _ _ => pv 4) (fun _ _ _ _ => pe_glob (v := .ref T.C_StormError) (by rfl) T.g_StormError rfl) (fun _ h => h) T.k_TooMany_StormError) (xis_nil))))
    refine dssx_one ?_
    exact dsx_ret (dex_lst (dax_cons (dex_of (de_str)) (dax_cons (dex_if (dt_truth (de_var (pv 3))) (dex_callK0 (c_known_sky.up (by decide)) hgd hr (by rfl) T.g_known_sky T.F_known_sky.kp (kwb (ps := ["word", "many", "few"]) (ks := ["few", "many", "word"]) (na := 0) (nb := 3) (perm := [2, 1, 0]) T.F_known_sky (by decide) fun _ _ _ _ _ _ us ws h1 h2 => match us, ws, h1, h2 with | [], [_, _, _], _, _ => rfl) tk (dk_cons (de_var (pv 2)) (dk_cons (de_var (pv 1)) (dk_cons (de_var (pv 0)) (dk_nil)))) rfl (fun _ us ws h1 h2 => match us, ws, h1, h2 with | [], [_, _, _], _, _ => rfl)) (dex_call (c_known_sky.up (by decide)) hgd hr (by rfl) T.g_known_sky T.F_known_sky.kp (T.F_known_sky.binds (ps := ["word", "many", "few"]) fun _ _ _ _ _ _ us hl => match us, hl with | [_, _, _], _ => rfl) tk rfl (dr_cons (de_var (pv 0)) (dr_cons (de_var (pv 1)) (dr_cons (de_var (pv 2)) (dr_nil)))))) (dax_nil))))) hf
theorem st__law_is_let (T : Tops P K mg) {f : Fn} (hf : ∀ as n P, as.length = 4 → f as n P → rd__law_is_let  ⟨fun _ m => P .none m, P, fun _ _ => False, fun _ _ => False⟩ (startD ["word", "many", "few", "is_joining"] as) n) : FnG P w K mg base CX0 1 T.a__law_is_let T.d__law_is_let ["word", "many", "few", "is_joining"] (spD K 4 f) :=
  dfn T.F__law_is_let sc__law_is_let rfl (fun cdv A outer s H E hgd hr => by
    have hu5 := hu5_of hr
    have hu := hu_of5 hu5
    have nd := sc__law_is_let.nd
    refine dss_cons ?_ ?_
    · refine ds_if (dt_cp (cd_in hu5) (de_var (pv 0)) (de_tup (da_cons (de_str) (da_cons (de_str) (da_nil))))) ?_ ?_
      · refine dss_one ?_
        exact ds_ret (de_gt hu (de_var (pv 1)) (de_var (pv 2)))
      · exact dss_nil
    refine dss_one ?_
    exact ds_ret (de_ifExp (DW.dt (dw_or (dt_cp (cd_eq hu) (de_var (pv 0)) (de_str)) (dw_or1 (dt_truth (de_var (pv 3)))))) (de_gt hu (de_var (pv 1)) (de_mul (de_int) (de_var (pv 2)))) (de_gt hu (de_var (pv 1)) (de_mul (de_int) (de_var (pv 2)))))) hf
theorem st_law (T : Tops P K mg) {f__law_draw f__law_one f__law_known_sky f__law_told f_sky_error f_unlawful f__law_is_let : Fn} (c__law_draw : FnG P w K mg base CX0 1 T.a__law_draw T.d__law_draw ["rill", "many"] (spD K 2 f__law_draw)) (c__law_one : FnG P w K mg base CX0 2 T.a__law_one T.d__law_one ["rill", "some"] (spD K 2 f__law_one)) (c__law_known_sky : FnG P w K mg base CX0 2 T.a__law_known_sky T.d__law_known_sky ["word", "many", "few"] (spD K 3 f__law_known_sky)) (c__law_told : FnG P w K mg base CX0 3 T.a__law_told T.d__law_told ["word", "many", "few", "is_named"] (spD K 4 f__law_told)) (c_sky_error : FnG P w K mg base CX0 5 T.a_sky_error T.d_sky_error ["value"] (spD K 1 f_sky_error)) (c_unlawful : FnG P w K mg base CX0 4 T.a_unlawful T.d_unlawful ["sky", "is_joining"] (spD K 2 f_unlawful)) (c__law_is_let : FnG P w K mg base CX0 1 T.a__law_is_let T.d__law_is_let ["word", "many", "few", "is_joining"] (spD K 4 f__law_is_let)) (c__law_rill : FnG P w K mg base CX0 1 T.a__law_rill T.d__law_rill ["script"] (spRl K)) {fa : Addr} {fd : FuncData} (F : Fun K "law" "law" s_law fa fd) (hf : rd_law f__law_draw f__law_one f__law_known_sky f__law_told f_sky_error f_unlawful f__law_is_let ⟨fun _ _ => False, fun d _ => d = .bool true, fun _ _ => False, fun _ _ => False⟩ (none :: some .rl :: List.replicate 10 none) N0) : FnG P w K mg base CX0 6 fa fd ["script"] (spTrue K 63) := by
  refine fnG_of F sc_law (fun vs H Q E h => by obtain ⟨a, ns, rfl, _⟩ := h; rfl) fun cdv A outer s H vs Q E hgd hr h => ?_
  obtain ⟨a, ns, rfl, hS, hlen, kk⟩ := h
  have hu5 := hu5_of hr
  have hu := hu_of5 hu5
  have nd := sc_law.nd
  refine ⟨_, PSs.nox (pss_cons (ps_set (i := 1) nd rfl (.inl rfl) (pg_call (c__law_rill.up (by decide)) hgd hr (by rfl) T.g__law_rill T.F__law_rill.kp (T.F__law_rill.binds (ps := ["script"]) fun _ _ _ _ _ _ us hl => match us, hl with | [_], _ => rfl) pass0 (pa_cons (pv 0) pa_nil))) (DSs.run (t := rd_law f__law_draw f__law_one f__law_known_sky f__law_told f_sky_error f_unlawful f__law_is_let) ?b)), ?_⟩
  case b =>
    refine dss_cons ?_ ?_
    · exact ds_parEL (i := 2) (j := 3) (fun _ h => ps_par rfl nd rfl rfl (by decide) rfl rfl h (by rfl)) (DL.DL.de (dl_lst (da_cons (de_str) (da_cons (de_str) (da_cons (de_str) (da_cons (de_str) (da_nil))))))) (dl_lst (da_nil))
    refine dss_cons ?_ ?_
    · refine ds_for PassesOwn.never rfl (di_range1 (de_int) (by rfl) T.z_range) (pg_name (i := 4) nd rfl (by first | exact .inl rfl | exact .inr rfl)) (gs_name) ?_
      refine dss_cons ?_ ?_
      · exact ds_set (i := 5) (fun _ h => ps_set (i := 5) nd rfl (.inl rfl) h) (de_add (de_int) (de_call (c__law_draw.up (by decide)) hgd hr (by rfl) T.g__law_draw T.F__law_draw.kp (T.F__law_draw.binds (ps := ["rill", "many"]) fun _ _ _ _ _ _ us hl => match us, hl with | [_, _], _ => rfl) rfl (dr_rl (pv 1) (dr_cons (de_int) (dr_nil)))))
      refine dss_one ?_
      exact ds_append (i := 3) (pv 3) (de_tup (da_cons (de_call (c__law_one.up (by decide)) hgd hr (by rfl) T.g__law_one T.F__law_one.kp (T.F__law_one.binds (ps := ["rill", "some"]) fun _ _ _ _ _ _ us hl => match us, hl with | [_, _], _ => rfl) rfl (dr_rl (pv 1) (dr_cons (de_var (pv 2)) (dr_nil)))) (da_cons (de_var (pv 5)) (da_cons (de_call (c__law_draw.up (by decide)) hgd hr (by rfl) T.g__law_draw T.F__law_draw.kp (T.F__law_draw.binds (ps := ["rill", "many"]) fun _ _ _ _ _ _ us hl => match us, hl with | [_, _], _ => rfl) rfl (dr_rl (pv 1) (dr_cons (de_add (de_var (pv 5)) (de_int)) (dr_nil)))) (da_nil))))) (fun hx ha => pe_bm PySem.F.plainAttrs_list PySem.F.slot_list_append PySem.F.type_list_append mt_append hx ha)
    refine dss_cons ?_ ?_
    · refine ds_for PassesOwn.never rfl (di_seq (de_var (pv 2))) (pg_name (i := 6) nd rfl (by first | exact .inl rfl | exact .inr rfl)) (gs_name) ?_
      refine dss_one ?_
      exact ds_append (i := 3) (pv 3) (de_add (de_tup (da_cons (de_var (pv 6)) (da_nil))) (de_call (c__law_one.up (by decide)) hgd hr (by rfl) T.g__law_one T.F__law_one.kp (T.F__law_one.binds (ps := ["rill", "some"]) fun _ _ _ _ _ _ us hl => match us, hl with | [_, _], _ => rfl) rfl (dr_rl (pv 1) (dr_cons (DL.DL.de (dl_lst (da_cons (de_tup (da_cons (de_int) (da_cons (de_int) (da_nil)))) (da_cons (de_tup (da_cons (de_int) (da_cons (de_int) (da_nil)))) (da_cons (de_tup (da_cons (de_int) (da_cons (de_int) (da_nil)))) (da_cons (de_tup (da_cons (de_int) (da_cons (de_int) (da_nil)))) (da_cons (de_tup (da_cons (de_int) (da_cons (de_int) (da_nil)))) (da_cons (de_tup (da_cons (de_int) (da_cons (de_int) (da_nil)))) (da_cons (de_tup (da_cons (de_int) (da_cons (de_int) (da_nil)))) (da_nil)))))))))) (dr_nil))))) (fun hx ha => pe_bm PySem.F.plainAttrs_list PySem.F.slot_list_append PySem.F.type_list_append mt_append hx ha)
    refine dss_frz (i := 3) ?_
    refine dss_cons ?_ ?_
    · refine ds_for PassesOwn.never rfl (di_enum (by rfl) T.z_enumerate (de_var (pv 3))) (pg_tup rfl (pgs_cons (pg_name (i := 7) nd rfl (by first | exact .inl rfl | exact .inr rfl)) (pgs_cons (pg_tup rfl (pgs_cons (pg_name (i := 6) nd rfl (by first | exact .inl rfl | exact .inr rfl)) (pgs_cons (pg_name (i := 5) nd rfl (by first | exact .inl rfl | exact .inr rfl)) (pgs_cons (pg_name (i := 8) nd rfl (by first | exact .inl rfl | exact .inr rfl)) (pgs_nil))))) (pgs_nil)))) (gs_tup (gs_cons (gs_consG (gs_tup (gs_cons (gs_cons (gs_cons (gs_nil))))) (gs_nil)))) ?_
      refine dss_cons ?_ ?_
      · exact ds_set (i := 9) (fun _ h => ps_set (i := 9) nd rfl (.inl rfl) h) (de_call (c__law_known_sky.up (by decide)) hgd hr (by rfl) T.g__law_known_sky T.F__law_known_sky.kp (T.F__law_known_sky.binds (ps := ["word", "many", "few"]) fun _ _ _ _ _ _ us hl => match us, hl with | [_, _, _], _ => rfl) rfl (dr_cons (de_var (pv 6)) (dr_cons (de_var (pv 5)) (dr_cons (de_var (pv 8)) (dr_nil)))))
      refine dss_cons ?_ ?_
      · exact ds_set (i := 10) (fun _ h => ps_set (i := 10) nd rfl (.inl rfl) h) (de_ifExp (dt_cp (cd_le hu) (de_len (by rfl) T.z_len (de_ix (de_var (pv 9)) (de_int))) (de_int)) (DL.DL.de (dl_lst (da_cons (de_str) (da_cons (de_var (pv 9)) (da_nil))))) (DL.DL.de (dl_lst (da_cons (de_str) (da_cons (de_int) (da_cons (de_bl) (da_nil)))))))
      refine dss_cons ?_ ?_
      · refine ds_if (dt_cp (cd_ne hu) (de_repr hgd hu (by rfl) T.z_repr (DL.DL.de (dl_lst (da_cons (de_call (c__law_told.up (by decide)) hgd hr (by rfl) T.g__law_told T.F__law_told.kp (T.F__law_told.binds (ps := ["word", "many", "few", "is_named"]) fun _ _ _ _ _ _ us hl => match us, hl with | [_, _, _, _], _ => rfl) rfl (dr_cons (de_var (pv 6)) (dr_cons (de_var (pv 5)) (dr_cons (de_var (pv 8)) (dr_cons (de_eq hu (de_var (pv 7)) (de_int)) (dr_nil)))))) (da_cons (de_call (c__law_told.up (by decide)) hgd hr (by rfl) T.g__law_told T.F__law_told.kp (T.F__law_told.binds (ps := ["word", "many", "few", "is_named"]) fun _ _ _ _ _ _ us hl => match us, hl with | [_, _, _, _], _ => rfl) rfl (dr_cons (de_var (pv 6)) (dr_cons (de_var (pv 5)) (dr_cons (de_var (pv 8)) (dr_cons (de_bl) (dr_nil)))))) (da_nil)))))) (de_repr hgd hu (by rfl) T.z_repr (DL.DL.de (dl_lst (da_cons (de_var (pv 10)) (da_cons (de_var (pv 10)) (da_nil))))))) ?_ ?_
        · refine dss_one ?_
          exact ds_ret (de_bl)
        · exact dss_nil
      refine dss_cons ?_ ?_
      · refine ds_if (DW.dt (dw_and (dt_cp (cd_eq hu) (de_ix (de_var (pv 10)) (de_int)) (de_str)) (dw_and1 (dt_cp (cd_isNot) (de_call (c_sky_error.up (by decide)) hgd hr (by rfl) T.g_sky_error T.F_sky_error.kp (T.F_sky_error.binds (ps := ["value"]) fun _ _ _ _ _ _ us hl => match us, hl with | [_], _ => rfl) rfl (dr_cons (de_var (pv 9)) (dr_nil))) (de_non))))) ?_ ?_
        · refine dss_one ?_
          exact ds_ret (de_bl)
        · exact dss_nil
      refine dss_one ?_
      refine ds_if (DW.dt (dw_and (dt_cp (cd_eq hu) (de_ix (de_var (pv 10)) (de_int)) (de_str)) (dw_and1 (dt_cp (cd_lt hu) (de_var (pv 7)) (de_int))))) ?_ ?_
      · refine dss_cons ?_ ?_
        · exact ds_set (i := 11) (fun _ h => ps_set (i := 11) nd rfl (.inl rfl) h) (DL.DL.de (dl_lst (da_cons (de_is (de_call (c_unlawful.up (by decide)) hgd hr (by rfl) T.g_unlawful T.F_unlawful.kp (T.F_unlawful.binds (ps := ["sky", "is_joining"]) fun _ _ _ _ _ _ us hl => match us, hl with | [_, _], _ => rfl) rfl (dr_cons (de_var (pv 9)) (dr_cons (de_bl) (dr_nil)))) (de_non)) (da_cons (de_is (de_call (c_unlawful.up (by decide)) hgd hr (by rfl) T.g_unlawful T.F_unlawful.kp (T.F_unlawful.binds (ps := ["sky", "is_joining"]) fun _ _ _ _ _ _ us hl => match us, hl with | [_, _], _ => rfl) rfl (dr_cons (de_var (pv 9)) (dr_cons (de_bl) (dr_nil)))) (de_non)) (da_nil)))))
        refine dss_one ?_
        refine ds_if (dt_cp (cd_ne hu) (de_repr hgd hu (by rfl) T.z_repr (de_var (pv 11))) (de_repr hgd hu (by rfl) T.z_repr (DL.DL.de (dl_lst (da_cons (de_call (c__law_is_let.up (by decide)) hgd hr (by rfl) T.g__law_is_let T.F__law_is_let.kp (T.F__law_is_let.binds (ps := ["word", "many", "few", "is_joining"]) fun _ _ _ _ _ _ us hl => match us, hl with | [_, _, _, _], _ => rfl) rfl (dr_cons (de_var (pv 6)) (dr_cons (de_var (pv 5)) (dr_cons (de_var (pv 8)) (dr_cons (de_bl) (dr_nil)))))) (da_cons (de_call (c__law_is_let.up (by decide)) hgd hr (by rfl) T.g__law_is_let T.F__law_is_let.kp (T.F__law_is_let.binds (ps := ["word", "many", "few", "is_joining"]) fun _ _ _ _ _ _ us hl => match us, hl with | [_, _, _, _], _ => rfl) rfl (dr_cons (de_var (pv 6)) (dr_cons (de_var (pv 5)) (dr_cons (de_var (pv 8)) (dr_cons (de_bl) (dr_nil)))))) (da_nil))))))) ?_ ?_
        · refine dss_one ?_
          exact ds_ret (de_bl)
        · exact dss_nil
      · exact dss_nil
    refine dss_one ?_
    exact ds_ret (de_bl)
  exact law_go (j := 10) rfl hS hlen hf kk
end
end My
namespace My
open PySem PySem.Spec L2 DL
section
variable {P : Program} {w : World} {K : PySem.W.Frag} {mg : Str → Option Value} {base : Heap}
theorem ok_draw {f : Addr} {fd : FuncData} (F : Fun K "_law_draw" "_law_draw" s__law_draw f fd) (mint : mg "int" = none) : FnG P w K mg base CX0 1 f fd ["rill", "many"] (spD K 2 fDraw) := by
  refine fnG_of F sc__law_draw (fun vs H Q E h => spD_len vs H Q E h) fun cdv A outer s H vs Q E hgd hr h => ?_
  obtain ⟨W, n, S0, as, P', e, h1, h2, h3, h4, ⟨many, rfl, hm0, hm1, hn, hk⟩, kk⟩ := h
  cases h4 with
  | cons hr1 h4 =>
  cases h4 with
  | cons hd1 h4 =>
  cases h4
  obtain ⟨r, fa, hW, rfl⟩ := hr1
  cases (show DL.Dp K S0 _ (.int many) from hd1)
  obtain ⟨ne, far, flow, turn, er, ef, hpos, hlen, hf0, hf1, ht0, ht1⟩ := h3 r fa hW
  have er : H r = some (.dK (rdic fa flow turn)) := er
  -- how the end is reached
  have fin : ∀ (H' : Hp) (k : Int), 0 ≤ k → k < many → (∀ b o, H b = some o → b ≠ r → b ≠ fa → H' b = some o) → RillOk H' r fa (n - 1) → Q (.int k) H' := fun H' k k0 k1 hsame hrl => by
    have hne : ∀ b o, S0 b = some o → b ≠ r ∧ b ≠ fa := fun b o e => ⟨fun z => (by rw [h2 b ⟨r, fa, hW, .inl z⟩] at e; cases e), fun z => (by rw [h2 b ⟨r, fa, hW, .inr z⟩] at e; cases e)⟩
    refine kk (.int k) (n - 1) (.int k) H' S0 (hk k k0 k1) (Same.refl _) (fun b o e => ?_) h2 (fun b o e => .inl e) (fun r' f' e => ?_) (fun b o e hw => ?_) (.int k)
    · exact hsame b o (h1 b o e) (hne b o e).1 (hne b o e).2
    · rw [hW] at e; cases e; exact hrl
    · exact hsame b o e (fun z => hw ⟨r, fa, hW, .inl z⟩) fun z => hw ⟨r, fa, hW, .inr z⟩
  have hu := hu_of hr
  have nd := sc__law_draw.nd
  refine ⟨_, pss_cons (ps_set (i := 2) nd rfl (.inl rfl) (pe_dget hu (pv 0) pe_str (fun _ _ => rfl)))
    (pss_cons (ps_if (pt_cmpR (op_neD hr.units) (pv 2) (pe_lst pa_nil) (nomark _))
      (pss_cons (ps_set (i := 3) nd rfl (.inl rfl) (pe_bm PySem.F.plainAttrs_list PySem.F.slot_list_pop PySem.F.type_list_pop mt_popAt (pv 2) (pa_cons pe_int pa_nil)))
      (pss_cons (ps_if (pt_cmpR op_ge (pv 3) (pv 1) (nomark _)) (pss_one (ps_expr (pe_bm PySem.F.plainAttrs_list PySem.F.slot_list_insert PySem.F.type_list_insert mt_insert (pv 2) (pa_cons pe_int (pa_cons (pe_op op_fdiv (pv 3) (pv 1)) pa_nil))))) pss_nil)
      (pss_one (ps_ret (pe_op op_mod (pe_callTy call_int1 (by rfl) mint (by decide +kernel) (pa_cons (pv 3) pa_nil)) (pv 1))))))
      pss_nil)
    (pss_cons (ps_dput hu (pv 0) pe_str (pe_op op_add (pe_dget hu (pv 0) pe_str (fun _ _ => rfl)) pe_int) rfl)
    (pss_cons (ps_set (i := 4) nd rfl (.inl rfl) (pe_dget hu (pv 0) pe_str (fun _ _ => rfl)))
    (pss_cons (ps_set (i := 5) nd rfl (.inl rfl) (pe_op op_mod (pe_callTy call_int1 (by rfl) mint (by decide +kernel) (pa_cons (pe_op op_add (pe_op op_add (pe_op op_mul (pe_dget hu (pv 0) pe_str (fun _ _ => rfl)) pe_int) (pe_op op_mul (pe_op op_mul (pv 4) (pv 4)) pe_int)) (pe_op op_mul pe_int (pv 4))) pa_nil)) pe_int))
    (pss_cons (ps_set (i := 5) nd rfl (.inl rfl) (pe_op op_mod (pe_callTy call_int1 (by rfl) mint (by decide +kernel) (pa_cons (pe_op op_add (pe_op op_mul (pv 5) pe_int) (pe_op op_fdiv (pv 5) pe_int)) pa_nil)) pe_int))
    (pss_cons (ps_dput hu (pv 0) pe_str (pv 5) rfl)
    (pss_one (ps_ret (pe_op op_mod (pe_callTy call_int1 (by rfl) mint (by decide +kernel) (pa_cons (pe_op op_fdiv (pv 5) pe_int) pa_nil)) (pv 1)))))))))), ?_⟩
  -- far = rill["far"]
  refine ⟨.ref r, rfl, r, .ref fa, rfl, .inl ⟨_, kFar, .inl er, rfl, (rd_far _ _ _).symm⟩, ?_⟩
  -- if far != []
  refine ⟨.ref fa, rfl, Nat.zero_le _, fun p hp => ?_⟩
  have np : ∀ b o, H b = some o → b ≠ p := fun b o e z => by rw [z, hp] at e; cases e
  have ef1 : (upd H p (.lst [])) fa = some (.lst (far.map V.int)) := by rw [upd_ne (np _ _ ef)]; exact ef
  refine ⟨.list (far.map .int), .list [], D0 K _ _ _ ef1, .lst (SqL.of upd_same) .nil, shaped_ints, by decide, _, rfl, ?_⟩
  rw [eqv_nil]
  by_cases hfar : far = []
  · -- one stirred anew
    subst hfar
    rw [decide_eq_true rfl]
    refine iteF ?_
    have er1 : (upd H p (.lst [])) r = some (.dK (rdic fa flow turn)) := by rw [upd_ne (np _ _ er)]; exact er
    generalize hH1 : upd H p (.lst []) = H1 at ef1 er1
    have sm1 : ∀ b o, H b = some o → H1 b = some o := fun b o e => by rw [← hH1, upd_ne (np b o e)]; exact e
    -- rill["turn"] = rill["turn"] + 1
    refine ⟨.ref r, rfl, r, .int turn, rfl, .inl ⟨_, kTurn, .inl er1, rfl, (rd_turn _ _ _).symm⟩, turn, 1, rfl, rfl, .ref r, rfl, r, _, rfl, .inl ⟨_, kTurn, er1, rfl, rdic_len _ _ _, rfl⟩, ?_⟩
    rw [rp_turn]
    have er2 : (upd H1 r (.dK (rdic fa flow (turn + 1)))) r = some (.dK (rdic fa flow (turn + 1))) := upd_same
    have ef2 : (upd H1 r (.dK (rdic fa flow (turn + 1)))) fa = some (.lst []) := by rw [upd_ne ne.symm]; exact ef1
    generalize hH2 : upd H1 r (.dK (rdic fa flow (turn + 1))) = H2 at er2 ef2
    -- turn = rill["turn"]
    refine ⟨.ref r, rfl, r, .int (turn + 1), rfl, .inl ⟨_, kTurn, .inl er2, rfl, (rd_turn _ _ _).symm⟩, ?_⟩
    -- mixed = ..
    have b64 : ∀ x : Int, 0 ≤ x → x < 2 ^ 62 → (-(2 ^ 64) < x ∧ x < 2 ^ 64) := fun x a b => ⟨by omega, by omega⟩
    have ht2 : turn + 1 < 2 ^ 62 := by omega
    refine ⟨.ref r, rfl, r, .int flow, rfl, .inl ⟨_, kFlow, .inl er2, rfl, (rd_flow _ _ _).symm⟩, _, _, rfl, rfl, .inr ⟨by decide, by decide⟩, _, rfl, _, rfl, _, _, rfl, rfl, .inl (b64 _ (by omega) ht2), _, _, rfl, rfl, .inr ⟨by decide, by decide⟩, _, _, rfl, rfl,
      _, rfl, _, _, rfl, rfl, .inl ⟨by decide, by decide⟩, _, _, rfl, rfl, .inl ⟨_, rfl, _, _, rfl, rfl, (show (0 : Int) < 4294967279 by decide), ?_⟩⟩
    refine ⟨_, rfl, _, _, rfl, rfl, .inr ⟨by decide, by decide⟩, _, rfl, _, _, rfl, rfl, ⟨by decide, by decide⟩, _, _, rfl, rfl, .inl ⟨_, rfl, _, _, rfl, rfl, (show (0 : Int) < 4294967291 by decide), ?_⟩⟩
    -- rill["flow"] = mixed
    refine ⟨_, rfl, .ref r, rfl, r, _, rfl, .inl ⟨_, kFlow, er2, rfl, rdic_len _ _ _, rfl⟩, ?_⟩
    rw [rp_flow]
    refine ⟨_, rfl, _, _, rfl, rfl, ⟨by decide, by decide⟩, .inl ⟨_, rfl, _, rfl, _, _, rfl, rfl, hm0, ?_⟩⟩
    have m1 : (0 : Int) < 4294967291 := by decide
    refine fin _ _ (emod_lt hm0).1 (emod_lt hm0).2 (fun b o e n1 n2 => ?_) ⟨ne, [], _, turn + 1, upd_same, ?_, fun _ z => absurd z (by simp), by simp, (emod_lt m1).1, Int.lt_trans (emod_lt m1).2 (by decide), by omega, by omega⟩
    · rw [upd_ne n1, ← hH2, upd_ne n1]; exact sm1 b o e
    · rw [upd_ne ne.symm]; exact ef2
  · -- a digit of the first great one
    obtain ⟨d, rest, rfl⟩ : ∃ d rest, far = d :: rest := by
      cases far with
      | nil => exact absurd rfl hfar
      | cons d rest => exact ⟨d, rest, rfl⟩
    rw [decide_eq_false (List.cons_ne_nil _ _)]
    refine iteT ?_
    have er1 : (upd H p (.lst [])) r = some (.dK (rdic fa flow turn)) := by rw [upd_ne (np _ _ er)]; exact er
    generalize hH1 : upd H p (.lst []) = H1 at ef1 er1
    have sm1 : ∀ b o, H b = some o → H1 b = some o := fun b o e => by rw [← hH1, upd_ne (np b o e)]; exact e
    have hd0 : 0 ≤ d := hpos d List.mem_cons_self
    have hrest : ∀ x ∈ rest, 0 ≤ x := fun x hx => hpos x (List.mem_cons_of_mem _ hx)
    have hl2 : rest.length + 1 ≤ 64 := hlen
    have q := emod_lt (a := d) hm0
    refine ⟨.ref fa, rfl, .inl ⟨rfl, _, SqL.of ef1⟩, fa, _, 0, 0, .int d, rfl, rfl, ef1, by decide, by decide, ?_, rfl, ?_⟩
    · rw [List.length_map, List.length_cons]; exact seq0 _
    have ef2 : (upd H1 fa (.lst (((d :: rest).map V.int).eraseIdx 0))) fa = some (.lst (rest.map V.int)) := upd_same
    have er2 : (upd H1 fa (.lst (((d :: rest).map V.int).eraseIdx 0))) r = some (.dK (rdic fa flow turn)) := by rw [upd_ne ne]; exact er1
    have sm2 : ∀ b o, H b = some o → b ≠ r → b ≠ fa → (upd H1 fa (.lst (((d :: rest).map V.int).eraseIdx 0))) b = some o := fun b o e _ n2 => by rw [upd_ne n2]; exact sm1 b o e
    generalize upd H1 fa (.lst (((d :: rest).map V.int).eraseIdx 0)) = H2 at ef2 er2 sm2
    refine ⟨.int d, rfl, .int many, rfl, d, many, rfl, rfl, _, rfl, ?_⟩
    by_cases hge : many ≤ d
    · rw [decide_eq_true hge]
      refine iteT ?_
      refine ⟨.ref fa, rfl, .inl ⟨rfl, _, SqL.of ef2⟩, .int d, rfl, .int many, rfl, d, many, rfl, rfl, ⟨hm0, hm1⟩, fa, _, 0, .int (d / many), rfl, rfl, ef2, ?_, by decide, by decide, ?_⟩
      · rw [List.length_map]; exact Nat.lt_of_le_of_lt (Nat.le_trans (Nat.le_succ _) hl2) (by decide)
      refine ⟨.int d, rfl, .inl ⟨d, rfl, .int many, rfl, d, many, rfl, rfl, hm0, ?_⟩⟩
      refine fin _ _ q.1 q.2 (fun b o e n1 n2 => ?_) ⟨ne, (d / many) :: rest, flow, turn, ?_, upd_same, fun x hx => ?_, hl2, hf0, hf1, ht0, by omega⟩
      · rw [upd_ne n2]; exact sm2 b o e n1 n2
      · rw [upd_ne ne]; exact er2
      · rcases List.mem_cons.mp hx with rfl | hx
        · exact Int.ediv_nonneg hd0 (by omega)
        · exact hrest x hx
    · rw [decide_eq_false hge]
      refine iteF ?_
      refine ⟨.int d, rfl, .inl ⟨d, rfl, .int many, rfl, d, many, rfl, rfl, hm0, ?_⟩⟩
      exact fin _ _ q.1 q.2 sm2 ⟨ne, rest, flow, turn, er2, ef2, hrest, by omega, hf0, hf1, ht0, by omega⟩
end
end My
namespace My
open PySem PySem.Spec L2 DL
def rdA : DTS := sPar 1 2 (aCons (dL (dComp (iSeq (dL (aScr 0 (oNone) (oSome (dC (.int 63)))))) (gNm 3) (dYes) (d2 gAdd (d2 gMul (dC (.int 2)) (d1 gAbs (dVar 3))) (d1 gInt (d2 gLt (dVar 3) (dC (.int 0))))) [3])) (aCons (d2 gAdd (dC (.int 1591203)) (dScrLen 0)) (aNil)))
def rdB : DTS := sFor (iSeq (dVar 1)) (gNm 3) (sSet 2 (d2 gMod (d1 gInt (d2 gAdd (d2 gAdd (d2 gMul (dVar 2) (dC (.int 48271))) (dVar 3)) (dC (.int 11)))) (dC (.int 4294967291))))
def rdC : DTA := dComp (iSeq (dVar 1)) (gNm 3) (dB (d2 gGe (dVar 3) (d2 gPow (dC (.int 10)) (dC (.int 15))))) (dVar 3) [3]
def encC (c : Int) : Int := 2 * (if c < 0 then -c else c) + (if decide (c < 0) = true then 1 else 0)
theorem encC_pos (c : Int) : 0 ≤ encC c := by
  unfold encC
  by_cases h : c < 0
  · rw [if_pos h, if_pos (decide_eq_true h)]; omega
  · rw [if_neg h, if_neg (by simpa using h)]; omega
theorem rill_math {ns : List Int} (hl : ns.length ≤ 63) : rdA ⟨fun δ n => rdB ⟨fun δ _ => ∃ (flow : Int) (z : Option DV), δ = [some (.scr ns), some (.dat (.list (intsD (ns.map encC)))), some (.dat (.int flow)), z] ∧ noOwn [3] δ = true ∧ 0 ≤ flow ∧ flow < 4294967296, fun _ _ => False, fun _ _ => False, fun _ _ => False⟩ δ n, fun _ _ => False, fun _ _ => False, fun _ _ => False⟩ [some (.scr ns), none, none, none] 0 := by
  simp only [rdA, x_var0, x_varS, x_own0, x_ownS, x_ixT, x_ixL, x_addI, x_addT, x_addL, x_gI, x_gIC, x_neg, x_abs, x_intI, x_intB, x_lenT, x_lenL, x_tupL, x_tupT, x_rep, x_seq, x_next, x_set, x_setL, x_par, x_asg, x_drop, x_app, x_ext, x_ret, x_retN, x_if, x_frz, x_for, x_bk, x_ct, x_d1, x_d2, x_dC, x_dL, x_tup, x_and, x_or, x_not, x_ife, x_dB, x_dTr, x_dNot, x_dAnd, x_dOr, x_yes, x_aC, x_aN, x_aSz, x_aRg, x_rg1, x_rg2, x_aList, x_aSort, x_aSl, x_dSl, x_aScr, x_scrLen, x_oN, x_oS, x_rN, x_rC, x_rRl, x_call, x_callB, x_callK, x_iSeq, x_iRg1, x_iRg2, x_iEn, x_gNm, x_gTp, x_gC, x_gN, x_gL, x_comp, startD, arD, wipeD, List.map_cons, List.map_nil, List.length_cons, List.length_nil, List.replicate_succ, List.replicate_zero, List.cons_append, List.nil_append, List.set_cons_succ, List.set_cons_zero, List.getElem?_cons_succ, List.getElem?_cons_zero, Option.some.injEq, PyData.int.injEq, PyData.bool.injEq, PyData.tuple.injEq, PyData.list.injEq, DV.dat.injEq, DV.own.injEq, exists_eq_left', exists_eq_left, exists_eq_right, exists_eq_right', exists_and_left, List.cons.injEq, and_true, true_and, atI0, atI1, atI2, atI3, atI4, atI5, Nat.sub_self, Nat.reduceSub, Nat.reduceAdd, Nat.reduceLT, if_true, if_false, Bool.false_eq_true, ↓reduceIte, Nat.zero_add, y_eqI, y_neI, y_neB, y_eqB, y_eqS, y_neS, y_ltI, y_gtI, y_leI, y_geI, y_inR, y_notInR, y_eqR, y_neR, y_lenR, y_tupR, row_tup, row_lst, tup_lst, lst_tup, false_and, and_false, exists_false, false_or, or_false, exists_const, atI_map, Option.map_some, decide_true, decide_false, Bool.not_true, Bool.not_false, eq_self, y_isB, DV.scr.injEq, x_chain, x_tRg, x_parEL, x_parLE, x_parLL, x_gLs, Nat.add_zero]
  rw [show ((63 : Int)) = ((63 : Nat) : Int) from rfl, cut_all hl]
  refine ⟨rfl, small _ (by rw [intsD, List.length_map]; omega), ?_⟩
  refine compR_each (e := PyData.int) (fun c => .int (encC c)) ns _ (fun c hc A B ha => ?_) ?_
  · simp only [x_var0, x_varS, x_own0, x_ownS, x_ixT, x_ixL, x_addI, x_addT, x_addL, x_gI, x_gIC, x_neg, x_abs, x_intI, x_intB, x_lenT, x_lenL, x_tupL, x_tupT, x_rep, x_seq, x_next, x_set, x_setL, x_par, x_asg, x_drop, x_app, x_ext, x_ret, x_retN, x_if, x_frz, x_for, x_bk, x_ct, x_d1, x_d2, x_dC, x_dL, x_tup, x_and, x_or, x_not, x_ife, x_dB, x_dTr, x_dNot, x_dAnd, x_dOr, x_yes, x_aC, x_aN, x_aSz, x_aRg, x_rg1, x_rg2, x_aList, x_aSort, x_aSl, x_dSl, x_aScr, x_scrLen, x_oN, x_oS, x_rN, x_rC, x_rRl, x_call, x_callB, x_callK, x_iSeq, x_iRg1, x_iRg2, x_iEn, x_gNm, x_gTp, x_gC, x_gN, x_gL, x_comp, startD, arD, wipeD, List.map_cons, List.map_nil, List.length_cons, List.length_nil, List.replicate_succ, List.replicate_zero, List.cons_append, List.nil_append, List.set_cons_succ, List.set_cons_zero, List.getElem?_cons_succ, List.getElem?_cons_zero, Option.some.injEq, PyData.int.injEq, PyData.bool.injEq, PyData.tuple.injEq, PyData.list.injEq, DV.dat.injEq, DV.own.injEq, exists_eq_left', exists_eq_left, exists_eq_right, exists_eq_right', exists_and_left, List.cons.injEq, and_true, true_and, atI0, atI1, atI2, atI3, atI4, atI5, Nat.sub_self, Nat.reduceSub, Nat.reduceAdd, Nat.reduceLT, if_true, if_false, Bool.false_eq_true, ↓reduceIte, Nat.zero_add, y_eqI, y_neI, y_neB, y_eqB, y_eqS, y_neS, y_ltI, y_gtI, y_leI, y_geI, y_inR, y_notInR, y_eqR, y_neR, y_lenR, y_tupR, row_tup, row_lst, tup_lst, lst_tup, false_and, and_false, exists_false, false_or, or_false, exists_const, atI_map, Option.map_some, decide_true, decide_false, Bool.not_true, Bool.not_false, eq_self, y_isB, DV.scr.injEq, x_chain, x_tRg, x_parEL, x_parLE, x_parLL, x_gLs, Nat.add_zero]
    exact ⟨.inl ⟨by decide, by decide⟩, ha⟩
  rw [List.nil_append]
  refine ⟨_, _, ⟨rfl, rfl⟩, ?_⟩
  have e : ns.map (fun c => PyData.int (encC c)) = intsD (ns.map encC) := by rw [intsD, List.map_map]; rfl
  rw [e]
  simp only [rdB, x_var0, x_varS, x_own0, x_ownS, x_ixT, x_ixL, x_addI, x_addT, x_addL, x_gI, x_gIC, x_neg, x_abs, x_intI, x_intB, x_lenT, x_lenL, x_tupL, x_tupT, x_rep, x_seq, x_next, x_set, x_setL, x_par, x_asg, x_drop, x_app, x_ext, x_ret, x_retN, x_if, x_frz, x_for, x_bk, x_ct, x_d1, x_d2, x_dC, x_dL, x_tup, x_and, x_or, x_not, x_ife, x_dB, x_dTr, x_dNot, x_dAnd, x_dOr, x_yes, x_aC, x_aN, x_aSz, x_aRg, x_rg1, x_rg2, x_aList, x_aSort, x_aSl, x_dSl, x_aScr, x_scrLen, x_oN, x_oS, x_rN, x_rC, x_rRl, x_call, x_callB, x_callK, x_iSeq, x_iRg1, x_iRg2, x_iEn, x_gNm, x_gTp, x_gC, x_gN, x_gL, x_comp, startD, arD, wipeD, List.map_cons, List.map_nil, List.length_cons, List.length_nil, List.replicate_succ, List.replicate_zero, List.cons_append, List.nil_append, List.set_cons_succ, List.set_cons_zero, List.getElem?_cons_succ, List.getElem?_cons_zero, Option.some.injEq, PyData.int.injEq, PyData.bool.injEq, PyData.tuple.injEq, PyData.list.injEq, DV.dat.injEq, DV.own.injEq, exists_eq_left', exists_eq_left, exists_eq_right, exists_eq_right', exists_and_left, List.cons.injEq, and_true, true_and, atI0, atI1, atI2, atI3, atI4, atI5, Nat.sub_self, Nat.reduceSub, Nat.reduceAdd, Nat.reduceLT, if_true, if_false, Bool.false_eq_true, ↓reduceIte, Nat.zero_add, y_eqI, y_neI, y_neB, y_eqB, y_eqS, y_neS, y_ltI, y_gtI, y_leI, y_geI, y_inR, y_notInR, y_eqR, y_neR, y_lenR, y_tupR, row_tup, row_lst, tup_lst, lst_tup, false_and, and_false, exists_false, false_or, or_false, exists_const, atI_map, Option.map_some, decide_true, decide_false, Bool.not_true, Bool.not_false, eq_self, y_isB, DV.scr.injEq, x_chain, x_tRg, x_parEL, x_parLE, x_parLL, x_gLs, Nat.add_zero]
  refine forR_inv (e := PyData.int) (fun r δ m => ∃ (flow : Int) (z : Option DV), δ = [some (.scr ns), some (.dat (.list (intsD (ns.map encC)))), some (.dat (.int flow)), z] ∧ noOwn [3] δ = true ∧ 0 ≤ flow ∧ flow < 4294967296) _ _ _ ⟨_, _, rfl, rfl, by omega, by omega⟩ (fun x r δ m hx hI N hN => ?_) fun δ m hI => hI
  obtain ⟨flow, z, rfl, hno, f0, f1⟩ := hI
  simp only [x_var0, x_varS, x_own0, x_ownS, x_ixT, x_ixL, x_addI, x_addT, x_addL, x_gI, x_gIC, x_neg, x_abs, x_intI, x_intB, x_lenT, x_lenL, x_tupL, x_tupT, x_rep, x_seq, x_next, x_set, x_setL, x_par, x_asg, x_drop, x_app, x_ext, x_ret, x_retN, x_if, x_frz, x_for, x_bk, x_ct, x_d1, x_d2, x_dC, x_dL, x_tup, x_and, x_or, x_not, x_ife, x_dB, x_dTr, x_dNot, x_dAnd, x_dOr, x_yes, x_aC, x_aN, x_aSz, x_aRg, x_rg1, x_rg2, x_aList, x_aSort, x_aSl, x_dSl, x_aScr, x_scrLen, x_oN, x_oS, x_rN, x_rC, x_rRl, x_call, x_callB, x_callK, x_iSeq, x_iRg1, x_iRg2, x_iEn, x_gNm, x_gTp, x_gC, x_gN, x_gL, x_comp, startD, arD, wipeD, List.map_cons, List.map_nil, List.length_cons, List.length_nil, List.replicate_succ, List.replicate_zero, List.cons_append, List.nil_append, List.set_cons_succ, List.set_cons_zero, List.getElem?_cons_succ, List.getElem?_cons_zero, Option.some.injEq, PyData.int.injEq, PyData.bool.injEq, PyData.tuple.injEq, PyData.list.injEq, DV.dat.injEq, DV.own.injEq, exists_eq_left', exists_eq_left, exists_eq_right, exists_eq_right', exists_and_left, List.cons.injEq, and_true, true_and, atI0, atI1, atI2, atI3, atI4, atI5, Nat.sub_self, Nat.reduceSub, Nat.reduceAdd, Nat.reduceLT, if_true, if_false, Bool.false_eq_true, ↓reduceIte, Nat.zero_add, y_eqI, y_neI, y_neB, y_eqB, y_eqS, y_neS, y_ltI, y_gtI, y_leI, y_geI, y_inR, y_notInR, y_eqR, y_neR, y_lenR, y_tupR, row_tup, row_lst, tup_lst, lst_tup, false_and, and_false, exists_false, false_or, or_false, exists_const, atI_map, Option.map_some, decide_true, decide_false, Bool.not_true, Bool.not_false, eq_self, y_isB, DV.scr.injEq, x_chain, x_tRg, x_parEL, x_parLE, x_parLL, x_gLs, Nat.add_zero]
  refine ⟨.inr ⟨by decide, by decide⟩, by decide, ?_⟩
  have q := emod_lt (a := flow * 48271 + x + 11) (m := 4294967291) (by decide)
  exact hN _ _ ⟨_, _, rfl, rfl, q.1, by omega⟩
theorem far_math {ns : List Int} (hl : ns.length ≤ 63) {δ : DS} {m : Nat} (hC : ∃ (flow : Int) (z : Option DV), δ = [some (.scr ns), some (.dat (.list (intsD (ns.map encC)))), some (.dat (.int flow)), z] ∧ noOwn [3] δ = true ∧ 0 ≤ flow ∧ flow < 4294967296) :
    rdC δ m fun ds _ => ∃ far : List Int, ds = intsD far ∧ (∀ x ∈ far, 0 ≤ x) ∧ far.length ≤ 64 := by
  obtain ⟨flow, z, rfl, hno, f0, f1⟩ := hC
  simp only [rdC, x_var0, x_varS, x_own0, x_ownS, x_ixT, x_ixL, x_addI, x_addT, x_addL, x_gI, x_gIC, x_neg, x_abs, x_intI, x_intB, x_lenT, x_lenL, x_tupL, x_tupT, x_rep, x_seq, x_next, x_set, x_setL, x_par, x_asg, x_drop, x_app, x_ext, x_ret, x_retN, x_if, x_frz, x_for, x_bk, x_ct, x_d1, x_d2, x_dC, x_dL, x_tup, x_and, x_or, x_not, x_ife, x_dB, x_dTr, x_dNot, x_dAnd, x_dOr, x_yes, x_aC, x_aN, x_aSz, x_aRg, x_rg1, x_rg2, x_aList, x_aSort, x_aSl, x_dSl, x_aScr, x_scrLen, x_oN, x_oS, x_rN, x_rC, x_rRl, x_call, x_callB, x_callK, x_iSeq, x_iRg1, x_iRg2, x_iEn, x_gNm, x_gTp, x_gC, x_gN, x_gL, x_comp, startD, arD, wipeD, List.map_cons, List.map_nil, List.length_cons, List.length_nil, List.replicate_succ, List.replicate_zero, List.cons_append, List.nil_append, List.set_cons_succ, List.set_cons_zero, List.getElem?_cons_succ, List.getElem?_cons_zero, Option.some.injEq, PyData.int.injEq, PyData.bool.injEq, PyData.tuple.injEq, PyData.list.injEq, DV.dat.injEq, DV.own.injEq, exists_eq_left', exists_eq_left, exists_eq_right, exists_eq_right', exists_and_left, List.cons.injEq, and_true, true_and, atI0, atI1, atI2, atI3, atI4, atI5, Nat.sub_self, Nat.reduceSub, Nat.reduceAdd, Nat.reduceLT, if_true, if_false, Bool.false_eq_true, ↓reduceIte, Nat.zero_add, y_eqI, y_neI, y_neB, y_eqB, y_eqS, y_neS, y_ltI, y_gtI, y_leI, y_geI, y_inR, y_notInR, y_eqR, y_neR, y_lenR, y_tupR, row_tup, row_lst, tup_lst, lst_tup, false_and, and_false, exists_false, false_or, or_false, exists_const, atI_map, Option.map_some, decide_true, decide_false, Bool.not_true, Bool.not_false, eq_self, y_isB, DV.scr.injEq, x_chain, x_tRg, x_parEL, x_parLE, x_parLL, x_gLs, Nat.add_zero]
  refine ⟨hno, small _ (by rw [intsD, List.length_map, List.length_map]; omega), ?_⟩
  refine compR_map (e := PyData.int) (fun x => !decide (x < 10 ^ (15 : Int).toNat)) PyData.int (ns.map encC) _ (fun x hx A B ha hb => ?_) ?_
  · simp only [x_var0, x_varS, x_own0, x_ownS, x_ixT, x_ixL, x_addI, x_addT, x_addL, x_gI, x_gIC, x_neg, x_abs, x_intI, x_intB, x_lenT, x_lenL, x_tupL, x_tupT, x_rep, x_seq, x_next, x_set, x_setL, x_par, x_asg, x_drop, x_app, x_ext, x_ret, x_retN, x_if, x_frz, x_for, x_bk, x_ct, x_d1, x_d2, x_dC, x_dL, x_tup, x_and, x_or, x_not, x_ife, x_dB, x_dTr, x_dNot, x_dAnd, x_dOr, x_yes, x_aC, x_aN, x_aSz, x_aRg, x_rg1, x_rg2, x_aList, x_aSort, x_aSl, x_dSl, x_aScr, x_scrLen, x_oN, x_oS, x_rN, x_rC, x_rRl, x_call, x_callB, x_callK, x_iSeq, x_iRg1, x_iRg2, x_iEn, x_gNm, x_gTp, x_gC, x_gN, x_gL, x_comp, startD, arD, wipeD, List.map_cons, List.map_nil, List.length_cons, List.length_nil, List.replicate_succ, List.replicate_zero, List.cons_append, List.nil_append, List.set_cons_succ, List.set_cons_zero, List.getElem?_cons_succ, List.getElem?_cons_zero, Option.some.injEq, PyData.int.injEq, PyData.bool.injEq, PyData.tuple.injEq, PyData.list.injEq, DV.dat.injEq, DV.own.injEq, exists_eq_left', exists_eq_left, exists_eq_right, exists_eq_right', exists_and_left, List.cons.injEq, and_true, true_and, atI0, atI1, atI2, atI3, atI4, atI5, Nat.sub_self, Nat.reduceSub, Nat.reduceAdd, Nat.reduceLT, if_true, if_false, Bool.false_eq_true, ↓reduceIte, Nat.zero_add, y_eqI, y_neI, y_neB, y_eqB, y_eqS, y_neS, y_ltI, y_gtI, y_leI, y_geI, y_inR, y_notInR, y_eqR, y_neR, y_lenR, y_tupR, row_tup, row_lst, tup_lst, lst_tup, false_and, and_false, exists_false, false_or, or_false, exists_const, atI_map, Option.map_some, decide_true, decide_false, Bool.not_true, Bool.not_false, eq_self, y_isB, DV.scr.injEq, x_chain, x_tRg, x_parEL, x_parLE, x_parLL, x_gLs, Nat.add_zero]
    exact ⟨⟨by decide, by decide, by decide⟩, ifc ha hb⟩
  · refine ⟨(ns.map encC).filter fun x => !decide (x < 10 ^ (15 : Int).toNat), rfl, fun x hx => ?_, ?_⟩
    · obtain ⟨c, _, rfl⟩ := List.mem_map.mp (List.mem_filter.mp hx).1
      exact encC_pos c
    · exact Nat.le_trans (List.length_filter_le _ _) (by rw [List.length_map]; omega)
section
variable {P : Program} {w : World} {K : PySem.W.Frag} {mg : Str → Option Value} {base : Heap}
theorem ok_rill (T : Tops P K mg) : FnG P w K mg base CX0 1 T.a__law_rill T.d__law_rill ["script"] (spRl K) := by
  refine fnG_of T.F__law_rill sc__law_rill (fun vs H Q E h => by obtain ⟨a, ns, rfl, _⟩ := h; rfl) fun cdv A outer s H vs Q E hgd hr h => ?_
  obtain ⟨a, ns, rfl, hS, hlen, kk⟩ := h
  have hu5 := hu5_of hr
  have hu := hu_of5 hu5
  have nd := sc__law_rill.nd
  refine ⟨_, (PSs.nox (pss_cons (DSt.run (t := rdA) ?a) (pss_cons (DSt.run (t := rdB) ?b) (pss_one (ps_ret (pe_disp (pps_cons pe_str (DL.DL.run (t := rdC) ?c) (pps_cons pe_str (pv 2) (pps_cons pe_str pe_int pps_nil))) rfl rfl (by decide) (by decide))))))), ?_⟩
  case a => exact ds_par (i := 1) (j := 2) (fun _ h => ps_par rfl nd rfl rfl (by decide) rfl rfl h (by rfl)) (da_cons (DL.DL.de (dl_comp rfl nd (di_seq (DL.DL.de (dl_scrSl (i := 0) (pv 0) (do_none) (do_some (de_int))))) (own := [("cell", 3)]) (blkD (N := ["script", "cells", "flow", "cell"]) (sc := defScope s__law_rill) rfl (by decide +kernel) (by decide +kernel) (by decide +kernel) (by decide +kernel)) (fun _ _ _ _ _ => pg_name (i := 3) nd rfl (by first | exact .inl rfl | exact .inr rfl)) (gs_name) (by decide) (fun _ _ _ _ _ => dts_nil) (fun _ _ _ _ _ => de_add (de_mul (de_int) (de_abs (by rfl) T.z_abs (de_var (pv 3)))) (de_int1 (by rfl) T.z_int (de_lt hu (de_var (pv 3)) (de_int)))))) (da_cons (de_add (de_int) (de_scrLen (by rfl) T.z_len (pv 0))) (da_nil)))
  case b => exact ds_for PassesOwn.never rfl (di_seq (de_var (pv 1))) (pg_name (i := 3) nd rfl (by first | exact .inl rfl | exact .inr rfl)) (gs_name) (dss_one (ds_set (i := 2) (fun _ h => ps_set (i := 2) nd rfl (.inl rfl) h) (de_mod (de_int1 (by rfl) T.z_int (de_add (de_add (de_mul (de_var (pv 2)) (de_int)) (de_var (pv 3))) (de_int))) (de_int))))
  case c => exact dl_comp rfl nd (di_seq (de_var (pv 1))) (own := [("cell", 3)]) (blkD (N := ["script", "cells", "flow", "cell"]) (sc := defScope s__law_rill) rfl (by decide +kernel) (by decide +kernel) (by decide +kernel) (by decide +kernel)) (fun _ _ _ _ _ => pg_name (i := 3) nd rfl (by first | exact .inl rfl | exact .inr rfl)) (gs_name) (by decide) (fun _ _ _ _ _ => dts_one (dt_cp (cd_ge hu) (de_var (pv 3)) (de_pow (de_int) (de_int)))) (fun _ _ _ _ _ => de_var (pv 3))
  refine lS_two ⟨none, H, H, []⟩ 0 [some (.scr ns), none, none, none] H H (fun δ _ => ∃ (flow : Int) (z : Option DV), δ = [some (.scr ns), some (.dat (.list (intsD (ns.map encC)))), some (.dat (.int flow)), z] ∧ noOwn [3] δ = true ∧ 0 ≤ flow ∧ flow < 4294967296) rfl (start_scr (N := ["script", "cells", "flow", "cell"]) hS (by decide)) (rill_math hlen) fun δ' m σ' H' S' Vs' hC sr' s1 => ?_
  have hfar := far_math hlen (m := m) hC
  obtain ⟨flow, z, rfl, hno, f0, f1⟩ := hC
  exact rl_mk (i := 2) rfl sr' rfl f0 f1 hfar kk
end
end My
namespace My
open PySem PySem.Spec L2 DL
abbrev Row := List Int
/-- may o be put behind the lot -/
def mayM (lot : Row) (o : Int) : Bool := decide (lot = []) || decide (lot.getLastD 0 < o)
def extM (row : Row) (lot : Row) : List Row := (row.filter (mayM lot)).map fun o => lot ++ [o]
def lotsM (row : Row) : Nat → List Row
  | 0 => [[]]
  | k + 1 => (lotsM row k).flatMap (extM row)
theorem y_eqRn (r : Row) (P : D → Prop) : gEq (rowD r) (.tuple []) P = P (.bool (decide (r = []))) := y_eqR r [] P
theorem y_neRn (r : Row) (P : D → Prop) : gNe (rowD r) (.tuple []) P = P (.bool (!decide (r = []))) := y_neR r [] P
theorem row_add {r : Row} {o : Int} {P : D → Prop} (h : r.length + 1 ≤ 1000000) (hP : P (rowD (r ++ [o]))) : gAdd (rowD r) (.tuple [.int o]) P := by
  unfold rowD
  rw [x_addT]
  refine ⟨small _ (by rw [intsD, List.length_map, List.length_singleton]; omega), ?_⟩
  have e : intsD r ++ [PyData.int o] = intsD (r ++ [o]) := by simp [intsD]
  rw [e]
  exact hP
theorem row_last {r : Row} {P : D → Prop} (h : r ≠ []) (hP : P (.int (r.getLastD 0))) : gIx (rowD r) (.int (-1)) P := by
  unfold rowD
  rw [x_ixT, atIm _ (by rw [intsD]; simpa using h)]
  have e : (intsD r).getLast? = some (.int (r.getLastD 0)) := by
    rw [intsD, List.getLast?_map, List.getLastD_eq_getLast?]
    cases q : r.getLast? with
    | none => exact absurd (List.getLast?_eq_none_iff.mp q) h
    | some b => rfl
  rw [e]
  exact ⟨_, rfl, hP⟩
theorem lots_len (row : Row) : ∀ (k : Nat) (x : Row), x ∈ lotsM row k → x.length = k
  | 0, x, h => by
    have : x = [] := by simpa [lotsM] using h
    rw [this]; rfl
  | k + 1, x, h => by
    obtain ⟨lot, hl, hx⟩ := List.mem_flatMap.mp h
    obtain ⟨o, _, rfl⟩ := List.mem_map.mp hx
    rw [List.length_append, lots_len row k lot hl]; rfl
def fChoices : Fn := fun as n P => ∃ (row : Row) (k : Nat), as = [.d (rowD row), .d (.int k)] ∧ row.length ≤ 1000 ∧ k ≤ 1000 ∧ (∀ j ≤ k, (lotsM row j).length ≤ 1000) ∧ P (.list ((lotsM row k).map rowD)) n
theorem hf_choices (as : List Ar) (n : Nat) (P : D → Nat → Prop) (hl : as.length = 2) (h : fChoices as n P) : rd_choices ⟨fun _ m => P .none m, P, fun _ _ => False, fun _ _ => False⟩ (startD ["row", "few", "found", "turn", "longer", "some", "machine"] as) n := by
  obtain ⟨row, k, rfl, h1, h2, h3, hP⟩ := h
  simp only [rd_choices, x_var0, x_varS, x_own0, x_ownS, x_ixT, x_ixL, x_addI, x_addT, x_addL, x_gI, x_gIC, x_neg, x_abs, x_intI, x_intB, x_lenT, x_lenL, x_tupL, x_tupT, x_rep, x_seq, x_next, x_set, x_setL, x_par, x_asg, x_drop, x_app, x_ext, x_ret, x_retN, x_if, x_frz, x_for, x_bk, x_ct, x_d1, x_d2, x_dC, x_dL, x_tup, x_and, x_or, x_not, x_ife, x_dB, x_dTr, x_dNot, x_dAnd, x_dOr, x_yes, x_aC, x_aN, x_aSz, x_aRg, x_rg1, x_rg2, x_aList, x_aSort, x_aSl, x_dSl, x_aScr, x_scrLen, x_oN, x_oS, x_rN, x_rC, x_rRl, x_call, x_callB, x_callK, x_iSeq, x_iRg1, x_iRg2, x_iEn, x_gNm, x_gTp, x_gC, x_gN, x_gL, x_comp, startD, arD, wipeD, List.map_cons, List.map_nil, List.length_cons, List.length_nil, List.replicate_succ, List.replicate_zero, List.cons_append, List.nil_append, List.set_cons_succ, List.set_cons_zero, List.getElem?_cons_succ, List.getElem?_cons_zero, Option.some.injEq, PyData.int.injEq, PyData.bool.injEq, PyData.tuple.injEq, PyData.list.injEq, DV.dat.injEq, DV.own.injEq, exists_eq_left', exists_eq_left, exists_eq_right, exists_eq_right', exists_and_left, List.cons.injEq, and_true, true_and, atI0, atI1, atI2, atI3, atI4, atI5, Nat.sub_self, Nat.reduceSub, Nat.reduceAdd, Nat.reduceLT, if_true, if_false, Bool.false_eq_true, ↓reduceIte, Nat.zero_add, y_eqI, y_neI, y_neB, y_eqB, y_eqS, y_neS, y_ltI, y_gtI, y_leI, y_geI, y_inR, y_notInR, y_eqR, y_neR, y_lenR, y_tupR, row_tup, row_lst, tup_lst, lst_tup, false_and, and_false, exists_false, false_or, or_false, exists_const, atI_map, Option.map_some, decide_true, decide_false, Bool.not_true, Bool.not_false, eq_self, y_isB, DV.scr.injEq, x_chain, x_tRg, x_parEL, x_parLE, x_parLL, x_gLs, Nat.add_zero]
  refine ⟨small _ (by decide), small _ (by decide), by omega, by omega, ?_⟩
  rw [rangeD_rng]
  refine forR_inv (fun r δ m => m = n ∧ ∃ (j : Nat) (z3 z4 z5 : Option DV), δ = [some (.dat (rowD row)), some (.dat (.int k)), some (.dat (.list ((lotsM row j).map rowD))), z3, z4, z5, none] ∧ j + r.length = k) _ _ _ ⟨rfl, 0, none, none, none, rfl, ?_⟩ (fun x r δ m hx hI N hN => ?_) fun δ m hI => ?_
  · rw [rng_len]; simp
  · obtain ⟨rfl, j, z3, z4, z5, rfl, hj⟩ := hI
    rw [List.length_cons] at hj
    simp only [x_var0, x_varS, x_own0, x_ownS, x_ixT, x_ixL, x_addI, x_addT, x_addL, x_gI, x_gIC, x_neg, x_abs, x_intI, x_intB, x_lenT, x_lenL, x_tupL, x_tupT, x_rep, x_seq, x_next, x_set, x_setL, x_par, x_asg, x_drop, x_app, x_ext, x_ret, x_retN, x_if, x_frz, x_for, x_bk, x_ct, x_d1, x_d2, x_dC, x_dL, x_tup, x_and, x_or, x_not, x_ife, x_dB, x_dTr, x_dNot, x_dAnd, x_dOr, x_yes, x_aC, x_aN, x_aSz, x_aRg, x_rg1, x_rg2, x_aList, x_aSort, x_aSl, x_dSl, x_aScr, x_scrLen, x_oN, x_oS, x_rN, x_rC, x_rRl, x_call, x_callB, x_callK, x_iSeq, x_iRg1, x_iRg2, x_iEn, x_gNm, x_gTp, x_gC, x_gN, x_gL, x_comp, startD, arD, wipeD, List.map_cons, List.map_nil, List.length_cons, List.length_nil, List.replicate_succ, List.replicate_zero, List.cons_append, List.nil_append, List.set_cons_succ, List.set_cons_zero, List.getElem?_cons_succ, List.getElem?_cons_zero, Option.some.injEq, PyData.int.injEq, PyData.bool.injEq, PyData.tuple.injEq, PyData.list.injEq, DV.dat.injEq, DV.own.injEq, exists_eq_left', exists_eq_left, exists_eq_right, exists_eq_right', exists_and_left, List.cons.injEq, and_true, true_and, atI0, atI1, atI2, atI3, atI4, atI5, Nat.sub_self, Nat.reduceSub, Nat.reduceAdd, Nat.reduceLT, if_true, if_false, Bool.false_eq_true, ↓reduceIte, Nat.zero_add, y_eqI, y_neI, y_neB, y_eqB, y_eqS, y_neS, y_ltI, y_gtI, y_leI, y_geI, y_inR, y_notInR, y_eqR, y_neR, y_lenR, y_tupR, row_tup, row_lst, tup_lst, lst_tup, false_and, and_false, exists_false, false_or, or_false, exists_const, atI_map, Option.map_some, decide_true, decide_false, Bool.not_true, Bool.not_false, eq_self, y_isB, DV.scr.injEq, x_chain, x_tRg, x_parEL, x_parLE, x_parLL, x_gLs, Nat.add_zero]
    refine ⟨Nat.zero_le _, ?_⟩
    have hle : (lotsM row (j + 1)).length ≤ 1000 := h3 (j + 1) (by omega)
    refine forR_inv (fun r2 δ m2 => m2 = m ∧ ∃ (acc : List Row) (z5 : Option DV), δ = [some (.dat (rowD row)), some (.dat (.int k)), some (.dat (.list ((lotsM row j).map rowD))), some (.dat (.int x)), some (.own (acc.map rowD)), z5, none] ∧ acc ++ r2.flatMap (extM row) = lotsM row (j + 1) ∧ ∀ x ∈ r2, x ∈ lotsM row j) _ _ _ ⟨rfl, [], z5, rfl, rfl, fun _ h => h⟩ (fun lot r2 δ m2 hx hI N2 hN2 => ?_) fun δ m2 hI => ?_
    · obtain ⟨rfl, acc, z5, rfl, hacc, hr2⟩ := hI
      have hlot : lot.length = j := lots_len row j lot (hr2 lot (List.mem_cons_self))
      rw [List.flatMap_cons, ← List.append_assoc] at hacc
      simp only [x_var0, x_varS, x_own0, x_ownS, x_ixT, x_ixL, x_addI, x_addT, x_addL, x_gI, x_gIC, x_neg, x_abs, x_intI, x_intB, x_lenT, x_lenL, x_tupL, x_tupT, x_rep, x_seq, x_next, x_set, x_setL, x_par, x_asg, x_drop, x_app, x_ext, x_ret, x_retN, x_if, x_frz, x_for, x_bk, x_ct, x_d1, x_d2, x_dC, x_dL, x_tup, x_and, x_or, x_not, x_ife, x_dB, x_dTr, x_dNot, x_dAnd, x_dOr, x_yes, x_aC, x_aN, x_aSz, x_aRg, x_rg1, x_rg2, x_aList, x_aSort, x_aSl, x_dSl, x_aScr, x_scrLen, x_oN, x_oS, x_rN, x_rC, x_rRl, x_call, x_callB, x_callK, x_iSeq, x_iRg1, x_iRg2, x_iEn, x_gNm, x_gTp, x_gC, x_gN, x_gL, x_comp, startD, arD, wipeD, List.map_cons, List.map_nil, List.length_cons, List.length_nil, List.replicate_succ, List.replicate_zero, List.cons_append, List.nil_append, List.set_cons_succ, List.set_cons_zero, List.getElem?_cons_succ, List.getElem?_cons_zero, Option.some.injEq, PyData.int.injEq, PyData.bool.injEq, PyData.tuple.injEq, PyData.list.injEq, DV.dat.injEq, DV.own.injEq, exists_eq_left', exists_eq_left, exists_eq_right, exists_eq_right', exists_and_left, List.cons.injEq, and_true, true_and, atI0, atI1, atI2, atI3, atI4, atI5, Nat.sub_self, Nat.reduceSub, Nat.reduceAdd, Nat.reduceLT, if_true, if_false, Bool.false_eq_true, ↓reduceIte, Nat.zero_add, y_eqI, y_neI, y_neB, y_eqB, y_eqS, y_neS, y_ltI, y_gtI, y_leI, y_geI, y_inR, y_notInR, y_eqR, y_neR, y_lenR, y_tupR, row_tup, row_lst, tup_lst, lst_tup, false_and, and_false, exists_false, false_or, or_false, exists_const, atI_map, Option.map_some, decide_true, decide_false, Bool.not_true, Bool.not_false, eq_self, y_isB, DV.scr.injEq, x_chain, x_tRg, x_parEL, x_parLE, x_parLL, x_gLs, Nat.add_zero]
      refine ⟨rfl, ?_⟩
      simp only [x_var0, x_varS, x_own0, x_ownS, x_ixT, x_ixL, x_addI, x_addT, x_addL, x_gI, x_gIC, x_neg, x_abs, x_intI, x_intB, x_lenT, x_lenL, x_tupL, x_tupT, x_rep, x_seq, x_next, x_set, x_setL, x_par, x_asg, x_drop, x_app, x_ext, x_ret, x_retN, x_if, x_frz, x_for, x_bk, x_ct, x_d1, x_d2, x_dC, x_dL, x_tup, x_and, x_or, x_not, x_ife, x_dB, x_dTr, x_dNot, x_dAnd, x_dOr, x_yes, x_aC, x_aN, x_aSz, x_aRg, x_rg1, x_rg2, x_aList, x_aSort, x_aSl, x_dSl, x_aScr, x_scrLen, x_oN, x_oS, x_rN, x_rC, x_rRl, x_call, x_callB, x_callK, x_iSeq, x_iRg1, x_iRg2, x_iEn, x_gNm, x_gTp, x_gC, x_gN, x_gL, x_comp, startD, arD, wipeD, List.map_cons, List.map_nil, List.length_cons, List.length_nil, List.replicate_succ, List.replicate_zero, List.cons_append, List.nil_append, List.set_cons_succ, List.set_cons_zero, List.getElem?_cons_succ, List.getElem?_cons_zero, Option.some.injEq, PyData.int.injEq, PyData.bool.injEq, PyData.tuple.injEq, PyData.list.injEq, DV.dat.injEq, DV.own.injEq, exists_eq_left', exists_eq_left, exists_eq_right, exists_eq_right', exists_and_left, List.cons.injEq, and_true, true_and, atI0, atI1, atI2, atI3, atI4, atI5, Nat.sub_self, Nat.reduceSub, Nat.reduceAdd, Nat.reduceLT, if_true, if_false, Bool.false_eq_true, ↓reduceIte, Nat.zero_add, y_eqI, y_neI, y_neB, y_eqB, y_eqS, y_neS, y_ltI, y_gtI, y_leI, y_geI, y_inR, y_notInR, y_eqR, y_neR, y_lenR, y_tupR, row_tup, row_lst, tup_lst, lst_tup, false_and, and_false, exists_false, false_or, or_false, exists_const, atI_map, Option.map_some, decide_true, decide_false, Bool.not_true, Bool.not_false, eq_self, y_isB, DV.scr.injEq, x_chain, x_tRg, x_parEL, x_parLE, x_parLL, x_gLs, Nat.add_zero]
      have hlen : (acc ++ extM row lot).length ≤ 1000 := by
        refine Nat.le_trans ?_ hle
        rw [← hacc]; simp
      refine ⟨small _ (by rw [intsD, List.length_map]; omega), ?_⟩
      refine compR_map (mayM lot) (fun o => rowD (lot ++ [o])) row _ (fun o ho A B ha hb => ?_) ?_
      · simp only [x_var0, x_varS, x_own0, x_ownS, x_ixT, x_ixL, x_addI, x_addT, x_addL, x_gI, x_gIC, x_neg, x_abs, x_intI, x_intB, x_lenT, x_lenL, x_tupL, x_tupT, x_rep, x_seq, x_next, x_set, x_setL, x_par, x_asg, x_drop, x_app, x_ext, x_ret, x_retN, x_if, x_frz, x_for, x_bk, x_ct, x_d1, x_d2, x_dC, x_dL, x_tup, x_and, x_or, x_not, x_ife, x_dB, x_dTr, x_dNot, x_dAnd, x_dOr, x_yes, x_aC, x_aN, x_aSz, x_aRg, x_rg1, x_rg2, x_aList, x_aSort, x_aSl, x_dSl, x_aScr, x_scrLen, x_oN, x_oS, x_rN, x_rC, x_rRl, x_call, x_callB, x_callK, x_iSeq, x_iRg1, x_iRg2, x_iEn, x_gNm, x_gTp, x_gC, x_gN, x_gL, x_comp, startD, arD, wipeD, List.map_cons, List.map_nil, List.length_cons, List.length_nil, List.replicate_succ, List.replicate_zero, List.cons_append, List.nil_append, List.set_cons_succ, List.set_cons_zero, List.getElem?_cons_succ, List.getElem?_cons_zero, Option.some.injEq, PyData.int.injEq, PyData.bool.injEq, PyData.tuple.injEq, PyData.list.injEq, DV.dat.injEq, DV.own.injEq, exists_eq_left', exists_eq_left, exists_eq_right, exists_eq_right', exists_and_left, List.cons.injEq, and_true, true_and, atI0, atI1, atI2, atI3, atI4, atI5, Nat.sub_self, Nat.reduceSub, Nat.reduceAdd, Nat.reduceLT, if_true, if_false, Bool.false_eq_true, ↓reduceIte, Nat.zero_add, y_eqI, y_neI, y_neB, y_eqB, y_eqS, y_neS, y_ltI, y_gtI, y_leI, y_geI, y_inR, y_notInR, y_eqR, y_neR, y_lenR, y_tupR, row_tup, row_lst, tup_lst, lst_tup, false_and, and_false, exists_false, false_or, or_false, exists_const, atI_map, Option.map_some, decide_true, decide_false, Bool.not_true, Bool.not_false, eq_self, y_isB, DV.scr.injEq, x_chain, x_tRg, x_parEL, x_parLE, x_parLL, x_gLs, Nat.add_zero]
        refine ⟨Nat.zero_le _, ?_⟩
        rw [y_eqRn]
        simp only [x_var0, x_varS, x_own0, x_ownS, x_ixT, x_ixL, x_addI, x_addT, x_addL, x_gI, x_gIC, x_neg, x_abs, x_intI, x_intB, x_lenT, x_lenL, x_tupL, x_tupT, x_rep, x_seq, x_next, x_set, x_setL, x_par, x_asg, x_drop, x_app, x_ext, x_ret, x_retN, x_if, x_frz, x_for, x_bk, x_ct, x_d1, x_d2, x_dC, x_dL, x_tup, x_and, x_or, x_not, x_ife, x_dB, x_dTr, x_dNot, x_dAnd, x_dOr, x_yes, x_aC, x_aN, x_aSz, x_aRg, x_rg1, x_rg2, x_aList, x_aSort, x_aSl, x_dSl, x_aScr, x_scrLen, x_oN, x_oS, x_rN, x_rC, x_rRl, x_call, x_callB, x_callK, x_iSeq, x_iRg1, x_iRg2, x_iEn, x_gNm, x_gTp, x_gC, x_gN, x_gL, x_comp, startD, arD, wipeD, List.map_cons, List.map_nil, List.length_cons, List.length_nil, List.replicate_succ, List.replicate_zero, List.cons_append, List.nil_append, List.set_cons_succ, List.set_cons_zero, List.getElem?_cons_succ, List.getElem?_cons_zero, Option.some.injEq, PyData.int.injEq, PyData.bool.injEq, PyData.tuple.injEq, PyData.list.injEq, DV.dat.injEq, DV.own.injEq, exists_eq_left', exists_eq_left, exists_eq_right, exists_eq_right', exists_and_left, List.cons.injEq, and_true, true_and, atI0, atI1, atI2, atI3, atI4, atI5, Nat.sub_self, Nat.reduceSub, Nat.reduceAdd, Nat.reduceLT, if_true, if_false, Bool.false_eq_true, ↓reduceIte, Nat.zero_add, y_eqI, y_neI, y_neB, y_eqB, y_eqS, y_neS, y_ltI, y_gtI, y_leI, y_geI, y_inR, y_notInR, y_eqR, y_neR, y_lenR, y_tupR, row_tup, row_lst, tup_lst, lst_tup, false_and, and_false, exists_false, false_or, or_false, exists_const, atI_map, Option.map_some, decide_true, decide_false, Bool.not_true, Bool.not_false, eq_self, y_isB, DV.scr.injEq, x_chain, x_tRg, x_parEL, x_parLE, x_parLL, x_gLs, Nat.add_zero]
        have hs : ∀ {B : Prop}, A (rowD (lot ++ [o])) m2 → 1 ≤ sizeLine ∧ gAdd (rowD lot) (.tuple [.int o]) fun d => A d m2 := fun h => ⟨small _ (by decide), row_add (by omega) h⟩
        refine ifc (fun c => hs (B := True) (ha ?_)) fun c => row_last (of_decide_eq_false c) ?_
        · rw [mayM, c]; rfl
        · simp only [x_var0, x_varS, x_own0, x_ownS, x_ixT, x_ixL, x_addI, x_addT, x_addL, x_gI, x_gIC, x_neg, x_abs, x_intI, x_intB, x_lenT, x_lenL, x_tupL, x_tupT, x_rep, x_seq, x_next, x_set, x_setL, x_par, x_asg, x_drop, x_app, x_ext, x_ret, x_retN, x_if, x_frz, x_for, x_bk, x_ct, x_d1, x_d2, x_dC, x_dL, x_tup, x_and, x_or, x_not, x_ife, x_dB, x_dTr, x_dNot, x_dAnd, x_dOr, x_yes, x_aC, x_aN, x_aSz, x_aRg, x_rg1, x_rg2, x_aList, x_aSort, x_aSl, x_dSl, x_aScr, x_scrLen, x_oN, x_oS, x_rN, x_rC, x_rRl, x_call, x_callB, x_callK, x_iSeq, x_iRg1, x_iRg2, x_iEn, x_gNm, x_gTp, x_gC, x_gN, x_gL, x_comp, startD, arD, wipeD, List.map_cons, List.map_nil, List.length_cons, List.length_nil, List.replicate_succ, List.replicate_zero, List.cons_append, List.nil_append, List.set_cons_succ, List.set_cons_zero, List.getElem?_cons_succ, List.getElem?_cons_zero, Option.some.injEq, PyData.int.injEq, PyData.bool.injEq, PyData.tuple.injEq, PyData.list.injEq, DV.dat.injEq, DV.own.injEq, exists_eq_left', exists_eq_left, exists_eq_right, exists_eq_right', exists_and_left, List.cons.injEq, and_true, true_and, atI0, atI1, atI2, atI3, atI4, atI5, Nat.sub_self, Nat.reduceSub, Nat.reduceAdd, Nat.reduceLT, if_true, if_false, Bool.false_eq_true, ↓reduceIte, Nat.zero_add, y_eqI, y_neI, y_neB, y_eqB, y_eqS, y_neS, y_ltI, y_gtI, y_leI, y_geI, y_inR, y_notInR, y_eqR, y_neR, y_lenR, y_tupR, row_tup, row_lst, tup_lst, lst_tup, false_and, and_false, exists_false, false_or, or_false, exists_const, atI_map, Option.map_some, decide_true, decide_false, Bool.not_true, Bool.not_false, eq_self, y_isB, DV.scr.injEq, x_chain, x_tRg, x_parEL, x_parLE, x_parLL, x_gLs, Nat.add_zero]
          refine ifc (fun d => hs (B := True) (ha ?_)) fun d => hb ?_
          · rw [mayM, d, Bool.or_true]
          · rw [mayM, c, d]; rfl
      · rw [List.nil_append]
        have e : (row.filter (mayM lot)).map (fun o => rowD (lot ++ [o])) = (extM row lot).map rowD := by rw [extM, List.map_map]; rfl
        rw [e, ← List.map_append]
        exact ⟨small _ (by rw [← List.length_append, ← List.map_append, List.length_map]; omega), hN2 _ _ ⟨rfl, acc ++ extM row lot, _, rfl, hacc, fun z hz => hr2 z (List.mem_cons_of_mem _ hz)⟩⟩
    · obtain ⟨rfl, acc, z5, rfl, hacc, hr2⟩ := hI
      simp only [x_var0, x_varS, x_own0, x_ownS, x_ixT, x_ixL, x_addI, x_addT, x_addL, x_gI, x_gIC, x_neg, x_abs, x_intI, x_intB, x_lenT, x_lenL, x_tupL, x_tupT, x_rep, x_seq, x_next, x_set, x_setL, x_par, x_asg, x_drop, x_app, x_ext, x_ret, x_retN, x_if, x_frz, x_for, x_bk, x_ct, x_d1, x_d2, x_dC, x_dL, x_tup, x_and, x_or, x_not, x_ife, x_dB, x_dTr, x_dNot, x_dAnd, x_dOr, x_yes, x_aC, x_aN, x_aSz, x_aRg, x_rg1, x_rg2, x_aList, x_aSort, x_aSl, x_dSl, x_aScr, x_scrLen, x_oN, x_oS, x_rN, x_rC, x_rRl, x_call, x_callB, x_callK, x_iSeq, x_iRg1, x_iRg2, x_iEn, x_gNm, x_gTp, x_gC, x_gN, x_gL, x_comp, startD, arD, wipeD, List.map_cons, List.map_nil, List.length_cons, List.length_nil, List.replicate_succ, List.replicate_zero, List.cons_append, List.nil_append, List.set_cons_succ, List.set_cons_zero, List.getElem?_cons_succ, List.getElem?_cons_zero, Option.some.injEq, PyData.int.injEq, PyData.bool.injEq, PyData.tuple.injEq, PyData.list.injEq, DV.dat.injEq, DV.own.injEq, exists_eq_left', exists_eq_left, exists_eq_right, exists_eq_right', exists_and_left, List.cons.injEq, and_true, true_and, atI0, atI1, atI2, atI3, atI4, atI5, Nat.sub_self, Nat.reduceSub, Nat.reduceAdd, Nat.reduceLT, if_true, if_false, Bool.false_eq_true, ↓reduceIte, Nat.zero_add, y_eqI, y_neI, y_neB, y_eqB, y_eqS, y_neS, y_ltI, y_gtI, y_leI, y_geI, y_inR, y_notInR, y_eqR, y_neR, y_lenR, y_tupR, row_tup, row_lst, tup_lst, lst_tup, false_and, and_false, exists_false, false_or, or_false, exists_const, atI_map, Option.map_some, decide_true, decide_false, Bool.not_true, Bool.not_false, eq_self, y_isB, DV.scr.injEq, x_chain, x_tRg, x_parEL, x_parLE, x_parLL, x_gLs, Nat.add_zero]
      rw [List.flatMap_nil, List.append_nil] at hacc
      rw [hacc]
      exact hN _ _ ⟨rfl, j + 1, _, _, _, rfl, by omega⟩
  · obtain ⟨rfl, j, z3, z4, z5, rfl, hj⟩ := hI
    simp only [x_var0, x_varS, x_own0, x_ownS, x_ixT, x_ixL, x_addI, x_addT, x_addL, x_gI, x_gIC, x_neg, x_abs, x_intI, x_intB, x_lenT, x_lenL, x_tupL, x_tupT, x_rep, x_seq, x_next, x_set, x_setL, x_par, x_asg, x_drop, x_app, x_ext, x_ret, x_retN, x_if, x_frz, x_for, x_bk, x_ct, x_d1, x_d2, x_dC, x_dL, x_tup, x_and, x_or, x_not, x_ife, x_dB, x_dTr, x_dNot, x_dAnd, x_dOr, x_yes, x_aC, x_aN, x_aSz, x_aRg, x_rg1, x_rg2, x_aList, x_aSort, x_aSl, x_dSl, x_aScr, x_scrLen, x_oN, x_oS, x_rN, x_rC, x_rRl, x_call, x_callB, x_callK, x_iSeq, x_iRg1, x_iRg2, x_iEn, x_gNm, x_gTp, x_gC, x_gN, x_gL, x_comp, startD, arD, wipeD, List.map_cons, List.map_nil, List.length_cons, List.length_nil, List.replicate_succ, List.replicate_zero, List.cons_append, List.nil_append, List.set_cons_succ, List.set_cons_zero, List.getElem?_cons_succ, List.getElem?_cons_zero, Option.some.injEq, PyData.int.injEq, PyData.bool.injEq, PyData.tuple.injEq, PyData.list.injEq, DV.dat.injEq, DV.own.injEq, exists_eq_left', exists_eq_left, exists_eq_right, exists_eq_right', exists_and_left, List.cons.injEq, and_true, true_and, atI0, atI1, atI2, atI3, atI4, atI5, Nat.sub_self, Nat.reduceSub, Nat.reduceAdd, Nat.reduceLT, if_true, if_false, Bool.false_eq_true, ↓reduceIte, Nat.zero_add, y_eqI, y_neI, y_neB, y_eqB, y_eqS, y_neS, y_ltI, y_gtI, y_leI, y_geI, y_inR, y_notInR, y_eqR, y_neR, y_lenR, y_tupR, row_tup, row_lst, tup_lst, lst_tup, false_and, and_false, exists_false, false_or, or_false, exists_const, atI_map, Option.map_some, decide_true, decide_false, Bool.not_true, Bool.not_false, eq_self, y_isB, DV.scr.injEq, x_chain, x_tRg, x_parEL, x_parLE, x_parLL, x_gLs, Nat.add_zero]
    have : j = k := by simpa using hj
    rw [this] at *
    exact hP
def fLots : Fn := fun as n P => ∃ (row : Row) (k : Nat), as = [.d (.list (intsD row)), .d (.int k)] ∧ row.length ≤ 1000 ∧ k ≤ 1000 ∧ (∀ j ≤ k, (lotsM row j).length ≤ 1000) ∧ P (.tuple ((lotsM row k).map rowD)) n
theorem hf_lots_of (as : List Ar) (n : Nat) (P : D → Nat → Prop) (hl : as.length = 2) (h : fLots as n P) : rd__law_lots_of ⟨fun _ m => P .none m, P, fun _ _ => False, fun _ _ => False⟩ (startD ["rest", "size", "found", "turn", "longer", "lot", "own"] as) n := by
  obtain ⟨row, k, rfl, h1, h2, h3, hP⟩ := h
  simp only [rd__law_lots_of, x_var0, x_varS, x_own0, x_ownS, x_ixT, x_ixL, x_addI, x_addT, x_addL, x_gI, x_gIC, x_neg, x_abs, x_intI, x_intB, x_lenT, x_lenL, x_tupL, x_tupT, x_rep, x_seq, x_next, x_set, x_setL, x_par, x_asg, x_drop, x_app, x_ext, x_ret, x_retN, x_if, x_frz, x_for, x_bk, x_ct, x_d1, x_d2, x_dC, x_dL, x_tup, x_and, x_or, x_not, x_ife, x_dB, x_dTr, x_dNot, x_dAnd, x_dOr, x_yes, x_aC, x_aN, x_aSz, x_aRg, x_rg1, x_rg2, x_aList, x_aSort, x_aSl, x_dSl, x_aScr, x_scrLen, x_oN, x_oS, x_rN, x_rC, x_rRl, x_call, x_callB, x_callK, x_iSeq, x_iRg1, x_iRg2, x_iEn, x_gNm, x_gTp, x_gC, x_gN, x_gL, x_comp, startD, arD, wipeD, List.map_cons, List.map_nil, List.length_cons, List.length_nil, List.replicate_succ, List.replicate_zero, List.cons_append, List.nil_append, List.set_cons_succ, List.set_cons_zero, List.getElem?_cons_succ, List.getElem?_cons_zero, Option.some.injEq, PyData.int.injEq, PyData.bool.injEq, PyData.tuple.injEq, PyData.list.injEq, DV.dat.injEq, DV.own.injEq, exists_eq_left', exists_eq_left, exists_eq_right, exists_eq_right', exists_and_left, List.cons.injEq, and_true, true_and, atI0, atI1, atI2, atI3, atI4, atI5, Nat.sub_self, Nat.reduceSub, Nat.reduceAdd, Nat.reduceLT, if_true, if_false, Bool.false_eq_true, ↓reduceIte, Nat.zero_add, y_eqI, y_neI, y_neB, y_eqB, y_eqS, y_neS, y_ltI, y_gtI, y_leI, y_geI, y_inR, y_notInR, y_eqR, y_neR, y_lenR, y_tupR, row_tup, row_lst, tup_lst, lst_tup, false_and, and_false, exists_false, false_or, or_false, exists_const, atI_map, Option.map_some, decide_true, decide_false, Bool.not_true, Bool.not_false, eq_self, y_isB, DV.scr.injEq, x_chain, x_tRg, x_parEL, x_parLE, x_parLL, x_gLs, Nat.add_zero]
  refine ⟨small _ (by decide), small _ (by decide), by omega, by omega, ?_⟩
  rw [rangeD_rng]
  refine forR_inv (fun r δ m => m = n ∧ ∃ (j : Nat) (z3 z4 z5 : Option DV), δ = [some (.dat (.list (intsD row))), some (.dat (.int k)), some (.dat (.list ((lotsM row j).map rowD))), z3, z4, z5, none] ∧ j + r.length = k) _ _ _ ⟨rfl, 0, none, none, none, rfl, ?_⟩ (fun x r δ m hx hI N hN => ?_) fun δ m hI => ?_
  · rw [rng_len]; simp
  · obtain ⟨rfl, j, z3, z4, z5, rfl, hj⟩ := hI
    rw [List.length_cons] at hj
    simp only [x_var0, x_varS, x_own0, x_ownS, x_ixT, x_ixL, x_addI, x_addT, x_addL, x_gI, x_gIC, x_neg, x_abs, x_intI, x_intB, x_lenT, x_lenL, x_tupL, x_tupT, x_rep, x_seq, x_next, x_set, x_setL, x_par, x_asg, x_drop, x_app, x_ext, x_ret, x_retN, x_if, x_frz, x_for, x_bk, x_ct, x_d1, x_d2, x_dC, x_dL, x_tup, x_and, x_or, x_not, x_ife, x_dB, x_dTr, x_dNot, x_dAnd, x_dOr, x_yes, x_aC, x_aN, x_aSz, x_aRg, x_rg1, x_rg2, x_aList, x_aSort, x_aSl, x_dSl, x_aScr, x_scrLen, x_oN, x_oS, x_rN, x_rC, x_rRl, x_call, x_callB, x_callK, x_iSeq, x_iRg1, x_iRg2, x_iEn, x_gNm, x_gTp, x_gC, x_gN, x_gL, x_comp, startD, arD, wipeD, List.map_cons, List.map_nil, List.length_cons, List.length_nil, List.replicate_succ, List.replicate_zero, List.cons_append, List.nil_append, List.set_cons_succ, List.set_cons_zero, List.getElem?_cons_succ, List.getElem?_cons_zero, Option.some.injEq, PyData.int.injEq, PyData.bool.injEq, PyData.tuple.injEq, PyData.list.injEq, DV.dat.injEq, DV.own.injEq, exists_eq_left', exists_eq_left, exists_eq_right, exists_eq_right', exists_and_left, List.cons.injEq, and_true, true_and, atI0, atI1, atI2, atI3, atI4, atI5, Nat.sub_self, Nat.reduceSub, Nat.reduceAdd, Nat.reduceLT, if_true, if_false, Bool.false_eq_true, ↓reduceIte, Nat.zero_add, y_eqI, y_neI, y_neB, y_eqB, y_eqS, y_neS, y_ltI, y_gtI, y_leI, y_geI, y_inR, y_notInR, y_eqR, y_neR, y_lenR, y_tupR, row_tup, row_lst, tup_lst, lst_tup, false_and, and_false, exists_false, false_or, or_false, exists_const, atI_map, Option.map_some, decide_true, decide_false, Bool.not_true, Bool.not_false, eq_self, y_isB, DV.scr.injEq, x_chain, x_tRg, x_parEL, x_parLE, x_parLL, x_gLs, Nat.add_zero]
    refine ⟨Nat.zero_le _, ?_⟩
    have hle : (lotsM row (j + 1)).length ≤ 1000 := h3 (j + 1) (by omega)
    refine forR_inv (fun r2 δ m2 => m2 = m ∧ ∃ (acc : List Row) (z5 : Option DV), δ = [some (.dat (.list (intsD row))), some (.dat (.int k)), some (.dat (.list ((lotsM row j).map rowD))), some (.dat (.int x)), some (.own (acc.map rowD)), z5, none] ∧ acc ++ r2.flatMap (extM row) = lotsM row (j + 1) ∧ ∀ x ∈ r2, x ∈ lotsM row j) _ _ _ ⟨rfl, [], z5, rfl, rfl, fun _ h => h⟩ (fun lot r2 δ m2 hx hI N2 hN2 => ?_) fun δ m2 hI => ?_
    · obtain ⟨rfl, acc, z5, rfl, hacc, hr2⟩ := hI
      have hlot : lot.length = j := lots_len row j lot (hr2 lot (List.mem_cons_self))
      rw [List.flatMap_cons, ← List.append_assoc] at hacc
      simp only [x_var0, x_varS, x_own0, x_ownS, x_ixT, x_ixL, x_addI, x_addT, x_addL, x_gI, x_gIC, x_neg, x_abs, x_intI, x_intB, x_lenT, x_lenL, x_tupL, x_tupT, x_rep, x_seq, x_next, x_set, x_setL, x_par, x_asg, x_drop, x_app, x_ext, x_ret, x_retN, x_if, x_frz, x_for, x_bk, x_ct, x_d1, x_d2, x_dC, x_dL, x_tup, x_and, x_or, x_not, x_ife, x_dB, x_dTr, x_dNot, x_dAnd, x_dOr, x_yes, x_aC, x_aN, x_aSz, x_aRg, x_rg1, x_rg2, x_aList, x_aSort, x_aSl, x_dSl, x_aScr, x_scrLen, x_oN, x_oS, x_rN, x_rC, x_rRl, x_call, x_callB, x_callK, x_iSeq, x_iRg1, x_iRg2, x_iEn, x_gNm, x_gTp, x_gC, x_gN, x_gL, x_comp, startD, arD, wipeD, List.map_cons, List.map_nil, List.length_cons, List.length_nil, List.replicate_succ, List.replicate_zero, List.cons_append, List.nil_append, List.set_cons_succ, List.set_cons_zero, List.getElem?_cons_succ, List.getElem?_cons_zero, Option.some.injEq, PyData.int.injEq, PyData.bool.injEq, PyData.tuple.injEq, PyData.list.injEq, DV.dat.injEq, DV.own.injEq, exists_eq_left', exists_eq_left, exists_eq_right, exists_eq_right', exists_and_left, List.cons.injEq, and_true, true_and, atI0, atI1, atI2, atI3, atI4, atI5, Nat.sub_self, Nat.reduceSub, Nat.reduceAdd, Nat.reduceLT, if_true, if_false, Bool.false_eq_true, ↓reduceIte, Nat.zero_add, y_eqI, y_neI, y_neB, y_eqB, y_eqS, y_neS, y_ltI, y_gtI, y_leI, y_geI, y_inR, y_notInR, y_eqR, y_neR, y_lenR, y_tupR, row_tup, row_lst, tup_lst, lst_tup, false_and, and_false, exists_false, false_or, or_false, exists_const, atI_map, Option.map_some, decide_true, decide_false, Bool.not_true, Bool.not_false, eq_self, y_isB, DV.scr.injEq, x_chain, x_tRg, x_parEL, x_parLE, x_parLL, x_gLs, Nat.add_zero]
      refine ⟨rfl, ?_⟩
      simp only [x_var0, x_varS, x_own0, x_ownS, x_ixT, x_ixL, x_addI, x_addT, x_addL, x_gI, x_gIC, x_neg, x_abs, x_intI, x_intB, x_lenT, x_lenL, x_tupL, x_tupT, x_rep, x_seq, x_next, x_set, x_setL, x_par, x_asg, x_drop, x_app, x_ext, x_ret, x_retN, x_if, x_frz, x_for, x_bk, x_ct, x_d1, x_d2, x_dC, x_dL, x_tup, x_and, x_or, x_not, x_ife, x_dB, x_dTr, x_dNot, x_dAnd, x_dOr, x_yes, x_aC, x_aN, x_aSz, x_aRg, x_rg1, x_rg2, x_aList, x_aSort, x_aSl, x_dSl, x_aScr, x_scrLen, x_oN, x_oS, x_rN, x_rC, x_rRl, x_call, x_callB, x_callK, x_iSeq, x_iRg1, x_iRg2, x_iEn, x_gNm, x_gTp, x_gC, x_gN, x_gL, x_comp, startD, arD, wipeD, List.map_cons, List.map_nil, List.length_cons, List.length_nil, List.replicate_succ, List.replicate_zero, List.cons_append, List.nil_append, List.set_cons_succ, List.set_cons_zero, List.getElem?_cons_succ, List.getElem?_cons_zero, Option.some.injEq, PyData.int.injEq, PyData.bool.injEq, PyData.tuple.injEq, PyData.list.injEq, DV.dat.injEq, DV.own.injEq, exists_eq_left', exists_eq_left, exists_eq_right, exists_eq_right', exists_and_left, List.cons.injEq, and_true, true_and, atI0, atI1, atI2, atI3, atI4, atI5, Nat.sub_self, Nat.reduceSub, Nat.reduceAdd, Nat.reduceLT, if_true, if_false, Bool.false_eq_true, ↓reduceIte, Nat.zero_add, y_eqI, y_neI, y_neB, y_eqB, y_eqS, y_neS, y_ltI, y_gtI, y_leI, y_geI, y_inR, y_notInR, y_eqR, y_neR, y_lenR, y_tupR, row_tup, row_lst, tup_lst, lst_tup, false_and, and_false, exists_false, false_or, or_false, exists_const, atI_map, Option.map_some, decide_true, decide_false, Bool.not_true, Bool.not_false, eq_self, y_isB, DV.scr.injEq, x_chain, x_tRg, x_parEL, x_parLE, x_parLL, x_gLs, Nat.add_zero]
      have hlen : (acc ++ extM row lot).length ≤ 1000 := by
        refine Nat.le_trans ?_ hle
        rw [← hacc]; simp
      refine ⟨small _ (by rw [intsD, List.length_map]; omega), ?_⟩
      refine compR_map (mayM lot) (fun o => rowD (lot ++ [o])) row _ (fun o ho A B ha hb => ?_) ?_
      · simp only [x_var0, x_varS, x_own0, x_ownS, x_ixT, x_ixL, x_addI, x_addT, x_addL, x_gI, x_gIC, x_neg, x_abs, x_intI, x_intB, x_lenT, x_lenL, x_tupL, x_tupT, x_rep, x_seq, x_next, x_set, x_setL, x_par, x_asg, x_drop, x_app, x_ext, x_ret, x_retN, x_if, x_frz, x_for, x_bk, x_ct, x_d1, x_d2, x_dC, x_dL, x_tup, x_and, x_or, x_not, x_ife, x_dB, x_dTr, x_dNot, x_dAnd, x_dOr, x_yes, x_aC, x_aN, x_aSz, x_aRg, x_rg1, x_rg2, x_aList, x_aSort, x_aSl, x_dSl, x_aScr, x_scrLen, x_oN, x_oS, x_rN, x_rC, x_rRl, x_call, x_callB, x_callK, x_iSeq, x_iRg1, x_iRg2, x_iEn, x_gNm, x_gTp, x_gC, x_gN, x_gL, x_comp, startD, arD, wipeD, List.map_cons, List.map_nil, List.length_cons, List.length_nil, List.replicate_succ, List.replicate_zero, List.cons_append, List.nil_append, List.set_cons_succ, List.set_cons_zero, List.getElem?_cons_succ, List.getElem?_cons_zero, Option.some.injEq, PyData.int.injEq, PyData.bool.injEq, PyData.tuple.injEq, PyData.list.injEq, DV.dat.injEq, DV.own.injEq, exists_eq_left', exists_eq_left, exists_eq_right, exists_eq_right', exists_and_left, List.cons.injEq, and_true, true_and, atI0, atI1, atI2, atI3, atI4, atI5, Nat.sub_self, Nat.reduceSub, Nat.reduceAdd, Nat.reduceLT, if_true, if_false, Bool.false_eq_true, ↓reduceIte, Nat.zero_add, y_eqI, y_neI, y_neB, y_eqB, y_eqS, y_neS, y_ltI, y_gtI, y_leI, y_geI, y_inR, y_notInR, y_eqR, y_neR, y_lenR, y_tupR, row_tup, row_lst, tup_lst, lst_tup, false_and, and_false, exists_false, false_or, or_false, exists_const, atI_map, Option.map_some, decide_true, decide_false, Bool.not_true, Bool.not_false, eq_self, y_isB, DV.scr.injEq, x_chain, x_tRg, x_parEL, x_parLE, x_parLL, x_gLs, Nat.add_zero]
        refine ⟨Nat.zero_le _, ?_⟩
        rw [y_eqRn]
        simp only [x_var0, x_varS, x_own0, x_ownS, x_ixT, x_ixL, x_addI, x_addT, x_addL, x_gI, x_gIC, x_neg, x_abs, x_intI, x_intB, x_lenT, x_lenL, x_tupL, x_tupT, x_rep, x_seq, x_next, x_set, x_setL, x_par, x_asg, x_drop, x_app, x_ext, x_ret, x_retN, x_if, x_frz, x_for, x_bk, x_ct, x_d1, x_d2, x_dC, x_dL, x_tup, x_and, x_or, x_not, x_ife, x_dB, x_dTr, x_dNot, x_dAnd, x_dOr, x_yes, x_aC, x_aN, x_aSz, x_aRg, x_rg1, x_rg2, x_aList, x_aSort, x_aSl, x_dSl, x_aScr, x_scrLen, x_oN, x_oS, x_rN, x_rC, x_rRl, x_call, x_callB, x_callK, x_iSeq, x_iRg1, x_iRg2, x_iEn, x_gNm, x_gTp, x_gC, x_gN, x_gL, x_comp, startD, arD, wipeD, List.map_cons, List.map_nil, List.length_cons, List.length_nil, List.replicate_succ, List.replicate_zero, List.cons_append, List.nil_append, List.set_cons_succ, List.set_cons_zero, List.getElem?_cons_succ, List.getElem?_cons_zero, Option.some.injEq, PyData.int.injEq, PyData.bool.injEq, PyData.tuple.injEq, PyData.list.injEq, DV.dat.injEq, DV.own.injEq, exists_eq_left', exists_eq_left, exists_eq_right, exists_eq_right', exists_and_left, List.cons.injEq, and_true, true_and, atI0, atI1, atI2, atI3, atI4, atI5, Nat.sub_self, Nat.reduceSub, Nat.reduceAdd, Nat.reduceLT, if_true, if_false, Bool.false_eq_true, ↓reduceIte, Nat.zero_add, y_eqI, y_neI, y_neB, y_eqB, y_eqS, y_neS, y_ltI, y_gtI, y_leI, y_geI, y_inR, y_notInR, y_eqR, y_neR, y_lenR, y_tupR, row_tup, row_lst, tup_lst, lst_tup, false_and, and_false, exists_false, false_or, or_false, exists_const, atI_map, Option.map_some, decide_true, decide_false, Bool.not_true, Bool.not_false, eq_self, y_isB, DV.scr.injEq, x_chain, x_tRg, x_parEL, x_parLE, x_parLL, x_gLs, Nat.add_zero]
        have hs : ∀ {B : Prop}, A (rowD (lot ++ [o])) m2 → 1 ≤ sizeLine ∧ gAdd (rowD lot) (.tuple [.int o]) fun d => A d m2 := fun h => ⟨small _ (by decide), row_add (by omega) h⟩
        refine ifc (fun c => hs (B := True) (ha ?_)) fun c => row_last (of_decide_eq_false c) ?_
        · rw [mayM, c]; rfl
        · simp only [x_var0, x_varS, x_own0, x_ownS, x_ixT, x_ixL, x_addI, x_addT, x_addL, x_gI, x_gIC, x_neg, x_abs, x_intI, x_intB, x_lenT, x_lenL, x_tupL, x_tupT, x_rep, x_seq, x_next, x_set, x_setL, x_par, x_asg, x_drop, x_app, x_ext, x_ret, x_retN, x_if, x_frz, x_for, x_bk, x_ct, x_d1, x_d2, x_dC, x_dL, x_tup, x_and, x_or, x_not, x_ife, x_dB, x_dTr, x_dNot, x_dAnd, x_dOr, x_yes, x_aC, x_aN, x_aSz, x_aRg, x_rg1, x_rg2, x_aList, x_aSort, x_aSl, x_dSl, x_aScr, x_scrLen, x_oN, x_oS, x_rN, x_rC, x_rRl, x_call, x_callB, x_callK, x_iSeq, x_iRg1, x_iRg2, x_iEn, x_gNm, x_gTp, x_gC, x_gN, x_gL, x_comp, startD, arD, wipeD, List.map_cons, List.map_nil, List.length_cons, List.length_nil, List.replicate_succ, List.replicate_zero, List.cons_append, List.nil_append, List.set_cons_succ, List.set_cons_zero, List.getElem?_cons_succ, List.getElem?_cons_zero, Option.some.injEq, PyData.int.injEq, PyData.bool.injEq, PyData.tuple.injEq, PyData.list.injEq, DV.dat.injEq, DV.own.injEq, exists_eq_left', exists_eq_left, exists_eq_right, exists_eq_right', exists_and_left, List.cons.injEq, and_true, true_and, atI0, atI1, atI2, atI3, atI4, atI5, Nat.sub_self, Nat.reduceSub, Nat.reduceAdd, Nat.reduceLT, if_true, if_false, Bool.false_eq_true, ↓reduceIte, Nat.zero_add, y_eqI, y_neI, y_neB, y_eqB, y_eqS, y_neS, y_ltI, y_gtI, y_leI, y_geI, y_inR, y_notInR, y_eqR, y_neR, y_lenR, y_tupR, row_tup, row_lst, tup_lst, lst_tup, false_and, and_false, exists_false, false_or, or_false, exists_const, atI_map, Option.map_some, decide_true, decide_false, Bool.not_true, Bool.not_false, eq_self, y_isB, DV.scr.injEq, x_chain, x_tRg, x_parEL, x_parLE, x_parLL, x_gLs, Nat.add_zero]
          refine ifc (fun d => hs (B := True) (ha ?_)) fun d => hb ?_
          · rw [mayM, d, Bool.or_true]
          · rw [mayM, c, d]; rfl
      · rw [List.nil_append]
        have e : (row.filter (mayM lot)).map (fun o => rowD (lot ++ [o])) = (extM row lot).map rowD := by rw [extM, List.map_map]; rfl
        rw [e, ← List.map_append]
        exact ⟨small _ (by rw [← List.length_append, ← List.map_append, List.length_map]; omega), hN2 _ _ ⟨rfl, acc ++ extM row lot, _, rfl, hacc, fun z hz => hr2 z (List.mem_cons_of_mem _ hz)⟩⟩
    · obtain ⟨rfl, acc, z5, rfl, hacc, hr2⟩ := hI
      simp only [x_var0, x_varS, x_own0, x_ownS, x_ixT, x_ixL, x_addI, x_addT, x_addL, x_gI, x_gIC, x_neg, x_abs, x_intI, x_intB, x_lenT, x_lenL, x_tupL, x_tupT, x_rep, x_seq, x_next, x_set, x_setL, x_par, x_asg, x_drop, x_app, x_ext, x_ret, x_retN, x_if, x_frz, x_for, x_bk, x_ct, x_d1, x_d2, x_dC, x_dL, x_tup, x_and, x_or, x_not, x_ife, x_dB, x_dTr, x_dNot, x_dAnd, x_dOr, x_yes, x_aC, x_aN, x_aSz, x_aRg, x_rg1, x_rg2, x_aList, x_aSort, x_aSl, x_dSl, x_aScr, x_scrLen, x_oN, x_oS, x_rN, x_rC, x_rRl, x_call, x_callB, x_callK, x_iSeq, x_iRg1, x_iRg2, x_iEn, x_gNm, x_gTp, x_gC, x_gN, x_gL, x_comp, startD, arD, wipeD, List.map_cons, List.map_nil, List.length_cons, List.length_nil, List.replicate_succ, List.replicate_zero, List.cons_append, List.nil_append, List.set_cons_succ, List.set_cons_zero, List.getElem?_cons_succ, List.getElem?_cons_zero, Option.some.injEq, PyData.int.injEq, PyData.bool.injEq, PyData.tuple.injEq, PyData.list.injEq, DV.dat.injEq, DV.own.injEq, exists_eq_left', exists_eq_left, exists_eq_right, exists_eq_right', exists_and_left, List.cons.injEq, and_true, true_and, atI0, atI1, atI2, atI3, atI4, atI5, Nat.sub_self, Nat.reduceSub, Nat.reduceAdd, Nat.reduceLT, if_true, if_false, Bool.false_eq_true, ↓reduceIte, Nat.zero_add, y_eqI, y_neI, y_neB, y_eqB, y_eqS, y_neS, y_ltI, y_gtI, y_leI, y_geI, y_inR, y_notInR, y_eqR, y_neR, y_lenR, y_tupR, row_tup, row_lst, tup_lst, lst_tup, false_and, and_false, exists_false, false_or, or_false, exists_const, atI_map, Option.map_some, decide_true, decide_false, Bool.not_true, Bool.not_false, eq_self, y_isB, DV.scr.injEq, x_chain, x_tRg, x_parEL, x_parLE, x_parLL, x_gLs, Nat.add_zero]
      rw [List.flatMap_nil, List.append_nil] at hacc
      rw [hacc]
      exact hN _ _ ⟨rfl, j + 1, _, _, _, rfl, by omega⟩
  · obtain ⟨rfl, j, z3, z4, z5, rfl, hj⟩ := hI
    simp only [x_var0, x_varS, x_own0, x_ownS, x_ixT, x_ixL, x_addI, x_addT, x_addL, x_gI, x_gIC, x_neg, x_abs, x_intI, x_intB, x_lenT, x_lenL, x_tupL, x_tupT, x_rep, x_seq, x_next, x_set, x_setL, x_par, x_asg, x_drop, x_app, x_ext, x_ret, x_retN, x_if, x_frz, x_for, x_bk, x_ct, x_d1, x_d2, x_dC, x_dL, x_tup, x_and, x_or, x_not, x_ife, x_dB, x_dTr, x_dNot, x_dAnd, x_dOr, x_yes, x_aC, x_aN, x_aSz, x_aRg, x_rg1, x_rg2, x_aList, x_aSort, x_aSl, x_dSl, x_aScr, x_scrLen, x_oN, x_oS, x_rN, x_rC, x_rRl, x_call, x_callB, x_callK, x_iSeq, x_iRg1, x_iRg2, x_iEn, x_gNm, x_gTp, x_gC, x_gN, x_gL, x_comp, startD, arD, wipeD, List.map_cons, List.map_nil, List.length_cons, List.length_nil, List.replicate_succ, List.replicate_zero, List.cons_append, List.nil_append, List.set_cons_succ, List.set_cons_zero, List.getElem?_cons_succ, List.getElem?_cons_zero, Option.some.injEq, PyData.int.injEq, PyData.bool.injEq, PyData.tuple.injEq, PyData.list.injEq, DV.dat.injEq, DV.own.injEq, exists_eq_left', exists_eq_left, exists_eq_right, exists_eq_right', exists_and_left, List.cons.injEq, and_true, true_and, atI0, atI1, atI2, atI3, atI4, atI5, Nat.sub_self, Nat.reduceSub, Nat.reduceAdd, Nat.reduceLT, if_true, if_false, Bool.false_eq_true, ↓reduceIte, Nat.zero_add, y_eqI, y_neI, y_neB, y_eqB, y_eqS, y_neS, y_ltI, y_gtI, y_leI, y_geI, y_inR, y_notInR, y_eqR, y_neR, y_lenR, y_tupR, row_tup, row_lst, tup_lst, lst_tup, false_and, and_false, exists_false, false_or, or_false, exists_const, atI_map, Option.map_some, decide_true, decide_false, Bool.not_true, Bool.not_false, eq_self, y_isB, DV.scr.injEq, x_chain, x_tRg, x_parEL, x_parLE, x_parLL, x_gLs, Nat.add_zero]
    have : j = k := by simpa using hj
    rw [this] at *
    exact hP
abbrev St := Row × Row
def stD (s : St) : D := .tuple [rowD s.1, rowD s.2]
theorem enc_st : Enc 2 stD := enc_pair enc_row enc_row
structure Sky where
  m : Int
  b : Row
  st : List St
def skyD (s : Sky) : D := .tuple [.int s.m, rowD s.b, .tuple (s.st.map stD)]
def stormM (w : Str) (lot : Row) : St := (if w = "forgetting" then [] else lot, if w = "forgetting" ∨ w = "falling" then lot else [])
def knownM (w : Str) (m k : Nat) : Sky := ⟨m, if w = "belled" then rng m else [], (lotsM (rng m) k).map (stormM w)⟩
def fStormBy : Fn := fun as n P => ∃ (w : Str) (lot : Row), as = [.d (.str w), .d (rowD lot)] ∧ P (stD (stormM w lot)) n
theorem hf_storm_by (as : List Ar) (n : Nat) (P : D → Nat → Prop) (hl : as.length = 2) (h : fStormBy as n P) : rd_storm_by ⟨fun _ m => P .none m, P, fun _ _ => False, fun _ _ => False⟩ (startD ["word", "choice"] as) n := by
  obtain ⟨w, lot, rfl, hP⟩ := h
  simp only [rd_storm_by, x_var0, x_varS, x_own0, x_ownS, x_ixT, x_ixL, x_addI, x_addT, x_addL, x_gI, x_gIC, x_neg, x_abs, x_intI, x_intB, x_lenT, x_lenL, x_tupL, x_tupT, x_rep, x_seq, x_next, x_set, x_setL, x_par, x_asg, x_drop, x_app, x_ext, x_ret, x_retN, x_if, x_frz, x_for, x_bk, x_ct, x_d1, x_d2, x_dC, x_dL, x_tup, x_and, x_or, x_not, x_ife, x_dB, x_dTr, x_dNot, x_dAnd, x_dOr, x_yes, x_aC, x_aN, x_aSz, x_aRg, x_rg1, x_rg2, x_aList, x_aSort, x_aSl, x_dSl, x_aScr, x_scrLen, x_oN, x_oS, x_rN, x_rC, x_rRl, x_call, x_callB, x_callK, x_iSeq, x_iRg1, x_iRg2, x_iEn, x_gNm, x_gTp, x_gC, x_gN, x_gL, x_comp, startD, arD, wipeD, List.map_cons, List.map_nil, List.length_cons, List.length_nil, List.replicate_succ, List.replicate_zero, List.cons_append, List.nil_append, List.set_cons_succ, List.set_cons_zero, List.getElem?_cons_succ, List.getElem?_cons_zero, Option.some.injEq, PyData.int.injEq, PyData.bool.injEq, PyData.tuple.injEq, PyData.list.injEq, DV.dat.injEq, DV.own.injEq, exists_eq_left', exists_eq_left, exists_eq_right, exists_eq_right', exists_and_left, List.cons.injEq, and_true, true_and, atI0, atI1, atI2, atI3, atI4, atI5, Nat.sub_self, Nat.reduceSub, Nat.reduceAdd, Nat.reduceLT, if_true, if_false, Bool.false_eq_true, ↓reduceIte, Nat.zero_add, y_eqI, y_neI, y_neB, y_eqB, y_eqS, y_neS, y_ltI, y_gtI, y_leI, y_geI, y_inR, y_notInR, y_eqR, y_neR, y_lenR, y_tupR, row_tup, row_lst, tup_lst, lst_tup, false_and, and_false, exists_false, false_or, or_false, exists_const, atI_map, Option.map_some, decide_true, decide_false, Bool.not_true, Bool.not_false, eq_self, y_isB, DV.scr.injEq, x_chain, x_tRg, x_parEL, x_parLE, x_parLL, x_gLs, Nat.add_zero]
  refine ifc (fun c => ?_) fun c => ?_
  · have e : w = "forgetting" := of_decide_eq_true c
    rw [stormM, if_pos e, if_pos (.inl e)] at hP
    exact ⟨Nat.zero_le _, small _ (by decide), hP⟩
  · have e : w ≠ "forgetting" := of_decide_eq_false c
    rw [stormM, if_neg e] at hP
    refine ifc (fun d => ?_) fun d => ?_
    · rw [if_pos (.inr (of_decide_eq_true d))] at hP
      exact ⟨small _ (by decide), hP⟩
    · rw [if_neg (fun z => z.elim e (of_decide_eq_false d))] at hP
      exact ⟨Nat.zero_le _, small _ (by decide), hP⟩
/-- the words' skies that are asked for -/
def words4 : List Str := ["stopping", "forgetting", "falling", "belled"]
def KOk (m k : Nat) : Prop := 1 ≤ m ∧ m ≤ 6 ∧ k ≤ m
theorem word_sh {w : Str} (h : w ∈ words4) : SeqAt.shaped (.str w) = true := by
  have q : ∀ w ∈ words4, SeqAt.shaped (.str w) = true := by decide +kernel
  exact q w h
theorem y_inS {w : Str} {l : List Str} {P : D → Prop} (h : SeqAt.shaped (.str w) = true) (h2 : SeqAt.shaped (.tuple (l.map PyData.str)) = true) (hP : P (.bool (decide (w ∈ l)))) : gIn (.str w) (.tuple (l.map PyData.str)) P :=
  ⟨h, h2, _, dIn_tup eqe_str w l, hP⟩
theorem lots_small : ∀ m ≤ 6, ∀ k ≤ m, (lotsM (rng (m : Nat)) k).length ≤ 20 := by decide +kernel
def fKnown : FnX := fun as n px P => ∃ (w : Str) (m k : Nat), as = [.d (.str w), .d (.int m), .d (.int k)] ∧ KOk m k ∧ if 10 < (lotsM (rng m) k).length then px "TooMany" (.int 10) n else P (skyD (knownM w m k)) n
theorem hf_known_sky (as : List Ar) (n : Nat) (px : Str → D → Nat → Prop) (P : D → Nat → Prop) (hl : as.length = 3) (h : fKnown as n px P) : rd_known_sky fChoices fStormBy (fun nm x _ m => px nm x m) ⟨fun _ m => P .none m, P, fun _ _ => False, fun _ _ => False⟩ (startD ["word", "many", "few", "machines", "found", "choice"] as) n := by
  obtain ⟨w, m, k, rfl, hk, hP⟩ := h
  obtain ⟨k1, k2, k3⟩ := hk
  have hlen : ∀ j ≤ k, (lotsM (rng m) j).length ≤ 20 := fun j hj => lots_small m k2 j (Nat.le_trans hj k3)
  simp only [rd_known_sky, x_var0, x_varS, x_own0, x_ownS, x_ixT, x_ixL, x_addI, x_addT, x_addL, x_gI, x_gIC, x_neg, x_abs, x_intI, x_intB, x_lenT, x_lenL, x_tupL, x_tupT, x_rep, x_seq, x_next, x_set, x_setL, x_par, x_asg, x_drop, x_app, x_ext, x_ret, x_retN, x_if, x_frz, x_for, x_bk, x_ct, x_d1, x_d2, x_dC, x_dL, x_tup, x_and, x_or, x_not, x_ife, x_dB, x_dTr, x_dNot, x_dAnd, x_dOr, x_yes, x_aC, x_aN, x_aSz, x_aRg, x_rg1, x_rg2, x_aList, x_aSort, x_aSl, x_dSl, x_aScr, x_scrLen, x_oN, x_oS, x_rN, x_rC, x_rRl, x_call, x_callB, x_callK, x_iSeq, x_iRg1, x_iRg2, x_iEn, x_gNm, x_gTp, x_gC, x_gN, x_gL, x_comp, startD, arD, wipeD, List.map_cons, List.map_nil, List.length_cons, List.length_nil, List.replicate_succ, List.replicate_zero, List.cons_append, List.nil_append, List.set_cons_succ, List.set_cons_zero, List.getElem?_cons_succ, List.getElem?_cons_zero, Option.some.injEq, PyData.int.injEq, PyData.bool.injEq, PyData.tuple.injEq, PyData.list.injEq, DV.dat.injEq, DV.own.injEq, exists_eq_left', exists_eq_left, exists_eq_right, exists_eq_right', exists_and_left, List.cons.injEq, and_true, true_and, atI0, atI1, atI2, atI3, atI4, atI5, Nat.sub_self, Nat.reduceSub, Nat.reduceAdd, Nat.reduceLT, if_true, if_false, Bool.false_eq_true, ↓reduceIte, Nat.zero_add, y_eqI, y_neI, y_neB, y_eqB, y_eqS, y_neS, y_ltI, y_gtI, y_leI, y_geI, y_inR, y_notInR, y_eqR, y_neR, y_lenR, y_tupR, row_tup, row_lst, tup_lst, lst_tup, false_and, and_false, exists_false, false_or, or_false, exists_const, atI_map, Option.map_some, decide_true, decide_false, Bool.not_true, Bool.not_false, eq_self, y_isB, DV.scr.injEq, x_chain, x_tRg, x_parEL, x_parLE, x_parLL, x_gLs, Nat.add_zero, x_qSeq, x_qIf, x_qRet, x_qSet, x_qIfE, x_qRaise, x_qNil, x_qCons, x_qLst, x_qTup, x_callX, x_callKX, x_try, Int.sub_zero]
  refine ⟨by unfold RgOk; omega, rng m, k, ?_, by rw [rng_len]; omega, by omega, fun j hj => Nat.le_trans (hlen j hj) (by decide), ?_⟩
  · rw [rangeD_rng]; rfl
  simp only [x_var0, x_varS, x_own0, x_ownS, x_ixT, x_ixL, x_addI, x_addT, x_addL, x_gI, x_gIC, x_neg, x_abs, x_intI, x_intB, x_lenT, x_lenL, x_tupL, x_tupT, x_rep, x_seq, x_next, x_set, x_setL, x_par, x_asg, x_drop, x_app, x_ext, x_ret, x_retN, x_if, x_frz, x_for, x_bk, x_ct, x_d1, x_d2, x_dC, x_dL, x_tup, x_and, x_or, x_not, x_ife, x_dB, x_dTr, x_dNot, x_dAnd, x_dOr, x_yes, x_aC, x_aN, x_aSz, x_aRg, x_rg1, x_rg2, x_aList, x_aSort, x_aSl, x_dSl, x_aScr, x_scrLen, x_oN, x_oS, x_rN, x_rC, x_rRl, x_call, x_callB, x_callK, x_iSeq, x_iRg1, x_iRg2, x_iEn, x_gNm, x_gTp, x_gC, x_gN, x_gL, x_comp, startD, arD, wipeD, List.map_cons, List.map_nil, List.length_cons, List.length_nil, List.replicate_succ, List.replicate_zero, List.cons_append, List.nil_append, List.set_cons_succ, List.set_cons_zero, List.getElem?_cons_succ, List.getElem?_cons_zero, Option.some.injEq, PyData.int.injEq, PyData.bool.injEq, PyData.tuple.injEq, PyData.list.injEq, DV.dat.injEq, DV.own.injEq, exists_eq_left', exists_eq_left, exists_eq_right, exists_eq_right', exists_and_left, List.cons.injEq, and_true, true_and, atI0, atI1, atI2, atI3, atI4, atI5, Nat.sub_self, Nat.reduceSub, Nat.reduceAdd, Nat.reduceLT, if_true, if_false, Bool.false_eq_true, ↓reduceIte, Nat.zero_add, y_eqI, y_neI, y_neB, y_eqB, y_eqS, y_neS, y_ltI, y_gtI, y_leI, y_geI, y_inR, y_notInR, y_eqR, y_neR, y_lenR, y_tupR, row_tup, row_lst, tup_lst, lst_tup, false_and, and_false, exists_false, false_or, or_false, exists_const, atI_map, Option.map_some, decide_true, decide_false, Bool.not_true, Bool.not_false, eq_self, y_isB, DV.scr.injEq, x_chain, x_tRg, x_parEL, x_parLE, x_parLL, x_gLs, Nat.add_zero, x_qSeq, x_qIf, x_qRet, x_qSet, x_qIfE, x_qRaise, x_qNil, x_qCons, x_qLst, x_qTup, x_callX, x_callKX, x_try, List.length_map]
  refine ifc (fun c => ?_) fun c => ?_
  · have c' : 10 < (lotsM (rng m) k).length := by have := of_decide_eq_true c; omega
    rw [if_pos c'] at hP
    exact hP
  · have c' : ¬ 10 < (lotsM (rng m) k).length := by have := of_decide_eq_false c; omega
    rw [if_neg c'] at hP
    have e1 : PyData.tuple (rangeD 0 (m : Int).toNat) = rowD (rng m) := by rw [rangeD_rng]; rfl
    have e2 : ([] : List D) ++ (lotsM (rng m) k).map (fun lot => stD (stormM w lot)) = ((lotsM (rng m) k).map (stormM w)).map stD := by rw [List.nil_append, List.map_map]; rfl
    have hz : (lotsM (rng m) k).length ≤ sizeLine := small _ (Nat.le_trans (hlen k (Nat.le_refl _)) (by decide))
    refine ifc (fun d => ⟨rfl, hz, compR_each (fun lot => stD (stormM w lot)) _ _ (fun lot _ A B ha => ?_) ⟨small _ (by decide), ?_⟩⟩) fun d => ⟨Nat.zero_le _, rfl, hz, compR_each (fun lot => stD (stormM w lot)) _ _ (fun lot _ A B ha => ?_) ⟨small _ (by decide), ?_⟩⟩
    · simp only [x_var0, x_varS, x_own0, x_ownS, x_ixT, x_ixL, x_addI, x_addT, x_addL, x_gI, x_gIC, x_neg, x_abs, x_intI, x_intB, x_lenT, x_lenL, x_tupL, x_tupT, x_rep, x_seq, x_next, x_set, x_setL, x_par, x_asg, x_drop, x_app, x_ext, x_ret, x_retN, x_if, x_frz, x_for, x_bk, x_ct, x_d1, x_d2, x_dC, x_dL, x_tup, x_and, x_or, x_not, x_ife, x_dB, x_dTr, x_dNot, x_dAnd, x_dOr, x_yes, x_aC, x_aN, x_aSz, x_aRg, x_rg1, x_rg2, x_aList, x_aSort, x_aSl, x_dSl, x_aScr, x_scrLen, x_oN, x_oS, x_rN, x_rC, x_rRl, x_call, x_callB, x_callK, x_iSeq, x_iRg1, x_iRg2, x_iEn, x_gNm, x_gTp, x_gC, x_gN, x_gL, x_comp, startD, arD, wipeD, List.map_cons, List.map_nil, List.length_cons, List.length_nil, List.replicate_succ, List.replicate_zero, List.cons_append, List.nil_append, List.set_cons_succ, List.set_cons_zero, List.getElem?_cons_succ, List.getElem?_cons_zero, Option.some.injEq, PyData.int.injEq, PyData.bool.injEq, PyData.tuple.injEq, PyData.list.injEq, DV.dat.injEq, DV.own.injEq, exists_eq_left', exists_eq_left, exists_eq_right, exists_eq_right', exists_and_left, List.cons.injEq, and_true, true_and, atI0, atI1, atI2, atI3, atI4, atI5, Nat.sub_self, Nat.reduceSub, Nat.reduceAdd, Nat.reduceLT, if_true, if_false, Bool.false_eq_true, ↓reduceIte, Nat.zero_add, y_eqI, y_neI, y_neB, y_eqB, y_eqS, y_neS, y_ltI, y_gtI, y_leI, y_geI, y_inR, y_notInR, y_eqR, y_neR, y_lenR, y_tupR, row_tup, row_lst, tup_lst, lst_tup, false_and, and_false, exists_false, false_or, or_false, exists_const, atI_map, Option.map_some, decide_true, decide_false, Bool.not_true, Bool.not_false, eq_self, y_isB, DV.scr.injEq, x_chain, x_tRg, x_parEL, x_parLE, x_parLL, x_gLs, Nat.add_zero]
      exact ⟨w, lot, rfl, ha⟩
    · rw [e1, e2]
      rw [knownM, if_pos (of_decide_eq_true d)] at hP
      exact hP
    · simp only [x_var0, x_varS, x_own0, x_ownS, x_ixT, x_ixL, x_addI, x_addT, x_addL, x_gI, x_gIC, x_neg, x_abs, x_intI, x_intB, x_lenT, x_lenL, x_tupL, x_tupT, x_rep, x_seq, x_next, x_set, x_setL, x_par, x_asg, x_drop, x_app, x_ext, x_ret, x_retN, x_if, x_frz, x_for, x_bk, x_ct, x_d1, x_d2, x_dC, x_dL, x_tup, x_and, x_or, x_not, x_ife, x_dB, x_dTr, x_dNot, x_dAnd, x_dOr, x_yes, x_aC, x_aN, x_aSz, x_aRg, x_rg1, x_rg2, x_aList, x_aSort, x_aSl, x_dSl, x_aScr, x_scrLen, x_oN, x_oS, x_rN, x_rC, x_rRl, x_call, x_callB, x_callK, x_iSeq, x_iRg1, x_iRg2, x_iEn, x_gNm, x_gTp, x_gC, x_gN, x_gL, x_comp, startD, arD, wipeD, List.map_cons, List.map_nil, List.length_cons, List.length_nil, List.replicate_succ, List.replicate_zero, List.cons_append, List.nil_append, List.set_cons_succ, List.set_cons_zero, List.getElem?_cons_succ, List.getElem?_cons_zero, Option.some.injEq, PyData.int.injEq, PyData.bool.injEq, PyData.tuple.injEq, PyData.list.injEq, DV.dat.injEq, DV.own.injEq, exists_eq_left', exists_eq_left, exists_eq_right, exists_eq_right', exists_and_left, List.cons.injEq, and_true, true_and, atI0, atI1, atI2, atI3, atI4, atI5, Nat.sub_self, Nat.reduceSub, Nat.reduceAdd, Nat.reduceLT, if_true, if_false, Bool.false_eq_true, ↓reduceIte, Nat.zero_add, y_eqI, y_neI, y_neB, y_eqB, y_eqS, y_neS, y_ltI, y_gtI, y_leI, y_geI, y_inR, y_notInR, y_eqR, y_neR, y_lenR, y_tupR, row_tup, row_lst, tup_lst, lst_tup, false_and, and_false, exists_false, false_or, or_false, exists_const, atI_map, Option.map_some, decide_true, decide_false, Bool.not_true, Bool.not_false, eq_self, y_isB, DV.scr.injEq, x_chain, x_tRg, x_parEL, x_parLE, x_parLL, x_gLs, Nat.add_zero]
      exact ⟨w, lot, rfl, ha⟩
    · rw [e2]
      rw [knownM, if_neg (of_decide_eq_false d)] at hP
      exact hP
def fKnownL : Fn := fun as n P => ∃ (w : Str) (m k : Nat), as = [.d (.str w), .d (.int m), .d (.int k)] ∧ w ∈ words4 ∧ KOk m k ∧ P (skyD (knownM w m k)) n
theorem hf_lknown (as : List Ar) (n : Nat) (P : D → Nat → Prop) (hl : as.length = 3) (h : fKnownL as n P) : rd__law_known_sky fLots ⟨fun _ m => P .none m, P, fun _ _ => False, fun _ _ => False⟩ (startD ["word", "many", "few", "some", "storms", "lot"] as) n := by
  obtain ⟨w, m, k, rfl, hw, ⟨k1, k2, k3⟩, hP⟩ := h
  have hlen : ∀ j ≤ k, (lotsM (rng m) j).length ≤ 20 := fun j hj => lots_small m k2 j (Nat.le_trans hj k3)
  have hz : (lotsM (rng m) k).length ≤ sizeLine := small _ (Nat.le_trans (hlen k (Nat.le_refl _)) (by decide))
  have hr : RgOk 0 (m : Int) := by unfold RgOk; omega
  simp only [rd__law_known_sky, x_var0, x_varS, x_own0, x_ownS, x_ixT, x_ixL, x_addI, x_addT, x_addL, x_gI, x_gIC, x_neg, x_abs, x_intI, x_intB, x_lenT, x_lenL, x_tupL, x_tupT, x_rep, x_seq, x_next, x_set, x_setL, x_par, x_asg, x_drop, x_app, x_ext, x_ret, x_retN, x_if, x_frz, x_for, x_bk, x_ct, x_d1, x_d2, x_dC, x_dL, x_tup, x_and, x_or, x_not, x_ife, x_dB, x_dTr, x_dNot, x_dAnd, x_dOr, x_yes, x_aC, x_aN, x_aSz, x_aRg, x_rg1, x_rg2, x_aList, x_aSort, x_aSl, x_dSl, x_aScr, x_scrLen, x_oN, x_oS, x_rN, x_rC, x_rRl, x_call, x_callB, x_callK, x_iSeq, x_iRg1, x_iRg2, x_iEn, x_gNm, x_gTp, x_gC, x_gN, x_gL, x_comp, startD, arD, wipeD, List.map_cons, List.map_nil, List.length_cons, List.length_nil, List.replicate_succ, List.replicate_zero, List.cons_append, List.nil_append, List.set_cons_succ, List.set_cons_zero, List.getElem?_cons_succ, List.getElem?_cons_zero, Option.some.injEq, PyData.int.injEq, PyData.bool.injEq, PyData.tuple.injEq, PyData.list.injEq, DV.dat.injEq, DV.own.injEq, exists_eq_left', exists_eq_left, exists_eq_right, exists_eq_right', exists_and_left, List.cons.injEq, and_true, true_and, atI0, atI1, atI2, atI3, atI4, atI5, Nat.sub_self, Nat.reduceSub, Nat.reduceAdd, Nat.reduceLT, if_true, if_false, Bool.false_eq_true, ↓reduceIte, Nat.zero_add, y_eqI, y_neI, y_neB, y_eqB, y_eqS, y_neS, y_ltI, y_gtI, y_leI, y_geI, y_inR, y_notInR, y_eqR, y_neR, y_lenR, y_tupR, row_tup, row_lst, tup_lst, lst_tup, false_and, and_false, exists_false, false_or, or_false, exists_const, atI_map, Option.map_some, decide_true, decide_false, Bool.not_true, Bool.not_false, eq_self, y_isB, DV.scr.injEq, x_chain, x_tRg, x_parEL, x_parLE, x_parLL, x_gLs, Nat.add_zero, Int.sub_zero]
  refine ⟨hr, rng m, k, ?_, by rw [rng_len]; omega, by omega, fun j hj => Nat.le_trans (hlen j hj) (by decide), ?_⟩
  · rw [rangeD_rng]
  simp only [x_var0, x_varS, x_own0, x_ownS, x_ixT, x_ixL, x_addI, x_addT, x_addL, x_gI, x_gIC, x_neg, x_abs, x_intI, x_intB, x_lenT, x_lenL, x_tupL, x_tupT, x_rep, x_seq, x_next, x_set, x_setL, x_par, x_asg, x_drop, x_app, x_ext, x_ret, x_retN, x_if, x_frz, x_for, x_bk, x_ct, x_d1, x_d2, x_dC, x_dL, x_tup, x_and, x_or, x_not, x_ife, x_dB, x_dTr, x_dNot, x_dAnd, x_dOr, x_yes, x_aC, x_aN, x_aSz, x_aRg, x_rg1, x_rg2, x_aList, x_aSort, x_aSl, x_dSl, x_aScr, x_scrLen, x_oN, x_oS, x_rN, x_rC, x_rRl, x_call, x_callB, x_callK, x_iSeq, x_iRg1, x_iRg2, x_iEn, x_gNm, x_gTp, x_gC, x_gN, x_gL, x_comp, startD, arD, wipeD, List.map_cons, List.map_nil, List.length_cons, List.length_nil, List.replicate_succ, List.replicate_zero, List.cons_append, List.nil_append, List.set_cons_succ, List.set_cons_zero, List.getElem?_cons_succ, List.getElem?_cons_zero, Option.some.injEq, PyData.int.injEq, PyData.bool.injEq, PyData.tuple.injEq, PyData.list.injEq, DV.dat.injEq, DV.own.injEq, exists_eq_left', exists_eq_left, exists_eq_right, exists_eq_right', exists_and_left, List.cons.injEq, and_true, true_and, atI0, atI1, atI2, atI3, atI4, atI5, Nat.sub_self, Nat.reduceSub, Nat.reduceAdd, Nat.reduceLT, if_true, if_false, Bool.false_eq_true, ↓reduceIte, Nat.zero_add, y_eqI, y_neI, y_neB, y_eqB, y_eqS, y_neS, y_ltI, y_gtI, y_leI, y_geI, y_inR, y_notInR, y_eqR, y_neR, y_lenR, y_tupR, row_tup, row_lst, tup_lst, lst_tup, false_and, and_false, exists_false, false_or, or_false, exists_const, atI_map, Option.map_some, decide_true, decide_false, Bool.not_true, Bool.not_false, eq_self, y_isB, DV.scr.injEq, x_chain, x_tRg, x_parEL, x_parLE, x_parLL, x_gLs, Nat.add_zero, List.length_map]
  have e1 : PyData.tuple (rangeD 0 (m : Int).toNat) = rowD (rng m) := by rw [rangeD_rng]; rfl
  have e2 : ([] : List D) ++ (lotsM (rng m) k).map (fun lot => stD (stormM w lot)) = ((lotsM (rng m) k).map (stormM w)).map stD := by rw [List.nil_append, List.map_map]; rfl
  refine ⟨rfl, hz, compR_each (fun lot => stD (stormM w lot)) _ _ (fun lot _ A B ha => ?_) ?_⟩
  · simp only [x_var0, x_varS, x_own0, x_ownS, x_ixT, x_ixL, x_addI, x_addT, x_addL, x_gI, x_gIC, x_neg, x_abs, x_intI, x_intB, x_lenT, x_lenL, x_tupL, x_tupT, x_rep, x_seq, x_next, x_set, x_setL, x_par, x_asg, x_drop, x_app, x_ext, x_ret, x_retN, x_if, x_frz, x_for, x_bk, x_ct, x_d1, x_d2, x_dC, x_dL, x_tup, x_and, x_or, x_not, x_ife, x_dB, x_dTr, x_dNot, x_dAnd, x_dOr, x_yes, x_aC, x_aN, x_aSz, x_aRg, x_rg1, x_rg2, x_aList, x_aSort, x_aSl, x_dSl, x_aScr, x_scrLen, x_oN, x_oS, x_rN, x_rC, x_rRl, x_call, x_callB, x_callK, x_iSeq, x_iRg1, x_iRg2, x_iEn, x_gNm, x_gTp, x_gC, x_gN, x_gL, x_comp, startD, arD, wipeD, List.map_cons, List.map_nil, List.length_cons, List.length_nil, List.replicate_succ, List.replicate_zero, List.cons_append, List.nil_append, List.set_cons_succ, List.set_cons_zero, List.getElem?_cons_succ, List.getElem?_cons_zero, Option.some.injEq, PyData.int.injEq, PyData.bool.injEq, PyData.tuple.injEq, PyData.list.injEq, DV.dat.injEq, DV.own.injEq, exists_eq_left', exists_eq_left, exists_eq_right, exists_eq_right', exists_and_left, List.cons.injEq, and_true, true_and, atI0, atI1, atI2, atI3, atI4, atI5, Nat.sub_self, Nat.reduceSub, Nat.reduceAdd, Nat.reduceLT, if_true, if_false, Bool.false_eq_true, ↓reduceIte, Nat.zero_add, y_eqI, y_neI, y_neB, y_eqB, y_eqS, y_neS, y_ltI, y_gtI, y_leI, y_geI, y_inR, y_notInR, y_eqR, y_neR, y_lenR, y_tupR, row_tup, row_lst, tup_lst, lst_tup, false_and, and_false, exists_false, false_or, or_false, exists_const, atI_map, Option.map_some, decide_true, decide_false, Bool.not_true, Bool.not_false, eq_self, y_isB, DV.scr.injEq, x_chain, x_tRg, x_parEL, x_parLE, x_parLL, x_gLs, Nat.add_zero]
    have hin : ∀ {P : D → Prop}, P (.bool (decide (w ∈ (["forgetting", "falling"] : List Str)))) → 2 ≤ sizeLine ∧ gIn (.str w) (.tuple [.str "forgetting", .str "falling"]) P := fun h => ⟨small _ (by decide), y_inS (l := ["forgetting", "falling"]) (word_sh hw) (by decide +kernel) h⟩
    have e3 : decide (w ∈ (["forgetting", "falling"] : List Str)) = decide (w = "forgetting" ∨ w = "falling") := by simp
    have fin : ∀ {Z : D}, stD (stormM w lot) = Z → A Z n := fun h => h ▸ ha
    refine ifc (fun c => hin ?_) fun c => ⟨Nat.zero_le _, hin ?_⟩
    · have c' : ¬ w = "forgetting" := by simpa using c
      rw [e3]
      refine ⟨_, rfl, ifc (fun d => ⟨small _ (by decide), fin ?_⟩) fun d => ⟨Nat.zero_le _, small _ (by decide), fin ?_⟩⟩
      · rw [stormM, if_neg c', if_pos (of_decide_eq_true d)]; rfl
      · rw [stormM, if_neg c', if_neg (of_decide_eq_false d)]; rfl
    · have c' : w = "forgetting" := by simpa using c
      rw [e3]
      refine ⟨_, rfl, ifc (fun d => ⟨small _ (by decide), fin ?_⟩) fun d => ⟨Nat.zero_le _, small _ (by decide), fin ?_⟩⟩
      · rw [stormM, if_pos c', if_pos (of_decide_eq_true d)]; rfl
      · rw [stormM, if_pos c', if_neg (of_decide_eq_false d)]; rfl
  · rw [e1, e2]
    refine ifc (fun d => ⟨hr, small _ (by decide), ?_⟩) fun d => ⟨Nat.zero_le _, small _ (by decide), ?_⟩
    · rw [knownM, if_pos (of_decide_eq_true d)] at hP
      exact hP
    · rw [knownM, if_neg (of_decide_eq_false d)] at hP
      exact hP
def toldM (w : Str) (m k : Nat) : D := if 10 < (lotsM (rng m) k).length then .list [.str "many", .int 10, .bool true] else .list [.str "sky", skyD (knownM w m k)]
def fTold : Fn := fun as n P => ∃ (w : Str) (m k : Nat) (b : Bool), as = [.d (.str w), .d (.int m), .d (.int k), .d (.bool b)] ∧ KOk m k ∧ P (toldM w m k) n
theorem hf_told (as : List Ar) (n : Nat) (P : D → Nat → Prop) (hl : as.length = 4) (h : fTold as n P) : rd__law_told fKnown ⟨fun _ m => P .none m, P, fun _ _ => False, fun _ _ => False⟩ (startD ["word", "many", "few", "is_named", "raised"] as) n := by
  obtain ⟨w, m, k, b, rfl, hk, hP⟩ := h
  simp only [rd__law_told, x_var0, x_varS, x_own0, x_ownS, x_ixT, x_ixL, x_addI, x_addT, x_addL, x_gI, x_gIC, x_neg, x_abs, x_intI, x_intB, x_lenT, x_lenL, x_tupL, x_tupT, x_rep, x_seq, x_next, x_set, x_setL, x_par, x_asg, x_drop, x_app, x_ext, x_ret, x_retN, x_if, x_frz, x_for, x_bk, x_ct, x_d1, x_d2, x_dC, x_dL, x_tup, x_and, x_or, x_not, x_ife, x_dB, x_dTr, x_dNot, x_dAnd, x_dOr, x_yes, x_aC, x_aN, x_aSz, x_aRg, x_rg1, x_rg2, x_aList, x_aSort, x_aSl, x_dSl, x_aScr, x_scrLen, x_oN, x_oS, x_rN, x_rC, x_rRl, x_call, x_callB, x_callK, x_iSeq, x_iRg1, x_iRg2, x_iEn, x_gNm, x_gTp, x_gC, x_gN, x_gL, x_comp, startD, arD, wipeD, List.map_cons, List.map_nil, List.length_cons, List.length_nil, List.replicate_succ, List.replicate_zero, List.cons_append, List.nil_append, List.set_cons_succ, List.set_cons_zero, List.getElem?_cons_succ, List.getElem?_cons_zero, Option.some.injEq, PyData.int.injEq, PyData.bool.injEq, PyData.tuple.injEq, PyData.list.injEq, DV.dat.injEq, DV.own.injEq, exists_eq_left', exists_eq_left, exists_eq_right, exists_eq_right', exists_and_left, List.cons.injEq, and_true, true_and, atI0, atI1, atI2, atI3, atI4, atI5, Nat.sub_self, Nat.reduceSub, Nat.reduceAdd, Nat.reduceLT, if_true, if_false, Bool.false_eq_true, ↓reduceIte, Nat.zero_add, y_eqI, y_neI, y_neB, y_eqB, y_eqS, y_neS, y_ltI, y_gtI, y_leI, y_geI, y_inR, y_notInR, y_eqR, y_neR, y_lenR, y_tupR, row_tup, row_lst, tup_lst, lst_tup, false_and, and_false, exists_false, false_or, or_false, exists_const, atI_map, Option.map_some, decide_true, decide_false, Bool.not_true, Bool.not_false, eq_self, y_isB, DV.scr.injEq, x_chain, x_tRg, x_parEL, x_parLE, x_parLL, x_gLs, Nat.add_zero, x_qSeq, x_qIf, x_qRet, x_qSet, x_qIfE, x_qRaise, x_qNil, x_qCons, x_qLst, x_qTup, x_callX, x_callKX, x_try]
  have hf : ∀ {Q : D → Nat → Prop}, Q (toldM w m k) n → fKnown [Ar.d (.str w), Ar.d (.int m), Ar.d (.int k)] n (fun nm x m' => nm = ("TooMany" : Str) ∧ 3 ≤ sizeLine ∧ Q (.list [.str "many", x, .bool true]) m') fun d m' => 2 ≤ sizeLine ∧ Q (.list [.str "sky", d]) m' := fun {Q} h => by
    refine ⟨w, m, k, rfl, hk, ?_⟩
    unfold toldM at h
    split at h
    · rename_i c
      rw [if_pos c]
      exact ⟨rfl, small _ (by decide), h⟩
    · rename_i c
      rw [if_neg c]
      exact ⟨small _ (by decide), h⟩
  refine ⟨?_, b, rfl, ifc (fun _ => hf hP) fun _ => hf hP⟩
  intro s h
  cases h
end My
namespace My
open PySem PySem.Spec L2 DL
/-- small enough -/
structure Ok (s : Sky) : Prop where
  m0 : 0 ≤ s.m
  m1 : s.m ≤ 1000
  b : s.b.length ≤ 1000
  st : s.st.length ≤ 1000
  r1 : ∀ x ∈ s.st, x.1.length ≤ 1000
  r2 : ∀ x ∈ s.st, x.2.length ≤ 1000
theorem atI_mem {α : Type} {xs : List α} {i : Int} {x : α} (h : L2.atI xs i = some x) : x ∈ xs := by
  unfold L2.atI at h
  cases e : L2.ixN xs.length i with
  | none => rw [e] at h; cases h
  | some j => rw [e] at h; exact List.mem_of_getElem? h
def leftM (s : Sky) (x : St) : Row := (rng s.m).filter fun o => !decide (o ∈ x.1)
def firmM (s : Sky) (x : St) : Row := (leftM s x).filter fun o => !decide (o ∈ x.2)
def takenM (b : Row) (x : St) : Row := x.1.filter fun o => decide (o ∈ b)
def ltakenM (b : Row) (x : St) : Row := b.filter fun o => decide (o ∈ x.1)
def fRow (g : Sky → St → Row) : Fn := fun as n P => ∃ (s : Sky) (i : Int) (x : St), as = [.d (skyD s), .d (.int i)] ∧ L2.atI s.st i = some x ∧ Ok s ∧ P (rowD (g s x)) n
abbrev fLeft := fRow leftM
abbrev fFirm := fRow firmM
abbrev fTaken := fRow fun s x => takenM s.b x
abbrev fLTaken := fRow fun s x => ltakenM s.b x
theorem left_len (s : Sky) (x : St) (h : Ok s) : (leftM s x).length ≤ 1000 := Nat.le_trans (List.length_filter_le _ _) (by rw [rng_len]; have := h.m1; omega)
theorem hf_left (as : List Ar) (n : Nat) (P : D → Nat → Prop) (hl : as.length = 2) (h : fLeft as n P) : rd_left ⟨fun _ m => P .none m, P, fun _ _ => False, fun _ _ => False⟩ (startD ["sky", "s", "gone", "machine"] as) n := by
  obtain ⟨s, i, x, rfl, hx, ok, hP⟩ := h
  have m0 := ok.m0; have m1 := ok.m1
  simp only [rd_left, skyD, stD, x_var0, x_varS, x_own0, x_ownS, x_ixT, x_ixL, x_addI, x_addT, x_addL, x_gI, x_gIC, x_neg, x_abs, x_intI, x_intB, x_lenT, x_lenL, x_tupL, x_tupT, x_rep, x_seq, x_next, x_set, x_setL, x_par, x_asg, x_drop, x_app, x_ext, x_ret, x_retN, x_if, x_frz, x_for, x_bk, x_ct, x_d1, x_d2, x_dC, x_dL, x_tup, x_and, x_or, x_not, x_ife, x_dB, x_dTr, x_dNot, x_dAnd, x_dOr, x_yes, x_aC, x_aN, x_aSz, x_aRg, x_rg1, x_rg2, x_aList, x_aSort, x_aSl, x_dSl, x_aScr, x_scrLen, x_oN, x_oS, x_rN, x_rC, x_rRl, x_call, x_callB, x_callK, x_iSeq, x_iRg1, x_iRg2, x_iEn, x_gNm, x_gTp, x_gC, x_gN, x_gL, x_comp, startD, arD, wipeD, List.map_cons, List.map_nil, List.length_cons, List.length_nil, List.replicate_succ, List.replicate_zero, List.cons_append, List.nil_append, List.set_cons_succ, List.set_cons_zero, List.getElem?_cons_succ, List.getElem?_cons_zero, Option.some.injEq, PyData.int.injEq, PyData.bool.injEq, PyData.tuple.injEq, PyData.list.injEq, DV.dat.injEq, DV.own.injEq, exists_eq_left', exists_eq_left, exists_eq_right, exists_eq_right', exists_and_left, List.cons.injEq, and_true, true_and, atI0, atI1, atI2, atI3, atI4, atI5, Nat.sub_self, Nat.reduceSub, Nat.reduceAdd, Nat.reduceLT, if_true, if_false, Bool.false_eq_true, ↓reduceIte, Nat.zero_add, y_eqI, y_neI, y_neB, y_eqB, y_eqS, y_neS, y_ltI, y_gtI, y_leI, y_geI, y_inR, y_notInR, y_eqR, y_neR, y_lenR, y_tupR, row_tup, row_lst, tup_lst, lst_tup, false_and, and_false, exists_false, false_or, or_false, exists_const, atI_map, Option.map_some, decide_true, decide_false, Bool.not_true, Bool.not_false, eq_self, y_isB, DV.scr.injEq, x_chain, x_tRg, x_parEL, x_parLE, x_parLL, x_gLs, Nat.add_zero, hx]
  refine ⟨rfl, by omega, by omega, small _ (by rw [rangeD_rng]; simp [intsD, rng_len]; omega), ?_⟩
  rw [rangeD_rng]
  refine compR_map (fun o => !decide (o ∈ x.1)) PyData.int _ _ (fun o ho A B ha hb => ?_) hP
  simp only [x_var0, x_varS, x_own0, x_ownS, x_ixT, x_ixL, x_addI, x_addT, x_addL, x_gI, x_gIC, x_neg, x_abs, x_intI, x_intB, x_lenT, x_lenL, x_tupL, x_tupT, x_rep, x_seq, x_next, x_set, x_setL, x_par, x_asg, x_drop, x_app, x_ext, x_ret, x_retN, x_if, x_frz, x_for, x_bk, x_ct, x_d1, x_d2, x_dC, x_dL, x_tup, x_and, x_or, x_not, x_ife, x_dB, x_dTr, x_dNot, x_dAnd, x_dOr, x_yes, x_aC, x_aN, x_aSz, x_aRg, x_rg1, x_rg2, x_aList, x_aSort, x_aSl, x_dSl, x_aScr, x_scrLen, x_oN, x_oS, x_rN, x_rC, x_rRl, x_call, x_callB, x_callK, x_iSeq, x_iRg1, x_iRg2, x_iEn, x_gNm, x_gTp, x_gC, x_gN, x_gL, x_comp, startD, arD, wipeD, List.map_cons, List.map_nil, List.length_cons, List.length_nil, List.replicate_succ, List.replicate_zero, List.cons_append, List.nil_append, List.set_cons_succ, List.set_cons_zero, List.getElem?_cons_succ, List.getElem?_cons_zero, Option.some.injEq, PyData.int.injEq, PyData.bool.injEq, PyData.tuple.injEq, PyData.list.injEq, DV.dat.injEq, DV.own.injEq, exists_eq_left', exists_eq_left, exists_eq_right, exists_eq_right', exists_and_left, List.cons.injEq, and_true, true_and, atI0, atI1, atI2, atI3, atI4, atI5, Nat.sub_self, Nat.reduceSub, Nat.reduceAdd, Nat.reduceLT, if_true, if_false, Bool.false_eq_true, ↓reduceIte, Nat.zero_add, y_eqI, y_neI, y_neB, y_eqB, y_eqS, y_neS, y_ltI, y_gtI, y_leI, y_geI, y_inR, y_notInR, y_eqR, y_neR, y_lenR, y_tupR, row_tup, row_lst, tup_lst, lst_tup, false_and, and_false, exists_false, false_or, or_false, exists_const, atI_map, Option.map_some, decide_true, decide_false, Bool.not_true, Bool.not_false, eq_self, y_isB, DV.scr.injEq, x_chain, x_tRg, x_parEL, x_parLE, x_parLL, x_gLs, Nat.add_zero]
  exact ifc ha hb
theorem hf_firm (as : List Ar) (n : Nat) (P : D → Nat → Prop) (hl : as.length = 2) (h : fFirm as n P) : rd_firm fLeft ⟨fun _ m => P .none m, P, fun _ _ => False, fun _ _ => False⟩ (startD ["sky", "s", "blank", "machine"] as) n := by
  obtain ⟨s, i, x, rfl, hx, ok, hP⟩ := h
  simp only [rd_firm, skyD, stD, x_var0, x_varS, x_own0, x_ownS, x_ixT, x_ixL, x_addI, x_addT, x_addL, x_gI, x_gIC, x_neg, x_abs, x_intI, x_intB, x_lenT, x_lenL, x_tupL, x_tupT, x_rep, x_seq, x_next, x_set, x_setL, x_par, x_asg, x_drop, x_app, x_ext, x_ret, x_retN, x_if, x_frz, x_for, x_bk, x_ct, x_d1, x_d2, x_dC, x_dL, x_tup, x_and, x_or, x_not, x_ife, x_dB, x_dTr, x_dNot, x_dAnd, x_dOr, x_yes, x_aC, x_aN, x_aSz, x_aRg, x_rg1, x_rg2, x_aList, x_aSort, x_aSl, x_dSl, x_aScr, x_scrLen, x_oN, x_oS, x_rN, x_rC, x_rRl, x_call, x_callB, x_callK, x_iSeq, x_iRg1, x_iRg2, x_iEn, x_gNm, x_gTp, x_gC, x_gN, x_gL, x_comp, startD, arD, wipeD, List.map_cons, List.map_nil, List.length_cons, List.length_nil, List.replicate_succ, List.replicate_zero, List.cons_append, List.nil_append, List.set_cons_succ, List.set_cons_zero, List.getElem?_cons_succ, List.getElem?_cons_zero, Option.some.injEq, PyData.int.injEq, PyData.bool.injEq, PyData.tuple.injEq, PyData.list.injEq, DV.dat.injEq, DV.own.injEq, exists_eq_left', exists_eq_left, exists_eq_right, exists_eq_right', exists_and_left, List.cons.injEq, and_true, true_and, atI0, atI1, atI2, atI3, atI4, atI5, Nat.sub_self, Nat.reduceSub, Nat.reduceAdd, Nat.reduceLT, if_true, if_false, Bool.false_eq_true, ↓reduceIte, Nat.zero_add, y_eqI, y_neI, y_neB, y_eqB, y_eqS, y_neS, y_ltI, y_gtI, y_leI, y_geI, y_inR, y_notInR, y_eqR, y_neR, y_lenR, y_tupR, row_tup, row_lst, tup_lst, lst_tup, false_and, and_false, exists_false, false_or, or_false, exists_const, atI_map, Option.map_some, decide_true, decide_false, Bool.not_true, Bool.not_false, eq_self, y_isB, DV.scr.injEq, x_chain, x_tRg, x_parEL, x_parLE, x_parLL, x_gLs, Nat.add_zero, hx]
  refine ⟨rfl, .inr ⟨s, i, x, rfl, hx, ok, _, rfl, small _ ?_, ?_⟩⟩
  · rw [intsD, List.length_map]; exact Nat.le_trans (left_len s x ok) (by decide)
  refine compR_map (fun o => !decide (o ∈ x.2)) PyData.int _ _ (fun o ho A B ha hb => ?_) hP
  simp only [x_var0, x_varS, x_own0, x_ownS, x_ixT, x_ixL, x_addI, x_addT, x_addL, x_gI, x_gIC, x_neg, x_abs, x_intI, x_intB, x_lenT, x_lenL, x_tupL, x_tupT, x_rep, x_seq, x_next, x_set, x_setL, x_par, x_asg, x_drop, x_app, x_ext, x_ret, x_retN, x_if, x_frz, x_for, x_bk, x_ct, x_d1, x_d2, x_dC, x_dL, x_tup, x_and, x_or, x_not, x_ife, x_dB, x_dTr, x_dNot, x_dAnd, x_dOr, x_yes, x_aC, x_aN, x_aSz, x_aRg, x_rg1, x_rg2, x_aList, x_aSort, x_aSl, x_dSl, x_aScr, x_scrLen, x_oN, x_oS, x_rN, x_rC, x_rRl, x_call, x_callB, x_callK, x_iSeq, x_iRg1, x_iRg2, x_iEn, x_gNm, x_gTp, x_gC, x_gN, x_gL, x_comp, startD, arD, wipeD, List.map_cons, List.map_nil, List.length_cons, List.length_nil, List.replicate_succ, List.replicate_zero, List.cons_append, List.nil_append, List.set_cons_succ, List.set_cons_zero, List.getElem?_cons_succ, List.getElem?_cons_zero, Option.some.injEq, PyData.int.injEq, PyData.bool.injEq, PyData.tuple.injEq, PyData.list.injEq, DV.dat.injEq, DV.own.injEq, exists_eq_left', exists_eq_left, exists_eq_right, exists_eq_right', exists_and_left, List.cons.injEq, and_true, true_and, atI0, atI1, atI2, atI3, atI4, atI5, Nat.sub_self, Nat.reduceSub, Nat.reduceAdd, Nat.reduceLT, if_true, if_false, Bool.false_eq_true, ↓reduceIte, Nat.zero_add, y_eqI, y_neI, y_neB, y_eqB, y_eqS, y_neS, y_ltI, y_gtI, y_leI, y_geI, y_inR, y_notInR, y_eqR, y_neR, y_lenR, y_tupR, row_tup, row_lst, tup_lst, lst_tup, false_and, and_false, exists_false, false_or, or_false, exists_const, atI_map, Option.map_some, decide_true, decide_false, Bool.not_true, Bool.not_false, eq_self, y_isB, DV.scr.injEq, x_chain, x_tRg, x_parEL, x_parLE, x_parLL, x_gLs, Nat.add_zero]
  exact ifc ha hb
theorem hf_taken (as : List Ar) (n : Nat) (P : D → Nat → Prop) (hl : as.length = 2) (h : fTaken as n P) : rd_taken ⟨fun _ m => P .none m, P, fun _ _ => False, fun _ _ => False⟩ (startD ["sky", "s", "machine"] as) n := by
  obtain ⟨s, i, x, rfl, hx, ok, hP⟩ := h
  simp only [rd_taken, skyD, stD, x_var0, x_varS, x_own0, x_ownS, x_ixT, x_ixL, x_addI, x_addT, x_addL, x_gI, x_gIC, x_neg, x_abs, x_intI, x_intB, x_lenT, x_lenL, x_tupL, x_tupT, x_rep, x_seq, x_next, x_set, x_setL, x_par, x_asg, x_drop, x_app, x_ext, x_ret, x_retN, x_if, x_frz, x_for, x_bk, x_ct, x_d1, x_d2, x_dC, x_dL, x_tup, x_and, x_or, x_not, x_ife, x_dB, x_dTr, x_dNot, x_dAnd, x_dOr, x_yes, x_aC, x_aN, x_aSz, x_aRg, x_rg1, x_rg2, x_aList, x_aSort, x_aSl, x_dSl, x_aScr, x_scrLen, x_oN, x_oS, x_rN, x_rC, x_rRl, x_call, x_callB, x_callK, x_iSeq, x_iRg1, x_iRg2, x_iEn, x_gNm, x_gTp, x_gC, x_gN, x_gL, x_comp, startD, arD, wipeD, List.map_cons, List.map_nil, List.length_cons, List.length_nil, List.replicate_succ, List.replicate_zero, List.cons_append, List.nil_append, List.set_cons_succ, List.set_cons_zero, List.getElem?_cons_succ, List.getElem?_cons_zero, Option.some.injEq, PyData.int.injEq, PyData.bool.injEq, PyData.tuple.injEq, PyData.list.injEq, DV.dat.injEq, DV.own.injEq, exists_eq_left', exists_eq_left, exists_eq_right, exists_eq_right', exists_and_left, List.cons.injEq, and_true, true_and, atI0, atI1, atI2, atI3, atI4, atI5, Nat.sub_self, Nat.reduceSub, Nat.reduceAdd, Nat.reduceLT, if_true, if_false, Bool.false_eq_true, ↓reduceIte, Nat.zero_add, y_eqI, y_neI, y_neB, y_eqB, y_eqS, y_neS, y_ltI, y_gtI, y_leI, y_geI, y_inR, y_notInR, y_eqR, y_neR, y_lenR, y_tupR, row_tup, row_lst, tup_lst, lst_tup, false_and, and_false, exists_false, false_or, or_false, exists_const, atI_map, Option.map_some, decide_true, decide_false, Bool.not_true, Bool.not_false, eq_self, y_isB, DV.scr.injEq, x_chain, x_tRg, x_parEL, x_parLE, x_parLL, x_gLs, Nat.add_zero, hx]
  refine ⟨rfl, small _ ?_, ?_⟩
  · rw [intsD, List.length_map]; exact Nat.le_trans (ok.r1 x (atI_mem hx)) (by decide)
  refine compR_map (fun o => decide (o ∈ s.b)) PyData.int _ _ (fun o ho A B ha hb => ?_) hP
  simp only [x_var0, x_varS, x_own0, x_ownS, x_ixT, x_ixL, x_addI, x_addT, x_addL, x_gI, x_gIC, x_neg, x_abs, x_intI, x_intB, x_lenT, x_lenL, x_tupL, x_tupT, x_rep, x_seq, x_next, x_set, x_setL, x_par, x_asg, x_drop, x_app, x_ext, x_ret, x_retN, x_if, x_frz, x_for, x_bk, x_ct, x_d1, x_d2, x_dC, x_dL, x_tup, x_and, x_or, x_not, x_ife, x_dB, x_dTr, x_dNot, x_dAnd, x_dOr, x_yes, x_aC, x_aN, x_aSz, x_aRg, x_rg1, x_rg2, x_aList, x_aSort, x_aSl, x_dSl, x_aScr, x_scrLen, x_oN, x_oS, x_rN, x_rC, x_rRl, x_call, x_callB, x_callK, x_iSeq, x_iRg1, x_iRg2, x_iEn, x_gNm, x_gTp, x_gC, x_gN, x_gL, x_comp, startD, arD, wipeD, List.map_cons, List.map_nil, List.length_cons, List.length_nil, List.replicate_succ, List.replicate_zero, List.cons_append, List.nil_append, List.set_cons_succ, List.set_cons_zero, List.getElem?_cons_succ, List.getElem?_cons_zero, Option.some.injEq, PyData.int.injEq, PyData.bool.injEq, PyData.tuple.injEq, PyData.list.injEq, DV.dat.injEq, DV.own.injEq, exists_eq_left', exists_eq_left, exists_eq_right, exists_eq_right', exists_and_left, List.cons.injEq, and_true, true_and, atI0, atI1, atI2, atI3, atI4, atI5, Nat.sub_self, Nat.reduceSub, Nat.reduceAdd, Nat.reduceLT, if_true, if_false, Bool.false_eq_true, ↓reduceIte, Nat.zero_add, y_eqI, y_neI, y_neB, y_eqB, y_eqS, y_neS, y_ltI, y_gtI, y_leI, y_geI, y_inR, y_notInR, y_eqR, y_neR, y_lenR, y_tupR, row_tup, row_lst, tup_lst, lst_tup, false_and, and_false, exists_false, false_or, or_false, exists_const, atI_map, Option.map_some, decide_true, decide_false, Bool.not_true, Bool.not_false, eq_self, y_isB, DV.scr.injEq, x_chain, x_tRg, x_parEL, x_parLE, x_parLL, x_gLs, Nat.add_zero]
  exact ifc ha hb
def withinM (r q : Row) : Bool := (r.map fun o => decide (o ∈ q)).all id
def fWithin : Fn := fun as n P => ∃ r q : Row, as = [.d (rowD r), .d (rowD q)] ∧ r.length ≤ 1000 ∧ P (.bool (withinM r q)) n
theorem hf_within (as : List Ar) (n : Nat) (P : D → Nat → Prop) (hl : as.length = 2) (h : fWithin as n P) : rd_is_within ⟨fun _ m => P .none m, P, fun _ _ => False, fun _ _ => False⟩ (startD ["one", "other", "machine"] as) n := by
  obtain ⟨r, q, rfl, h1, hP⟩ := h
  simp only [rd_is_within, x_var0, x_varS, x_own0, x_ownS, x_ixT, x_ixL, x_addI, x_addT, x_addL, x_gI, x_gIC, x_neg, x_abs, x_intI, x_intB, x_lenT, x_lenL, x_tupL, x_tupT, x_rep, x_seq, x_next, x_set, x_setL, x_par, x_asg, x_drop, x_app, x_ext, x_ret, x_retN, x_if, x_frz, x_for, x_bk, x_ct, x_d1, x_d2, x_dC, x_dL, x_tup, x_and, x_or, x_not, x_ife, x_dB, x_dTr, x_dNot, x_dAnd, x_dOr, x_yes, x_aC, x_aN, x_aSz, x_aRg, x_rg1, x_rg2, x_aList, x_aSort, x_aSl, x_dSl, x_aScr, x_scrLen, x_oN, x_oS, x_rN, x_rC, x_rRl, x_call, x_callB, x_callK, x_iSeq, x_iRg1, x_iRg2, x_iEn, x_gNm, x_gTp, x_gC, x_gN, x_gL, x_comp, startD, arD, wipeD, List.map_cons, List.map_nil, List.length_cons, List.length_nil, List.replicate_succ, List.replicate_zero, List.cons_append, List.nil_append, List.set_cons_succ, List.set_cons_zero, List.getElem?_cons_succ, List.getElem?_cons_zero, Option.some.injEq, PyData.int.injEq, PyData.bool.injEq, PyData.tuple.injEq, PyData.list.injEq, DV.dat.injEq, DV.own.injEq, exists_eq_left', exists_eq_left, exists_eq_right, exists_eq_right', exists_and_left, List.cons.injEq, and_true, true_and, atI0, atI1, atI2, atI3, atI4, atI5, Nat.sub_self, Nat.reduceSub, Nat.reduceAdd, Nat.reduceLT, if_true, if_false, Bool.false_eq_true, ↓reduceIte, Nat.zero_add, y_eqI, y_neI, y_neB, y_eqB, y_eqS, y_neS, y_ltI, y_gtI, y_leI, y_geI, y_inR, y_notInR, y_eqR, y_neR, y_lenR, y_tupR, row_tup, row_lst, tup_lst, lst_tup, false_and, and_false, exists_false, false_or, or_false, exists_const, atI_map, Option.map_some, decide_true, decide_false, Bool.not_true, Bool.not_false, eq_self, y_isB, DV.scr.injEq, x_chain, x_tRg, x_parEL, x_parLE, x_parLL, x_gLs, Nat.add_zero]
  refine ⟨rfl, small _ (by simp [intsD]; omega), ?_⟩
  refine compR_each (fun o => .bool (decide (o ∈ q))) r _ (fun o ho A B ha => ?_) ?_
  · simp only [x_var0, x_varS, x_own0, x_ownS, x_ixT, x_ixL, x_addI, x_addT, x_addL, x_gI, x_gIC, x_neg, x_abs, x_intI, x_intB, x_lenT, x_lenL, x_tupL, x_tupT, x_rep, x_seq, x_next, x_set, x_setL, x_par, x_asg, x_drop, x_app, x_ext, x_ret, x_retN, x_if, x_frz, x_for, x_bk, x_ct, x_d1, x_d2, x_dC, x_dL, x_tup, x_and, x_or, x_not, x_ife, x_dB, x_dTr, x_dNot, x_dAnd, x_dOr, x_yes, x_aC, x_aN, x_aSz, x_aRg, x_rg1, x_rg2, x_aList, x_aSort, x_aSl, x_dSl, x_aScr, x_scrLen, x_oN, x_oS, x_rN, x_rC, x_rRl, x_call, x_callB, x_callK, x_iSeq, x_iRg1, x_iRg2, x_iEn, x_gNm, x_gTp, x_gC, x_gN, x_gL, x_comp, startD, arD, wipeD, List.map_cons, List.map_nil, List.length_cons, List.length_nil, List.replicate_succ, List.replicate_zero, List.cons_append, List.nil_append, List.set_cons_succ, List.set_cons_zero, List.getElem?_cons_succ, List.getElem?_cons_zero, Option.some.injEq, PyData.int.injEq, PyData.bool.injEq, PyData.tuple.injEq, PyData.list.injEq, DV.dat.injEq, DV.own.injEq, exists_eq_left', exists_eq_left, exists_eq_right, exists_eq_right', exists_and_left, List.cons.injEq, and_true, true_and, atI0, atI1, atI2, atI3, atI4, atI5, Nat.sub_self, Nat.reduceSub, Nat.reduceAdd, Nat.reduceLT, if_true, if_false, Bool.false_eq_true, ↓reduceIte, Nat.zero_add, y_eqI, y_neI, y_neB, y_eqB, y_eqS, y_neS, y_ltI, y_gtI, y_leI, y_geI, y_inR, y_notInR, y_eqR, y_neR, y_lenR, y_tupR, row_tup, row_lst, tup_lst, lst_tup, false_and, and_false, exists_false, false_or, or_false, exists_const, atI_map, Option.map_some, decide_true, decide_false, Bool.not_true, Bool.not_false, eq_self, y_isB, DV.scr.injEq, x_chain, x_tRg, x_parEL, x_parLE, x_parLL, x_gLs, Nat.add_zero]
    exact ha
  · rw [List.nil_append]
    have e : r.map (fun o => PyData.bool (decide (o ∈ q))) = (r.map fun o => decide (o ∈ q)).map PyData.bool := by simp
    rw [e, x_all]
    exact hP

theorem y_ltE {α : Type} [DecidableEq α] {e : α → D} {m : Nat} (h : Enc m e) (x y : α) (P : D → Prop) (hm : m ≤ 64 := by decide) : gLt (e x) (e y) P = P (.bool (ltE e x y)) :=
  propext ⟨fun z => z.2, fun z => ⟨⟨h.al x y, h.nn x, Nat.le_trans (h.shp x).dep hm⟩, z⟩⟩
def ascE {α : Type} [Inhabited α] (e : α → D) (l : List α) : Bool := ((rng (l.length - 1)).map fun p => ltE e (nthI l p) (nthI l (p + 1))).all id
theorem asc_ok {α : Type} [DecidableEq α] [Inhabited α] {e : α → D} {m : Nat} (he : Enc m e) (hm : m ≤ 64) {l : List α} (hl : l.length ≤ 1000) (n : Nat) (P : D → Nat → Prop) (hP : P (.bool (ascE e l)) n) : rd_is_ascending ⟨fun _ m => P .none m, P, fun _ _ => False, fun _ _ => False⟩ (startD ["items", "place"] [.d (.tuple (l.map e))]) n := by
  simp only [rd_is_ascending, x_var0, x_varS, x_own0, x_ownS, x_ixT, x_ixL, x_addI, x_addT, x_addL, x_gI, x_gIC, x_neg, x_abs, x_intI, x_intB, x_lenT, x_lenL, x_tupL, x_tupT, x_rep, x_seq, x_next, x_set, x_setL, x_par, x_asg, x_drop, x_app, x_ext, x_ret, x_retN, x_if, x_frz, x_for, x_bk, x_ct, x_d1, x_d2, x_dC, x_dL, x_tup, x_and, x_or, x_not, x_ife, x_dB, x_dTr, x_dNot, x_dAnd, x_dOr, x_yes, x_aC, x_aN, x_aSz, x_aRg, x_rg1, x_rg2, x_aList, x_aSort, x_aSl, x_dSl, x_aScr, x_scrLen, x_oN, x_oS, x_rN, x_rC, x_rRl, x_call, x_callB, x_callK, x_iSeq, x_iRg1, x_iRg2, x_iEn, x_gNm, x_gTp, x_gC, x_gN, x_gL, x_comp, startD, arD, wipeD, List.map_cons, List.map_nil, List.length_cons, List.length_nil, List.replicate_succ, List.replicate_zero, List.cons_append, List.nil_append, List.set_cons_succ, List.set_cons_zero, List.getElem?_cons_succ, List.getElem?_cons_zero, Option.some.injEq, PyData.int.injEq, PyData.bool.injEq, PyData.tuple.injEq, PyData.list.injEq, DV.dat.injEq, DV.own.injEq, exists_eq_left', exists_eq_left, exists_eq_right, exists_eq_right', exists_and_left, List.cons.injEq, and_true, true_and, atI0, atI1, atI2, atI3, atI4, atI5, Nat.sub_self, Nat.reduceSub, Nat.reduceAdd, Nat.reduceLT, if_true, if_false, Bool.false_eq_true, ↓reduceIte, Nat.zero_add, y_eqI, y_neI, y_neB, y_eqB, y_eqS, y_neS, y_ltI, y_gtI, y_leI, y_geI, y_inR, y_notInR, y_eqR, y_neR, y_lenR, y_tupR, row_tup, row_lst, tup_lst, lst_tup, false_and, and_false, exists_false, false_or, or_false, exists_const, atI_map, Option.map_some, decide_true, decide_false, Bool.not_true, Bool.not_false, eq_self, y_isB, DV.scr.injEq, x_chain, x_tRg, x_parEL, x_parLE, x_parLL, x_gLs, Nat.add_zero, List.length_map]
  have er : rangeD 0 ((l.length : Int) - 1).toNat = intsD (rng ((l.length : Int) - 1)) := rangeD_rng _
  rw [er]
  have es : ∀ o ∈ rng ((l.length : Int) - 1), 0 ≤ o ∧ o + 1 < l.length := fun o ho => by have := rng_mem.mp ho; omega
  refine ⟨rfl, by omega, by omega, small _ (by rw [intsD, List.length_map, rng_len]; omega), ?_⟩
  refine compR_each (fun o => .bool (ltE e (nthI l o) (nthI l (o + 1)))) _ _ (fun o ho A B ha => ?_) ?_
  · obtain ⟨o0, o1⟩ := es o ho
    simp only [x_var0, x_varS, x_own0, x_ownS, x_ixT, x_ixL, x_addI, x_addT, x_addL, x_gI, x_gIC, x_neg, x_abs, x_intI, x_intB, x_lenT, x_lenL, x_tupL, x_tupT, x_rep, x_seq, x_next, x_set, x_setL, x_par, x_asg, x_drop, x_app, x_ext, x_ret, x_retN, x_if, x_frz, x_for, x_bk, x_ct, x_d1, x_d2, x_dC, x_dL, x_tup, x_and, x_or, x_not, x_ife, x_dB, x_dTr, x_dNot, x_dAnd, x_dOr, x_yes, x_aC, x_aN, x_aSz, x_aRg, x_rg1, x_rg2, x_aList, x_aSort, x_aSl, x_dSl, x_aScr, x_scrLen, x_oN, x_oS, x_rN, x_rC, x_rRl, x_call, x_callB, x_callK, x_iSeq, x_iRg1, x_iRg2, x_iEn, x_gNm, x_gTp, x_gC, x_gN, x_gL, x_comp, startD, arD, wipeD, List.map_cons, List.map_nil, List.length_cons, List.length_nil, List.replicate_succ, List.replicate_zero, List.cons_append, List.nil_append, List.set_cons_succ, List.set_cons_zero, List.getElem?_cons_succ, List.getElem?_cons_zero, Option.some.injEq, PyData.int.injEq, PyData.bool.injEq, PyData.tuple.injEq, PyData.list.injEq, DV.dat.injEq, DV.own.injEq, exists_eq_left', exists_eq_left, exists_eq_right, exists_eq_right', exists_and_left, List.cons.injEq, and_true, true_and, atI0, atI1, atI2, atI3, atI4, atI5, Nat.sub_self, Nat.reduceSub, Nat.reduceAdd, Nat.reduceLT, if_true, if_false, Bool.false_eq_true, ↓reduceIte, Nat.zero_add, y_eqI, y_neI, y_neB, y_eqB, y_eqS, y_neS, y_ltI, y_gtI, y_leI, y_geI, y_inR, y_notInR, y_eqR, y_neR, y_lenR, y_tupR, row_tup, row_lst, tup_lst, lst_tup, false_and, and_false, exists_false, false_or, or_false, exists_const, atI_map, Option.map_some, decide_true, decide_false, Bool.not_true, Bool.not_false, eq_self, y_isB, DV.scr.injEq, x_chain, x_tRg, x_parEL, x_parLE, x_parLL, x_gLs, Nat.add_zero]
    rw [atI_nth (l := l) o0 (by omega)]
    simp only [x_var0, x_varS, x_own0, x_ownS, x_ixT, x_ixL, x_addI, x_addT, x_addL, x_gI, x_gIC, x_neg, x_abs, x_intI, x_intB, x_lenT, x_lenL, x_tupL, x_tupT, x_rep, x_seq, x_next, x_set, x_setL, x_par, x_asg, x_drop, x_app, x_ext, x_ret, x_retN, x_if, x_frz, x_for, x_bk, x_ct, x_d1, x_d2, x_dC, x_dL, x_tup, x_and, x_or, x_not, x_ife, x_dB, x_dTr, x_dNot, x_dAnd, x_dOr, x_yes, x_aC, x_aN, x_aSz, x_aRg, x_rg1, x_rg2, x_aList, x_aSort, x_aSl, x_dSl, x_aScr, x_scrLen, x_oN, x_oS, x_rN, x_rC, x_rRl, x_call, x_callB, x_callK, x_iSeq, x_iRg1, x_iRg2, x_iEn, x_gNm, x_gTp, x_gC, x_gN, x_gL, x_comp, startD, arD, wipeD, List.map_cons, List.map_nil, List.length_cons, List.length_nil, List.replicate_succ, List.replicate_zero, List.cons_append, List.nil_append, List.set_cons_succ, List.set_cons_zero, List.getElem?_cons_succ, List.getElem?_cons_zero, Option.some.injEq, PyData.int.injEq, PyData.bool.injEq, PyData.tuple.injEq, PyData.list.injEq, DV.dat.injEq, DV.own.injEq, exists_eq_left', exists_eq_left, exists_eq_right, exists_eq_right', exists_and_left, List.cons.injEq, and_true, true_and, atI0, atI1, atI2, atI3, atI4, atI5, Nat.sub_self, Nat.reduceSub, Nat.reduceAdd, Nat.reduceLT, if_true, if_false, Bool.false_eq_true, ↓reduceIte, Nat.zero_add, y_eqI, y_neI, y_neB, y_eqB, y_eqS, y_neS, y_ltI, y_gtI, y_leI, y_geI, y_inR, y_notInR, y_eqR, y_neR, y_lenR, y_tupR, row_tup, row_lst, tup_lst, lst_tup, false_and, and_false, exists_false, false_or, or_false, exists_const, atI_map, Option.map_some, decide_true, decide_false, Bool.not_true, Bool.not_false, eq_self, y_isB, DV.scr.injEq, x_chain, x_tRg, x_parEL, x_parLE, x_parLL, x_gLs, Nat.add_zero]
    rw [atI_nth (l := l) (i := o + 1) (by omega) o1]
    simp only [x_var0, x_varS, x_own0, x_ownS, x_ixT, x_ixL, x_addI, x_addT, x_addL, x_gI, x_gIC, x_neg, x_abs, x_intI, x_intB, x_lenT, x_lenL, x_tupL, x_tupT, x_rep, x_seq, x_next, x_set, x_setL, x_par, x_asg, x_drop, x_app, x_ext, x_ret, x_retN, x_if, x_frz, x_for, x_bk, x_ct, x_d1, x_d2, x_dC, x_dL, x_tup, x_and, x_or, x_not, x_ife, x_dB, x_dTr, x_dNot, x_dAnd, x_dOr, x_yes, x_aC, x_aN, x_aSz, x_aRg, x_rg1, x_rg2, x_aList, x_aSort, x_aSl, x_dSl, x_aScr, x_scrLen, x_oN, x_oS, x_rN, x_rC, x_rRl, x_call, x_callB, x_callK, x_iSeq, x_iRg1, x_iRg2, x_iEn, x_gNm, x_gTp, x_gC, x_gN, x_gL, x_comp, startD, arD, wipeD, List.map_cons, List.map_nil, List.length_cons, List.length_nil, List.replicate_succ, List.replicate_zero, List.cons_append, List.nil_append, List.set_cons_succ, List.set_cons_zero, List.getElem?_cons_succ, List.getElem?_cons_zero, Option.some.injEq, PyData.int.injEq, PyData.bool.injEq, PyData.tuple.injEq, PyData.list.injEq, DV.dat.injEq, DV.own.injEq, exists_eq_left', exists_eq_left, exists_eq_right, exists_eq_right', exists_and_left, List.cons.injEq, and_true, true_and, atI0, atI1, atI2, atI3, atI4, atI5, Nat.sub_self, Nat.reduceSub, Nat.reduceAdd, Nat.reduceLT, if_true, if_false, Bool.false_eq_true, ↓reduceIte, Nat.zero_add, y_eqI, y_neI, y_neB, y_eqB, y_eqS, y_neS, y_ltI, y_gtI, y_leI, y_geI, y_inR, y_notInR, y_eqR, y_neR, y_lenR, y_tupR, row_tup, row_lst, tup_lst, lst_tup, false_and, and_false, exists_false, false_or, or_false, exists_const, atI_map, Option.map_some, decide_true, decide_false, Bool.not_true, Bool.not_false, eq_self, y_isB, DV.scr.injEq, x_chain, x_tRg, x_parEL, x_parLE, x_parLL, x_gLs, Nat.add_zero]
    rw [y_ltE he _ _ _ hm]
    exact ha
  · rw [List.nil_append]
    have e2 : (rng ((l.length : Int) - 1)).map (fun o => PyData.bool (ltE e (nthI l o) (nthI l (o + 1)))) = ((rng ((l.length : Int) - 1)).map fun o => ltE e (nthI l o) (nthI l (o + 1))).map PyData.bool := by simp
    rw [e2, x_all]
    exact hP
theorem isi_ii (v : Int) (P : D → Prop) : gIsi "int" (.int v) P = P (.bool true) := propext ⟨fun ⟨_, e, h⟩ => by cases e; exact h, fun h => ⟨_, rfl, h⟩⟩
theorem isi_bi (v : Int) (P : D → Prop) : gIsi "bool" (.int v) P = P (.bool false) := propext ⟨fun ⟨_, e, h⟩ => by cases e; exact h, fun h => ⟨_, rfl, h⟩⟩
theorem isi_tt (v : List D) (P : D → Prop) : gIsi "tuple" (.tuple v) P = P (.bool true) := propext ⟨fun ⟨_, e, h⟩ => by cases e; exact h, fun h => ⟨_, rfl, h⟩⟩
theorem isi_tr (v : Row) (P : D → Prop) : gIsi "tuple" (rowD v) P = P (.bool true) := isi_tt _ P
def fWhole : Fn := fun as n P => ∃ v lo hi : Int, as = [.d (.int v), .d (.int lo), .d (.int hi)] ∧ P (.bool (decide (lo ≤ v) && decide (v ≤ hi))) n
theorem hf_whole (as : List Ar) (n : Nat) (P : D → Nat → Prop) (hl : as.length = 3) (h : fWhole as n P) : rd_is_whole ⟨fun _ m => P .none m, P, fun _ _ => False, fun _ _ => False⟩ (startD ["value", "low", "high"] as) n := by
  obtain ⟨v, lo, hi, rfl, hP⟩ := h
  simp only [rd_is_whole, x_var0, x_varS, x_own0, x_ownS, x_ixT, x_ixL, x_addI, x_addT, x_addL, x_gI, x_gIC, x_neg, x_abs, x_intI, x_intB, x_lenT, x_lenL, x_tupL, x_tupT, x_rep, x_seq, x_next, x_set, x_setL, x_par, x_asg, x_drop, x_app, x_ext, x_ret, x_retN, x_if, x_frz, x_for, x_bk, x_ct, x_d1, x_d2, x_dC, x_dL, x_tup, x_and, x_or, x_not, x_ife, x_dB, x_dTr, x_dNot, x_dAnd, x_dOr, x_yes, x_aC, x_aN, x_aSz, x_aRg, x_rg1, x_rg2, x_aList, x_aSort, x_aSl, x_dSl, x_aScr, x_scrLen, x_oN, x_oS, x_rN, x_rC, x_rRl, x_call, x_callB, x_callK, x_iSeq, x_iRg1, x_iRg2, x_iEn, x_gNm, x_gTp, x_gC, x_gN, x_gL, x_comp, startD, arD, wipeD, List.map_cons, List.map_nil, List.length_cons, List.length_nil, List.replicate_succ, List.replicate_zero, List.cons_append, List.nil_append, List.set_cons_succ, List.set_cons_zero, List.getElem?_cons_succ, List.getElem?_cons_zero, Option.some.injEq, PyData.int.injEq, PyData.bool.injEq, PyData.tuple.injEq, PyData.list.injEq, DV.dat.injEq, DV.own.injEq, exists_eq_left', exists_eq_left, exists_eq_right, exists_eq_right', exists_and_left, List.cons.injEq, and_true, true_and, atI0, atI1, atI2, atI3, atI4, atI5, Nat.sub_self, Nat.reduceSub, Nat.reduceAdd, Nat.reduceLT, if_true, if_false, Bool.false_eq_true, ↓reduceIte, Nat.zero_add, y_eqI, y_neI, y_neB, y_eqB, y_eqS, y_neS, y_ltI, y_gtI, y_leI, y_geI, y_inR, y_notInR, y_eqR, y_neR, y_lenR, y_tupR, row_tup, row_lst, tup_lst, lst_tup, false_and, and_false, exists_false, false_or, or_false, exists_const, atI_map, Option.map_some, decide_true, decide_false, Bool.not_true, Bool.not_false, eq_self, y_isB, DV.scr.injEq, x_chain, x_tRg, x_parEL, x_parLE, x_parLL, x_gLs, Nat.add_zero, isi_ii, isi_bi]
  have e : (!decide (v < lo)) = decide (lo ≤ v) := by by_cases h : v < lo <;> simp [h] <;> omega
  have e' : (!decide (hi < v)) = decide (v ≤ hi) := by by_cases h : hi < v <;> simp [h] <;> omega
  rw [e, e']
  exact andP (fun d => P d n) hP
def fCommon : Fn := fun as n P => ∃ r q : Row, as = [.d (rowD r), .d (rowD q)] ∧ r.length ≤ 1000 ∧ P (rowD (r.filter fun o => decide (o ∈ q))) n
theorem hf_common (as : List Ar) (n : Nat) (P : D → Nat → Prop) (hl : as.length = 2) (h : fCommon as n P) : rd_common ⟨fun _ m => P .none m, P, fun _ _ => False, fun _ _ => False⟩ (startD ["one", "other", "machine"] as) n := by
  obtain ⟨r, q, rfl, h1, hP⟩ := h
  simp only [rd_common, x_var0, x_varS, x_own0, x_ownS, x_ixT, x_ixL, x_addI, x_addT, x_addL, x_gI, x_gIC, x_neg, x_abs, x_intI, x_intB, x_lenT, x_lenL, x_tupL, x_tupT, x_rep, x_seq, x_next, x_set, x_setL, x_par, x_asg, x_drop, x_app, x_ext, x_ret, x_retN, x_if, x_frz, x_for, x_bk, x_ct, x_d1, x_d2, x_dC, x_dL, x_tup, x_and, x_or, x_not, x_ife, x_dB, x_dTr, x_dNot, x_dAnd, x_dOr, x_yes, x_aC, x_aN, x_aSz, x_aRg, x_rg1, x_rg2, x_aList, x_aSort, x_aSl, x_dSl, x_aScr, x_scrLen, x_oN, x_oS, x_rN, x_rC, x_rRl, x_call, x_callB, x_callK, x_iSeq, x_iRg1, x_iRg2, x_iEn, x_gNm, x_gTp, x_gC, x_gN, x_gL, x_comp, startD, arD, wipeD, List.map_cons, List.map_nil, List.length_cons, List.length_nil, List.replicate_succ, List.replicate_zero, List.cons_append, List.nil_append, List.set_cons_succ, List.set_cons_zero, List.getElem?_cons_succ, List.getElem?_cons_zero, Option.some.injEq, PyData.int.injEq, PyData.bool.injEq, PyData.tuple.injEq, PyData.list.injEq, DV.dat.injEq, DV.own.injEq, exists_eq_left', exists_eq_left, exists_eq_right, exists_eq_right', exists_and_left, List.cons.injEq, and_true, true_and, atI0, atI1, atI2, atI3, atI4, atI5, Nat.sub_self, Nat.reduceSub, Nat.reduceAdd, Nat.reduceLT, if_true, if_false, Bool.false_eq_true, ↓reduceIte, Nat.zero_add, y_eqI, y_neI, y_neB, y_eqB, y_eqS, y_neS, y_ltI, y_gtI, y_leI, y_geI, y_inR, y_notInR, y_eqR, y_neR, y_lenR, y_tupR, row_tup, row_lst, tup_lst, lst_tup, false_and, and_false, exists_false, false_or, or_false, exists_const, atI_map, Option.map_some, decide_true, decide_false, Bool.not_true, Bool.not_false, eq_self, y_isB, DV.scr.injEq, x_chain, x_tRg, x_parEL, x_parLE, x_parLL, x_gLs, Nat.add_zero]
  refine ⟨rfl, small _ (by simp [intsD]; omega), ?_⟩
  refine compR_map (fun o => decide (o ∈ q)) PyData.int r _ (fun o ho A B ha hb => ?_) hP
  simp only [x_var0, x_varS, x_own0, x_ownS, x_ixT, x_ixL, x_addI, x_addT, x_addL, x_gI, x_gIC, x_neg, x_abs, x_intI, x_intB, x_lenT, x_lenL, x_tupL, x_tupT, x_rep, x_seq, x_next, x_set, x_setL, x_par, x_asg, x_drop, x_app, x_ext, x_ret, x_retN, x_if, x_frz, x_for, x_bk, x_ct, x_d1, x_d2, x_dC, x_dL, x_tup, x_and, x_or, x_not, x_ife, x_dB, x_dTr, x_dNot, x_dAnd, x_dOr, x_yes, x_aC, x_aN, x_aSz, x_aRg, x_rg1, x_rg2, x_aList, x_aSort, x_aSl, x_dSl, x_aScr, x_scrLen, x_oN, x_oS, x_rN, x_rC, x_rRl, x_call, x_callB, x_callK, x_iSeq, x_iRg1, x_iRg2, x_iEn, x_gNm, x_gTp, x_gC, x_gN, x_gL, x_comp, startD, arD, wipeD, List.map_cons, List.map_nil, List.length_cons, List.length_nil, List.replicate_succ, List.replicate_zero, List.cons_append, List.nil_append, List.set_cons_succ, List.set_cons_zero, List.getElem?_cons_succ, List.getElem?_cons_zero, Option.some.injEq, PyData.int.injEq, PyData.bool.injEq, PyData.tuple.injEq, PyData.list.injEq, DV.dat.injEq, DV.own.injEq, exists_eq_left', exists_eq_left, exists_eq_right, exists_eq_right', exists_and_left, List.cons.injEq, and_true, true_and, atI0, atI1, atI2, atI3, atI4, atI5, Nat.sub_self, Nat.reduceSub, Nat.reduceAdd, Nat.reduceLT, if_true, if_false, Bool.false_eq_true, ↓reduceIte, Nat.zero_add, y_eqI, y_neI, y_neB, y_eqB, y_eqS, y_neS, y_ltI, y_gtI, y_leI, y_geI, y_inR, y_notInR, y_eqR, y_neR, y_lenR, y_tupR, row_tup, row_lst, tup_lst, lst_tup, false_and, and_false, exists_false, false_or, or_false, exists_const, atI_map, Option.map_some, decide_true, decide_false, Bool.not_true, Bool.not_false, eq_self, y_isB, DV.scr.injEq, x_chain, x_tRg, x_parEL, x_parLE, x_parLL, x_gLs, Nat.add_zero]
  exact ifc ha hb
def fWithout : Fn := fun as n P => ∃ r q : Row, as = [.d (rowD r), .d (rowD q)] ∧ r.length ≤ 1000 ∧ P (rowD (r.filter fun o => !decide (o ∈ q))) n
theorem hf_without (as : List Ar) (n : Nat) (P : D → Nat → Prop) (hl : as.length = 2) (h : fWithout as n P) : rd_without ⟨fun _ m => P .none m, P, fun _ _ => False, fun _ _ => False⟩ (startD ["one", "other", "machine"] as) n := by
  obtain ⟨r, q, rfl, h1, hP⟩ := h
  simp only [rd_without, x_var0, x_varS, x_own0, x_ownS, x_ixT, x_ixL, x_addI, x_addT, x_addL, x_gI, x_gIC, x_neg, x_abs, x_intI, x_intB, x_lenT, x_lenL, x_tupL, x_tupT, x_rep, x_seq, x_next, x_set, x_setL, x_par, x_asg, x_drop, x_app, x_ext, x_ret, x_retN, x_if, x_frz, x_for, x_bk, x_ct, x_d1, x_d2, x_dC, x_dL, x_tup, x_and, x_or, x_not, x_ife, x_dB, x_dTr, x_dNot, x_dAnd, x_dOr, x_yes, x_aC, x_aN, x_aSz, x_aRg, x_rg1, x_rg2, x_aList, x_aSort, x_aSl, x_dSl, x_aScr, x_scrLen, x_oN, x_oS, x_rN, x_rC, x_rRl, x_call, x_callB, x_callK, x_iSeq, x_iRg1, x_iRg2, x_iEn, x_gNm, x_gTp, x_gC, x_gN, x_gL, x_comp, startD, arD, wipeD, List.map_cons, List.map_nil, List.length_cons, List.length_nil, List.replicate_succ, List.replicate_zero, List.cons_append, List.nil_append, List.set_cons_succ, List.set_cons_zero, List.getElem?_cons_succ, List.getElem?_cons_zero, Option.some.injEq, PyData.int.injEq, PyData.bool.injEq, PyData.tuple.injEq, PyData.list.injEq, DV.dat.injEq, DV.own.injEq, exists_eq_left', exists_eq_left, exists_eq_right, exists_eq_right', exists_and_left, List.cons.injEq, and_true, true_and, atI0, atI1, atI2, atI3, atI4, atI5, Nat.sub_self, Nat.reduceSub, Nat.reduceAdd, Nat.reduceLT, if_true, if_false, Bool.false_eq_true, ↓reduceIte, Nat.zero_add, y_eqI, y_neI, y_neB, y_eqB, y_eqS, y_neS, y_ltI, y_gtI, y_leI, y_geI, y_inR, y_notInR, y_eqR, y_neR, y_lenR, y_tupR, row_tup, row_lst, tup_lst, lst_tup, false_and, and_false, exists_false, false_or, or_false, exists_const, atI_map, Option.map_some, decide_true, decide_false, Bool.not_true, Bool.not_false, eq_self, y_isB, DV.scr.injEq, x_chain, x_tRg, x_parEL, x_parLE, x_parLL, x_gLs, Nat.add_zero]
  refine ⟨rfl, small _ (by simp [intsD]; omega), ?_⟩
  refine compR_map (fun o => !decide (o ∈ q)) PyData.int r _ (fun o ho A B ha hb => ?_) hP
  simp only [x_var0, x_varS, x_own0, x_ownS, x_ixT, x_ixL, x_addI, x_addT, x_addL, x_gI, x_gIC, x_neg, x_abs, x_intI, x_intB, x_lenT, x_lenL, x_tupL, x_tupT, x_rep, x_seq, x_next, x_set, x_setL, x_par, x_asg, x_drop, x_app, x_ext, x_ret, x_retN, x_if, x_frz, x_for, x_bk, x_ct, x_d1, x_d2, x_dC, x_dL, x_tup, x_and, x_or, x_not, x_ife, x_dB, x_dTr, x_dNot, x_dAnd, x_dOr, x_yes, x_aC, x_aN, x_aSz, x_aRg, x_rg1, x_rg2, x_aList, x_aSort, x_aSl, x_dSl, x_aScr, x_scrLen, x_oN, x_oS, x_rN, x_rC, x_rRl, x_call, x_callB, x_callK, x_iSeq, x_iRg1, x_iRg2, x_iEn, x_gNm, x_gTp, x_gC, x_gN, x_gL, x_comp, startD, arD, wipeD, List.map_cons, List.map_nil, List.length_cons, List.length_nil, List.replicate_succ, List.replicate_zero, List.cons_append, List.nil_append, List.set_cons_succ, List.set_cons_zero, List.getElem?_cons_succ, List.getElem?_cons_zero, Option.some.injEq, PyData.int.injEq, PyData.bool.injEq, PyData.tuple.injEq, PyData.list.injEq, DV.dat.injEq, DV.own.injEq, exists_eq_left', exists_eq_left, exists_eq_right, exists_eq_right', exists_and_left, List.cons.injEq, and_true, true_and, atI0, atI1, atI2, atI3, atI4, atI5, Nat.sub_self, Nat.reduceSub, Nat.reduceAdd, Nat.reduceLT, if_true, if_false, Bool.false_eq_true, ↓reduceIte, Nat.zero_add, y_eqI, y_neI, y_neB, y_eqB, y_eqS, y_neS, y_ltI, y_gtI, y_leI, y_geI, y_inR, y_notInR, y_eqR, y_neR, y_lenR, y_tupR, row_tup, row_lst, tup_lst, lst_tup, false_and, and_false, exists_false, false_or, or_false, exists_const, atI_map, Option.map_some, decide_true, decide_false, Bool.not_true, Bool.not_false, eq_self, y_isB, DV.scr.injEq, x_chain, x_tRg, x_parEL, x_parLE, x_parLL, x_gLs, Nat.add_zero]
  exact ifc ha hb
def letM (w : Str) (m k : Int) (j : Bool) : Bool := if w = "forgetting" ∨ w = "belled" then decide (k < m) else if w = "stopping" ∨ j = true then decide (2 * k < m) else decide (3 * k < m)
def fLet : Fn := fun as n P => ∃ (w : Str) (m k : Int) (j : Bool), as = [.d (.str w), .d (.int m), .d (.int k), .d (.bool j)] ∧ w ∈ words4 ∧ CMul 2 k ∧ CMul 3 k ∧ P (.bool (letM w m k j)) n
theorem hf_let (as : List Ar) (n : Nat) (P : D → Nat → Prop) (hl : as.length = 4) (h : fLet as n P) : rd__law_is_let ⟨fun _ m => P .none m, P, fun _ _ => False, fun _ _ => False⟩ (startD ["word", "many", "few", "is_joining"] as) n := by
  obtain ⟨w, m, k, j, rfl, hw, h2, h3, hP⟩ := h
  simp only [rd__law_is_let, x_var0, x_varS, x_own0, x_ownS, x_ixT, x_ixL, x_addI, x_addT, x_addL, x_gI, x_gIC, x_neg, x_abs, x_intI, x_intB, x_lenT, x_lenL, x_tupL, x_tupT, x_rep, x_seq, x_next, x_set, x_setL, x_par, x_asg, x_drop, x_app, x_ext, x_ret, x_retN, x_if, x_frz, x_for, x_bk, x_ct, x_d1, x_d2, x_dC, x_dL, x_tup, x_and, x_or, x_not, x_ife, x_dB, x_dTr, x_dNot, x_dAnd, x_dOr, x_yes, x_aC, x_aN, x_aSz, x_aRg, x_rg1, x_rg2, x_aList, x_aSort, x_aSl, x_dSl, x_aScr, x_scrLen, x_oN, x_oS, x_rN, x_rC, x_rRl, x_call, x_callB, x_callK, x_iSeq, x_iRg1, x_iRg2, x_iEn, x_gNm, x_gTp, x_gC, x_gN, x_gL, x_comp, startD, arD, wipeD, List.map_cons, List.map_nil, List.length_cons, List.length_nil, List.replicate_succ, List.replicate_zero, List.cons_append, List.nil_append, List.set_cons_succ, List.set_cons_zero, List.getElem?_cons_succ, List.getElem?_cons_zero, Option.some.injEq, PyData.int.injEq, PyData.bool.injEq, PyData.tuple.injEq, PyData.list.injEq, DV.dat.injEq, DV.own.injEq, exists_eq_left', exists_eq_left, exists_eq_right, exists_eq_right', exists_and_left, List.cons.injEq, and_true, true_and, atI0, atI1, atI2, atI3, atI4, atI5, Nat.sub_self, Nat.reduceSub, Nat.reduceAdd, Nat.reduceLT, if_true, if_false, Bool.false_eq_true, ↓reduceIte, Nat.zero_add, y_eqI, y_neI, y_neB, y_eqB, y_eqS, y_neS, y_ltI, y_gtI, y_leI, y_geI, y_inR, y_notInR, y_eqR, y_neR, y_lenR, y_tupR, row_tup, row_lst, tup_lst, lst_tup, false_and, and_false, exists_false, false_or, or_false, exists_const, atI_map, Option.map_some, decide_true, decide_false, Bool.not_true, Bool.not_false, eq_self, y_isB, DV.scr.injEq, x_chain, x_tRg, x_parEL, x_parLE, x_parLL, x_gLs, Nat.add_zero]
  refine ⟨small _ (by decide), y_inS (l := ["forgetting", "belled"]) (word_sh hw) (by decide +kernel) ⟨_, rfl, ?_⟩⟩
  have e3 : decide (w ∈ (["forgetting", "belled"] : List Str)) = decide (w = "forgetting" ∨ w = "belled") := by simp
  rw [e3]
  unfold letM at hP
  refine ifc (fun c => ?_) fun c => ?_
  · rw [if_pos (of_decide_eq_true c)] at hP
    exact hP
  · rw [if_neg (of_decide_eq_false c)] at hP
    refine ifc (fun d => ?_) fun d => ?_
    · rw [if_pos (.inl (of_decide_eq_true d))] at hP
      exact ⟨h2, hP⟩
    · refine ⟨fun s h => (by cases h), j, rfl, ifc (fun e => ?_) fun e => ?_⟩
      · rw [if_pos (.inr e)] at hP
        exact ⟨h2, hP⟩
      · rw [if_neg (fun z => z.elim (of_decide_eq_false d) (fun q => by rw [q] at e; cases e))] at hP
        exact ⟨h3, hP⟩
end My
namespace My
open PySem PySem.Spec L2 DL
def fAsc : Fn := fun as n P => (∃ r : Row, as = [.d (rowD r)] ∧ r.length ≤ 1000 ∧ P (.bool (ascE PyData.int r)) n) ∨ ∃ l : List St, as = [.d (.tuple (l.map stD))] ∧ l.length ≤ 1000 ∧ P (.bool (ascE stD l)) n
theorem hf_asc (as : List Ar) (n : Nat) (P : D → Nat → Prop) (hl : as.length = 1) (h : fAsc as n P) : rd_is_ascending ⟨fun _ m => P .none m, P, fun _ _ => False, fun _ _ => False⟩ (startD ["items", "place"] as) n := by
  rcases h with ⟨r, rfl, h1, hP⟩ | ⟨l, rfl, h1, hP⟩
  · exact asc_ok enc_int (by decide) h1 n P hP
  · exact asc_ok enc_st (by decide) h1 n P hP
def rowOk (r : Row) (m : Int) : Bool := (r.map fun v => decide (0 ≤ v) && decide (v ≤ m - 1)).all id && ascE PyData.int r
def fRowOk : Fn := fun as n P => ∃ (r : Row) (m : Int), as = [.d (rowD r), .d (.int m)] ∧ r.length ≤ 1000 ∧ P (.bool (rowOk r m)) n
theorem hf_is_row (as : List Ar) (n : Nat) (P : D → Nat → Prop) (hl : as.length = 2) (h : fRowOk as n P) : rd_is_row fWhole fAsc ⟨fun _ m => P .none m, P, fun _ _ => False, fun _ _ => False⟩ (startD ["value", "many", "item"] as) n := by
  obtain ⟨r, m, rfl, h1, hP⟩ := h
  simp only [rd_is_row, x_var0, x_varS, x_own0, x_ownS, x_ixT, x_ixL, x_addI, x_addT, x_addL, x_gI, x_gIC, x_neg, x_abs, x_intI, x_intB, x_lenT, x_lenL, x_tupL, x_tupT, x_rep, x_seq, x_next, x_set, x_setL, x_par, x_asg, x_drop, x_app, x_ext, x_ret, x_retN, x_if, x_frz, x_for, x_bk, x_ct, x_d1, x_d2, x_dC, x_dL, x_tup, x_and, x_or, x_not, x_ife, x_dB, x_dTr, x_dNot, x_dAnd, x_dOr, x_yes, x_aC, x_aN, x_aSz, x_aRg, x_rg1, x_rg2, x_aList, x_aSort, x_aSl, x_dSl, x_aScr, x_scrLen, x_oN, x_oS, x_rN, x_rC, x_rRl, x_call, x_callB, x_callK, x_iSeq, x_iRg1, x_iRg2, x_iEn, x_gNm, x_gTp, x_gC, x_gN, x_gL, x_comp, startD, arD, wipeD, List.map_cons, List.map_nil, List.length_cons, List.length_nil, List.replicate_succ, List.replicate_zero, List.cons_append, List.nil_append, List.set_cons_succ, List.set_cons_zero, List.getElem?_cons_succ, List.getElem?_cons_zero, Option.some.injEq, PyData.int.injEq, PyData.bool.injEq, PyData.tuple.injEq, PyData.list.injEq, DV.dat.injEq, DV.own.injEq, exists_eq_left', exists_eq_left, exists_eq_right, exists_eq_right', exists_and_left, List.cons.injEq, and_true, true_and, atI0, atI1, atI2, atI3, atI4, atI5, Nat.sub_self, Nat.reduceSub, Nat.reduceAdd, Nat.reduceLT, if_true, if_false, Bool.false_eq_true, ↓reduceIte, Nat.zero_add, y_eqI, y_neI, y_neB, y_eqB, y_eqS, y_neS, y_ltI, y_gtI, y_leI, y_geI, y_inR, y_notInR, y_eqR, y_neR, y_lenR, y_tupR, row_tup, row_lst, tup_lst, lst_tup, false_and, and_false, exists_false, false_or, or_false, exists_const, atI_map, Option.map_some, decide_true, decide_false, Bool.not_true, Bool.not_false, eq_self, y_isB, DV.scr.injEq, x_chain, x_tRg, x_parEL, x_parLE, x_parLL, x_gLs, Nat.add_zero, isi_tr]
  refine ⟨rfl, small _ (by simp [intsD]; omega), ?_⟩
  refine compR_each (fun v => .bool (decide (0 ≤ v) && decide (v ≤ m - 1))) r _ (fun o ho A B ha => ?_) ?_
  · simp only [x_var0, x_varS, x_own0, x_ownS, x_ixT, x_ixL, x_addI, x_addT, x_addL, x_gI, x_gIC, x_neg, x_abs, x_intI, x_intB, x_lenT, x_lenL, x_tupL, x_tupT, x_rep, x_seq, x_next, x_set, x_setL, x_par, x_asg, x_drop, x_app, x_ext, x_ret, x_retN, x_if, x_frz, x_for, x_bk, x_ct, x_d1, x_d2, x_dC, x_dL, x_tup, x_and, x_or, x_not, x_ife, x_dB, x_dTr, x_dNot, x_dAnd, x_dOr, x_yes, x_aC, x_aN, x_aSz, x_aRg, x_rg1, x_rg2, x_aList, x_aSort, x_aSl, x_dSl, x_aScr, x_scrLen, x_oN, x_oS, x_rN, x_rC, x_rRl, x_call, x_callB, x_callK, x_iSeq, x_iRg1, x_iRg2, x_iEn, x_gNm, x_gTp, x_gC, x_gN, x_gL, x_comp, startD, arD, wipeD, List.map_cons, List.map_nil, List.length_cons, List.length_nil, List.replicate_succ, List.replicate_zero, List.cons_append, List.nil_append, List.set_cons_succ, List.set_cons_zero, List.getElem?_cons_succ, List.getElem?_cons_zero, Option.some.injEq, PyData.int.injEq, PyData.bool.injEq, PyData.tuple.injEq, PyData.list.injEq, DV.dat.injEq, DV.own.injEq, exists_eq_left', exists_eq_left, exists_eq_right, exists_eq_right', exists_and_left, List.cons.injEq, and_true, true_and, atI0, atI1, atI2, atI3, atI4, atI5, Nat.sub_self, Nat.reduceSub, Nat.reduceAdd, Nat.reduceLT, if_true, if_false, Bool.false_eq_true, ↓reduceIte, Nat.zero_add, y_eqI, y_neI, y_neB, y_eqB, y_eqS, y_neS, y_ltI, y_gtI, y_leI, y_geI, y_inR, y_notInR, y_eqR, y_neR, y_lenR, y_tupR, row_tup, row_lst, tup_lst, lst_tup, false_and, and_false, exists_false, false_or, or_false, exists_const, atI_map, Option.map_some, decide_true, decide_false, Bool.not_true, Bool.not_false, eq_self, y_isB, DV.scr.injEq, x_chain, x_tRg, x_parEL, x_parLE, x_parLL, x_gLs, Nat.add_zero]
    exact ⟨o, 0, m - 1, rfl, ha⟩
  · rw [List.nil_append]
    have e : r.map (fun v => PyData.bool (decide (0 ≤ v) && decide (v ≤ m - 1))) = (r.map fun v => decide (0 ≤ v) && decide (v ≤ m - 1)).map PyData.bool := by simp
    rw [e, x_all]
    refine ⟨_, rfl, ifc (fun c => ?_) fun c => ?_⟩
    · have c' : (r.map fun v => decide (0 ≤ v) && decide (v ≤ m - 1)).all id = false := by simpa using c
      rw [rowOk, c', Bool.false_and] at hP
      exact hP
    · have c' : (r.map fun v => decide (0 ≤ v) && decide (v ≤ m - 1)).all id = true := by simpa using c
      rw [rowOk, c', Bool.true_and] at hP
      exact .inl ⟨r, rfl, h1, hP⟩
def stormOk (s : St) (m : Int) : Bool := rowOk s.1 m && rowOk s.2 m
def fStormOk : Fn := fun as n P => ∃ (s : St) (m : Int), as = [.d (stD s), .d (.int m)] ∧ s.1.length ≤ 1000 ∧ s.2.length ≤ 1000 ∧ P (.bool (stormOk s m)) n
theorem hf_is_storm (as : List Ar) (n : Nat) (P : D → Nat → Prop) (hl : as.length = 2) (h : fStormOk as n P) : rd_is_storm fRowOk ⟨fun _ m => P .none m, P, fun _ _ => False, fun _ _ => False⟩ (startD ["value", "many"] as) n := by
  obtain ⟨s, m, rfl, h1, h2, hP⟩ := h
  simp only [rd_is_storm, stD, x_var0, x_varS, x_own0, x_ownS, x_ixT, x_ixL, x_addI, x_addT, x_addL, x_gI, x_gIC, x_neg, x_abs, x_intI, x_intB, x_lenT, x_lenL, x_tupL, x_tupT, x_rep, x_seq, x_next, x_set, x_setL, x_par, x_asg, x_drop, x_app, x_ext, x_ret, x_retN, x_if, x_frz, x_for, x_bk, x_ct, x_d1, x_d2, x_dC, x_dL, x_tup, x_and, x_or, x_not, x_ife, x_dB, x_dTr, x_dNot, x_dAnd, x_dOr, x_yes, x_aC, x_aN, x_aSz, x_aRg, x_rg1, x_rg2, x_aList, x_aSort, x_aSl, x_dSl, x_aScr, x_scrLen, x_oN, x_oS, x_rN, x_rC, x_rRl, x_call, x_callB, x_callK, x_iSeq, x_iRg1, x_iRg2, x_iEn, x_gNm, x_gTp, x_gC, x_gN, x_gL, x_comp, startD, arD, wipeD, List.map_cons, List.map_nil, List.length_cons, List.length_nil, List.replicate_succ, List.replicate_zero, List.cons_append, List.nil_append, List.set_cons_succ, List.set_cons_zero, List.getElem?_cons_succ, List.getElem?_cons_zero, Option.some.injEq, PyData.int.injEq, PyData.bool.injEq, PyData.tuple.injEq, PyData.list.injEq, DV.dat.injEq, DV.own.injEq, exists_eq_left', exists_eq_left, exists_eq_right, exists_eq_right', exists_and_left, List.cons.injEq, and_true, true_and, atI0, atI1, atI2, atI3, atI4, atI5, Nat.sub_self, Nat.reduceSub, Nat.reduceAdd, Nat.reduceLT, if_true, if_false, Bool.false_eq_true, ↓reduceIte, Nat.zero_add, y_eqI, y_neI, y_neB, y_eqB, y_eqS, y_neS, y_ltI, y_gtI, y_leI, y_geI, y_inR, y_notInR, y_eqR, y_neR, y_lenR, y_tupR, row_tup, row_lst, tup_lst, lst_tup, false_and, and_false, exists_false, false_or, or_false, exists_const, atI_map, Option.map_some, decide_true, decide_false, Bool.not_true, Bool.not_false, eq_self, y_isB, DV.scr.injEq, x_chain, x_tRg, x_parEL, x_parLE, x_parLL, x_gLs, Nat.add_zero, isi_tt]
  refine ifc (fun _ => ⟨s.1, m, rfl, h1, _, rfl, ifc (fun c => ⟨s.2, m, rfl, h2, ?_⟩) fun c => ?_⟩) fun c => ?_
  · rw [stormOk, c, Bool.true_and] at hP; exact hP
  · rw [stormOk, c, Bool.false_and] at hP; exact hP
  · exact absurd c (by decide)
def cutL {α : Type} (ds : List α) (lo hi : Option Int) : List α := (ds.drop (HT.sIx ds.length 0 lo)).take (HT.sIx ds.length ds.length hi - HT.sIx ds.length 0 lo)
theorem asc_two {α : Type} [Inhabited α] (e : α → D) (a b : α) : ascE e [a, b] = ltE e a b := by simp [ascE, rng, nthI]
theorem cut_map {α : Type} (e : α → D) (l : List α) (lo hi : Option Int) : cutD (l.map e) lo hi = (cutL l lo hi).map e := by
  unfold cutD cutL
  rw [List.length_map, List.map_take, List.map_drop]
theorem cut_two {α : Type} [Inhabited α] {l : List α} {p : Int} (h0 : 1 ≤ p) (h1 : p < l.length) : cutL l (some (p - 1)) (some (p + 1)) = [nthI l (p - 1), nthI l p] := by
  have e1 : HT.sIx l.length 0 (some (p - 1)) = (p - 1).toNat := by
    show (if p - 1 < 0 then _ else min (p - 1).toNat l.length) = _
    rw [if_neg (by omega)]
    omega
  have e2 : HT.sIx l.length l.length (some (p + 1)) = (p + 1).toNat := by
    show (if p + 1 < 0 then _ else min (p + 1).toNat l.length) = _
    rw [if_neg (by omega)]
    omega
  unfold cutL
  rw [e1, e2]
  have e3 : (p + 1).toNat - (p - 1).toNat = 2 := by omega
  rw [e3, List.drop_eq_getElem_cons (by omega), List.drop_eq_getElem_cons (by omega)]
  have e4 : (p - 1).toNat + 1 = p.toNat := by omega
  simp only [List.take_succ_cons, List.take_zero, nthI]
  have z1 : (p - 1).toNat < l.length := by omega
  have z2 : p.toNat < l.length := by omega
  simp only [List.getD_eq_getElem?_getD, List.getElem?_eq_getElem z1, List.getElem?_eq_getElem z2, Option.getD_some, e4]
/-- lawful in form -/
structure Good (s : Sky) : Prop where
  m0 : 1 ≤ s.m
  m1 : s.m ≤ 6
  bl : s.b.length ≤ 1000
  b : rowOk s.b s.m = true
  st0 : 1 ≤ s.st.length
  st1 : s.st.length ≤ 10
  r : ∀ x ∈ s.st, x.1.length ≤ 1000 ∧ x.2.length ≤ 1000 ∧ stormOk x s.m = true
  asc : ∀ p ∈ rng (s.st.length - 1), ltE stD (nthI s.st p) (nthI s.st (p + 1)) = true
def fStormsErr : Fn := fun as n P => ∃ s : Sky, as = [.d (.int s.m), .d (.tuple (s.st.map stD))] ∧ Good s ∧ P .none n
theorem hf_storms_error (as : List Ar) (n : Nat) (P : D → Nat → Prop) (hl : as.length = 2) (h : fStormsErr as n P) : rd_storms_error fStormOk fAsc ⟨fun _ m => P .none m, P, fun _ _ => False, fun _ _ => False⟩ (startD ["many", "storms", "place", "storm"] as) n := by
  obtain ⟨s, rfl, g, hP⟩ := h
  have hst := g.st1
  have ho : ∀ p : Int, 1 ≤ p → p < s.st.length → ltE stD (nthI s.st (p - 1)) (nthI s.st p) = true := fun p h0 h1 => by
    have := g.asc (p - 1) (rng_mem.mpr ⟨by omega, by omega⟩)
    rwa [Int.sub_add_cancel] at this
  simp only [rd_storms_error, x_var0, x_varS, x_own0, x_ownS, x_ixT, x_ixL, x_addI, x_addT, x_addL, x_gI, x_gIC, x_neg, x_abs, x_intI, x_intB, x_lenT, x_lenL, x_tupL, x_tupT, x_rep, x_seq, x_next, x_set, x_setL, x_par, x_asg, x_drop, x_app, x_ext, x_ret, x_retN, x_if, x_frz, x_for, x_bk, x_ct, x_d1, x_d2, x_dC, x_dL, x_tup, x_and, x_or, x_not, x_ife, x_dB, x_dTr, x_dNot, x_dAnd, x_dOr, x_yes, x_aC, x_aN, x_aSz, x_aRg, x_rg1, x_rg2, x_aList, x_aSort, x_aSl, x_dSl, x_aScr, x_scrLen, x_oN, x_oS, x_rN, x_rC, x_rRl, x_call, x_callB, x_callK, x_iSeq, x_iRg1, x_iRg2, x_iEn, x_gNm, x_gTp, x_gC, x_gN, x_gL, x_comp, startD, arD, wipeD, List.map_cons, List.map_nil, List.length_cons, List.length_nil, List.replicate_succ, List.replicate_zero, List.cons_append, List.nil_append, List.set_cons_succ, List.set_cons_zero, List.getElem?_cons_succ, List.getElem?_cons_zero, Option.some.injEq, PyData.int.injEq, PyData.bool.injEq, PyData.tuple.injEq, PyData.list.injEq, DV.dat.injEq, DV.own.injEq, exists_eq_left', exists_eq_left, exists_eq_right, exists_eq_right', exists_and_left, List.cons.injEq, and_true, true_and, atI0, atI1, atI2, atI3, atI4, atI5, Nat.sub_self, Nat.reduceSub, Nat.reduceAdd, Nat.reduceLT, if_true, if_false, Bool.false_eq_true, ↓reduceIte, Nat.zero_add, y_eqI, y_neI, y_neB, y_eqB, y_eqS, y_neS, y_ltI, y_gtI, y_leI, y_geI, y_inR, y_notInR, y_eqR, y_neR, y_lenR, y_tupR, row_tup, row_lst, tup_lst, lst_tup, false_and, and_false, exists_false, false_or, or_false, exists_const, atI_map, Option.map_some, decide_true, decide_false, Bool.not_true, Bool.not_false, eq_self, y_isB, DV.scr.injEq, x_chain, x_tRg, x_parEL, x_parLE, x_parLL, x_gLs, Nat.add_zero]
  rw [enumD_map]
  refine forR_inv (fun r δ m => m = n ∧ (∃ z2 z3 : Option DV, δ = [some (.dat (.int s.m)), some (.dat (.tuple (s.st.map stD))), z2, z3]) ∧ ∀ p ∈ r, p.2 ∈ s.st) _ _ _ ⟨rfl, ⟨none, none, rfl⟩, fun p hp => ?_⟩ (fun p r δ m hp hI N hN => ?_) fun δ m hI => ?_
  · obtain ⟨j, h1, _⟩ := enumL_mem hp
    exact List.mem_of_getElem? h1
  · obtain ⟨rfl, ⟨z2, z3, rfl⟩, hr⟩ := hI
    have hx := g.r p.2 (hr p List.mem_cons_self)
    simp only [x_var0, x_varS, x_own0, x_ownS, x_ixT, x_ixL, x_addI, x_addT, x_addL, x_gI, x_gIC, x_neg, x_abs, x_intI, x_intB, x_lenT, x_lenL, x_tupL, x_tupT, x_rep, x_seq, x_next, x_set, x_setL, x_par, x_asg, x_drop, x_app, x_ext, x_ret, x_retN, x_if, x_frz, x_for, x_bk, x_ct, x_d1, x_d2, x_dC, x_dL, x_tup, x_and, x_or, x_not, x_ife, x_dB, x_dTr, x_dNot, x_dAnd, x_dOr, x_yes, x_aC, x_aN, x_aSz, x_aRg, x_rg1, x_rg2, x_aList, x_aSort, x_aSl, x_dSl, x_aScr, x_scrLen, x_oN, x_oS, x_rN, x_rC, x_rRl, x_call, x_callB, x_callK, x_iSeq, x_iRg1, x_iRg2, x_iEn, x_gNm, x_gTp, x_gC, x_gN, x_gL, x_comp, startD, arD, wipeD, List.map_cons, List.map_nil, List.length_cons, List.length_nil, List.replicate_succ, List.replicate_zero, List.cons_append, List.nil_append, List.set_cons_succ, List.set_cons_zero, List.getElem?_cons_succ, List.getElem?_cons_zero, Option.some.injEq, PyData.int.injEq, PyData.bool.injEq, PyData.tuple.injEq, PyData.list.injEq, DV.dat.injEq, DV.own.injEq, exists_eq_left', exists_eq_left, exists_eq_right, exists_eq_right', exists_and_left, List.cons.injEq, and_true, true_and, atI0, atI1, atI2, atI3, atI4, atI5, Nat.sub_self, Nat.reduceSub, Nat.reduceAdd, Nat.reduceLT, if_true, if_false, Bool.false_eq_true, ↓reduceIte, Nat.zero_add, y_eqI, y_neI, y_neB, y_eqB, y_eqS, y_neS, y_ltI, y_gtI, y_leI, y_geI, y_inR, y_notInR, y_eqR, y_neR, y_lenR, y_tupR, row_tup, row_lst, tup_lst, lst_tup, false_and, and_false, exists_false, false_or, or_false, exists_const, atI_map, Option.map_some, decide_true, decide_false, Bool.not_true, Bool.not_false, eq_self, y_isB, DV.scr.injEq, x_chain, x_tRg, x_parEL, x_parLE, x_parLL, x_gLs, Nat.add_zero]
    refine ⟨p.2, s.m, rfl, hx.1, hx.2.1, ?_⟩
    rw [hx.2.2]
    exact ⟨fun s h => (by cases h), true, rfl, hN _ _ ⟨rfl, ⟨_, _, rfl⟩, fun q hq => hr q (List.mem_cons_of_mem _ hq)⟩⟩
  · obtain ⟨rfl, ⟨z2, z3, rfl⟩, hr⟩ := hI
    simp only [x_var0, x_varS, x_own0, x_ownS, x_ixT, x_ixL, x_addI, x_addT, x_addL, x_gI, x_gIC, x_neg, x_abs, x_intI, x_intB, x_lenT, x_lenL, x_tupL, x_tupT, x_rep, x_seq, x_next, x_set, x_setL, x_par, x_asg, x_drop, x_app, x_ext, x_ret, x_retN, x_if, x_frz, x_for, x_bk, x_ct, x_d1, x_d2, x_dC, x_dL, x_tup, x_and, x_or, x_not, x_ife, x_dB, x_dTr, x_dNot, x_dAnd, x_dOr, x_yes, x_aC, x_aN, x_aSz, x_aRg, x_rg1, x_rg2, x_aList, x_aSort, x_aSl, x_dSl, x_aScr, x_scrLen, x_oN, x_oS, x_rN, x_rC, x_rRl, x_call, x_callB, x_callK, x_iSeq, x_iRg1, x_iRg2, x_iEn, x_gNm, x_gTp, x_gC, x_gN, x_gL, x_comp, startD, arD, wipeD, List.map_cons, List.map_nil, List.length_cons, List.length_nil, List.replicate_succ, List.replicate_zero, List.cons_append, List.nil_append, List.set_cons_succ, List.set_cons_zero, List.getElem?_cons_succ, List.getElem?_cons_zero, Option.some.injEq, PyData.int.injEq, PyData.bool.injEq, PyData.tuple.injEq, PyData.list.injEq, DV.dat.injEq, DV.own.injEq, exists_eq_left', exists_eq_left, exists_eq_right, exists_eq_right', exists_and_left, List.cons.injEq, and_true, true_and, atI0, atI1, atI2, atI3, atI4, atI5, Nat.sub_self, Nat.reduceSub, Nat.reduceAdd, Nat.reduceLT, if_true, if_false, Bool.false_eq_true, ↓reduceIte, Nat.zero_add, y_eqI, y_neI, y_neB, y_eqB, y_eqS, y_neS, y_ltI, y_gtI, y_leI, y_geI, y_inR, y_notInR, y_eqR, y_neR, y_lenR, y_tupR, row_tup, row_lst, tup_lst, lst_tup, false_and, and_false, exists_false, false_or, or_false, exists_const, atI_map, Option.map_some, decide_true, decide_false, Bool.not_true, Bool.not_false, eq_self, y_isB, DV.scr.injEq, x_chain, x_tRg, x_parEL, x_parLE, x_parLL, x_gLs, Nat.add_zero, List.length_map]
    refine ⟨⟨by decide, by decide, by omega, by omega⟩, ?_⟩
    rw [rangeD_ints]
    refine forR_inv (fun r δ m2 => m2 = m ∧ ∃ z2 : Option DV, δ = [some (.dat (.int s.m)), some (.dat (.tuple (s.st.map stD))), z2, z3]) _ _ _ ⟨rfl, z2, rfl⟩ (fun p r δ m2 hp hI N hN => ?_) fun δ m2 hI => ?_
    · obtain ⟨rfl, z2, rfl⟩ := hI
      obtain ⟨q, hq, rfl⟩ := List.mem_map.mp hp
      have hq' := List.mem_range.mp hq
      simp only [x_var0, x_varS, x_own0, x_ownS, x_ixT, x_ixL, x_addI, x_addT, x_addL, x_gI, x_gIC, x_neg, x_abs, x_intI, x_intB, x_lenT, x_lenL, x_tupL, x_tupT, x_rep, x_seq, x_next, x_set, x_setL, x_par, x_asg, x_drop, x_app, x_ext, x_ret, x_retN, x_if, x_frz, x_for, x_bk, x_ct, x_d1, x_d2, x_dC, x_dL, x_tup, x_and, x_or, x_not, x_ife, x_dB, x_dTr, x_dNot, x_dAnd, x_dOr, x_yes, x_aC, x_aN, x_aSz, x_aRg, x_rg1, x_rg2, x_aList, x_aSort, x_aSl, x_dSl, x_aScr, x_scrLen, x_oN, x_oS, x_rN, x_rC, x_rRl, x_call, x_callB, x_callK, x_iSeq, x_iRg1, x_iRg2, x_iEn, x_gNm, x_gTp, x_gC, x_gN, x_gL, x_comp, startD, arD, wipeD, List.map_cons, List.map_nil, List.length_cons, List.length_nil, List.replicate_succ, List.replicate_zero, List.cons_append, List.nil_append, List.set_cons_succ, List.set_cons_zero, List.getElem?_cons_succ, List.getElem?_cons_zero, Option.some.injEq, PyData.int.injEq, PyData.bool.injEq, PyData.tuple.injEq, PyData.list.injEq, DV.dat.injEq, DV.own.injEq, exists_eq_left', exists_eq_left, exists_eq_right, exists_eq_right', exists_and_left, List.cons.injEq, and_true, true_and, atI0, atI1, atI2, atI3, atI4, atI5, Nat.sub_self, Nat.reduceSub, Nat.reduceAdd, Nat.reduceLT, if_true, if_false, Bool.false_eq_true, ↓reduceIte, Nat.zero_add, y_eqI, y_neI, y_neB, y_eqB, y_eqS, y_neS, y_ltI, y_gtI, y_leI, y_geI, y_inR, y_notInR, y_eqR, y_neR, y_lenR, y_tupR, row_tup, row_lst, tup_lst, lst_tup, false_and, and_false, exists_false, false_or, or_false, exists_const, atI_map, Option.map_some, decide_true, decide_false, Bool.not_true, Bool.not_false, eq_self, y_isB, DV.scr.injEq, x_chain, x_tRg, x_parEL, x_parLE, x_parLL, x_gLs, Nat.add_zero, gSl]
      rw [cut_map, cut_two (by omega) (by omega)]
      refine .inr ⟨_, rfl, by simp, ?_⟩
      rw [asc_two, ho _ (by omega) (by omega)]
      exact ⟨fun s h => (by cases h), true, rfl, hN _ _ ⟨rfl, _, rfl⟩⟩
    · obtain ⟨rfl, z2, rfl⟩ := hI
      simp only [x_var0, x_varS, x_own0, x_ownS, x_ixT, x_ixL, x_addI, x_addT, x_addL, x_gI, x_gIC, x_neg, x_abs, x_intI, x_intB, x_lenT, x_lenL, x_tupL, x_tupT, x_rep, x_seq, x_next, x_set, x_setL, x_par, x_asg, x_drop, x_app, x_ext, x_ret, x_retN, x_if, x_frz, x_for, x_bk, x_ct, x_d1, x_d2, x_dC, x_dL, x_tup, x_and, x_or, x_not, x_ife, x_dB, x_dTr, x_dNot, x_dAnd, x_dOr, x_yes, x_aC, x_aN, x_aSz, x_aRg, x_rg1, x_rg2, x_aList, x_aSort, x_aSl, x_dSl, x_aScr, x_scrLen, x_oN, x_oS, x_rN, x_rC, x_rRl, x_call, x_callB, x_callK, x_iSeq, x_iRg1, x_iRg2, x_iEn, x_gNm, x_gTp, x_gC, x_gN, x_gL, x_comp, startD, arD, wipeD, List.map_cons, List.map_nil, List.length_cons, List.length_nil, List.replicate_succ, List.replicate_zero, List.cons_append, List.nil_append, List.set_cons_succ, List.set_cons_zero, List.getElem?_cons_succ, List.getElem?_cons_zero, Option.some.injEq, PyData.int.injEq, PyData.bool.injEq, PyData.tuple.injEq, PyData.list.injEq, DV.dat.injEq, DV.own.injEq, exists_eq_left', exists_eq_left, exists_eq_right, exists_eq_right', exists_and_left, List.cons.injEq, and_true, true_and, atI0, atI1, atI2, atI3, atI4, atI5, Nat.sub_self, Nat.reduceSub, Nat.reduceAdd, Nat.reduceLT, if_true, if_false, Bool.false_eq_true, ↓reduceIte, Nat.zero_add, y_eqI, y_neI, y_neB, y_eqB, y_eqS, y_neS, y_ltI, y_gtI, y_leI, y_geI, y_inR, y_notInR, y_eqR, y_neR, y_lenR, y_tupR, row_tup, row_lst, tup_lst, lst_tup, false_and, and_false, exists_false, false_or, or_false, exists_const, atI_map, Option.map_some, decide_true, decide_false, Bool.not_true, Bool.not_false, eq_self, y_isB, DV.scr.injEq, x_chain, x_tRg, x_parEL, x_parLE, x_parLL, x_gLs, Nat.add_zero]
      exact hP
def fSkyErr : Fn := fun as n P => ∃ s : Sky, as = [.d (skyD s)] ∧ Good s ∧ P .none n
theorem hf_sky_error (as : List Ar) (n : Nat) (P : D → Nat → Prop) (hl : as.length = 1) (h : fSkyErr as n P) : rd_sky_error fWhole fRowOk fStormsErr ⟨fun _ m => P .none m, P, fun _ _ => False, fun _ _ => False⟩ (startD ["value", "many", "bells", "storms"] as) n := by
  obtain ⟨s, rfl, g, hP⟩ := h
  have g0 := g.m0
  have g1 := g.m1
  have g2 := g.st0
  have g3 := g.st1
  simp only [rd_sky_error, skyD, x_var0, x_varS, x_own0, x_ownS, x_ixT, x_ixL, x_addI, x_addT, x_addL, x_gI, x_gIC, x_neg, x_abs, x_intI, x_intB, x_lenT, x_lenL, x_tupL, x_tupT, x_rep, x_seq, x_next, x_set, x_setL, x_par, x_asg, x_drop, x_app, x_ext, x_ret, x_retN, x_if, x_frz, x_for, x_bk, x_ct, x_d1, x_d2, x_dC, x_dL, x_tup, x_and, x_or, x_not, x_ife, x_dB, x_dTr, x_dNot, x_dAnd, x_dOr, x_yes, x_aC, x_aN, x_aSz, x_aRg, x_rg1, x_rg2, x_aList, x_aSort, x_aSl, x_dSl, x_aScr, x_scrLen, x_oN, x_oS, x_rN, x_rC, x_rRl, x_call, x_callB, x_callK, x_iSeq, x_iRg1, x_iRg2, x_iEn, x_gNm, x_gTp, x_gC, x_gN, x_gL, x_comp, startD, arD, wipeD, List.map_cons, List.map_nil, List.length_cons, List.length_nil, List.replicate_succ, List.replicate_zero, List.cons_append, List.nil_append, List.set_cons_succ, List.set_cons_zero, List.getElem?_cons_succ, List.getElem?_cons_zero, Option.some.injEq, PyData.int.injEq, PyData.bool.injEq, PyData.tuple.injEq, PyData.list.injEq, DV.dat.injEq, DV.own.injEq, exists_eq_left', exists_eq_left, exists_eq_right, exists_eq_right', exists_and_left, List.cons.injEq, and_true, true_and, atI0, atI1, atI2, atI3, atI4, atI5, Nat.sub_self, Nat.reduceSub, Nat.reduceAdd, Nat.reduceLT, if_true, if_false, Bool.false_eq_true, ↓reduceIte, Nat.zero_add, y_eqI, y_neI, y_neB, y_eqB, y_eqS, y_neS, y_ltI, y_gtI, y_leI, y_geI, y_inR, y_notInR, y_eqR, y_neR, y_lenR, y_tupR, row_tup, row_lst, tup_lst, lst_tup, false_and, and_false, exists_false, false_or, or_false, exists_const, atI_map, Option.map_some, decide_true, decide_false, Bool.not_true, Bool.not_false, eq_self, y_isB, DV.scr.injEq, x_chain, x_tRg, x_parEL, x_parLE, x_parLL, x_gLs, Nat.add_zero, isi_tt, List.length_map]
  refine ifc (fun c => absurd c (by decide)) fun _ => ⟨s.m, 1, 6, rfl, ?_⟩
  rw [show (decide (1 ≤ s.m) && decide (s.m ≤ 6)) = true from by simp [g0, g1]]
  refine ⟨fun s h => (by cases h), true, rfl, ⟨s.b, s.m, rfl, g.bl, ?_⟩⟩
  rw [g.b]
  refine ⟨fun s h => (by cases h), true, rfl, ?_⟩
  refine ifc (fun c => absurd c (by decide)) fun _ => ?_
  refine ifc (fun _ => ifc (fun c => absurd c ?_) fun _ => ⟨s, rfl, g, hP⟩) fun c => absurd c ?_
  · simp; omega
  · simp; omega
end My
namespace My
open PySem PySem.Spec L2 DL
abbrev sat (s : Sky) (i : Int) : St := nthI s.st i
abbrev LM (s : Sky) (i : Int) : Row := leftM s (sat s i)
abbrev TM (s : Sky) (i : Int) : Row := takenM s.b (sat s i)
abbrev FM (s : Sky) (i : Int) : Row := firmM s (sat s i)
def nearM (s : Sky) (t : Int) : Row := (rng s.st.length).filter fun o => withinM (TM s o) (TM s t)
def pap1 (s : Sky) (j : Bool) (t i : Int) : List Row := if (j && decide ((LM s i).filter (fun o => decide (o ∈ FM s t)) = [])) = true then [[t, i]] else []
def pap3 (s : Sky) (t i o : Int) : List Row := if (withinM (TM s i) (TM s o) && decide (((LM s i).filter fun z => decide (z ∈ LM s o)).filter (fun z => !decide (z ∈ (sat s t).2)) = [])) = true then [[t, i, o]] else []
def pap2 (s : Sky) (j : Bool) (t i : Int) : List Row := (if j = true then [] else nearM s t).flatMap (pap3 s t i)
def papersM (s : Sky) (j : Bool) : List Row := (rng s.st.length).flatMap fun t => (nearM s t).flatMap fun i => pap1 s j t i ++ pap2 s j t i
def fPapers : Fn := fun as n P => ∃ (s : Sky) (j : Bool), as = [.d (skyD s), .d (.bool j)] ∧ Ok s ∧ (papersM s j).length ≤ 100000 ∧ P (.list ((papersM s j).map rowD)) n
theorem near_mem {s : Sky} {t o : Int} (h : o ∈ nearM s t) : 0 ≤ o ∧ o < s.st.length := rng_mem.mp (List.mem_filter.mp h).1
theorem taken_len (s : Sky) (ok : Ok s) {i : Int} (h0 : 0 ≤ i) (h1 : i < s.st.length) : (TM s i).length ≤ 1000 := Nat.le_trans (List.length_filter_le _ _) (ok.r1 _ (atI_mem (atI_nth h0 h1)))
theorem atI_rng {n : Int} {o : Int} (h0 : 0 ≤ o) (h1 : o < n) (f : Int → D) : L2.atI ((rng n).map f) o = some (f o) := by
  obtain ⟨k, rfl⟩ := Int.eq_ofNat_of_zero_le h0
  rw [atI_nat', List.getElem?_map]
  unfold rng
  rw [List.getElem?_map, List.getElem?_range (by omega)]
  simp
def numD (s : Sky) : D := .list (intsD (rng s.st.length))
def leftsD (s : Sky) : D := .list ((rng s.st.length).map fun o => rowD (LM s o))
def takesD (s : Sky) : D := .list ((rng s.st.length).map fun o => rowD (TM s o))
theorem k_ix2 (s : Sky) (P : D → Prop) : gIx (skyD s) (.int 2) P = P (.tuple (s.st.map stD)) := by simp only [skyD, x_var0, x_varS, x_own0, x_ownS, x_ixT, x_ixL, x_addI, x_addT, x_addL, x_gI, x_gIC, x_neg, x_abs, x_intI, x_intB, x_lenT, x_lenL, x_tupL, x_tupT, x_rep, x_seq, x_next, x_set, x_setL, x_par, x_asg, x_drop, x_app, x_ext, x_ret, x_retN, x_if, x_frz, x_for, x_bk, x_ct, x_d1, x_d2, x_dC, x_dL, x_tup, x_and, x_or, x_not, x_ife, x_dB, x_dTr, x_dNot, x_dAnd, x_dOr, x_yes, x_aC, x_aN, x_aSz, x_aRg, x_rg1, x_rg2, x_aList, x_aSort, x_aSl, x_dSl, x_aScr, x_scrLen, x_oN, x_oS, x_rN, x_rC, x_rRl, x_call, x_callB, x_callK, x_iSeq, x_iRg1, x_iRg2, x_iEn, x_gNm, x_gTp, x_gC, x_gN, x_gL, x_comp, startD, arD, wipeD, List.map_cons, List.map_nil, List.length_cons, List.length_nil, List.replicate_succ, List.replicate_zero, List.cons_append, List.nil_append, List.set_cons_succ, List.set_cons_zero, List.getElem?_cons_succ, List.getElem?_cons_zero, Option.some.injEq, PyData.int.injEq, PyData.bool.injEq, PyData.tuple.injEq, PyData.list.injEq, DV.dat.injEq, DV.own.injEq, exists_eq_left', exists_eq_left, exists_eq_right, exists_eq_right', exists_and_left, List.cons.injEq, and_true, true_and, atI0, atI1, atI2, atI3, atI4, atI5, Nat.sub_self, Nat.reduceSub, Nat.reduceAdd, Nat.reduceLT, if_true, if_false, Bool.false_eq_true, ↓reduceIte, Nat.zero_add, y_eqI, y_neI, y_neB, y_eqB, y_eqS, y_neS, y_ltI, y_gtI, y_leI, y_geI, y_inR, y_notInR, y_eqR, y_neR, y_lenR, y_tupR, row_tup, row_lst, tup_lst, lst_tup, false_and, and_false, exists_false, false_or, or_false, exists_const, atI_map, Option.map_some, decide_true, decide_false, Bool.not_true, Bool.not_false, eq_self, y_isB, DV.scr.injEq, x_chain, x_tRg, x_parEL, x_parLE, x_parLL, x_gLs, Nat.add_zero]
def rdP3 : DTS := sIf (dAnd (dTr (dCall fWithin (rCons (d2 gIx (dVar 5) (dVar 6)) (rCons (d2 gIx (dVar 5) (dVar 10)) (rNil))))) (dB (d2 gEq (dCall fWithout (rCons (dCall fCommon (rCons (d2 gIx (dVar 4) (dVar 6)) (rCons (d2 gIx (dVar 4) (dVar 10)) (rNil)))) (rCons (d2 gIx (d2 gIx (d2 gIx (dVar 0) (dC (.int 2))) (dVar 7)) (dC (.int 1))) (rNil)))) (dTup (aNil))))) (sApp 3 (dTup (aCons (dVar 7) (aCons (dVar 6) (aCons (dVar 10) (aNil)))))) (sNext)
theorem left_len' (s : Sky) (i : Int) (ok : Ok s) : (LM s i).length ≤ 1000 := left_len s _ ok
theorem p3 {s : Sky} {j : Bool} {t i : Int} (ok : Ok s) (hb : (papersM s j).length ≤ 100000) (ht : 0 ≤ t ∧ t < s.st.length) (hi : 0 ≤ i ∧ i < s.st.length) (r : List Int) (hr : ∀ o ∈ r, 0 ≤ o ∧ o < s.st.length) (acc rest : List Row) (z8 z9 z10 : Option D) (hacc : acc ++ r.flatMap (pap3 s t i) ++ rest = papersM s j) (E : DEnds) (m : Nat)
    (hE : ∀ acc z10, acc ++ rest = papersM s j → E.nx [some (.dat (skyD s)), some (.dat (.bool j)), some (.dat (numD s)), some (.own (acc.map rowD)), some (.dat (leftsD s)), some (.dat (takesD s)), some (.dat (.int i)), some (.dat (.int t)), z8.map .dat, z9.map .dat, Option.map .dat z10] m) :
    forR (gNm 10) rdP3 E (r.map PyData.int) [some (.dat (skyD s)), some (.dat (.bool j)), some (.dat (numD s)), some (.own (acc.map rowD)), some (.dat (leftsD s)), some (.dat (takesD s)), some (.dat (.int i)), some (.dat (.int t)), z8.map .dat, z9.map .dat, z10.map .dat] m := by
  refine forR_inv (fun r2 δ m2 => m2 = m ∧ ∃ (acc : List Row) (z10 : Option D), δ = [some (.dat (skyD s)), some (.dat (.bool j)), some (.dat (numD s)), some (.own (acc.map rowD)), some (.dat (leftsD s)), some (.dat (takesD s)), some (.dat (.int i)), some (.dat (.int t)), z8.map .dat, z9.map .dat, z10.map .dat] ∧ acc ++ r2.flatMap (pap3 s t i) ++ rest = papersM s j ∧ ∀ o ∈ r2, 0 ≤ o ∧ o < s.st.length) _ _ _ ⟨rfl, acc, z10, rfl, hacc, hr⟩ (fun o r2 δ m2 ho hI N hN => ?_) fun δ m2 hI => ?_
  · obtain ⟨rfl, acc, z10, rfl, hacc, hr2⟩ := hI
    have ho' := hr2 o List.mem_cons_self
    rw [List.flatMap_cons, ← List.append_assoc] at hacc
    simp only [rdP3, x_var0, x_varS, x_own0, x_ownS, x_ixT, x_ixL, x_addI, x_addT, x_addL, x_gI, x_gIC, x_neg, x_abs, x_intI, x_intB, x_lenT, x_lenL, x_tupL, x_tupT, x_rep, x_seq, x_next, x_set, x_setL, x_par, x_asg, x_drop, x_app, x_ext, x_ret, x_retN, x_if, x_frz, x_for, x_bk, x_ct, x_d1, x_d2, x_dC, x_dL, x_tup, x_and, x_or, x_not, x_ife, x_dB, x_dTr, x_dNot, x_dAnd, x_dOr, x_yes, x_aC, x_aN, x_aSz, x_aRg, x_rg1, x_rg2, x_aList, x_aSort, x_aSl, x_dSl, x_aScr, x_scrLen, x_oN, x_oS, x_rN, x_rC, x_rRl, x_call, x_callB, x_callK, x_iSeq, x_iRg1, x_iRg2, x_iEn, x_gNm, x_gTp, x_gC, x_gN, x_gL, x_comp, startD, arD, wipeD, List.map_cons, List.map_nil, List.length_cons, List.length_nil, List.replicate_succ, List.replicate_zero, List.cons_append, List.nil_append, List.set_cons_succ, List.set_cons_zero, List.getElem?_cons_succ, List.getElem?_cons_zero, Option.some.injEq, PyData.int.injEq, PyData.bool.injEq, PyData.tuple.injEq, PyData.list.injEq, DV.dat.injEq, DV.own.injEq, exists_eq_left', exists_eq_left, exists_eq_right, exists_eq_right', exists_and_left, List.cons.injEq, and_true, true_and, atI0, atI1, atI2, atI3, atI4, atI5, Nat.sub_self, Nat.reduceSub, Nat.reduceAdd, Nat.reduceLT, if_true, if_false, Bool.false_eq_true, ↓reduceIte, Nat.zero_add, y_eqI, y_neI, y_neB, y_eqB, y_eqS, y_neS, y_ltI, y_gtI, y_leI, y_geI, y_inR, y_notInR, y_eqR, y_neR, y_lenR, y_tupR, row_tup, row_lst, tup_lst, lst_tup, false_and, and_false, exists_false, false_or, or_false, exists_const, atI_map, Option.map_some, decide_true, decide_false, Bool.not_true, Bool.not_false, eq_self, y_isB, DV.scr.injEq, x_chain, x_tRg, x_parEL, x_parLE, x_parLL, x_gLs, Nat.add_zero, leftsD, takesD, atI_rng hi.1 hi.2, atI_rng ho'.1 ho'.2]
    have hno : pap3 s t i o = [] → N [some (.dat (skyD s)), some (.dat (.bool j)), some (.dat (numD s)), some (.own (acc.map rowD)), some (.dat (leftsD s)), some (.dat (takesD s)), some (.dat (.int i)), some (.dat (.int t)), z8.map .dat, z9.map .dat, some (.dat (.int o))] m2 := fun h => by
      rw [h, List.append_nil] at hacc
      exact hN _ _ ⟨rfl, acc, some _, rfl, hacc, fun q hq => hr2 q (List.mem_cons_of_mem _ hq)⟩
    refine ⟨_, _, rfl, taken_len s ok hi.1 hi.2, fun s h => (by cases h), _, rfl, ifc (fun c => ?_) fun c => hno (by unfold pap3; rw [c]; rfl)⟩
    refine ⟨_, _, rfl, left_len' s i ok, ?_⟩
    show gIx (skyD s) (.int 2) _
    rw [k_ix2]
    simp only [x_var0, x_varS, x_own0, x_ownS, x_ixT, x_ixL, x_addI, x_addT, x_addL, x_gI, x_gIC, x_neg, x_abs, x_intI, x_intB, x_lenT, x_lenL, x_tupL, x_tupT, x_rep, x_seq, x_next, x_set, x_setL, x_par, x_asg, x_drop, x_app, x_ext, x_ret, x_retN, x_if, x_frz, x_for, x_bk, x_ct, x_d1, x_d2, x_dC, x_dL, x_tup, x_and, x_or, x_not, x_ife, x_dB, x_dTr, x_dNot, x_dAnd, x_dOr, x_yes, x_aC, x_aN, x_aSz, x_aRg, x_rg1, x_rg2, x_aList, x_aSort, x_aSl, x_dSl, x_aScr, x_scrLen, x_oN, x_oS, x_rN, x_rC, x_rRl, x_call, x_callB, x_callK, x_iSeq, x_iRg1, x_iRg2, x_iEn, x_gNm, x_gTp, x_gC, x_gN, x_gL, x_comp, startD, arD, wipeD, List.map_cons, List.map_nil, List.length_cons, List.length_nil, List.replicate_succ, List.replicate_zero, List.cons_append, List.nil_append, List.set_cons_succ, List.set_cons_zero, List.getElem?_cons_succ, List.getElem?_cons_zero, Option.some.injEq, PyData.int.injEq, PyData.bool.injEq, PyData.tuple.injEq, PyData.list.injEq, DV.dat.injEq, DV.own.injEq, exists_eq_left', exists_eq_left, exists_eq_right, exists_eq_right', exists_and_left, List.cons.injEq, and_true, true_and, atI0, atI1, atI2, atI3, atI4, atI5, Nat.sub_self, Nat.reduceSub, Nat.reduceAdd, Nat.reduceLT, if_true, if_false, Bool.false_eq_true, ↓reduceIte, Nat.zero_add, y_eqI, y_neI, y_neB, y_eqB, y_eqS, y_neS, y_ltI, y_gtI, y_leI, y_geI, y_inR, y_notInR, y_eqR, y_neR, y_lenR, y_tupR, row_tup, row_lst, tup_lst, lst_tup, false_and, and_false, exists_false, false_or, or_false, exists_const, atI_map, Option.map_some, decide_true, decide_false, Bool.not_true, Bool.not_false, eq_self, y_isB, DV.scr.injEq, x_chain, x_tRg, x_parEL, x_parLE, x_parLL, x_gLs, Nat.add_zero, atI_nth ht.1 ht.2, stD]
    refine ⟨_, _, rfl, Nat.le_trans (List.length_filter_le _ _) (left_len' s i ok), Nat.zero_le _, ?_⟩
    rw [y_eqRn]
    refine ⟨_, rfl, ifc (fun d => ?_) fun d => hno (by unfold pap3; rw [c, d]; rfl)⟩
    have e : pap3 s t i o = [[t, i, o]] := by unfold pap3; rw [c, d]; rfl
    rw [e] at hacc
    have hl : acc.length ≤ 100000 := by
      refine Nat.le_trans ?_ hb
      rw [← hacc]; simp only [List.length_append]; omega
    refine ⟨smallLt _ (by rw [List.length_map]; omega), small _ (by decide), hN _ _ ⟨rfl, acc ++ [[t, i, o]], some (.int o), ?_, hacc, fun q hq => hr2 q (List.mem_cons_of_mem _ hq)⟩⟩
    rw [List.map_append]
    rfl
  · obtain ⟨rfl, acc, z10, rfl, hacc, hr2⟩ := hI
    rw [List.flatMap_nil, List.append_nil] at hacc
    exact hE _ _ hacc
theorem hf_papers (as : List Ar) (n : Nat) (P : D → Nat → Prop) (hl : as.length = 2) (h : fPapers as n P) : rd_papers fTaken fLeft fWithin fFirm fCommon fWithout ⟨fun _ m => P .none m, P, fun _ _ => False, fun _ _ => False⟩ (startD ["sky", "is_joining", "numbers", "found", "lefts", "takes", "s", "t", "calm", "under", "r"] as) n := by
  obtain ⟨s, j, rfl, ok, hb, hP⟩ := h
  have hst := ok.st
  have hk : PyData.tuple [.int s.m, rowD s.b, .tuple (s.st.map stD)] = skyD s := rfl
  have hn : (rangeD 0 ((s.st.length : Int) - 0).toNat) = intsD (rng s.st.length) := by rw [Int.sub_zero, rangeD_rng]
  have hsz : (intsD (rng s.st.length)).length ≤ sizeLine := small _ (by rw [intsD, List.length_map, rng_len]; omega)
  simp only [rd_papers, skyD, x_var0, x_varS, x_own0, x_ownS, x_ixT, x_ixL, x_addI, x_addT, x_addL, x_gI, x_gIC, x_neg, x_abs, x_intI, x_intB, x_lenT, x_lenL, x_tupL, x_tupT, x_rep, x_seq, x_next, x_set, x_setL, x_par, x_asg, x_drop, x_app, x_ext, x_ret, x_retN, x_if, x_frz, x_for, x_bk, x_ct, x_d1, x_d2, x_dC, x_dL, x_tup, x_and, x_or, x_not, x_ife, x_dB, x_dTr, x_dNot, x_dAnd, x_dOr, x_yes, x_aC, x_aN, x_aSz, x_aRg, x_rg1, x_rg2, x_aList, x_aSort, x_aSl, x_dSl, x_aScr, x_scrLen, x_oN, x_oS, x_rN, x_rC, x_rRl, x_call, x_callB, x_callK, x_iSeq, x_iRg1, x_iRg2, x_iEn, x_gNm, x_gTp, x_gC, x_gN, x_gL, x_comp, startD, arD, wipeD, List.map_cons, List.map_nil, List.length_cons, List.length_nil, List.replicate_succ, List.replicate_zero, List.cons_append, List.nil_append, List.set_cons_succ, List.set_cons_zero, List.getElem?_cons_succ, List.getElem?_cons_zero, Option.some.injEq, PyData.int.injEq, PyData.bool.injEq, PyData.tuple.injEq, PyData.list.injEq, DV.dat.injEq, DV.own.injEq, exists_eq_left', exists_eq_left, exists_eq_right, exists_eq_right', exists_and_left, List.cons.injEq, and_true, true_and, atI0, atI1, atI2, atI3, atI4, atI5, Nat.sub_self, Nat.reduceSub, Nat.reduceAdd, Nat.reduceLT, if_true, if_false, Bool.false_eq_true, ↓reduceIte, Nat.zero_add, y_eqI, y_neI, y_neB, y_eqB, y_eqS, y_neS, y_ltI, y_gtI, y_leI, y_geI, y_inR, y_notInR, y_eqR, y_neR, y_lenR, y_tupR, row_tup, row_lst, tup_lst, lst_tup, false_and, and_false, exists_false, false_or, or_false, exists_const, atI_map, Option.map_some, decide_true, decide_false, Bool.not_true, Bool.not_false, eq_self, y_isB, DV.scr.injEq, x_chain, x_tRg, x_parEL, x_parLE, x_parLL, x_gLs, Nat.add_zero, List.length_map]
  rw [hn]
  refine ⟨by unfold RgOk; omega, Nat.zero_le _, rfl, hsz, ?_⟩
  refine compR_each (fun o => rowD (LM s o)) _ _ (fun o ho A B ha => ?_) ?_
  · have ho' := rng_mem.mp ho
    simp only [x_var0, x_varS, x_own0, x_ownS, x_ixT, x_ixL, x_addI, x_addT, x_addL, x_gI, x_gIC, x_neg, x_abs, x_intI, x_intB, x_lenT, x_lenL, x_tupL, x_tupT, x_rep, x_seq, x_next, x_set, x_setL, x_par, x_asg, x_drop, x_app, x_ext, x_ret, x_retN, x_if, x_frz, x_for, x_bk, x_ct, x_d1, x_d2, x_dC, x_dL, x_tup, x_and, x_or, x_not, x_ife, x_dB, x_dTr, x_dNot, x_dAnd, x_dOr, x_yes, x_aC, x_aN, x_aSz, x_aRg, x_rg1, x_rg2, x_aList, x_aSort, x_aSl, x_dSl, x_aScr, x_scrLen, x_oN, x_oS, x_rN, x_rC, x_rRl, x_call, x_callB, x_callK, x_iSeq, x_iRg1, x_iRg2, x_iEn, x_gNm, x_gTp, x_gC, x_gN, x_gL, x_comp, startD, arD, wipeD, List.map_cons, List.map_nil, List.length_cons, List.length_nil, List.replicate_succ, List.replicate_zero, List.cons_append, List.nil_append, List.set_cons_succ, List.set_cons_zero, List.getElem?_cons_succ, List.getElem?_cons_zero, Option.some.injEq, PyData.int.injEq, PyData.bool.injEq, PyData.tuple.injEq, PyData.list.injEq, DV.dat.injEq, DV.own.injEq, exists_eq_left', exists_eq_left, exists_eq_right, exists_eq_right', exists_and_left, List.cons.injEq, and_true, true_and, atI0, atI1, atI2, atI3, atI4, atI5, Nat.sub_self, Nat.reduceSub, Nat.reduceAdd, Nat.reduceLT, if_true, if_false, Bool.false_eq_true, ↓reduceIte, Nat.zero_add, y_eqI, y_neI, y_neB, y_eqB, y_eqS, y_neS, y_ltI, y_gtI, y_leI, y_geI, y_inR, y_notInR, y_eqR, y_neR, y_lenR, y_tupR, row_tup, row_lst, tup_lst, lst_tup, false_and, and_false, exists_false, false_or, or_false, exists_const, atI_map, Option.map_some, decide_true, decide_false, Bool.not_true, Bool.not_false, eq_self, y_isB, DV.scr.injEq, x_chain, x_tRg, x_parEL, x_parLE, x_parLL, x_gLs, Nat.add_zero]
    exact ⟨s, o, _, rfl, atI_nth ho'.1 ho'.2, ok, ha⟩
  refine ⟨rfl, hsz, ?_⟩
  refine compR_each (fun o => rowD (TM s o)) _ _ (fun o ho A B ha => ?_) ?_
  · have ho' := rng_mem.mp ho
    simp only [x_var0, x_varS, x_own0, x_ownS, x_ixT, x_ixL, x_addI, x_addT, x_addL, x_gI, x_gIC, x_neg, x_abs, x_intI, x_intB, x_lenT, x_lenL, x_tupL, x_tupT, x_rep, x_seq, x_next, x_set, x_setL, x_par, x_asg, x_drop, x_app, x_ext, x_ret, x_retN, x_if, x_frz, x_for, x_bk, x_ct, x_d1, x_d2, x_dC, x_dL, x_tup, x_and, x_or, x_not, x_ife, x_dB, x_dTr, x_dNot, x_dAnd, x_dOr, x_yes, x_aC, x_aN, x_aSz, x_aRg, x_rg1, x_rg2, x_aList, x_aSort, x_aSl, x_dSl, x_aScr, x_scrLen, x_oN, x_oS, x_rN, x_rC, x_rRl, x_call, x_callB, x_callK, x_iSeq, x_iRg1, x_iRg2, x_iEn, x_gNm, x_gTp, x_gC, x_gN, x_gL, x_comp, startD, arD, wipeD, List.map_cons, List.map_nil, List.length_cons, List.length_nil, List.replicate_succ, List.replicate_zero, List.cons_append, List.nil_append, List.set_cons_succ, List.set_cons_zero, List.getElem?_cons_succ, List.getElem?_cons_zero, Option.some.injEq, PyData.int.injEq, PyData.bool.injEq, PyData.tuple.injEq, PyData.list.injEq, DV.dat.injEq, DV.own.injEq, exists_eq_left', exists_eq_left, exists_eq_right, exists_eq_right', exists_and_left, List.cons.injEq, and_true, true_and, atI0, atI1, atI2, atI3, atI4, atI5, Nat.sub_self, Nat.reduceSub, Nat.reduceAdd, Nat.reduceLT, if_true, if_false, Bool.false_eq_true, ↓reduceIte, Nat.zero_add, y_eqI, y_neI, y_neB, y_eqB, y_eqS, y_neS, y_ltI, y_gtI, y_leI, y_geI, y_inR, y_notInR, y_eqR, y_neR, y_lenR, y_tupR, row_tup, row_lst, tup_lst, lst_tup, false_and, and_false, exists_false, false_or, or_false, exists_const, atI_map, Option.map_some, decide_true, decide_false, Bool.not_true, Bool.not_false, eq_self, y_isB, DV.scr.injEq, x_chain, x_tRg, x_parEL, x_parLE, x_parLL, x_gLs, Nat.add_zero]
    exact ⟨s, o, _, rfl, atI_nth ho'.1 ho'.2, ok, ha⟩
  refine ⟨small _ (by decide), ?_⟩
  refine forR_inv (fun r δ m => m = n ∧ ∃ (acc : List Row) (z6 z7 z8 z9 z10 : Option D), δ = [some (.dat (skyD s)), some (.dat (.bool j)), some (.dat (numD s)), some (.own (acc.map rowD)), some (.dat (leftsD s)), some (.dat (takesD s)), z6.map .dat, z7.map .dat, z8.map .dat, z9.map .dat, z10.map .dat] ∧ acc ++ r.flatMap (fun t => (nearM s t).flatMap fun i => pap1 s j t i ++ pap2 s j t i) = papersM s j) _ _ _ ⟨rfl, [], none, none, none, none, none, rfl, rfl⟩ (fun t r δ m ht hI N hN => ?_) fun δ m hI => ?_
  · obtain ⟨rfl, acc, z6, z7, z8, z9, z10, rfl, hacc⟩ := hI
    have ht' := rng_mem.mp ht
    rw [List.flatMap_cons, ← List.append_assoc] at hacc
    simp only [x_var0, x_varS, x_own0, x_ownS, x_ixT, x_ixL, x_addI, x_addT, x_addL, x_gI, x_gIC, x_neg, x_abs, x_intI, x_intB, x_lenT, x_lenL, x_tupL, x_tupT, x_rep, x_seq, x_next, x_set, x_setL, x_par, x_asg, x_drop, x_app, x_ext, x_ret, x_retN, x_if, x_frz, x_for, x_bk, x_ct, x_d1, x_d2, x_dC, x_dL, x_tup, x_and, x_or, x_not, x_ife, x_dB, x_dTr, x_dNot, x_dAnd, x_dOr, x_yes, x_aC, x_aN, x_aSz, x_aRg, x_rg1, x_rg2, x_aList, x_aSort, x_aSl, x_dSl, x_aScr, x_scrLen, x_oN, x_oS, x_rN, x_rC, x_rRl, x_call, x_callB, x_callK, x_iSeq, x_iRg1, x_iRg2, x_iEn, x_gNm, x_gTp, x_gC, x_gN, x_gL, x_comp, startD, arD, wipeD, List.map_cons, List.map_nil, List.length_cons, List.length_nil, List.replicate_succ, List.replicate_zero, List.cons_append, List.nil_append, List.set_cons_succ, List.set_cons_zero, List.getElem?_cons_succ, List.getElem?_cons_zero, Option.some.injEq, PyData.int.injEq, PyData.bool.injEq, PyData.tuple.injEq, PyData.list.injEq, DV.dat.injEq, DV.own.injEq, exists_eq_left', exists_eq_left, exists_eq_right, exists_eq_right', exists_and_left, List.cons.injEq, and_true, true_and, atI0, atI1, atI2, atI3, atI4, atI5, Nat.sub_self, Nat.reduceSub, Nat.reduceAdd, Nat.reduceLT, if_true, if_false, Bool.false_eq_true, ↓reduceIte, Nat.zero_add, y_eqI, y_neI, y_neB, y_eqB, y_eqS, y_neS, y_ltI, y_gtI, y_leI, y_geI, y_inR, y_notInR, y_eqR, y_neR, y_lenR, y_tupR, row_tup, row_lst, tup_lst, lst_tup, false_and, and_false, exists_false, false_or, or_false, exists_const, atI_map, Option.map_some, decide_true, decide_false, Bool.not_true, Bool.not_false, eq_self, y_isB, DV.scr.injEq, x_chain, x_tRg, x_parEL, x_parLE, x_parLL, x_gLs, Nat.add_zero]
    refine ⟨s, t, _, rfl, atI_nth ht'.1 ht'.2, ok, ?_⟩
    simp only [x_var0, x_varS, x_own0, x_ownS, x_ixT, x_ixL, x_addI, x_addT, x_addL, x_gI, x_gIC, x_neg, x_abs, x_intI, x_intB, x_lenT, x_lenL, x_tupL, x_tupT, x_rep, x_seq, x_next, x_set, x_setL, x_par, x_asg, x_drop, x_app, x_ext, x_ret, x_retN, x_if, x_frz, x_for, x_bk, x_ct, x_d1, x_d2, x_dC, x_dL, x_tup, x_and, x_or, x_not, x_ife, x_dB, x_dTr, x_dNot, x_dAnd, x_dOr, x_yes, x_aC, x_aN, x_aSz, x_aRg, x_rg1, x_rg2, x_aList, x_aSort, x_aSl, x_dSl, x_aScr, x_scrLen, x_oN, x_oS, x_rN, x_rC, x_rRl, x_call, x_callB, x_callK, x_iSeq, x_iRg1, x_iRg2, x_iEn, x_gNm, x_gTp, x_gC, x_gN, x_gL, x_comp, startD, arD, wipeD, List.map_cons, List.map_nil, List.length_cons, List.length_nil, List.replicate_succ, List.replicate_zero, List.cons_append, List.nil_append, List.set_cons_succ, List.set_cons_zero, List.getElem?_cons_succ, List.getElem?_cons_zero, Option.some.injEq, PyData.int.injEq, PyData.bool.injEq, PyData.tuple.injEq, PyData.list.injEq, DV.dat.injEq, DV.own.injEq, exists_eq_left', exists_eq_left, exists_eq_right, exists_eq_right', exists_and_left, List.cons.injEq, and_true, true_and, atI0, atI1, atI2, atI3, atI4, atI5, Nat.sub_self, Nat.reduceSub, Nat.reduceAdd, Nat.reduceLT, if_true, if_false, Bool.false_eq_true, ↓reduceIte, Nat.zero_add, y_eqI, y_neI, y_neB, y_eqB, y_eqS, y_neS, y_ltI, y_gtI, y_leI, y_geI, y_inR, y_notInR, y_eqR, y_neR, y_lenR, y_tupR, row_tup, row_lst, tup_lst, lst_tup, false_and, and_false, exists_false, false_or, or_false, exists_const, atI_map, Option.map_some, decide_true, decide_false, Bool.not_true, Bool.not_false, eq_self, y_isB, DV.scr.injEq, x_chain, x_tRg, x_parEL, x_parLE, x_parLL, x_gLs, Nat.add_zero, numD]
    refine ⟨by cases z6 <;> rfl, hsz, ?_⟩
    refine compR_map (fun o => withinM (TM s o) (TM s t)) PyData.int (rng s.st.length) _ (fun o ho A B ha hb => ?_) ?_
    · have ho' := rng_mem.mp ho
      simp only [x_var0, x_varS, x_own0, x_ownS, x_ixT, x_ixL, x_addI, x_addT, x_addL, x_gI, x_gIC, x_neg, x_abs, x_intI, x_intB, x_lenT, x_lenL, x_tupL, x_tupT, x_rep, x_seq, x_next, x_set, x_setL, x_par, x_asg, x_drop, x_app, x_ext, x_ret, x_retN, x_if, x_frz, x_for, x_bk, x_ct, x_d1, x_d2, x_dC, x_dL, x_tup, x_and, x_or, x_not, x_ife, x_dB, x_dTr, x_dNot, x_dAnd, x_dOr, x_yes, x_aC, x_aN, x_aSz, x_aRg, x_rg1, x_rg2, x_aList, x_aSort, x_aSl, x_dSl, x_aScr, x_scrLen, x_oN, x_oS, x_rN, x_rC, x_rRl, x_call, x_callB, x_callK, x_iSeq, x_iRg1, x_iRg2, x_iEn, x_gNm, x_gTp, x_gC, x_gN, x_gL, x_comp, startD, arD, wipeD, List.map_cons, List.map_nil, List.length_cons, List.length_nil, List.replicate_succ, List.replicate_zero, List.cons_append, List.nil_append, List.set_cons_succ, List.set_cons_zero, List.getElem?_cons_succ, List.getElem?_cons_zero, Option.some.injEq, PyData.int.injEq, PyData.bool.injEq, PyData.tuple.injEq, PyData.list.injEq, DV.dat.injEq, DV.own.injEq, exists_eq_left', exists_eq_left, exists_eq_right, exists_eq_right', exists_and_left, List.cons.injEq, and_true, true_and, atI0, atI1, atI2, atI3, atI4, atI5, Nat.sub_self, Nat.reduceSub, Nat.reduceAdd, Nat.reduceLT, if_true, if_false, Bool.false_eq_true, ↓reduceIte, Nat.zero_add, y_eqI, y_neI, y_neB, y_eqB, y_eqS, y_neS, y_ltI, y_gtI, y_leI, y_geI, y_inR, y_notInR, y_eqR, y_neR, y_lenR, y_tupR, row_tup, row_lst, tup_lst, lst_tup, false_and, and_false, exists_false, false_or, or_false, exists_const, atI_map, Option.map_some, decide_true, decide_false, Bool.not_true, Bool.not_false, eq_self, y_isB, DV.scr.injEq, x_chain, x_tRg, x_parEL, x_parLE, x_parLL, x_gLs, Nat.add_zero, takesD, atI_rng ho'.1 ho'.2, atI_rng ht'.1 ht'.2]
      refine ⟨_, _, rfl, taken_len s ok ho'.1 ho'.2, ?_⟩
      exact Eq.mpr (x_truB _ (fun k => if k = true then A (.int o) m else B m)) (ifc ha hb)
    rw [List.nil_append]
    refine ⟨_, _, ⟨rfl, rfl⟩, .inl ⟨_, rfl, ?_⟩⟩
    refine forR_inv (fun r2 δ m2 => m2 = m ∧ ∃ (acc : List Row) (z6 z10 : Option D), δ = [some (.dat (skyD s)), some (.dat (.bool j)), some (.dat (numD s)), some (.own (acc.map rowD)), some (.dat (leftsD s)), some (.dat (takesD s)), z6.map .dat, some (.dat (.int t)), some (.dat (rowD (FM s t))), some (.dat (.list ((nearM s t).map PyData.int))), z10.map .dat] ∧ acc ++ r2.flatMap (fun i => pap1 s j t i ++ pap2 s j t i) ++ r.flatMap (fun t => (nearM s t).flatMap fun i => pap1 s j t i ++ pap2 s j t i) = papersM s j ∧ ∀ i ∈ r2, i ∈ nearM s t) (nearM s t) _ _ ⟨rfl, acc, z6, z10, rfl, hacc, fun _ h => h⟩ (fun i r2 δ m2 hi hI N2 hN2 => ?_) fun δ m2 hI => ?_
    · obtain ⟨rfl, acc, z6, z10, rfl, hacc, hr2⟩ := hI
      have hi' := near_mem (hr2 i List.mem_cons_self)
      have hr3 : ∀ q ∈ r2, q ∈ nearM s t := fun q hq => hr2 q (List.mem_cons_of_mem _ hq)
      have hacc2 : acc ++ pap1 s j t i ++ pap2 s j t i ++ (r2.flatMap (fun i => pap1 s j t i ++ pap2 s j t i) ++ r.flatMap (fun t => (nearM s t).flatMap fun i => pap1 s j t i ++ pap2 s j t i)) = papersM s j := by
        rw [← hacc]; simp only [List.flatMap_cons, List.append_assoc]
      have hl : acc.length ≤ 100000 := by
        refine Nat.le_trans ?_ hb
        rw [← hacc2]; simp only [List.length_append]; omega
      have fin : ∀ (acc3 : List Row) (z : Option D), acc3 ++ (r2.flatMap (fun i => pap1 s j t i ++ pap2 s j t i) ++ r.flatMap (fun t => (nearM s t).flatMap fun i => pap1 s j t i ++ pap2 s j t i)) = papersM s j → N2 [some (.dat (skyD s)), some (.dat (.bool j)), some (.dat (numD s)), some (.own (acc3.map rowD)), some (.dat (leftsD s)), some (.dat (takesD s)), some (.dat (.int i)), some (.dat (.int t)), some (.dat (rowD (FM s t))), some (.dat (.list ((nearM s t).map PyData.int))), z.map .dat] m2 := fun acc3 z h =>
        hN2 _ _ ⟨rfl, acc3, some _, z, rfl, by rw [List.append_assoc]; exact h, hr3⟩
      simp only [x_var0, x_varS, x_own0, x_ownS, x_ixT, x_ixL, x_addI, x_addT, x_addL, x_gI, x_gIC, x_neg, x_abs, x_intI, x_intB, x_lenT, x_lenL, x_tupL, x_tupT, x_rep, x_seq, x_next, x_set, x_setL, x_par, x_asg, x_drop, x_app, x_ext, x_ret, x_retN, x_if, x_frz, x_for, x_bk, x_ct, x_d1, x_d2, x_dC, x_dL, x_tup, x_and, x_or, x_not, x_ife, x_dB, x_dTr, x_dNot, x_dAnd, x_dOr, x_yes, x_aC, x_aN, x_aSz, x_aRg, x_rg1, x_rg2, x_aList, x_aSort, x_aSl, x_dSl, x_aScr, x_scrLen, x_oN, x_oS, x_rN, x_rC, x_rRl, x_call, x_callB, x_callK, x_iSeq, x_iRg1, x_iRg2, x_iEn, x_gNm, x_gTp, x_gC, x_gN, x_gL, x_comp, startD, arD, wipeD, List.map_cons, List.map_nil, List.length_cons, List.length_nil, List.replicate_succ, List.replicate_zero, List.cons_append, List.nil_append, List.set_cons_succ, List.set_cons_zero, List.getElem?_cons_succ, List.getElem?_cons_zero, Option.some.injEq, PyData.int.injEq, PyData.bool.injEq, PyData.tuple.injEq, PyData.list.injEq, DV.dat.injEq, DV.own.injEq, exists_eq_left', exists_eq_left, exists_eq_right, exists_eq_right', exists_and_left, List.cons.injEq, and_true, true_and, atI0, atI1, atI2, atI3, atI4, atI5, Nat.sub_self, Nat.reduceSub, Nat.reduceAdd, Nat.reduceLT, if_true, if_false, Bool.false_eq_true, ↓reduceIte, Nat.zero_add, y_eqI, y_neI, y_neB, y_eqB, y_eqS, y_neS, y_ltI, y_gtI, y_leI, y_geI, y_inR, y_notInR, y_eqR, y_neR, y_lenR, y_tupR, row_tup, row_lst, tup_lst, lst_tup, false_and, and_false, exists_false, false_or, or_false, exists_const, atI_map, Option.map_some, decide_true, decide_false, Bool.not_true, Bool.not_false, eq_self, y_isB, DV.scr.injEq, x_chain, x_tRg, x_parEL, x_parLE, x_parLL, x_gLs, Nat.add_zero, leftsD, takesD, atI_rng hi'.1 hi'.2, atI_rng ht'.1 ht'.2]
      refine ⟨fun s h => (by cases h), j, rfl, ?_⟩
      cases j with
      | true =>
        have e2 : pap2 s true t i = [] := by unfold pap2; rw [if_pos rfl]; rfl
        rw [e2, List.append_nil] at hacc2
        rw [if_pos rfl]
        refine ⟨_, _, rfl, left_len' s i ok, Nat.zero_le _, ?_⟩
        rw [y_eqRn]
        refine ⟨_, rfl, ifc (fun c => ?_) fun c => ?_⟩
        · have e1 : pap1 s true t i = [[t, i]] := by unfold pap1; rw [c]; rfl
          rw [e1] at hacc2
          refine ⟨smallLt _ (by rw [List.length_map]; omega), small _ (by decide), .inl ⟨fun s h => (by cases h), true, rfl, ?_⟩⟩
          rw [if_pos rfl]
          refine ⟨Nat.zero_le _, ?_⟩
          have q := fin (acc ++ [[t, i]]) z10 hacc2
          rw [List.map_append] at q
          exact q
        · have e1 : pap1 s true t i = [] := by unfold pap1; rw [c]; rfl
          rw [e1, List.append_nil] at hacc2
          refine .inl ⟨fun s h => (by cases h), true, rfl, ?_⟩
          rw [if_pos rfl]
          exact ⟨Nat.zero_le _, fin acc z10 hacc2⟩
      | false =>
        have e1 : pap1 s false t i = [] := by unfold pap1; rfl
        rw [e1, List.append_nil] at hacc2
        have e2 : pap2 s false t i = (nearM s t).flatMap (pap3 s t i) := by unfold pap2; rw [if_neg Bool.false_ne_true]
        rw [e2] at hacc2
        rw [if_neg Bool.false_ne_true]
        refine .inl ⟨fun s h => (by cases h), false, rfl, ?_⟩
        rw [if_neg Bool.false_ne_true]
        exact p3 ok hb ht' hi' (nearM s t) (fun o ho => near_mem ho) acc _ (some _) (some _) z10 hacc2 _ m2 fun acc3 z h => fin acc3 z h
    · obtain ⟨rfl, acc, z6, z10, rfl, hacc, hr2⟩ := hI
      rw [List.flatMap_nil, List.append_nil] at hacc
      exact hN _ _ ⟨rfl, acc, z6, some _, some _, some _, z10, rfl, hacc⟩
  · obtain ⟨rfl, acc, z6, z7, z8, z9, z10, rfl, hacc⟩ := hI
    rw [List.flatMap_nil, List.append_nil] at hacc
    simp only [x_var0, x_varS, x_own0, x_ownS, x_ixT, x_ixL, x_addI, x_addT, x_addL, x_gI, x_gIC, x_neg, x_abs, x_intI, x_intB, x_lenT, x_lenL, x_tupL, x_tupT, x_rep, x_seq, x_next, x_set, x_setL, x_par, x_asg, x_drop, x_app, x_ext, x_ret, x_retN, x_if, x_frz, x_for, x_bk, x_ct, x_d1, x_d2, x_dC, x_dL, x_tup, x_and, x_or, x_not, x_ife, x_dB, x_dTr, x_dNot, x_dAnd, x_dOr, x_yes, x_aC, x_aN, x_aSz, x_aRg, x_rg1, x_rg2, x_aList, x_aSort, x_aSl, x_dSl, x_aScr, x_scrLen, x_oN, x_oS, x_rN, x_rC, x_rRl, x_call, x_callB, x_callK, x_iSeq, x_iRg1, x_iRg2, x_iEn, x_gNm, x_gTp, x_gC, x_gN, x_gL, x_comp, startD, arD, wipeD, List.map_cons, List.map_nil, List.length_cons, List.length_nil, List.replicate_succ, List.replicate_zero, List.cons_append, List.nil_append, List.set_cons_succ, List.set_cons_zero, List.getElem?_cons_succ, List.getElem?_cons_zero, Option.some.injEq, PyData.int.injEq, PyData.bool.injEq, PyData.tuple.injEq, PyData.list.injEq, DV.dat.injEq, DV.own.injEq, exists_eq_left', exists_eq_left, exists_eq_right, exists_eq_right', exists_and_left, List.cons.injEq, and_true, true_and, atI0, atI1, atI2, atI3, atI4, atI5, Nat.sub_self, Nat.reduceSub, Nat.reduceAdd, Nat.reduceLT, if_true, if_false, Bool.false_eq_true, ↓reduceIte, Nat.zero_add, y_eqI, y_neI, y_neB, y_eqB, y_eqS, y_neS, y_ltI, y_gtI, y_leI, y_geI, y_inR, y_notInR, y_eqR, y_neR, y_lenR, y_tupR, row_tup, row_lst, tup_lst, lst_tup, false_and, and_false, exists_false, false_or, or_false, exists_const, atI_map, Option.map_some, decide_true, decide_false, Bool.not_true, Bool.not_false, eq_self, y_isB, DV.scr.injEq, x_chain, x_tRg, x_parEL, x_parLE, x_parLL, x_gLs, Nat.add_zero]
    rw [hacc]
    exact hP
def fUnlawful : Fn := fun as n P => ∃ (s : Sky) (j : Bool), as = [.d (skyD s), .d (.bool j)] ∧ Ok s ∧ (papersM s j).length ≤ 100000 ∧ P (match papersM s j with | [] => .none | p :: _ => rowD p) n
theorem hf_unlawful (as : List Ar) (n : Nat) (P : D → Nat → Prop) (hl : as.length = 2) (h : fUnlawful as n P) : rd_unlawful fPapers ⟨fun _ m => P .none m, P, fun _ _ => False, fun _ _ => False⟩ (startD ["sky", "is_joining", "found"] as) n := by
  obtain ⟨s, j, rfl, ok, hb, hP⟩ := h
  simp only [rd_unlawful, x_var0, x_varS, x_own0, x_ownS, x_ixT, x_ixL, x_addI, x_addT, x_addL, x_gI, x_gIC, x_neg, x_abs, x_intI, x_intB, x_lenT, x_lenL, x_tupL, x_tupT, x_rep, x_seq, x_next, x_set, x_setL, x_par, x_asg, x_drop, x_app, x_ext, x_ret, x_retN, x_if, x_frz, x_for, x_bk, x_ct, x_d1, x_d2, x_dC, x_dL, x_tup, x_and, x_or, x_not, x_ife, x_dB, x_dTr, x_dNot, x_dAnd, x_dOr, x_yes, x_aC, x_aN, x_aSz, x_aRg, x_rg1, x_rg2, x_aList, x_aSort, x_aSl, x_dSl, x_aScr, x_scrLen, x_oN, x_oS, x_rN, x_rC, x_rRl, x_call, x_callB, x_callK, x_iSeq, x_iRg1, x_iRg2, x_iEn, x_gNm, x_gTp, x_gC, x_gN, x_gL, x_comp, startD, arD, wipeD, List.map_cons, List.map_nil, List.length_cons, List.length_nil, List.replicate_succ, List.replicate_zero, List.cons_append, List.nil_append, List.set_cons_succ, List.set_cons_zero, List.getElem?_cons_succ, List.getElem?_cons_zero, Option.some.injEq, PyData.int.injEq, PyData.bool.injEq, PyData.tuple.injEq, PyData.list.injEq, DV.dat.injEq, DV.own.injEq, exists_eq_left', exists_eq_left, exists_eq_right, exists_eq_right', exists_and_left, List.cons.injEq, and_true, true_and, atI0, atI1, atI2, atI3, atI4, atI5, Nat.sub_self, Nat.reduceSub, Nat.reduceAdd, Nat.reduceLT, if_true, if_false, Bool.false_eq_true, ↓reduceIte, Nat.zero_add, y_eqI, y_neI, y_neB, y_eqB, y_eqS, y_neS, y_ltI, y_gtI, y_leI, y_geI, y_inR, y_notInR, y_eqR, y_neR, y_lenR, y_tupR, row_tup, row_lst, tup_lst, lst_tup, false_and, and_false, exists_false, false_or, or_false, exists_const, atI_map, Option.map_some, decide_true, decide_false, Bool.not_true, Bool.not_false, eq_self, y_isB, DV.scr.injEq, x_chain, x_tRg, x_parEL, x_parLE, x_parLL, x_gLs, Nat.add_zero]
  refine ⟨s, j, rfl, ok, hb, Nat.zero_le _, ?_⟩
  rw [show (PyData.list []) = PyData.list (([] : List Row).map rowD) from rfl, y_neL enc_row]
  cases e : papersM s j with
  | nil =>
    rw [e] at hP
    exact ⟨false, by simp, hP⟩
  | cons p r =>
    rw [e] at hP
    refine ⟨true, by simp, ?_⟩
    rw [if_pos rfl]
    exact ⟨_, by rw [atI0]; rfl, hP⟩
end My
namespace My
open PySem PySem.Spec L2 DL
def goodB (s : Sky) : Bool := decide (1 ≤ s.m) && (decide (s.m ≤ 6) && (decide (s.b.length ≤ 10) && (rowOk s.b s.m && (decide (1 ≤ s.st.length) && (decide (s.st.length ≤ 10) && ((s.st.all fun x => decide (x.1.length ≤ 10) && (decide (x.2.length ≤ 10) && stormOk x s.m)) && (rng (s.st.length - 1)).all fun p => ltE stD (nthI s.st p) (nthI s.st (p + 1))))))))
theorem good_of {s : Sky} (h : goodB s = true) : Good s ∧ Ok s := by
  unfold goodB at h
  simp only [Bool.and_eq_true, decide_eq_true_eq, List.all_eq_true] at h
  obtain ⟨h1, h2, h3, h4, h5, h6, h7, h8⟩ := h
  exact ⟨⟨h1, h2, by omega, h4, h5, h6, fun x hx => by have := h7 x hx; exact ⟨by omega, by omega, this.2.2⟩, h8⟩, ⟨by omega, by omega, by omega, by omega, fun x hx => by have := h7 x hx; omega, fun x hx => by have := h7 x hx; omega⟩⟩
def checkB (w : Str) (m k : Nat) : Bool := let s := knownM w m k
  goodB s && [false, true].all fun j => let p := papersM s j; decide (p.length ≤ 100000) && (decide (p = []) == letM w m k j)
theorem check_all : (words4.all fun w => (List.range 6).all fun a => (List.range (a + 2)).all fun k => decide (10 < (lotsM (rng ((a + 1 : Nat) : Int)) k).length) || checkB w (a + 1) k) = true := by decide +kernel
theorem check {w : Str} {m k : Nat} (hw : w ∈ words4) (hk : KOk m k) (h : ¬ 10 < (lotsM (rng m) k).length) : checkB w m k = true := by
  have q := check_all
  simp only [List.all_eq_true, List.mem_range, Bool.or_eq_true, decide_eq_true_eq] at q
  obtain ⟨k1, k2, k3⟩ := hk
  have e : m - 1 + 1 = m := by omega
  have := q w hw (m - 1) (by omega) k (by omega)
  rw [e] at this
  exact this.resolve_left h
end My
namespace My
open PySem PySem.Spec L2 DL
def fOne : Fn := fun as n P => ∃ ds : List D, as = [.rl, .d (.list ds)] ∧ ds ≠ [] ∧ ds.length ≤ 1000 ∧ 1 ≤ n ∧ ∀ d ∈ ds, P d (n - 1)
theorem hf_one (as : List Ar) (n : Nat) (P : D → Nat → Prop) (hl : as.length = 2) (h : fOne as n P) : rd__law_one fDraw ⟨fun _ m => P .none m, P, fun _ _ => False, fun _ _ => False⟩ (startD ["rill", "some"] as) n := by
  obtain ⟨ds, rfl, h1, h2, h3, hP⟩ := h
  have hp : 0 < ds.length := List.length_pos_iff.mpr h1
  simp only [rd__law_one, x_var0, x_varS, x_own0, x_ownS, x_ixT, x_ixL, x_addI, x_addT, x_addL, x_gI, x_gIC, x_neg, x_abs, x_intI, x_intB, x_lenT, x_lenL, x_tupL, x_tupT, x_rep, x_seq, x_next, x_set, x_setL, x_par, x_asg, x_drop, x_app, x_ext, x_ret, x_retN, x_if, x_frz, x_for, x_bk, x_ct, x_d1, x_d2, x_dC, x_dL, x_tup, x_and, x_or, x_not, x_ife, x_dB, x_dTr, x_dNot, x_dAnd, x_dOr, x_yes, x_aC, x_aN, x_aSz, x_aRg, x_rg1, x_rg2, x_aList, x_aSort, x_aSl, x_dSl, x_aScr, x_scrLen, x_oN, x_oS, x_rN, x_rC, x_rRl, x_call, x_callB, x_callK, x_iSeq, x_iRg1, x_iRg2, x_iEn, x_gNm, x_gTp, x_gC, x_gN, x_gL, x_comp, startD, arD, wipeD, List.map_cons, List.map_nil, List.length_cons, List.length_nil, List.replicate_succ, List.replicate_zero, List.cons_append, List.nil_append, List.set_cons_succ, List.set_cons_zero, List.getElem?_cons_succ, List.getElem?_cons_zero, Option.some.injEq, PyData.int.injEq, PyData.bool.injEq, PyData.tuple.injEq, PyData.list.injEq, DV.dat.injEq, DV.own.injEq, exists_eq_left', exists_eq_left, exists_eq_right, exists_eq_right', exists_and_left, List.cons.injEq, and_true, true_and, atI0, atI1, atI2, atI3, atI4, atI5, Nat.sub_self, Nat.reduceSub, Nat.reduceAdd, Nat.reduceLT, if_true, if_false, Bool.false_eq_true, ↓reduceIte, Nat.zero_add, y_eqI, y_neI, y_neB, y_eqB, y_eqS, y_neS, y_ltI, y_gtI, y_leI, y_geI, y_inR, y_notInR, y_eqR, y_neR, y_lenR, y_tupR, row_tup, row_lst, tup_lst, lst_tup, false_and, and_false, exists_false, false_or, or_false, exists_const, atI_map, Option.map_some, decide_true, decide_false, Bool.not_true, Bool.not_false, eq_self, y_isB, DV.scr.injEq, x_chain, x_tRg, x_parEL, x_parLE, x_parLL, x_gLs, Nat.add_zero]
  refine ⟨ds.length, rfl, by omega, by omega, h3, fun k k0 k1 => ?_⟩
  obtain ⟨j, rfl⟩ : ∃ j : Nat, k = (j : Int) := ⟨k.toNat, by omega⟩
  have hj : j < ds.length := by omega
  rw [x_ixL, atI_nat']
  exact ⟨ds[j], List.getElem?_eq_getElem hj, hP _ (List.getElem_mem hj)⟩
structure Ask where
  w : Str
  m : Nat
  k : Nat
def askD (a : Ask) : D := .tuple [.str a.w, .int a.m, .int a.k]
def AOk (a : Ask) : Prop := a.w ∈ words4 ∧ KOk a.m a.k
theorem repr_ok {d : D} {m w : Nat} {P : D → Prop} (h : Sm m w d) (hi : itemsOf d ≠ none) (hP : P (.str (dshow d))) (hm : m ≤ 60 := by decide) (hw : w ≤ 1048576 := by decide) : gRepr d P :=
  ⟨hi, h.show', Nat.le_trans h.dep hm, h.fits hw, hP⟩
def rl1 : DTS := sSeq (sSet 5 (d2 gAdd (dC (.int 1)) (dCall fDraw (rRl 1 (rCons (dC (.int 6)) (rNil))))))
      (sApp 3 (dTup (aCons (dCall fOne (rRl 1 (rCons (dVar 2) (rNil)))) (aCons (dVar 5) (aCons (dCall fDraw (rRl 1 (rCons (d2 gAdd (dVar 5) (dC (.int 1))) (rNil)))) (aNil))))))
def wordsD : D := .list (words4.map PyData.str)
theorem step1 {z0 z4 z5 : Option DV} {acc : List Ask} {m : Nat} {E : DEnds} (hm : 3 ≤ m) (hl : acc.length ≤ 100) (hN : ∀ (a : Ask) z5, AOk a → E.nx [z0, some .rl, some (.dat wordsD), some (.own ((acc ++ [a]).map askD)), z4, z5, none, none, none, none, none, none] (m - 3)) :
    rl1 E [z0, some .rl, some (.dat wordsD), some (.own (acc.map askD)), z4, z5, none, none, none, none, none, none] m := by
  simp only [rl1, x_var0, x_varS, x_own0, x_ownS, x_ixT, x_ixL, x_addI, x_addT, x_addL, x_gI, x_gIC, x_neg, x_abs, x_intI, x_intB, x_lenT, x_lenL, x_tupL, x_tupT, x_rep, x_seq, x_next, x_set, x_setL, x_par, x_asg, x_drop, x_app, x_ext, x_ret, x_retN, x_if, x_frz, x_for, x_bk, x_ct, x_d1, x_d2, x_dC, x_dL, x_tup, x_and, x_or, x_not, x_ife, x_dB, x_dTr, x_dNot, x_dAnd, x_dOr, x_yes, x_aC, x_aN, x_aSz, x_aRg, x_rg1, x_rg2, x_aList, x_aSort, x_aSl, x_dSl, x_aScr, x_scrLen, x_oN, x_oS, x_rN, x_rC, x_rRl, x_call, x_callB, x_callK, x_iSeq, x_iRg1, x_iRg2, x_iEn, x_gNm, x_gTp, x_gC, x_gN, x_gL, x_comp, startD, arD, wipeD, List.map_cons, List.map_nil, List.length_cons, List.length_nil, List.replicate_succ, List.replicate_zero, List.cons_append, List.nil_append, List.set_cons_succ, List.set_cons_zero, List.getElem?_cons_succ, List.getElem?_cons_zero, Option.some.injEq, PyData.int.injEq, PyData.bool.injEq, PyData.tuple.injEq, PyData.list.injEq, DV.dat.injEq, DV.own.injEq, exists_eq_left', exists_eq_left, exists_eq_right, exists_eq_right', exists_and_left, List.cons.injEq, and_true, true_and, atI0, atI1, atI2, atI3, atI4, atI5, Nat.sub_self, Nat.reduceSub, Nat.reduceAdd, Nat.reduceLT, if_true, if_false, Bool.false_eq_true, ↓reduceIte, Nat.zero_add, y_eqI, y_neI, y_neB, y_eqB, y_eqS, y_neS, y_ltI, y_gtI, y_leI, y_geI, y_inR, y_notInR, y_eqR, y_neR, y_lenR, y_tupR, row_tup, row_lst, tup_lst, lst_tup, false_and, and_false, exists_false, false_or, or_false, exists_const, atI_map, Option.map_some, decide_true, decide_false, Bool.not_true, Bool.not_false, eq_self, y_isB, DV.scr.injEq, x_chain, x_tRg, x_parEL, x_parLE, x_parLL, x_gLs, Nat.add_zero]
  refine ⟨6, rfl, by omega, by omega, by omega, fun k k0 k1 => ?_⟩
  simp only [x_var0, x_varS, x_own0, x_ownS, x_ixT, x_ixL, x_addI, x_addT, x_addL, x_gI, x_gIC, x_neg, x_abs, x_intI, x_intB, x_lenT, x_lenL, x_tupL, x_tupT, x_rep, x_seq, x_next, x_set, x_setL, x_par, x_asg, x_drop, x_app, x_ext, x_ret, x_retN, x_if, x_frz, x_for, x_bk, x_ct, x_d1, x_d2, x_dC, x_dL, x_tup, x_and, x_or, x_not, x_ife, x_dB, x_dTr, x_dNot, x_dAnd, x_dOr, x_yes, x_aC, x_aN, x_aSz, x_aRg, x_rg1, x_rg2, x_aList, x_aSort, x_aSl, x_dSl, x_aScr, x_scrLen, x_oN, x_oS, x_rN, x_rC, x_rRl, x_call, x_callB, x_callK, x_iSeq, x_iRg1, x_iRg2, x_iEn, x_gNm, x_gTp, x_gC, x_gN, x_gL, x_comp, startD, arD, wipeD, List.map_cons, List.map_nil, List.length_cons, List.length_nil, List.replicate_succ, List.replicate_zero, List.cons_append, List.nil_append, List.set_cons_succ, List.set_cons_zero, List.getElem?_cons_succ, List.getElem?_cons_zero, Option.some.injEq, PyData.int.injEq, PyData.bool.injEq, PyData.tuple.injEq, PyData.list.injEq, DV.dat.injEq, DV.own.injEq, exists_eq_left', exists_eq_left, exists_eq_right, exists_eq_right', exists_and_left, List.cons.injEq, and_true, true_and, atI0, atI1, atI2, atI3, atI4, atI5, Nat.sub_self, Nat.reduceSub, Nat.reduceAdd, Nat.reduceLT, if_true, if_false, Bool.false_eq_true, ↓reduceIte, Nat.zero_add, y_eqI, y_neI, y_neB, y_eqB, y_eqS, y_neS, y_ltI, y_gtI, y_leI, y_geI, y_inR, y_notInR, y_eqR, y_neR, y_lenR, y_tupR, row_tup, row_lst, tup_lst, lst_tup, false_and, and_false, exists_false, false_or, or_false, exists_const, atI_map, Option.map_some, decide_true, decide_false, Bool.not_true, Bool.not_false, eq_self, y_isB, DV.scr.injEq, x_chain, x_tRg, x_parEL, x_parLE, x_parLL, x_gLs, Nat.add_zero, List.length_map]
  obtain ⟨j, rfl⟩ : ∃ j : Nat, k = (j : Int) := ⟨k.toNat, by omega⟩
  refine ⟨smallLt _ (by omega), words4.map PyData.str, rfl, by decide, by decide, by omega, fun d hd => ?_⟩
  obtain ⟨w, hw, rfl⟩ := List.mem_map.mp hd
  refine ⟨1 + (j : Int) + 1, rfl, by omega, by omega, by omega, fun k2 k20 k21 => ?_⟩
  obtain ⟨j2, rfl⟩ : ∃ j2 : Nat, k2 = (j2 : Int) := ⟨k2.toNat, by omega⟩
  have q := hN ⟨w, 1 + j, j2⟩ (some (.dat (.int (1 + (j : Int))))) ⟨hw, by show KOk (1 + j) j2; unfold KOk; omega⟩
  have e : acc.map askD ++ [PyData.tuple [PyData.str w, PyData.int (1 + (j : Int)), PyData.int (j2 : Int)]] = (acc ++ [(⟨w, 1 + j, j2⟩ : Ask)]).map askD := by
    rw [List.map_append]
    simp [askD]
  refine ⟨small _ (by decide), ?_⟩
  rw [e]
  have e2 : m - 1 - 1 - 1 = m - 3 := by omega
  rw [e2]
  exact q
def picks : List (Nat × Nat) := [(5, 2), (5, 3), (6, 2), (6, 3), (6, 4), (6, 5), (6, 1)]
def pickD (p : Nat × Nat) : D := .tuple [.int p.1, .int p.2]
def rl2 : DTS := sApp 3 (d2 gAdd (dTup (aCons (dVar 6) (aNil))) (dCall fOne (rRl 1 (rCons (dL (aSz (aCons (dTup (aCons (dC (.int 5)) (aCons (dC (.int 2)) (aNil)))) (aCons (dTup (aCons (dC (.int 5)) (aCons (dC (.int 3)) (aNil)))) (aCons (dTup (aCons (dC (.int 6)) (aCons (dC (.int 2)) (aNil)))) (aCons (dTup (aCons (dC (.int 6)) (aCons (dC (.int 3)) (aNil)))) (aCons (dTup (aCons (dC (.int 6)) (aCons (dC (.int 4)) (aNil)))) (aCons (dTup (aCons (dC (.int 6)) (aCons (dC (.int 5)) (aNil)))) (aCons (dTup (aCons (dC (.int 6)) (aCons (dC (.int 1)) (aNil)))) (aNil)))))))))) (rNil)))))
theorem step2 {z0 z4 z5 : Option DV} {w : Str} {acc : List Ask} {m : Nat} {E : DEnds} (hm : 1 ≤ m) (hl : acc.length ≤ 100) (hw : w ∈ words4) (hN : ∀ (a : Ask), AOk a → E.nx [z0, some .rl, some (.dat wordsD), some (.own ((acc ++ [a]).map askD)), z4, z5, some (.dat (.str w)), none, none, none, none, none] (m - 1)) :
    rl2 E [z0, some .rl, some (.dat wordsD), some (.own (acc.map askD)), z4, z5, some (.dat (.str w)), none, none, none, none, none] m := by
  simp only [rl2, x_var0, x_varS, x_own0, x_ownS, x_ixT, x_ixL, x_addI, x_addT, x_addL, x_gI, x_gIC, x_neg, x_abs, x_intI, x_intB, x_lenT, x_lenL, x_tupL, x_tupT, x_rep, x_seq, x_next, x_set, x_setL, x_par, x_asg, x_drop, x_app, x_ext, x_ret, x_retN, x_if, x_frz, x_for, x_bk, x_ct, x_d1, x_d2, x_dC, x_dL, x_tup, x_and, x_or, x_not, x_ife, x_dB, x_dTr, x_dNot, x_dAnd, x_dOr, x_yes, x_aC, x_aN, x_aSz, x_aRg, x_rg1, x_rg2, x_aList, x_aSort, x_aSl, x_dSl, x_aScr, x_scrLen, x_oN, x_oS, x_rN, x_rC, x_rRl, x_call, x_callB, x_callK, x_iSeq, x_iRg1, x_iRg2, x_iEn, x_gNm, x_gTp, x_gC, x_gN, x_gL, x_comp, startD, arD, wipeD, List.map_cons, List.map_nil, List.length_cons, List.length_nil, List.replicate_succ, List.replicate_zero, List.cons_append, List.nil_append, List.set_cons_succ, List.set_cons_zero, List.getElem?_cons_succ, List.getElem?_cons_zero, Option.some.injEq, PyData.int.injEq, PyData.bool.injEq, PyData.tuple.injEq, PyData.list.injEq, DV.dat.injEq, DV.own.injEq, exists_eq_left', exists_eq_left, exists_eq_right, exists_eq_right', exists_and_left, List.cons.injEq, and_true, true_and, atI0, atI1, atI2, atI3, atI4, atI5, Nat.sub_self, Nat.reduceSub, Nat.reduceAdd, Nat.reduceLT, if_true, if_false, Bool.false_eq_true, ↓reduceIte, Nat.zero_add, y_eqI, y_neI, y_neB, y_eqB, y_eqS, y_neS, y_ltI, y_gtI, y_leI, y_geI, y_inR, y_notInR, y_eqR, y_neR, y_lenR, y_tupR, row_tup, row_lst, tup_lst, lst_tup, false_and, and_false, exists_false, false_or, or_false, exists_const, atI_map, Option.map_some, decide_true, decide_false, Bool.not_true, Bool.not_false, eq_self, y_isB, DV.scr.injEq, x_chain, x_tRg, x_parEL, x_parLE, x_parLL, x_gLs, Nat.add_zero, List.length_map]
  refine ⟨smallLt _ (by omega), small _ (by decide), small _ (by decide), small _ (by decide), small _ (by decide), small _ (by decide), small _ (by decide), small _ (by decide), small _ (by decide), small _ (by decide), picks.map pickD, rfl, by decide, by decide, by omega, fun d hd => ?_⟩
  obtain ⟨p, hp, rfl⟩ := List.mem_map.mp hd
  have hk : KOk p.1 p.2 := by
    have q : ∀ p ∈ picks, 1 ≤ p.1 ∧ p.1 ≤ 6 ∧ p.2 ≤ p.1 := by decide
    exact q p hp
  have q := hN ⟨w, p.1, p.2⟩ ⟨hw, hk⟩
  rw [pickD, x_addT]
  refine ⟨small _ (by simp), ?_⟩
  rw [List.map_append] at q
  exact q
theorem sm_sky_lit : Sm 0 60 (.str "sky") := ⟨by decide +kernel, by decide +kernel, by decide +kernel, by decide +kernel, by decide +kernel⟩
theorem sm_many_lit : Sm 0 60 (.str "many") := ⟨by decide +kernel, by decide +kernel, by decide +kernel, by decide +kernel, by decide +kernel⟩
theorem sm_rowOk {r : Row} {m : Int} (h : rowOk r m = true) (hl : r.length ≤ 10) (hm : m ≤ 6) : Sm 1 411 (rowD r) := by
  have q : SmAll 0 (10 * 41) (intsD r) := SmAll.of' (fun d hd => by
    obtain ⟨o, ho, rfl⟩ := List.mem_map.mp hd
    unfold rowOk at h
    rw [Bool.and_eq_true] at h
    have h2 := List.all_eq_true.mp h.1 _ (List.mem_map.mpr ⟨o, ho, rfl⟩)
    simp only [id, Bool.and_eq_true, decide_eq_true_eq] at h2
    exact Sm.int (by omega)) (by rw [intsD, List.length_map]; exact hl)
  exact q.tup
theorem sm_good {s : Sky} (h : goodB s = true) : Sm 4 9000 (skyD s) := by
  unfold goodB at h
  simp only [Bool.and_eq_true, decide_eq_true_eq, List.all_eq_true] at h
  obtain ⟨h1, h2, h3, h4, h5, h6, h7, h8⟩ := h
  have a : Sm 3 (10 * 823 + 1) (.tuple (s.st.map stD)) := (SmAll.of' (m := 2) (w := 823) (L := 10) (fun d hd => by
    obtain ⟨x, hx, rfl⟩ := List.mem_map.mp hd
    obtain ⟨l1, l2, l3⟩ := h7 x hx
    unfold stormOk at l3
    rw [Bool.and_eq_true] at l3
    exact (SmAll.cons (sm_rowOk l3.1 l1 h2) (SmAll.cons (w' := 0) (sm_rowOk l3.2 l2 h2) SmAll.nil)).tup) (by simpa using h6)).tup
  have hi : (s.m).natAbs < 10 ^ 12 := by omega
  exact (SmAll.cons ((Sm.int hi).mono (Nat.zero_le 3) (Nat.le_refl 41)) (SmAll.cons ((sm_rowOk h4 h3 h2).mono (by decide) (Nat.le_refl 411)) (SmAll.cons (w' := 0) a SmAll.nil))).tup.mono (by decide) (by decide)
theorem sm_due1 : Sm 2 500 (.list [.list [.str "many", .int 10, .bool true], .list [.str "many", .int 10, .bool true]]) := by
  have a : Sm 1 200 (.list [.str "many", .int 10, .bool true]) := ((SmAll.cons sm_many_lit (SmAll.cons ((Sm.int (i := 10) (by decide)).mono (Nat.le_refl 0) (Nat.le_refl 41)) (SmAll.cons (w' := 0) (Sm.bool true) SmAll.nil))).lst).mono (by decide) (by decide)
  exact ((SmAll.cons a (SmAll.cons (w' := 0) a SmAll.nil)).lst).mono (by decide) (by decide)
theorem sm_due2 {s : Sky} (h : goodB s = true) : Sm 6 20000 (.list [.list [.str "sky", skyD s], .list [.str "sky", skyD s]]) := by
  have a : Sm 5 9200 (.list [.str "sky", skyD s]) := ((SmAll.cons (sm_sky_lit.mono (Nat.zero_le 4) (Nat.le_refl 60)) (SmAll.cons (w' := 0) (sm_good h) SmAll.nil)).lst).mono (by decide) (by decide)
  exact ((SmAll.cons a (SmAll.cons (w' := 0) a SmAll.nil)).lst).mono (by decide) (by decide)
theorem sm_two (a b : Bool) : Sm 1 10 (.list [.bool a, .bool b]) := ((SmAll.cons (Sm.bool a) (SmAll.cons (w' := 0) (Sm.bool b) SmAll.nil)).lst).mono (by decide) (by decide)
theorem lawful_is (p : List Row) {P : D → Prop} {d : D} (e : d = match p with | [] => .none | q :: _ => rowD q) : P (.bool (decide (p = []))) → gIs d .none P := by
  subst e
  intro h
  cases p with
  | nil => exact ⟨true, rfl, h⟩
  | cons q r => exact ⟨false, rfl, h⟩
abbrev rdL := rd_law fDraw fOne fKnownL fTold fSkyErr fUnlawful fLet
theorem law_ok {E : DEnds} {n : Nat} {z0 : Option DV} (hn : 100 ≤ n) (hE : ∀ m, E.rt (.bool true) m) : rdL E [z0, some .rl, none, none, none, none, none, none, none, none, none, none] n := by
  show rd_law fDraw fOne fKnownL fTold fSkyErr fUnlawful fLet _ _ _
  rw [rd_law, x_seq]
  simp only [x_parEL, x_dL, x_aSz, x_aC, x_dC, x_aN]
  simp only [x_seq, x_for, x_iRg1, x_dC, List.length_cons, List.length_nil, Nat.reduceAdd, Nat.reduceLT, true_and, PyData.int.injEq, exists_eq_left', List.set_cons_succ, List.set_cons_zero]
  refine ⟨small _ (by decide), Nat.zero_le _, by decide, by decide, ?_⟩
  rw [rangeD_rng]
  refine forR_inv (fun r δ m => ∃ (acc : List Ask) (z4 z5 : Option DV), δ = [z0, some .rl, some (.dat wordsD), some (.own (acc.map askD)), z4, z5, none, none, none, none, none, none] ∧ (∀ a ∈ acc, AOk a) ∧ acc.length + r.length = 8 ∧ 3 * r.length + 20 ≤ m) (rng 8) _ _ ⟨[], none, none, rfl, fun a h => (by cases h), by rw [rng_len]; rfl, by rw [rng_len]; show 3 * 8 + 20 ≤ n; omega⟩ (fun t r δ m ht hI N hN => ?_) fun δ m hI => ?_
  · obtain ⟨acc, z4, z5, rfl, h1, h2, h3⟩ := hI
    rw [List.length_cons] at h2 h3
    refine ⟨by simp, ?_⟩
    refine step1 (acc := acc) (m := m) (z0 := z0) (z4 := some (.dat (.int t))) (z5 := z5) (by omega) (by omega) fun a z5 ha => hN _ _ ⟨acc ++ [a], _, _, rfl, fun b hb => ?_, by simp; omega, by omega⟩
    rcases List.mem_append.mp hb with h | h
    · exact h1 b h
    · rw [List.mem_singleton.mp h]; exact ha
  obtain ⟨acc, z4, z5, rfl, h1, h2, h3⟩ := hI
  simp only [x_seq, x_for, x_iSeq, wordsD, x_var0, x_varS]
  refine .inl ⟨_, rfl, ?_⟩
  refine forR_inv (e := PyData.str) (fun r δ m => ∃ (acc : List Ask) (z6 : Option DV), δ = [z0, some .rl, some (.dat wordsD), some (.own (acc.map askD)), z4, z5, z6, none, none, none, none, none] ∧ (∀ a ∈ acc, AOk a) ∧ acc.length + r.length = 12 ∧ r.length ≤ m ∧ ∀ w ∈ r, w ∈ words4) words4 _ _ ⟨acc, none, rfl, h1, by simp at h2; simp [words4]; omega, by simp [words4]; omega, fun w h => h⟩ (fun w r δ m hw hI N hN => ?_) fun δ m hI => ?_
  · obtain ⟨acc, z6, rfl, h1, h2, h3, h4⟩ := hI
    rw [List.length_cons] at h2 h3
    refine ⟨by simp, ?_⟩
    refine step2 (acc := acc) (m := m) (w := w) (z0 := z0) (z4 := z4) (z5 := z5) (by omega) (by omega) (h4 w List.mem_cons_self) fun a ha => hN _ _ ⟨acc ++ [a], _, rfl, fun b hb => ?_, by simp; omega, by omega, fun w h => h4 w (List.mem_cons_of_mem _ h)⟩
    rcases List.mem_append.mp hb with h | h
    · exact h1 b h
    · rw [List.mem_singleton.mp h]; exact ha
  obtain ⟨acc, z6, rfl, h1, h2, h3, h4⟩ := hI
  simp only [x_seq, x_for, x_iEn, x_frz, x_var0, x_varS, List.set_cons_succ, List.set_cons_zero, List.getElem?_cons_succ, List.getElem?_cons_zero, Option.some.injEq, DV.own.injEq, exists_eq_left']
  refine .inl ⟨_, rfl, ?_⟩
  rw [enumD_map]
  refine forR_inv (fun r δ m => ∃ (z5 z6 z7 z8 z9 z10 z11 : Option DV), δ = [z0, some .rl, some (.dat wordsD), some (.dat (.list (acc.map askD))), z4, z5, z6, z7, z8, z9, z10, z11] ∧ ∀ p ∈ r, AOk p.2) _ _ _ ⟨_, _, _, _, _, _, _, rfl, fun p hp => ?_⟩ (fun p r δ m hp hI N hN => ?_) fun δ m hI => ?_
  · obtain ⟨j, h1', _⟩ := enumL_mem hp
    exact h1 _ (List.mem_of_getElem? h1')
  · obtain ⟨z5, z6, z7, z8, z9, z10, z11, rfl, hr⟩ := hI
    obtain ⟨k, a⟩ := p
    obtain ⟨hw, hk⟩ := hr (k, a) List.mem_cons_self
    simp only [askD, x_var0, x_varS, x_own0, x_ownS, x_ixT, x_ixL, x_addI, x_addT, x_addL, x_gI, x_gIC, x_neg, x_abs, x_intI, x_intB, x_lenT, x_lenL, x_tupL, x_tupT, x_rep, x_seq, x_next, x_set, x_setL, x_par, x_asg, x_drop, x_app, x_ext, x_ret, x_retN, x_if, x_frz, x_for, x_bk, x_ct, x_d1, x_d2, x_dC, x_dL, x_tup, x_and, x_or, x_not, x_ife, x_dB, x_dTr, x_dNot, x_dAnd, x_dOr, x_yes, x_aC, x_aN, x_aSz, x_aRg, x_rg1, x_rg2, x_aList, x_aSort, x_aSl, x_dSl, x_aScr, x_scrLen, x_oN, x_oS, x_rN, x_rC, x_rRl, x_call, x_callB, x_callK, x_iSeq, x_iRg1, x_iRg2, x_iEn, x_gNm, x_gTp, x_gC, x_gN, x_gL, x_comp, startD, arD, wipeD, List.map_cons, List.map_nil, List.length_cons, List.length_nil, List.replicate_succ, List.replicate_zero, List.cons_append, List.nil_append, List.set_cons_succ, List.set_cons_zero, List.getElem?_cons_succ, List.getElem?_cons_zero, Option.some.injEq, PyData.int.injEq, PyData.bool.injEq, PyData.tuple.injEq, PyData.list.injEq, DV.dat.injEq, DV.own.injEq, exists_eq_left', exists_eq_left, exists_eq_right, exists_eq_right', exists_and_left, List.cons.injEq, and_true, true_and, atI0, atI1, atI2, atI3, atI4, atI5, Nat.sub_self, Nat.reduceSub, Nat.reduceAdd, Nat.reduceLT, if_true, if_false, Bool.false_eq_true, ↓reduceIte, Nat.zero_add, y_eqI, y_neI, y_neB, y_eqB, y_eqS, y_neS, y_ltI, y_gtI, y_leI, y_geI, y_inR, y_notInR, y_eqR, y_neR, y_lenR, y_tupR, row_tup, row_lst, tup_lst, lst_tup, false_and, and_false, exists_false, false_or, or_false, exists_const, atI_map, Option.map_some, decide_true, decide_false, Bool.not_true, Bool.not_false, eq_self, y_isB, DV.scr.injEq, x_chain, x_tRg, x_parEL, x_parLE, x_parLL, x_gLs, Nat.add_zero]
    refine ⟨a.w, a.m, a.k, rfl, hw, hk, ?_⟩
    have e0 : (knownM a.w a.m a.k).st.length = (lotsM (rng a.m) a.k).length := List.length_map _
    simp only [k_ix2, x_var0, x_varS, x_own0, x_ownS, x_ixT, x_ixL, x_addI, x_addT, x_addL, x_gI, x_gIC, x_neg, x_abs, x_intI, x_intB, x_lenT, x_lenL, x_tupL, x_tupT, x_rep, x_seq, x_next, x_set, x_setL, x_par, x_asg, x_drop, x_app, x_ext, x_ret, x_retN, x_if, x_frz, x_for, x_bk, x_ct, x_d1, x_d2, x_dC, x_dL, x_tup, x_and, x_or, x_not, x_ife, x_dB, x_dTr, x_dNot, x_dAnd, x_dOr, x_yes, x_aC, x_aN, x_aSz, x_aRg, x_rg1, x_rg2, x_aList, x_aSort, x_aSl, x_dSl, x_aScr, x_scrLen, x_oN, x_oS, x_rN, x_rC, x_rRl, x_call, x_callB, x_callK, x_iSeq, x_iRg1, x_iRg2, x_iEn, x_gNm, x_gTp, x_gC, x_gN, x_gL, x_comp, startD, arD, wipeD, List.map_cons, List.map_nil, List.length_cons, List.length_nil, List.replicate_succ, List.replicate_zero, List.cons_append, List.nil_append, List.set_cons_succ, List.set_cons_zero, List.getElem?_cons_succ, List.getElem?_cons_zero, Option.some.injEq, PyData.int.injEq, PyData.bool.injEq, PyData.tuple.injEq, PyData.list.injEq, DV.dat.injEq, DV.own.injEq, exists_eq_left', exists_eq_left, exists_eq_right, exists_eq_right', exists_and_left, List.cons.injEq, and_true, true_and, atI0, atI1, atI2, atI3, atI4, atI5, Nat.sub_self, Nat.reduceSub, Nat.reduceAdd, Nat.reduceLT, if_true, if_false, Bool.false_eq_true, ↓reduceIte, Nat.zero_add, y_eqI, y_neI, y_neB, y_eqB, y_eqS, y_neS, y_ltI, y_gtI, y_leI, y_geI, y_inR, y_notInR, y_eqR, y_neR, y_lenR, y_tupR, row_tup, row_lst, tup_lst, lst_tup, false_and, and_false, exists_false, false_or, or_false, exists_const, atI_map, Option.map_some, decide_true, decide_false, Bool.not_true, Bool.not_false, eq_self, y_isB, DV.scr.injEq, x_chain, x_tRg, x_parEL, x_parLE, x_parLL, x_gLs, Nat.add_zero, List.length_map, e0]
    by_cases c : 10 < (lotsM (rng a.m) a.k).length
    · have c1 : decide ((10 : Int) < ((lotsM (rng (a.m : Int)) a.k).length : Int)) = true := decide_eq_true (by omega)
      have et : toldM a.w a.m a.k = .list [.str "many", .int 10, .bool true] := if_pos c
      simp only [c1, x_var0, x_varS, x_own0, x_ownS, x_ixT, x_ixL, x_addI, x_addT, x_addL, x_gI, x_gIC, x_neg, x_abs, x_intI, x_intB, x_lenT, x_lenL, x_tupL, x_tupT, x_rep, x_seq, x_next, x_set, x_setL, x_par, x_asg, x_drop, x_app, x_ext, x_ret, x_retN, x_if, x_frz, x_for, x_bk, x_ct, x_d1, x_d2, x_dC, x_dL, x_tup, x_and, x_or, x_not, x_ife, x_dB, x_dTr, x_dNot, x_dAnd, x_dOr, x_yes, x_aC, x_aN, x_aSz, x_aRg, x_rg1, x_rg2, x_aList, x_aSort, x_aSl, x_dSl, x_aScr, x_scrLen, x_oN, x_oS, x_rN, x_rC, x_rRl, x_call, x_callB, x_callK, x_iSeq, x_iRg1, x_iRg2, x_iEn, x_gNm, x_gTp, x_gC, x_gN, x_gL, x_comp, startD, arD, wipeD, List.map_cons, List.map_nil, List.length_cons, List.length_nil, List.replicate_succ, List.replicate_zero, List.cons_append, List.nil_append, List.set_cons_succ, List.set_cons_zero, List.getElem?_cons_succ, List.getElem?_cons_zero, Option.some.injEq, PyData.int.injEq, PyData.bool.injEq, PyData.tuple.injEq, PyData.list.injEq, DV.dat.injEq, DV.own.injEq, exists_eq_left', exists_eq_left, exists_eq_right, exists_eq_right', exists_and_left, List.cons.injEq, and_true, true_and, atI0, atI1, atI2, atI3, atI4, atI5, Nat.sub_self, Nat.reduceSub, Nat.reduceAdd, Nat.reduceLT, if_true, if_false, Bool.false_eq_true, ↓reduceIte, Nat.zero_add, y_eqI, y_neI, y_neB, y_eqB, y_eqS, y_neS, y_ltI, y_gtI, y_leI, y_geI, y_inR, y_notInR, y_eqR, y_neR, y_lenR, y_tupR, row_tup, row_lst, tup_lst, lst_tup, false_and, and_false, exists_false, false_or, or_false, exists_const, atI_map, Option.map_some, decide_true, decide_false, Bool.not_true, Bool.not_false, eq_self, y_isB, DV.scr.injEq, x_chain, x_tRg, x_parEL, x_parLE, x_parLL, x_gLs, Nat.add_zero]
      refine ⟨small _ (by decide), _, _, _, _, rfl, hk, _, _, _, _, rfl, hk, small _ (by decide), ?_⟩
      rw [et]
      refine repr_ok sm_due1 (by simp [itemsOf]) ⟨small _ (by decide), repr_ok sm_due1 (by simp [itemsOf]) ?_⟩
      simp only [x_var0, x_varS, x_own0, x_ownS, x_ixT, x_ixL, x_addI, x_addT, x_addL, x_gI, x_gIC, x_neg, x_abs, x_intI, x_intB, x_lenT, x_lenL, x_tupL, x_tupT, x_rep, x_seq, x_next, x_set, x_setL, x_par, x_asg, x_drop, x_app, x_ext, x_ret, x_retN, x_if, x_frz, x_for, x_bk, x_ct, x_d1, x_d2, x_dC, x_dL, x_tup, x_and, x_or, x_not, x_ife, x_dB, x_dTr, x_dNot, x_dAnd, x_dOr, x_yes, x_aC, x_aN, x_aSz, x_aRg, x_rg1, x_rg2, x_aList, x_aSort, x_aSl, x_dSl, x_aScr, x_scrLen, x_oN, x_oS, x_rN, x_rC, x_rRl, x_call, x_callB, x_callK, x_iSeq, x_iRg1, x_iRg2, x_iEn, x_gNm, x_gTp, x_gC, x_gN, x_gL, x_comp, startD, arD, wipeD, List.map_cons, List.map_nil, List.length_cons, List.length_nil, List.replicate_succ, List.replicate_zero, List.cons_append, List.nil_append, List.set_cons_succ, List.set_cons_zero, List.getElem?_cons_succ, List.getElem?_cons_zero, Option.some.injEq, PyData.int.injEq, PyData.bool.injEq, PyData.tuple.injEq, PyData.list.injEq, DV.dat.injEq, DV.own.injEq, exists_eq_left', exists_eq_left, exists_eq_right, exists_eq_right', exists_and_left, List.cons.injEq, and_true, true_and, atI0, atI1, atI2, atI3, atI4, atI5, Nat.sub_self, Nat.reduceSub, Nat.reduceAdd, Nat.reduceLT, if_true, if_false, Bool.false_eq_true, ↓reduceIte, Nat.zero_add, y_eqI, y_neI, y_neB, y_eqB, y_eqS, y_neS, y_ltI, y_gtI, y_leI, y_geI, y_inR, y_notInR, y_eqR, y_neR, y_lenR, y_tupR, row_tup, row_lst, tup_lst, lst_tup, false_and, and_false, exists_false, false_or, or_false, exists_const, atI_map, Option.map_some, decide_true, decide_false, Bool.not_true, Bool.not_false, eq_self, y_isB, DV.scr.injEq, x_chain, x_tRg, x_parEL, x_parLE, x_parLL, x_gLs, Nat.add_zero]
      exact hN _ _ ⟨_, _, _, _, _, _, _, rfl, fun q hq => hr q (List.mem_cons_of_mem _ hq)⟩
    · have c1 : decide ((10 : Int) < ((lotsM (rng (a.m : Int)) a.k).length : Int)) = false := decide_eq_false (by omega)
      have et : toldM a.w a.m a.k = .list [.str "sky", skyD (knownM a.w a.m a.k)] := if_neg c
      have ch := check hw hk c
      unfold checkB at ch
      simp only [Bool.and_eq_true, List.all_eq_true, decide_eq_true_eq, beq_iff_eq] at ch
      obtain ⟨hg, hp⟩ := ch
      obtain ⟨p1, p2⟩ := hp false (by simp)
      obtain ⟨q1, q2⟩ := hp true (by simp)
      obtain ⟨g1, g2⟩ := good_of hg
      simp only [c1, x_var0, x_varS, x_own0, x_ownS, x_ixT, x_ixL, x_addI, x_addT, x_addL, x_gI, x_gIC, x_neg, x_abs, x_intI, x_intB, x_lenT, x_lenL, x_tupL, x_tupT, x_rep, x_seq, x_next, x_set, x_setL, x_par, x_asg, x_drop, x_app, x_ext, x_ret, x_retN, x_if, x_frz, x_for, x_bk, x_ct, x_d1, x_d2, x_dC, x_dL, x_tup, x_and, x_or, x_not, x_ife, x_dB, x_dTr, x_dNot, x_dAnd, x_dOr, x_yes, x_aC, x_aN, x_aSz, x_aRg, x_rg1, x_rg2, x_aList, x_aSort, x_aSl, x_dSl, x_aScr, x_scrLen, x_oN, x_oS, x_rN, x_rC, x_rRl, x_call, x_callB, x_callK, x_iSeq, x_iRg1, x_iRg2, x_iEn, x_gNm, x_gTp, x_gC, x_gN, x_gL, x_comp, startD, arD, wipeD, List.map_cons, List.map_nil, List.length_cons, List.length_nil, List.replicate_succ, List.replicate_zero, List.cons_append, List.nil_append, List.set_cons_succ, List.set_cons_zero, List.getElem?_cons_succ, List.getElem?_cons_zero, Option.some.injEq, PyData.int.injEq, PyData.bool.injEq, PyData.tuple.injEq, PyData.list.injEq, DV.dat.injEq, DV.own.injEq, exists_eq_left', exists_eq_left, exists_eq_right, exists_eq_right', exists_and_left, List.cons.injEq, and_true, true_and, atI0, atI1, atI2, atI3, atI4, atI5, Nat.sub_self, Nat.reduceSub, Nat.reduceAdd, Nat.reduceLT, if_true, if_false, Bool.false_eq_true, ↓reduceIte, Nat.zero_add, y_eqI, y_neI, y_neB, y_eqB, y_eqS, y_neS, y_ltI, y_gtI, y_leI, y_geI, y_inR, y_notInR, y_eqR, y_neR, y_lenR, y_tupR, row_tup, row_lst, tup_lst, lst_tup, false_and, and_false, exists_false, false_or, or_false, exists_const, atI_map, Option.map_some, decide_true, decide_false, Bool.not_true, Bool.not_false, eq_self, y_isB, DV.scr.injEq, x_chain, x_tRg, x_parEL, x_parLE, x_parLL, x_gLs, Nat.add_zero]
      refine ⟨small _ (by decide), _, _, _, _, rfl, hk, _, _, _, _, rfl, hk, small _ (by decide), ?_⟩
      rw [et]
      refine repr_ok (sm_due2 hg) (by simp [itemsOf]) ⟨small _ (by decide), repr_ok (sm_due2 hg) (by simp [itemsOf]) ?_⟩
      simp only [x_var0, x_varS, x_own0, x_ownS, x_ixT, x_ixL, x_addI, x_addT, x_addL, x_gI, x_gIC, x_neg, x_abs, x_intI, x_intB, x_lenT, x_lenL, x_tupL, x_tupT, x_rep, x_seq, x_next, x_set, x_setL, x_par, x_asg, x_drop, x_app, x_ext, x_ret, x_retN, x_if, x_frz, x_for, x_bk, x_ct, x_d1, x_d2, x_dC, x_dL, x_tup, x_and, x_or, x_not, x_ife, x_dB, x_dTr, x_dNot, x_dAnd, x_dOr, x_yes, x_aC, x_aN, x_aSz, x_aRg, x_rg1, x_rg2, x_aList, x_aSort, x_aSl, x_dSl, x_aScr, x_scrLen, x_oN, x_oS, x_rN, x_rC, x_rRl, x_call, x_callB, x_callK, x_iSeq, x_iRg1, x_iRg2, x_iEn, x_gNm, x_gTp, x_gC, x_gN, x_gL, x_comp, startD, arD, wipeD, List.map_cons, List.map_nil, List.length_cons, List.length_nil, List.replicate_succ, List.replicate_zero, List.cons_append, List.nil_append, List.set_cons_succ, List.set_cons_zero, List.getElem?_cons_succ, List.getElem?_cons_zero, Option.some.injEq, PyData.int.injEq, PyData.bool.injEq, PyData.tuple.injEq, PyData.list.injEq, DV.dat.injEq, DV.own.injEq, exists_eq_left', exists_eq_left, exists_eq_right, exists_eq_right', exists_and_left, List.cons.injEq, and_true, true_and, atI0, atI1, atI2, atI3, atI4, atI5, Nat.sub_self, Nat.reduceSub, Nat.reduceAdd, Nat.reduceLT, if_true, if_false, Bool.false_eq_true, ↓reduceIte, Nat.zero_add, y_eqI, y_neI, y_neB, y_eqB, y_eqS, y_neS, y_ltI, y_gtI, y_leI, y_geI, y_inR, y_notInR, y_eqR, y_neR, y_lenR, y_tupR, row_tup, row_lst, tup_lst, lst_tup, false_and, and_false, exists_false, false_or, or_false, exists_const, atI_map, Option.map_some, decide_true, decide_false, Bool.not_true, Bool.not_false, eq_self, y_isB, DV.scr.injEq, x_chain, x_tRg, x_parEL, x_parLE, x_parLL, x_gLs, Nat.add_zero]
      have fin := fun z11 => hN [z0, some .rl, some (.dat wordsD), some (.dat (.list (acc.map askD))), z4, some (.dat (.int a.m)), some (.dat (.str a.w)), some (.dat (.int k)), some (.dat (.int a.k)), some (.dat (skyD (knownM a.w a.m a.k))), some (.dat (.list [.str "sky", skyD (knownM a.w a.m a.k)])), z11] m ⟨_, _, _, _, _, _, _, rfl, fun q hq => hr q (List.mem_cons_of_mem _ hq)⟩
      refine ⟨_, rfl, g1, true, rfl, false, rfl, ?_⟩
      rw [if_neg Bool.false_ne_true]
      refine ifc (fun _ => ⟨_, _, rfl, g2, p1, lawful_is (papersM (knownM a.w a.m a.k) false) rfl ⟨_, _, rfl, g2, q1, lawful_is (papersM (knownM a.w a.m a.k) true) rfl ⟨small _ (by decide), repr_ok (sm_two _ _) (by simp [itemsOf]) ?_⟩⟩⟩) fun _ => fin _
      have hm2 : CMul 2 a.k := by unfold CMul; exact .inl (by decide)
      have hm3 : CMul 3 a.k := by unfold CMul; exact .inl (by decide)
      refine ⟨_, _, _, _, rfl, hw, hm2, hm3, _, _, _, _, rfl, hw, hm2, hm3, small _ (by decide), ?_⟩
      rw [p2, q2]
      refine repr_ok (sm_two _ _) (by simp [itemsOf]) ?_
      simp only [x_var0, x_varS, x_own0, x_ownS, x_ixT, x_ixL, x_addI, x_addT, x_addL, x_gI, x_gIC, x_neg, x_abs, x_intI, x_intB, x_lenT, x_lenL, x_tupL, x_tupT, x_rep, x_seq, x_next, x_set, x_setL, x_par, x_asg, x_drop, x_app, x_ext, x_ret, x_retN, x_if, x_frz, x_for, x_bk, x_ct, x_d1, x_d2, x_dC, x_dL, x_tup, x_and, x_or, x_not, x_ife, x_dB, x_dTr, x_dNot, x_dAnd, x_dOr, x_yes, x_aC, x_aN, x_aSz, x_aRg, x_rg1, x_rg2, x_aList, x_aSort, x_aSl, x_dSl, x_aScr, x_scrLen, x_oN, x_oS, x_rN, x_rC, x_rRl, x_call, x_callB, x_callK, x_iSeq, x_iRg1, x_iRg2, x_iEn, x_gNm, x_gTp, x_gC, x_gN, x_gL, x_comp, startD, arD, wipeD, List.map_cons, List.map_nil, List.length_cons, List.length_nil, List.replicate_succ, List.replicate_zero, List.cons_append, List.nil_append, List.set_cons_succ, List.set_cons_zero, List.getElem?_cons_succ, List.getElem?_cons_zero, Option.some.injEq, PyData.int.injEq, PyData.bool.injEq, PyData.tuple.injEq, PyData.list.injEq, DV.dat.injEq, DV.own.injEq, exists_eq_left', exists_eq_left, exists_eq_right, exists_eq_right', exists_and_left, List.cons.injEq, and_true, true_and, atI0, atI1, atI2, atI3, atI4, atI5, Nat.sub_self, Nat.reduceSub, Nat.reduceAdd, Nat.reduceLT, if_true, if_false, Bool.false_eq_true, ↓reduceIte, Nat.zero_add, y_eqI, y_neI, y_neB, y_eqB, y_eqS, y_neS, y_ltI, y_gtI, y_leI, y_geI, y_inR, y_notInR, y_eqR, y_neR, y_lenR, y_tupR, row_tup, row_lst, tup_lst, lst_tup, false_and, and_false, exists_false, false_or, or_false, exists_const, atI_map, Option.map_some, decide_true, decide_false, Bool.not_true, Bool.not_false, eq_self, y_isB, DV.scr.injEq, x_chain, x_tRg, x_parEL, x_parLE, x_parLL, x_gLs, Nat.add_zero]
      exact fin _
  · obtain ⟨z5, z6, z7, z8, z9, z10, z11, rfl, _⟩ := hI
    simp only [x_var0, x_varS, x_own0, x_ownS, x_ixT, x_ixL, x_addI, x_addT, x_addL, x_gI, x_gIC, x_neg, x_abs, x_intI, x_intB, x_lenT, x_lenL, x_tupL, x_tupT, x_rep, x_seq, x_next, x_set, x_setL, x_par, x_asg, x_drop, x_app, x_ext, x_ret, x_retN, x_if, x_frz, x_for, x_bk, x_ct, x_d1, x_d2, x_dC, x_dL, x_tup, x_and, x_or, x_not, x_ife, x_dB, x_dTr, x_dNot, x_dAnd, x_dOr, x_yes, x_aC, x_aN, x_aSz, x_aRg, x_rg1, x_rg2, x_aList, x_aSort, x_aSl, x_dSl, x_aScr, x_scrLen, x_oN, x_oS, x_rN, x_rC, x_rRl, x_call, x_callB, x_callK, x_iSeq, x_iRg1, x_iRg2, x_iEn, x_gNm, x_gTp, x_gC, x_gN, x_gL, x_comp, startD, arD, wipeD, List.map_cons, List.map_nil, List.length_cons, List.length_nil, List.replicate_succ, List.replicate_zero, List.cons_append, List.nil_append, List.set_cons_succ, List.set_cons_zero, List.getElem?_cons_succ, List.getElem?_cons_zero, Option.some.injEq, PyData.int.injEq, PyData.bool.injEq, PyData.tuple.injEq, PyData.list.injEq, DV.dat.injEq, DV.own.injEq, exists_eq_left', exists_eq_left, exists_eq_right, exists_eq_right', exists_and_left, List.cons.injEq, and_true, true_and, atI0, atI1, atI2, atI3, atI4, atI5, Nat.sub_self, Nat.reduceSub, Nat.reduceAdd, Nat.reduceLT, if_true, if_false, Bool.false_eq_true, ↓reduceIte, Nat.zero_add, y_eqI, y_neI, y_neB, y_eqB, y_eqS, y_neS, y_ltI, y_gtI, y_leI, y_geI, y_inR, y_notInR, y_eqR, y_neR, y_lenR, y_tupR, row_tup, row_lst, tup_lst, lst_tup, false_and, and_false, exists_false, false_or, or_false, exists_const, atI_map, Option.map_some, decide_true, decide_false, Bool.not_true, Bool.not_false, eq_self, y_isB, DV.scr.injEq, x_chain, x_tRg, x_parEL, x_parLE, x_parLL, x_gLs, Nat.add_zero]
    exact hE _
theorem law_hf : rdL ⟨fun _ _ => False, fun d _ => d = .bool true, fun _ _ => False, fun _ _ => False⟩ (none :: some .rl :: List.replicate 10 none) N0 := law_ok (by decide) fun _ => rfl
end My
namespace My
open PySem PySem.Spec L2 DL
section
variable {P : Program} {w : World} {K : PySem.W.Frag} {mg : Str → Option Value} {base : Heap}
theorem fin_is_whole (T : Tops P K mg) : FnG P w K mg base CX0 1 T.a_is_whole T.d_is_whole ["value", "low", "high"] (spD K 3 fWhole) := st_is_whole T  hf_whole
theorem fin_is_ascending (T : Tops P K mg) : FnG P w K mg base CX0 1 T.a_is_ascending T.d_is_ascending ["items"] (spD K 1 fAsc) := st_is_ascending T  hf_asc
theorem fin_is_row (T : Tops P K mg) : FnG P w K mg base CX0 2 T.a_is_row T.d_is_row ["value", "many"] (spD K 2 fRowOk) := st_is_row T (fin_is_whole T) (fin_is_ascending T) hf_is_row
theorem fin_is_within (T : Tops P K mg) : FnG P w K mg base CX0 1 T.a_is_within T.d_is_within ["one", "other"] (spD K 2 fWithin) := st_is_within T  hf_within
theorem fin_common (T : Tops P K mg) : FnG P w K mg base CX0 1 T.a_common T.d_common ["one", "other"] (spD K 2 fCommon) := st_common T  hf_common
theorem fin_without (T : Tops P K mg) : FnG P w K mg base CX0 1 T.a_without T.d_without ["one", "other"] (spD K 2 fWithout) := st_without T  hf_without
theorem fin_choices (T : Tops P K mg) : FnG P w K mg base CX0 1 T.a_choices T.d_choices ["row", "few"] (spD K 2 fChoices) := st_choices T  hf_choices
theorem fin_storm_by (T : Tops P K mg) : FnG P w K mg base CX0 1 T.a_storm_by T.d_storm_by ["word", "choice"] (spD K 2 fStormBy) := st_storm_by T  hf_storm_by
theorem fin_known_sky (T : Tops P K mg) : FnG P w K mg base (L2.CX P w) 2 T.a_known_sky T.d_known_sky ["word", "many", "few"] (spDX K 3 (ct1 "TooMany" T.C_TooMany "limit") fKnown) := st_known_sky T (fin_choices T) (fin_storm_by T) hf_known_sky
theorem fin_is_storm (T : Tops P K mg) : FnG P w K mg base CX0 3 T.a_is_storm T.d_is_storm ["value", "many"] (spD K 2 fStormOk) := st_is_storm T (fin_is_row T) hf_is_storm
theorem fin_storms_error (T : Tops P K mg) : FnG P w K mg base CX0 4 T.a_storms_error T.d_storms_error ["many", "storms"] (spD K 2 fStormsErr) := st_storms_error T (fin_is_storm T) (fin_is_ascending T) hf_storms_error
theorem fin_sky_error (T : Tops P K mg) : FnG P w K mg base CX0 5 T.a_sky_error T.d_sky_error ["value"] (spD K 1 fSkyErr) := st_sky_error T (fin_is_whole T) (fin_is_row T) (fin_storms_error T) hf_sky_error
theorem fin_left (T : Tops P K mg) : FnG P w K mg base CX0 1 T.a_left T.d_left ["sky", "s"] (spD K 2 fLeft) := st_left T  hf_left
theorem fin_firm (T : Tops P K mg) : FnG P w K mg base CX0 2 T.a_firm T.d_firm ["sky", "s"] (spD K 2 fFirm) := st_firm T (fin_left T) hf_firm
theorem fin_taken (T : Tops P K mg) : FnG P w K mg base CX0 1 T.a_taken T.d_taken ["sky", "s"] (spD K 2 fTaken) := st_taken T  hf_taken
theorem fin_papers (T : Tops P K mg) : FnG P w K mg base CX0 3 T.a_papers T.d_papers ["sky", "is_joining"] (spD K 2 fPapers) := st_papers T (fin_taken T) (fin_left T) (fin_is_within T) (fin_firm T) (fin_common T) (fin_without T) hf_papers
theorem fin_unlawful (T : Tops P K mg) : FnG P w K mg base CX0 4 T.a_unlawful T.d_unlawful ["sky", "is_joining"] (spD K 2 fUnlawful) := st_unlawful T (fin_papers T) hf_unlawful
theorem fin__law_draw (T : Tops P K mg) : FnG P w K mg base CX0 1 T.a__law_draw T.d__law_draw ["rill", "many"] (spD K 2 fDraw) := ok_draw T.F__law_draw T.z_int
theorem fin__law_one (T : Tops P K mg) : FnG P w K mg base CX0 2 T.a__law_one T.d__law_one ["rill", "some"] (spD K 2 fOne) := st__law_one T (fin__law_draw T) hf_one
theorem fin__law_lots_of (T : Tops P K mg) : FnG P w K mg base CX0 1 T.a__law_lots_of T.d__law_lots_of ["rest", "size"] (spD K 2 fLots) := st__law_lots_of T  hf_lots_of
theorem fin__law_known_sky (T : Tops P K mg) : FnG P w K mg base CX0 2 T.a__law_known_sky T.d__law_known_sky ["word", "many", "few"] (spD K 3 fKnownL) := st__law_known_sky T (fin__law_lots_of T) hf_lknown
theorem fin__law_told (T : Tops P K mg) : FnG P w K mg base CX0 3 T.a__law_told T.d__law_told ["word", "many", "few", "is_named"] (spD K 4 fTold) := st__law_told T (fin_known_sky T) hf_told
theorem fin__law_is_let (T : Tops P K mg) : FnG P w K mg base CX0 1 T.a__law_is_let T.d__law_is_let ["word", "many", "few", "is_joining"] (spD K 4 fLet) := st__law_is_let T  hf_let
theorem fin_law (T : Tops P K mg) {fa : Addr} {fd : FuncData} (F : Fun K "law" "law" s_law fa fd) : FnG P w K mg base CX0 6 fa fd ["script"] (spTrue K 63) := st_law T (fin__law_draw T) (fin__law_one T) (fin__law_known_sky T) (fin__law_told T) (fin_sky_error T) (fin_unlawful T) (fin__law_is_let T) (ok_rill T) F law_hf
end
theorem all_mk {l : PySem.W.OpenLaw} {w : World} {K : PySem.W.Frag} {h : Heap} {mg : Str → Option Value} {fa f0 f1 f2 f3 f4 f5 f6 f7 f8 f9 f10 f11 f12 f13 f14 f15 f16 f17 f18 f19 f20 f21 f22 f23 f24 : Addr} (X : K.In h) (G : h.Ns mainGlobals mg) (hfa : mg "law" = some (.ref fa))
    {od0 an0 od1 an1 od2 an2 od3 an3 od4 an4 od5 an5 od6 an6 od7 an7 od8 an8 od9 an9 od10 an10 od11 an11 od12 an12 od13 an13 od14 an14 od15 an15 od16 an16 od17 an17 od18 an18 od19 an19 od20 an20 od21 an21 od22 an22 od23 an23 od24 an24 : Option Addr} {sl0 sl1 sl2 sl3 sl4 sl5 sl6 sl7 sl8 sl9 sl10 sl11 sl12 sl13 sl14 sl15 sl16 sl17 sl18 sl19 sl20 sl21 sl22 sl23 sl24 : Array (Option Value)} {oc0 kV0 dc0 pm0 cd0 ct0 oc1 kV1 dc1 pm1 cd1 ct1 oc2 kV2 dc2 pm2 cd2 ct2 oc3 kV3 dc3 pm3 cd3 ct3 oc4 kV4 dc4 pm4 cd4 ct4 oc5 kV5 dc5 pm5 cd5 ct5 oc6 kV6 dc6 pm6 cd6 ct6 oc7 kV7 dc7 pm7 cd7 ct7 oc8 kV8 dc8 pm8 cd8 ct8 oc9 kV9 dc9 pm9 cd9 ct9 oc10 kV10 dc10 pm10 cd10 ct10 oc11 kV11 dc11 pm11 cd11 ct11 oc12 kV12 dc12 pm12 cd12 ct12 oc13 kV13 dc13 pm13 cd13 ct13 oc14 kV14 dc14 pm14 cd14 ct14 oc15 kV15 dc15 pm15 cd15 ct15 oc16 kV16 dc16 pm16 cd16 ct16 oc17 kV17 dc17 pm17 cd17 ct17 oc18 kV18 dc18 pm18 cd18 ct18 oc19 kV19 dc19 pm19 cd19 ct19 oc20 kV20 dc20 pm20 cd20 ct20 oc21 kV21 dc21 pm21 cd21 ct21 oc22 kV22 dc22 pm22 cd22 ct22 oc23 kV23 dc23 pm23 cd23 ct23 oc24 kV24 dc24 pm24 cd24 ct24 : Value}
    {t0 t1 : Tok}
    {xC0 xI0 xD0 xW0 : Addr} {xn0 xq0 : Str} {xN0 : Addr} {xbs0 xbm0 : List Value} {xsn0 : List Str} {xsu0 : List Value} {xab0 : Bool} {xco0 : Option Bool} {xdd0 : Option Addr} {xk00 xk10 xk20 xk30 xk50 : Option Value} {xoc0 xdo0 xpm0 xct0 : Value} {xod0 xan0 : Option Addr} {xos0 : Array (Option Value)} {xcc0 : Value} {xcd0 : Option Addr} {xvs0 : Array Value} {xcs0 : Array (Option Value)} {xfi0 : Str} {xtf0 : Tok} {xcl0 : Value} {xcld0 : Option Addr} {xcsl0 : Array (Option Value)}
    {xB0 : Addr}
    (a0 : PySem.W.nsIn K mainGlobals "is_whole" = some (some (.ref f0))) (l0 : K.lookup f0 = some ⟨oc0, od0, .func (PySem.W.fnOf "is_whole" "is_whole" (defArgs s_is_whole) (defBody s_is_whole) (defScope s_is_whole) .none kV0 dc0 pm0 an0 cd0 ct0), sl0⟩) (c0 : PySem.W.codeIn K cd0 "is_whole" = true) (k0 : PySem.W.keepIn K (.ref f0) = true)
    (a1 : PySem.W.nsIn K mainGlobals "is_ascending" = some (some (.ref f1))) (l1 : K.lookup f1 = some ⟨oc1, od1, .func (PySem.W.fnOf "is_ascending" "is_ascending" (defArgs s_is_ascending) (defBody s_is_ascending) (defScope s_is_ascending) .none kV1 dc1 pm1 an1 cd1 ct1), sl1⟩) (c1 : PySem.W.codeIn K cd1 "is_ascending" = true) (k1 : PySem.W.keepIn K (.ref f1) = true)
    (a2 : PySem.W.nsIn K mainGlobals "is_row" = some (some (.ref f2))) (l2 : K.lookup f2 = some ⟨oc2, od2, .func (PySem.W.fnOf "is_row" "is_row" (defArgs s_is_row) (defBody s_is_row) (defScope s_is_row) .none kV2 dc2 pm2 an2 cd2 ct2), sl2⟩) (c2 : PySem.W.codeIn K cd2 "is_row" = true) (k2 : PySem.W.keepIn K (.ref f2) = true)
    (a3 : PySem.W.nsIn K mainGlobals "is_within" = some (some (.ref f3))) (l3 : K.lookup f3 = some ⟨oc3, od3, .func (PySem.W.fnOf "is_within" "is_within" (defArgs s_is_within) (defBody s_is_within) (defScope s_is_within) .none kV3 dc3 pm3 an3 cd3 ct3), sl3⟩) (c3 : PySem.W.codeIn K cd3 "is_within" = true) (k3 : PySem.W.keepIn K (.ref f3) = true)
    (a4 : PySem.W.nsIn K mainGlobals "common" = some (some (.ref f4))) (l4 : K.lookup f4 = some ⟨oc4, od4, .func (PySem.W.fnOf "common" "common" (defArgs s_common) (defBody s_common) (defScope s_common) .none kV4 dc4 pm4 an4 cd4 ct4), sl4⟩) (c4 : PySem.W.codeIn K cd4 "common" = true) (k4 : PySem.W.keepIn K (.ref f4) = true)
    (a5 : PySem.W.nsIn K mainGlobals "without" = some (some (.ref f5))) (l5 : K.lookup f5 = some ⟨oc5, od5, .func (PySem.W.fnOf "without" "without" (defArgs s_without) (defBody s_without) (defScope s_without) .none kV5 dc5 pm5 an5 cd5 ct5), sl5⟩) (c5 : PySem.W.codeIn K cd5 "without" = true) (k5 : PySem.W.keepIn K (.ref f5) = true)
    (a6 : PySem.W.nsIn K mainGlobals "choices" = some (some (.ref f6))) (l6 : K.lookup f6 = some ⟨oc6, od6, .func (PySem.W.fnOf "choices" "choices" (defArgs s_choices) (defBody s_choices) (defScope s_choices) .none kV6 dc6 pm6 an6 cd6 ct6), sl6⟩) (c6 : PySem.W.codeIn K cd6 "choices" = true) (k6 : PySem.W.keepIn K (.ref f6) = true)
    (a7 : PySem.W.nsIn K mainGlobals "storm_by" = some (some (.ref f7))) (l7 : K.lookup f7 = some ⟨oc7, od7, .func (PySem.W.fnOf "storm_by" "storm_by" (defArgs s_storm_by) (defBody s_storm_by) (defScope s_storm_by) .none kV7 dc7 pm7 an7 cd7 ct7), sl7⟩) (c7 : PySem.W.codeIn K cd7 "storm_by" = true) (k7 : PySem.W.keepIn K (.ref f7) = true)
    (a8 : PySem.W.nsIn K mainGlobals "known_sky" = some (some (.ref f8))) (l8 : K.lookup f8 = some ⟨oc8, od8, .func (PySem.W.fnOf "known_sky" "known_sky" (defArgs s_known_sky) (defBody s_known_sky) (defScope s_known_sky) .none kV8 dc8 pm8 an8 cd8 ct8), sl8⟩) (c8 : PySem.W.codeIn K cd8 "known_sky" = true) (k8 : PySem.W.keepIn K (.ref f8) = true)
    (a9 : PySem.W.nsIn K mainGlobals "is_storm" = some (some (.ref f9))) (l9 : K.lookup f9 = some ⟨oc9, od9, .func (PySem.W.fnOf "is_storm" "is_storm" (defArgs s_is_storm) (defBody s_is_storm) (defScope s_is_storm) .none kV9 dc9 pm9 an9 cd9 ct9), sl9⟩) (c9 : PySem.W.codeIn K cd9 "is_storm" = true) (k9 : PySem.W.keepIn K (.ref f9) = true)
    (a10 : PySem.W.nsIn K mainGlobals "storms_error" = some (some (.ref f10))) (l10 : K.lookup f10 = some ⟨oc10, od10, .func (PySem.W.fnOf "storms_error" "storms_error" (defArgs s_storms_error) (defBody s_storms_error) (defScope s_storms_error) .none kV10 dc10 pm10 an10 cd10 ct10), sl10⟩) (c10 : PySem.W.codeIn K cd10 "storms_error" = true) (k10 : PySem.W.keepIn K (.ref f10) = true)
    (a11 : PySem.W.nsIn K mainGlobals "sky_error" = some (some (.ref f11))) (l11 : K.lookup f11 = some ⟨oc11, od11, .func (PySem.W.fnOf "sky_error" "sky_error" (defArgs s_sky_error) (defBody s_sky_error) (defScope s_sky_error) .none kV11 dc11 pm11 an11 cd11 ct11), sl11⟩) (c11 : PySem.W.codeIn K cd11 "sky_error" = true) (k11 : PySem.W.keepIn K (.ref f11) = true)
    (a12 : PySem.W.nsIn K mainGlobals "left" = some (some (.ref f12))) (l12 : K.lookup f12 = some ⟨oc12, od12, .func (PySem.W.fnOf "left" "left" (defArgs s_left) (defBody s_left) (defScope s_left) .none kV12 dc12 pm12 an12 cd12 ct12), sl12⟩) (c12 : PySem.W.codeIn K cd12 "left" = true) (k12 : PySem.W.keepIn K (.ref f12) = true)
    (a13 : PySem.W.nsIn K mainGlobals "firm" = some (some (.ref f13))) (l13 : K.lookup f13 = some ⟨oc13, od13, .func (PySem.W.fnOf "firm" "firm" (defArgs s_firm) (defBody s_firm) (defScope s_firm) .none kV13 dc13 pm13 an13 cd13 ct13), sl13⟩) (c13 : PySem.W.codeIn K cd13 "firm" = true) (k13 : PySem.W.keepIn K (.ref f13) = true)
    (a14 : PySem.W.nsIn K mainGlobals "taken" = some (some (.ref f14))) (l14 : K.lookup f14 = some ⟨oc14, od14, .func (PySem.W.fnOf "taken" "taken" (defArgs s_taken) (defBody s_taken) (defScope s_taken) .none kV14 dc14 pm14 an14 cd14 ct14), sl14⟩) (c14 : PySem.W.codeIn K cd14 "taken" = true) (k14 : PySem.W.keepIn K (.ref f14) = true)
    (a15 : PySem.W.nsIn K mainGlobals "papers" = some (some (.ref f15))) (l15 : K.lookup f15 = some ⟨oc15, od15, .func (PySem.W.fnOf "papers" "papers" (defArgs s_papers) (defBody s_papers) (defScope s_papers) .none kV15 dc15 pm15 an15 cd15 ct15), sl15⟩) (c15 : PySem.W.codeIn K cd15 "papers" = true) (k15 : PySem.W.keepIn K (.ref f15) = true)
    (a16 : PySem.W.nsIn K mainGlobals "unlawful" = some (some (.ref f16))) (l16 : K.lookup f16 = some ⟨oc16, od16, .func (PySem.W.fnOf "unlawful" "unlawful" (defArgs s_unlawful) (defBody s_unlawful) (defScope s_unlawful) .none kV16 dc16 pm16 an16 cd16 ct16), sl16⟩) (c16 : PySem.W.codeIn K cd16 "unlawful" = true) (k16 : PySem.W.keepIn K (.ref f16) = true)
    (a17 : PySem.W.nsIn K mainGlobals "_law_rill" = some (some (.ref f17))) (l17 : K.lookup f17 = some ⟨oc17, od17, .func (PySem.W.fnOf "_law_rill" "_law_rill" (defArgs s__law_rill) (defBody s__law_rill) (defScope s__law_rill) .none kV17 dc17 pm17 an17 cd17 ct17), sl17⟩) (c17 : PySem.W.codeIn K cd17 "_law_rill" = true) (k17 : PySem.W.keepIn K (.ref f17) = true)
    (a18 : PySem.W.nsIn K mainGlobals "_law_draw" = some (some (.ref f18))) (l18 : K.lookup f18 = some ⟨oc18, od18, .func (PySem.W.fnOf "_law_draw" "_law_draw" (defArgs s__law_draw) (defBody s__law_draw) (defScope s__law_draw) .none kV18 dc18 pm18 an18 cd18 ct18), sl18⟩) (c18 : PySem.W.codeIn K cd18 "_law_draw" = true) (k18 : PySem.W.keepIn K (.ref f18) = true)
    (a19 : PySem.W.nsIn K mainGlobals "_law_one" = some (some (.ref f19))) (l19 : K.lookup f19 = some ⟨oc19, od19, .func (PySem.W.fnOf "_law_one" "_law_one" (defArgs s__law_one) (defBody s__law_one) (defScope s__law_one) .none kV19 dc19 pm19 an19 cd19 ct19), sl19⟩) (c19 : PySem.W.codeIn K cd19 "_law_one" = true) (k19 : PySem.W.keepIn K (.ref f19) = true)
    (a20 : PySem.W.nsIn K mainGlobals "_law_lots_of" = some (some (.ref f20))) (l20 : K.lookup f20 = some ⟨oc20, od20, .func (PySem.W.fnOf "_law_lots_of" "_law_lots_of" (defArgs s__law_lots_of) (defBody s__law_lots_of) (defScope s__law_lots_of) .none kV20 dc20 pm20 an20 cd20 ct20), sl20⟩) (c20 : PySem.W.codeIn K cd20 "_law_lots_of" = true) (k20 : PySem.W.keepIn K (.ref f20) = true)
    (a21 : PySem.W.nsIn K mainGlobals "_law_known_sky" = some (some (.ref f21))) (l21 : K.lookup f21 = some ⟨oc21, od21, .func (PySem.W.fnOf "_law_known_sky" "_law_known_sky" (defArgs s__law_known_sky) (defBody s__law_known_sky) (defScope s__law_known_sky) .none kV21 dc21 pm21 an21 cd21 ct21), sl21⟩) (c21 : PySem.W.codeIn K cd21 "_law_known_sky" = true) (k21 : PySem.W.keepIn K (.ref f21) = true)
    (a22 : PySem.W.nsIn K mainGlobals "_law_told" = some (some (.ref f22))) (l22 : K.lookup f22 = some ⟨oc22, od22, .func (PySem.W.fnOf "_law_told" "_law_told" (defArgs s__law_told) (defBody s__law_told) (defScope s__law_told) .none kV22 dc22 pm22 an22 cd22 ct22), sl22⟩) (c22 : PySem.W.codeIn K cd22 "_law_told" = true) (k22 : PySem.W.keepIn K (.ref f22) = true)
    (a23 : PySem.W.nsIn K mainGlobals "_law_is_let" = some (some (.ref f23))) (l23 : K.lookup f23 = some ⟨oc23, od23, .func (PySem.W.fnOf "_law_is_let" "_law_is_let" (defArgs s__law_is_let) (defBody s__law_is_let) (defScope s__law_is_let) .none kV23 dc23 pm23 an23 cd23 ct23), sl23⟩) (c23 : PySem.W.codeIn K cd23 "_law_is_let" = true) (k23 : PySem.W.keepIn K (.ref f23) = true)
    (a24 : PySem.W.nsIn K mainGlobals "law" = some (some (.ref f24))) (l24 : K.lookup f24 = some ⟨oc24, od24, .func (PySem.W.fnOf "law" "law" (defArgs s_law) (defBody s_law) (defScope s_law) .none kV24 dc24 pm24 an24 cd24 ct24), sl24⟩) (c24 : PySem.W.codeIn K cd24 "law" = true) (k24 : PySem.W.keepIn K (.ref f24) = true)
    (xa0 : PySem.W.nsIn K mainGlobals "TooMany" = some (some (.ref xC0)))
    (xs0 : PySem.W.nsIn K mainGlobals "super" = some none)
    (xL0 : K.lookup xC0 = some (PySem.excClassObj xn0 xq0 xC0 xN0 xbs0 xbm0 true xsn0 xsu0 xab0 xco0 xdd0 xk00 xk10 xk20 xk30 xk50 "ValueError.__new__"))
    (xr0 : PySem.HandSPX.refsVE xbm0 = true)
    (xg0 : PySem.W.alongIn K "__init__" xbm0 = some (some (.builtin "ValueError.__init__")))
    (x00 : PySem.W.excInitIn K xC0 [.type "ValueError", .type "Exception", .type "BaseException", .type "object"] "ValueError.__new__" = true)
    (x10 : PySem.W.findIn K (.ref xC0) "__setattr__" = some (some (.builtin "object.__setattr__")))
    (x20 : PySem.W.findIn K (.ref xC0) "limit" = some none)
    (x30 : PySem.W.findIn K (.ref xC0) "__init__" = some (some (.ref xI0)))
    (x40 : PySem.W.typeIn K (.ref xI0) = some (.type "function"))
    (x50 : PySem.W.keepIn K (.ref xC0) = true)
    (x60 : PySem.W.nsIn K cStatics "thirdparty.any" = some none)
    (x70 : PySem.W.subIn K (.ref xC0) (.type "ValueError") = some true)
    (x80 : PySem.W.mroIn K xC0 (.ref xC0) = some true)
    (x90 : (l.prog.main.scope.names.lookup ("super" : Str)).isSome = false)
    (xl0 : K.lookup xI0 = some ⟨xoc0, xod0, .func (PySem.W.fnX "__init__" "TooMany.__init__" (DX.mkA "limit" ⟨8, 17, 8, 21⟩ ⟨8, 23, 8, 28⟩) (DX.mkB "limit" "limit" ⟨9, 8, 9, 13⟩ ⟨9, 8, 9, 15⟩ ⟨9, 8, 9, 24⟩ ⟨9, 25, 9, 30⟩ ⟨9, 8, 9, 31⟩ ⟨9, 8, 9, 31⟩ ⟨10, 8, 10, 12⟩ ⟨10, 8, 10, 18⟩ ⟨10, 21, 10, 26⟩ ⟨10, 8, 10, 26⟩) (DX.mkS "limit") [("__class__", xW0)] .none .none xdo0 xpm0 xan0 (.ref xD0) xct0), xos0⟩)
    (xc0 : PySem.W.codeIn K (.ref xD0) "TooMany.__init__" = true)
    (xo0 : K.lookup xD0 = some ⟨xcc0, xcd0, .fields xvs0, xcs0⟩)
    (xv0 : xvs0[2]? = some (.str xfi0 xtf0))
    (xf0 : ((l.prog.main.file : Str) == xfi0) = true)
    (xe0 : K.lookup xW0 = some ⟨xcl0, xcld0, .cell (some (.ref xC0)), xcsl0⟩)
    (xbe0 : PySem.W.subIn K (.ref xC0) (.type "BaseException") = some true)
    (xty0 : PySem.W.typeIn K (.ref xC0) = some (.type "type"))
    (xga0 : PySem.W.findIn K (.ref xC0) "__getattribute__" = some (some (.builtin "BaseException.__getattribute__")))
    (xgg0 : PySem.W.findIn K (.ref xC0) "__getattr__" = some none)
    (xhd0 : PySem.W.hasDictIn K xC0 = true)
    (xcg0 : PySem.W.findIn K (.ref xC0) "__class__" = some (some (.builtin "object.__class__")))
    (xcn0 : PySem.W.specialIn K (.builtin "object.__class__") "__get__" = some (some (.builtin "getset_descriptor.__get__")))
    (xcq0 : PySem.W.takesIn K (.builtin "object.__class__") = some true)
    (xcm0 : PySem.W.mroIn K xC0 (.type "object") = some true)
    (xcz0 : (PySem.W.clsIn K xC0).isSome = true)
    (xci0 : PySem.W.isClsIn K xC0 = true)
    (xsc0 : PySem.W.subIn K (.ref xC0) (.ref xC0) = some true)
    (xb0 : PySem.W.nsIn K mainGlobals "StormError" = some (some (.ref xB0)))
    (xk0 : PySem.W.kitOne K (.ref xC0) (.ref xB0) = some true)
    (z0 : PySem.W.nsIn K mainGlobals "abs" = some none) (z1 : PySem.W.nsIn K mainGlobals "all" = some none) (z2 : PySem.W.nsIn K mainGlobals "bool" = some none) (z3 : PySem.W.nsIn K mainGlobals "enumerate" = some none) (z4 : PySem.W.nsIn K mainGlobals "int" = some none) (z5 : PySem.W.nsIn K mainGlobals "isinstance" = some none) (z6 : PySem.W.nsIn K mainGlobals "len" = some none) (z7 : PySem.W.nsIn K mainGlobals "list" = some none) (z8 : PySem.W.nsIn K mainGlobals "range" = some none) (z9 : PySem.W.nsIn K mainGlobals "repr" = some none) (z10 : PySem.W.nsIn K mainGlobals "tuple" = some none) (v0 : PySem.W.nsIn K mainGlobals "MAX_MACHINES" = some (some (.int 6 t0))) (v1 : PySem.W.nsIn K mainGlobals "MAX_STORMS" = some (some (.int 10 t1))) :
    ∃ fd : FuncData, (∀ (s : Shared) (v : Value), BindsTo s fd ⟨[v], []⟩ [("script", v)]) ∧ ∀ base : Heap, K.In base → base.Ns mainGlobals mg → FnG l.prog w K mg base CX0 6 fa fd ["script"] (spTrue K 63) := by
  have e := hfa.symm.trans (PySem.W.mg_of X G a24)
  cases e
  have T : Tops l.prog K mg := {
    a_is_whole := f0, d_is_whole := _, F_is_whole := fun_mk (st := s_is_whole) l0 c0 k0, g_is_whole := PySem.W.mg_of X G a0,
    a_is_ascending := f1, d_is_ascending := _, F_is_ascending := fun_mk (st := s_is_ascending) l1 c1 k1, g_is_ascending := PySem.W.mg_of X G a1,
    a_is_row := f2, d_is_row := _, F_is_row := fun_mk (st := s_is_row) l2 c2 k2, g_is_row := PySem.W.mg_of X G a2,
    a_is_within := f3, d_is_within := _, F_is_within := fun_mk (st := s_is_within) l3 c3 k3, g_is_within := PySem.W.mg_of X G a3,
    a_common := f4, d_common := _, F_common := fun_mk (st := s_common) l4 c4 k4, g_common := PySem.W.mg_of X G a4,
    a_without := f5, d_without := _, F_without := fun_mk (st := s_without) l5 c5 k5, g_without := PySem.W.mg_of X G a5,
    a_choices := f6, d_choices := _, F_choices := fun_mk (st := s_choices) l6 c6 k6, g_choices := PySem.W.mg_of X G a6,
    a_storm_by := f7, d_storm_by := _, F_storm_by := fun_mk (st := s_storm_by) l7 c7 k7, g_storm_by := PySem.W.mg_of X G a7,
    a_known_sky := f8, d_known_sky := _, F_known_sky := fun_mk (st := s_known_sky) l8 c8 k8, g_known_sky := PySem.W.mg_of X G a8,
    a_is_storm := f9, d_is_storm := _, F_is_storm := fun_mk (st := s_is_storm) l9 c9 k9, g_is_storm := PySem.W.mg_of X G a9,
    a_storms_error := f10, d_storms_error := _, F_storms_error := fun_mk (st := s_storms_error) l10 c10 k10, g_storms_error := PySem.W.mg_of X G a10,
    a_sky_error := f11, d_sky_error := _, F_sky_error := fun_mk (st := s_sky_error) l11 c11 k11, g_sky_error := PySem.W.mg_of X G a11,
    a_left := f12, d_left := _, F_left := fun_mk (st := s_left) l12 c12 k12, g_left := PySem.W.mg_of X G a12,
    a_firm := f13, d_firm := _, F_firm := fun_mk (st := s_firm) l13 c13 k13, g_firm := PySem.W.mg_of X G a13,
    a_taken := f14, d_taken := _, F_taken := fun_mk (st := s_taken) l14 c14 k14, g_taken := PySem.W.mg_of X G a14,
    a_papers := f15, d_papers := _, F_papers := fun_mk (st := s_papers) l15 c15 k15, g_papers := PySem.W.mg_of X G a15,
    a_unlawful := f16, d_unlawful := _, F_unlawful := fun_mk (st := s_unlawful) l16 c16 k16, g_unlawful := PySem.W.mg_of X G a16,
    a__law_rill := f17, d__law_rill := _, F__law_rill := fun_mk (st := s__law_rill) l17 c17 k17, g__law_rill := PySem.W.mg_of X G a17,
    a__law_draw := f18, d__law_draw := _, F__law_draw := fun_mk (st := s__law_draw) l18 c18 k18, g__law_draw := PySem.W.mg_of X G a18,
    a__law_one := f19, d__law_one := _, F__law_one := fun_mk (st := s__law_one) l19 c19 k19, g__law_one := PySem.W.mg_of X G a19,
    a__law_lots_of := f20, d__law_lots_of := _, F__law_lots_of := fun_mk (st := s__law_lots_of) l20 c20 k20, g__law_lots_of := PySem.W.mg_of X G a20,
    a__law_known_sky := f21, d__law_known_sky := _, F__law_known_sky := fun_mk (st := s__law_known_sky) l21 c21 k21, g__law_known_sky := PySem.W.mg_of X G a21,
    a__law_told := f22, d__law_told := _, F__law_told := fun_mk (st := s__law_told) l22 c22 k22, g__law_told := PySem.W.mg_of X G a22,
    a__law_is_let := f23, d__law_is_let := _, F__law_is_let := fun_mk (st := s__law_is_let) l23 c23 k23, g__law_is_let := PySem.W.mg_of X G a23,
    z_abs := PySem.W.mg_none_of X G z0, z_all := PySem.W.mg_none_of X G z1, z_bool := PySem.W.mg_none_of X G z2, z_enumerate := PySem.W.mg_none_of X G z3, z_int := PySem.W.mg_none_of X G z4, z_isinstance := PySem.W.mg_none_of X G z5, z_len := PySem.W.mg_none_of X G z6, z_list := PySem.W.mg_none_of X G z7, z_range := PySem.W.mg_none_of X G z8, z_repr := PySem.W.mg_none_of X G z9, z_tuple := PySem.W.mg_none_of X G z10, t_MAX_MACHINES := t0, v_MAX_MACHINES := PySem.W.mg_of X G v0, t_MAX_STORMS := t1, v_MAX_STORMS := PySem.W.mg_of X G v1
    , C_TooMany := xC0, I_TooMany := xI0,
    x_TooMany := { gC := PySem.W.mg_of X G xa0, gs := PySem.W.mg_none_of X G xs0, cls := ⟨_, _, _, _, _, _, _, _, _, _, _, _, _, _, _, xL0, xr0, xg0⟩, q0 := x00, sa := x10, noN := x20, iC := x30, tC := x40, kC := x50, op := x60, sB := x70, sC := x80, top := x90, ls := by decide +kernel, lc := by decide +kernel, lp := by decide +kernel, nc := by decide +kernel, np := by decide +kernel, nd := by decide +kernel, fn := ⟨_, _, _, _, _, _, _, _, _, _, _, _, _, _, _, _, _, _, _, _, _, _, xl0, xc0, fun _ _ => rfl, fun _ => ⟨_, rfl⟩, ⟨_, _, _, _, _, _, xo0, xv0, xf0⟩, ⟨_, _, _, xe0⟩⟩ },
    e_TooMany := xbe0, y_TooMany := xty0,
    c_TooMany := { xf := ⟨xga0, xgg0, xbe0, xhd0⟩, noN := x20, cls := xcz0, ca := xcg0, cn := xcn0, ct := xcq0, cm := xcm0, te := exm_own xbe0 xci0 xty0 xsc0 },
    C_StormError := xB0, g_StormError := PySem.W.mg_of X G xb0,
    k_TooMany_StormError := xk0 }
  exact ⟨_, fun s v => .of_eq rfl, fun base _ _ => fin_law T (fun_mk (st := s_law) l24 c24 k24)⟩
end My
open PySem PySem.W PyProof.Rows
set_option maxHeartbeats 0 in
theorem PySem.Challenge.cw_stormhouses_k04_whole_known_skies_holds : PySem.Challenge.rw_stormhouses_k04_whole_known_skies.Holds := by
  w_on; o_law; k_head; (case hw => w_witness2)
  k_fill
  refine DL.law_end (l := PySem.Challenge.rw_stormhouses_k04_whole_known_skies) (n := 63) (k := 6) (x := "script") rfl (by decide) rfl ⟨rfl, by decide, by decide⟩ (fun w h Y => PySem.W.kIn_of Y) ?F
  case F =>
    intro w mg fa h KX G hmg
    refine' My.all_mk KX G hmg ?a0 ?l0 ?c0 ?k0 ?a1 ?l1 ?c1 ?k1 ?a2 ?l2 ?c2 ?k2 ?a3 ?l3 ?c3 ?k3 ?a4 ?l4 ?c4 ?k4 ?a5 ?l5 ?c5 ?k5 ?a6 ?l6 ?c6 ?k6 ?a7 ?l7 ?c7 ?k7 ?a8 ?l8 ?c8 ?k8 ?a9 ?l9 ?c9 ?k9 ?a10 ?l10 ?c10 ?k10 ?a11 ?l11 ?c11 ?k11 ?a12 ?l12 ?c12 ?k12 ?a13 ?l13 ?c13 ?k13 ?a14 ?l14 ?c14 ?k14 ?a15 ?l15 ?c15 ?k15 ?a16 ?l16 ?c16 ?k16 ?a17 ?l17 ?c17 ?k17 ?a18 ?l18 ?c18 ?k18 ?a19 ?l19 ?c19 ?k19 ?a20 ?l20 ?c20 ?k20 ?a21 ?l21 ?c21 ?k21 ?a22 ?l22 ?c22 ?k22 ?a23 ?l23 ?c23 ?k23 ?a24 ?l24 ?c24 ?k24 ?xa0 ?xs0 ?xL0 ?xr0 ?xg0 ?x00 ?x10 ?x20 ?x30 ?x40 ?x50 ?x60 ?x70 ?x80 ?x90 ?xl0 ?xc0 ?xo0 ?xv0 ?xf0 ?xe0 ?xbe0 ?xty0 ?xga0 ?xgg0 ?xhd0 ?xcg0 ?xcn0 ?xcq0 ?xcm0 ?xcz0 ?xci0 ?xsc0 ?xb0 ?xk0 ?z0 ?z1 ?z2 ?z3 ?z4 ?z5 ?z6 ?z7 ?z8 ?z9 ?z10 ?v0 ?v1
    (case a0 => k_is); (case l0 => k_is); (case c0 => k_is); (case k0 => k_is)
    (case a1 => k_is); (case l1 => k_is); (case c1 => k_is); (case k1 => k_is)
    (case a2 => k_is); (case l2 => k_is); (case c2 => k_is); (case k2 => k_is)
    (case a3 => k_is); (case l3 => k_is); (case c3 => k_is); (case k3 => k_is)
    (case a4 => k_is); (case l4 => k_is); (case c4 => k_is); (case k4 => k_is)
    (case a5 => k_is); (case l5 => k_is); (case c5 => k_is); (case k5 => k_is)
    (case a6 => k_is); (case l6 => k_is); (case c6 => k_is); (case k6 => k_is)
    (case a7 => k_is); (case l7 => k_is); (case c7 => k_is); (case k7 => k_is)
    (case a8 => k_is); (case l8 => k_is); (case c8 => k_is); (case k8 => k_is)
    (case a9 => k_is); (case l9 => k_is); (case c9 => k_is); (case k9 => k_is)
    (case a10 => k_is); (case l10 => k_is); (case c10 => k_is); (case k10 => k_is)
    (case a11 => k_is); (case l11 => k_is); (case c11 => k_is); (case k11 => k_is)
    (case a12 => k_is); (case l12 => k_is); (case c12 => k_is); (case k12 => k_is)
    (case a13 => k_is); (case l13 => k_is); (case c13 => k_is); (case k13 => k_is)
    (case a14 => k_is); (case l14 => k_is); (case c14 => k_is); (case k14 => k_is)
    (case a15 => k_is); (case l15 => k_is); (case c15 => k_is); (case k15 => k_is)
    (case a16 => k_is); (case l16 => k_is); (case c16 => k_is); (case k16 => k_is)
    (case a17 => k_is); (case l17 => k_is); (case c17 => k_is); (case k17 => k_is)
    (case a18 => k_is); (case l18 => k_is); (case c18 => k_is); (case k18 => k_is)
    (case a19 => k_is); (case l19 => k_is); (case c19 => k_is); (case k19 => k_is)
    (case a20 => k_is); (case l20 => k_is); (case c20 => k_is); (case k20 => k_is)
    (case a21 => k_is); (case l21 => k_is); (case c21 => k_is); (case k21 => k_is)
    (case a22 => k_is); (case l22 => k_is); (case c22 => k_is); (case k22 => k_is)
    (case a23 => k_is); (case l23 => k_is); (case c23 => k_is); (case k23 => k_is)
    (case a24 => k_is); (case l24 => k_is); (case c24 => k_is); (case k24 => k_is)
    (case xa0 => first | k_is | rfl | kernel_rfl)
    (case xs0 => first | k_is | rfl | kernel_rfl)
    (case xL0 => first | k_is | rfl | kernel_rfl)
    (case xr0 => first | k_is | rfl | kernel_rfl)
    (case xg0 => first | k_is | rfl | kernel_rfl)
    (case x00 => first | k_is | rfl | kernel_rfl)
    (case x10 => first | k_is | rfl | kernel_rfl)
    (case x20 => first | k_is | rfl | kernel_rfl)
    (case x30 => first | k_is | rfl | kernel_rfl)
    (case x40 => first | k_is | rfl | kernel_rfl)
    (case x50 => first | k_is | rfl | kernel_rfl)
    (case x60 => first | k_is | rfl | kernel_rfl)
    (case x70 => first | k_is | rfl | kernel_rfl)
    (case x80 => first | k_is | rfl | kernel_rfl)
    (case x90 => first | k_is | rfl | kernel_rfl)
    (case xl0 => first | k_is | rfl | kernel_rfl)
    (case xc0 => first | k_is | rfl | kernel_rfl)
    (case xo0 => first | k_is | rfl | kernel_rfl)
    (case xv0 => first | k_is | rfl | kernel_rfl)
    (case xf0 => first | k_is | rfl | kernel_rfl)
    (case xe0 => first | k_is | rfl | kernel_rfl)
    (case xbe0 => first | k_is | rfl | kernel_rfl)
    (case xty0 => first | k_is | rfl | kernel_rfl)
    (case xga0 => first | k_is | rfl | kernel_rfl)
    (case xgg0 => first | k_is | rfl | kernel_rfl)
    (case xhd0 => first | k_is | rfl | kernel_rfl)
    (case xcg0 => first | k_is | rfl | kernel_rfl)
    (case xcn0 => first | k_is | rfl | kernel_rfl)
    (case xcq0 => first | k_is | rfl | kernel_rfl)
    (case xcm0 => first | k_is | rfl | kernel_rfl)
    (case xcz0 => first | k_is | rfl | kernel_rfl)
    (case xci0 => first | k_is | rfl | kernel_rfl)
    (case xsc0 => first | k_is | rfl | kernel_rfl)
    (case xb0 => first | k_is | rfl | kernel_rfl)
    (case xk0 => first | k_is | rfl | kernel_rfl)
    (case z0 => k_is); (case z1 => k_is); (case z2 => k_is); (case z3 => k_is); (case z4 => k_is); (case z5 => k_is); (case z6 => k_is); (case z7 => k_is); (case z8 => k_is); (case z9 => k_is); (case z10 => k_is); (case v0 => k_is); (case v1 => k_is)
    all_goals exact (none : Option Value)
